import PyProof.Rows.All
import Wide.All
import OpenK.AllK
import Wide.FinOn
import KE.KStateDown
import Lean
import HandS.Base
import HandS.Call
import HandS.List
import HandS.Comp
import HandS.Ends
import HandS.EndBits
import HandS.Dict
import HandS.Iter
import HandS.Text
import HandS.More
import HandS.Words
import HandS.WordsList
import HandS.WordsDict
import HandS.WordsExc
import HandS.Exc
import HandS.ExcOwn
import HandS.TryOnly
import HandS.Defaults
import HandS.Flow
import HandS.Style
import HandS.Wide
import HandS.IsInst
import HandS.SortInts
import HandS.RaiseMore
import HandS.Walk
import HandS.Flt
import HandS.Zip
import HandS.Head0
import HandS.Head1
import HandS.Head2
import HandS.HeadEnd
import HandS.HeadHook1
import HandS.HeadHook2
import HandS.Set
import HandS.SetFor
import HandS.Star
import HandS.HeadHook3
import HandS.Property
import HandS.Deep
import HandS.DeepEq
import HandS.Remove
import HandS.ExcInit
import HandS.ExcField
import HandS.ExcIs
import HandS.OwnEq
import HandS.Codes
import PySem.Challenge.RW_backslots_k47_whole_sessions_and_lists
set_option Elab.async false
set_option linter.all false
set_option maxRecDepth 100000
set_option maxHeartbeats 4000000
namespace Bs
open PySem PySem.Spec L2
open PyProof.Rows hiding St
/-! ### defs by name -/
/-- the def d of the text stands in K -/
def Df (K : PySem.W.Frag) (d : He.DefD) : Prop := ∃ fd, FunD K d.name d.qual d.params d.body d.scope (d.dvs K) (d.kws K) (He.fAd K d.at_) fd
/-- the def named x keeps the promise sp -/
def Ok (P : Program) (w : World) (K : PySem.W.Frag) (mg : Str → Option Value) (base : Heap) (CX : CXT) (k : Nat) (x : Str) (ps : List Str) (sp : Sp) : Prop :=
  mg x = some (.ref (He.ga K x)) ∧ PySem.W.keepIn K (.ref (He.ga K x)) = true ∧ ∃ fd, (∃ oc od osl, K.lookup (He.ga K x) = some ⟨oc, od, .func fd, osl⟩) ∧ Binds K fd ps [] ∧ FnOk P w K mg base CX k (He.ga K x) fd ps sp
section
variable {P : Program} {w : World} {K : PySem.W.Frag} {mg : Str → Option Value} {base : Heap}
theorem mk_ok {CX : CXT} {k : Nat} {x : Str} {st : Stmt} {N ps : List Str} {sp : Sp} (F : Df K ⟨(x, none), x, x, defArgs st, defBody st, defScope st, [], []⟩) (g : mg x = some (.ref (He.ga K x)))
    (hb : ∀ (kV doc pm : Value) (an : Option Addr) (cdv ct : Value) (us : List Value), us.length = ps.length → bindArgs (PySem.W.fnOf x x (defArgs st) (defBody st) (defScope st) .none kV doc pm an cdv ct) ⟨us, []⟩ = pure (ps.zip us))
    (S : FnScope N ps (defScope st)) (len : ∀ vs H Q E, sp vs H Q E → vs.length = ps.length)
    (hbody : ∀ (cdv : Value) (A : Around) (outer : List Env) (s : Shared) (H : Hp) (vs : List V) (Q : VK) (E : XK), Room k (A.deeper (envOfC x (defScope st) s.heap.objs.size (He.ga K x) cdv)) → sp vs H Q E →
      ∃ t, PSs (cxOf CX P w K mg base N x (defScope st) (He.ga K x) cdv A outer s H E) (defBody st) t ∧ t { nx := fun _ H' => Q .non H', rt := Q } (start N vs) H) : Ok P w K mg base CX (k + 1) x ps sp := by
  obtain ⟨fd, F⟩ := F
  have l : ∃ oc od osl, K.lookup (He.ga K x) = some ⟨oc, od, .func fd, osl⟩ := by
    obtain ⟨oc, od, _, _, _, _, _, _, _, osl, _, lk, _⟩ := F.ex
    exact ⟨oc, od, osl, lk⟩
  exact ⟨g, F.kp, fd, l, F.bindsN hb, F.ok S len hbody⟩
theorem fun_same {CX : CXT} {k : Nat} {x : Str} {ps : List Str} {sp : Sp} {d : He.DefD} {fd : FuncData} (F : FunD K d.name d.qual d.params d.body d.scope (d.dvs K) (d.kws K) (He.fAd K d.at_) fd) (e : He.fAd K d.at_ = He.ga K x) (G : Ok P w K mg base CX k x ps sp) :
    FnOk P w K mg base CX k (He.ga K x) fd ps sp := by
  obtain ⟨_, _, fd2, ⟨oc, od, osl, l⟩, _, G⟩ := G
  obtain ⟨oc2, od2, _, _, _, _, _, _, _, osl2, _, lk, _⟩ := F.ex
  rw [e, l] at lk
  have e2 := Option.some.inj lk
  injection e2 with _ _ e3 _
  injection e3 with e4
  rw [← e4]
  exact G
end
section
variable {X : Cx} {CX : CXT} {k : Nat} {ps : List Str} {sp : Sp} {E : XK} {x : Str} {p pos : Pos} {e : Expr} {es : List Expr} {t : TA}
/-- f(..) -/
theorem pe_callO (F : Ok X.prog X.w X.K X.mg X.base CX k x ps sp) (hr : Room k X.A) (hg : Gl X x) (hx : Passes CX X E)
    (ha : PA X (e :: es) t) (hdb : (x == ("__debug__" : Str)) = false := by decide) (he : starEach (e :: es) X.env = (false, eval e X.env) :: starEach es X.env := by rfl) (hpl : (backTo pos (starEach es X.env)).any (·.1) = false := by rfl) :
    PE X (.Call (.Name x p) (e :: es) [] pos) (tCall sp [] E t) := by
  obtain ⟨g, kp, fd, _, b, G⟩ := F
  exact pe_call G hr hg g kp b .nil hx ha hdb he hpl
theorem pe_callO0 (F : Ok X.prog X.w X.K X.mg X.base CX k x ps sp) (hr : Room k X.A) (hg : Gl X x) (hx : Passes CX X E) (hdb : (x == ("__debug__" : Str)) = false := by decide) : PE X (.Call (.Name x p) [] [] pos) (tCall sp [] E tNil) := by
  obtain ⟨g, kp, fd, _, b, G⟩ := F
  exact pe_call0 G hr hg g kp b .nil hx hdb
end
/-! ### operators by value -/
abbrev oAdd : R2 := rI0 fun i j => .int (i + j)
abbrev oSub : R2 := rI0 fun i j => .int (i - j)
abbrev oMul : R2 := rI CMul fun i j => .int (i * j)
abbrev oMulW : R2 := rI CMulW fun i j => .int (i * j)
abbrev oDivN : R2 := rI CDivN fun i j => .int (i.fdiv j)
abbrev oDivW : R2 := rI CDivW fun i j => .int (i / j)
abbrev oModN : R2 := rI (fun _ j => j ≠ 0) fun i j => .int (i.fmod j)
abbrev oPow : R2 := rI CPow fun i j => .int (i ^ j.toNat)
abbrev oLt : R2 := rI0 fun i j => .bl (decide (i < j))
abbrev oLe : R2 := rI0 fun i j => .bl (decide (i ≤ j))
abbrev oGt : R2 := rI0 fun i j => .bl (decide (j < i))
abbrev oGe : R2 := rI0 fun i j => .bl (decide (j ≤ i))
abbrev uNeg : V → Hp → VK → Prop := rU fun i => .int (-i)
abbrev oIsN : R2 := fun x y H Q => y = .non ∧ Q (.bl (decide (x = .non))) H
abbrev oNotN : R2 := fun x y H Q => y = .non ∧ Q (.bl (!decide (x = .non))) H
/-! ### reading, a step at a time -/
section
variable {D : Ends} {σ : St} {H : Hp} {Q : VK} {E : XK} {K : PySem.W.Frag} {i j : Int} {n m : Nat} {x y v : V} {ta tb te tc : TE} {t u : TS} {c d : TT} {r : R2}
theorem r_seq (h : t { D with nx := u D } σ H) : tSeq t u D σ H := h
theorem r_next (h : D.nx σ H) : tNext D σ H := h
theorem r_asg (h : te σ H fun x H1 => D.nx (σ.set n (some x)) H1) : tAsg te (gName n) D σ H := h
theorem r_asgG {g : TG} (h : te σ H fun x H1 => g x σ H1 D.nx) : tAsg te g D σ H := h
theorem r_ret (h : te σ H D.rt) : tRet te D σ H := h
theorem r_retN (h : D.rt .non H) : tRetN D σ H := h
theorem r_ifS (h : c σ H fun b H1 => if b = true then t D σ H1 else u D σ H1) : tIfS c t u D σ H := h
theorem r_drop (h : te σ H fun _ H1 => D.nx σ H1) : tDrop te D σ H := h
theorem r_brk (h : D.bk σ H) : tBreak D σ H := h
theorem r_cont (h : D.ct σ H) : tCont D σ H := h
theorem r_par (h : ta σ H fun v H1 => tb σ H1 fun w H2 => D.nx ((σ.set n (some v)).set m (some w)) H2) : tPar n m (tCons ta (tCons tb tNil)) D σ H := by
  show ta σ H _
  exact (show ta σ H (fun x H1 => tb σ H1 fun y H2 => ∃ v w, [x, y] = [v, w] ∧ D.nx ((σ.set n (some v)).set m (some w)) H2) from by
    have e : (fun (x : V) (H1 : Hp) => tb σ H1 fun y H2 => ∃ v w, [x, y] = [v, w] ∧ D.nx ((σ.set n (some v)).set m (some w)) H2) = fun v H1 => tb σ H1 fun w H2 => D.nx ((σ.set n (some v)).set m (some w)) H2 := by
      funext x H1
      congr 1
      funext y H2
      apply propext
      constructor
      · rintro ⟨v, w, e, h⟩
        cases e
        exact h
      · intro h
        exact ⟨x, y, rfl, h⟩
    rw [e]
    exact h)
theorem r_par3 {o : Nat} {h : V → V → V → Hp → Prop} (hh : ∀ x y z H1, h x y z H1 → D.nx (((σ.set n (some x)).set m (some y)).set o (some z)) H1) (mo : ta σ H fun x H1 => tb σ H1 fun y H2 => tc σ H2 fun z H3 => ∃ u v w, [x, y, z] = [u, v, w] ∧ D.nx (((σ.set n (some u)).set m (some v)).set o (some w)) H3) :
    tPar3 n m o (tCons ta (tCons tb (tCons tc tNil))) D σ H := mo
theorem r_var (h : σ[n]? = some (some v)) (q : Q v H) : tVar n σ H Q := ⟨v, h, q⟩
theorem r_c (q : Q v H) : tC v σ H Q := q
theorem r_op (h : ta σ H fun x H1 => tb σ H1 fun y H2 => r x y H2 Q) : tOp r ta tb σ H Q := h
theorem r_un {f : V → Hp → VK → Prop} (h : ta σ H fun x H1 => f x H1 Q) : tUn f ta σ H Q := h
theorem r_I0 {g : Int → Int → V} (h : Q (g i j) H) : rI0 g (.int i) (.int j) H Q := ⟨i, j, rfl, rfl, h⟩
theorem r_I {C : Int → Int → Prop} {g : Int → Int → V} (hc : C i j) (h : Q (g i j) H) : rI C g (.int i) (.int j) H Q := ⟨i, j, rfl, rfl, hc, h⟩
theorem r_U {g : Int → V} (h : Q (g i) H) : rU g (.int i) H Q := ⟨i, rfl, h⟩
theorem r_eq (hs : scal x y = true) (h : Q (.bl (decide (x = y))) H) : rEq x y H Q := ⟨hs, h⟩
theorem r_ne (hs : scal x y = true) (h : Q (.bl (!decide (x = y))) H) : rNe x y H Q := ⟨hs, h⟩
theorem v_int : decide (V.int i = V.int j) = decide (i = j) := by
  by_cases e : i = j
  · subst e; simp
  · have h : ¬ (V.int i) = V.int j := fun q => e (V.int.inj q)
    rw [decide_eq_false h, decide_eq_false e]
theorem r_eqI (h : Q (.bl (decide (i = j))) H) : rEq (.int i) (.int j) H Q := ⟨rfl, by rw [v_int]; exact h⟩
theorem r_neI (h : Q (.bl (!decide (i = j))) H) : rNe (.int i) (.int j) H Q := ⟨rfl, by rw [v_int]; exact h⟩
theorem v_bl {a b : Bool} : decide (V.bl a = V.bl b) = (a == b) := by cases a <;> cases b <;> decide
theorem r_eqB {a b : Bool} (h : Q (.bl (a == b)) H) : rEq (.bl a) (.bl b) H Q := ⟨rfl, by rw [v_bl]; exact h⟩
theorem r_neB {a b : Bool} (h : Q (.bl (!(a == b))) H) : rNe (.bl a) (.bl b) H Q := ⟨rfl, by rw [v_bl]; exact h⟩
theorem r_isN (h : Q (.bl (decide (x = .non))) H) : oIsN x .non H Q := ⟨rfl, h⟩
theorem r_notN (h : Q (.bl (!decide (x = .non))) H) : oNotN x .non H Q := ⟨rfl, h⟩
theorem r_chain {r' : R2} (h : ta σ H fun x H1 => tb σ H1 fun y H2 => r x y H2 fun z H3 => ∃ k, z = .bl k ∧ (if k = true then tc σ H3 fun w' H4 => r' y w' H4 Q else Q (.bl false) H3)) : tChain r r' ta tb tc σ H Q := h
theorem r_test {Q : Bool → Hp → Prop} (h : te σ H fun x H' => ∃ k, x = .bl k ∧ Q k H') : tTest te σ H Q := h
theorem r_B {Q : Bool → Hp → Prop} (h : te σ H fun x H' => ∃ k, x = .bl k ∧ Q k H') : tB te σ H Q := h
theorem r_bl {b : Bool} {Q : Bool → Prop} (h : Q b) : ∃ k, V.bl b = .bl k ∧ Q k := ⟨b, rfl, h⟩
theorem r_and {Q : Bool → Hp → Prop} (h : c σ H fun b H1 => if b = true then d σ H1 Q else Q false H1) : tAnd c d σ H Q := h
theorem r_or {Q : Bool → Hp → Prop} (h : c σ H fun b H1 => if b = true then Q true H1 else d σ H1 Q) : tOr c d σ H Q := h
theorem r_not {Q : Bool → Hp → Prop} (h : c σ H fun b H1 => Q (!b) H1) : tNot c σ H Q := h
theorem r_andV (h : ta σ H fun x H1 => ∃ c, x = .bl c ∧ if c = true then tb σ H1 Q else Q (.bl false) H1) : tAndV ta tb σ H Q := h
theorem r_orV (h : ta σ H fun x H1 => ∃ c, x = .bl c ∧ if c = true then Q (.bl true) H1 else tb σ H1 Q) : tOrV ta tb σ H Q := h
theorem r_notV (h : ta σ H fun x H1 => ∃ c, x = .bl c ∧ Q (.bl (!c)) H1) : tNotV ta σ H Q := h
theorem r_ifE {cT : TT} (h : cT σ H fun c H1 => if c = true then ta σ H1 Q else tb σ H1 Q) : tIf cT ta tb σ H Q := h
theorem r_cb {f : List V → Hp → VK → Prop} {tA : TA} (h : tA σ H fun vs H1 => f vs H1 Q) : tCB f tA σ H Q := h
theorem r_nil {Q : List V → Hp → Prop} (h : Q [] H) : tNil σ H Q := h
theorem r_cons {tA : TA} {Q : List V → Hp → Prop} (h : te σ H fun x H1 => tA σ H1 fun xs H2 => Q (x :: xs) H2) : tCons te tA σ H Q := h
theorem r_call {sp : Sp} {tA : TA} (h : tA σ H fun vs H1 => sp vs H1 Q E) : tCall sp [] E tA σ H Q := by
  show tA σ H fun vs H1 => sp (vs ++ []) H1 Q E
  have e : (fun vs H1 => sp (vs ++ []) H1 Q E) = fun vs H1 => sp vs H1 Q E := by
    funext vs H1
    rw [List.append_nil]
  rw [e]
  exact h
theorem r_tup {tA : TA} (h : tA σ H fun xs H1 => xs.length ≤ sizeLine ∧ ∀ p, H1 p = none → Q (.ref p) (upd H1 p (.tup xs))) : tTup tA σ H Q := h
theorem r_lst {tA : TA} (h : tA σ H fun xs H1 => xs.length ≤ sizeLine ∧ ∀ p, H1 p = none → Q (.ref p) (upd H1 p (.lst xs))) : tLst tA σ H Q := h
theorem sz_of {n : Nat} (h : n ≤ 100000) : n ≤ sizeLine := Nat.le_trans h (by decide)
theorem sz_lt {n : Nat} (h : n < 100000) : n < sizeLine := Nat.lt_of_lt_of_le h (by decide)
theorem r_new {n : Nat} {P : Addr → Prop} (hn : n ≤ 100000) (h : ∀ p, P p) : n ≤ sizeLine ∧ ∀ p, P p := ⟨sz_of hn, h⟩
theorem r_rng1 {ta : TA} {R : It → Hp → Prop} (h : ta σ H fun vs H1 => ∃ j : Int, vs = [.int j] ∧ -(2 ^ 62) ≤ j ∧ j < 2 ^ 62 ∧ R (Itr 0 j.toNat) H1) : iRng1 ta σ H R := h
theorem r_rng2 {ta : TA} {R : It → Hp → Prop} (h : ta σ H fun vs H1 => ∃ i j : Int, vs = [.int i, .int j] ∧ (-(2 ^ 62) ≤ i ∧ i < 2 ^ 62 ∧ -(2 ^ 62) ≤ j ∧ j < 2 ^ 62) ∧ R (Itr i (j - i).toNat) H1) : iRng2 ta σ H R := h
theorem r_r1 {R : Int → Prop} (h1 : -(2 ^ 62) ≤ i) (h2 : i < 2 ^ 62) (h : R i) : ∃ j : Int, [V.int i] = [.int j] ∧ -(2 ^ 62) ≤ j ∧ j < 2 ^ 62 ∧ R j := ⟨i, rfl, h1, h2, h⟩
theorem r_r2 {R : Int → Int → Prop} (h1 : -(2 ^ 62) ≤ i ∧ i < 2 ^ 62 ∧ -(2 ^ 62) ≤ j ∧ j < 2 ^ 62) (h : R i j) : ∃ i' j' : Int, [V.int i, V.int j] = [.int i', .int j'] ∧ (-(2 ^ 62) ≤ i' ∧ i' < 2 ^ 62 ∧ -(2 ^ 62) ≤ j' ∧ j' < 2 ^ 62) ∧ R i' j' := ⟨i, j, rfl, h1, h⟩
theorem r_for {wi : TI} {g : TG} (h : wi σ H fun J H1 => ∃ W : Nat → Nat → St → Hp → Prop, (∃ m, W 0 m σ H1) ∧ ∀ i m σ H, W i m σ H →
  (J.stop i H ∧ D.nx σ H) ∨ (J.go i H ∧ ∃ N : St → Hp → Prop, (∀ σ' H', N σ' H' → ∃ m', m' < m ∧ W (i + 1) m' σ' H') ∧ ∀ x H', J.yld i H x H' → g x σ H' fun σ2 H2 => t { D with nx := N, ct := N, bk := D.nx } σ2 H2)) : tFor wi g t D σ H := h
/-- a test's two ways -/
theorem r_ite {p : Prop} [Decidable p] {A B : Prop} (h1 : p → A) (h2 : ¬ p → B) : if decide p = true then A else B := by
  by_cases h : p
  · rw [decide_eq_true h, if_pos rfl]
    exact h1 h
  · rw [decide_eq_false h, if_neg Bool.false_ne_true]
    exact h2 h
theorem r_iteN {p : Prop} [Decidable p] {A B : Prop} (h1 : ¬ p → A) (h2 : p → B) : if (!decide p) = true then A else B := by
  by_cases h : p
  · rw [decide_eq_true h, if_neg (by decide)]
    exact h2 h
  · rw [decide_eq_false h, if_pos (by decide)]
    exact h1 h
theorem r_iteB {b : Bool} {A B : Prop} (h1 : b = true → A) (h2 : b = false → B) : if b = true then A else B := by
  cases b with
  | true => rw [if_pos rfl]; exact h1 rfl
  | false => rw [if_neg Bool.false_ne_true]; exact h2 rfl
theorem r_iteT {A B : Prop} (h : A) : if true = true then A else B := by rw [if_pos rfl]; exact h
theorem r_iteF {A B : Prop} (h : B) : if false = true then A else B := by rw [if_neg Bool.false_ne_true]; exact h
theorem r_iteNT {A B : Prop} (h : B) : if (!true) = true then A else B := by rw [if_neg (by decide)]; exact h
theorem r_iteNF {A B : Prop} (h : A) : if (!false) = true then A else B := by rw [if_pos (by decide)]; exact h
/-- a test that is known -/
theorem r_yes {p : Prop} [Decidable p] {A B : Prop} (hp : p) (h : A) : if decide p = true then A else B := by rw [decide_eq_true hp, if_pos rfl]; exact h
theorem r_no {p : Prop} [Decidable p] {A B : Prop} (hp : ¬ p) (h : B) : if decide p = true then A else B := by rw [decide_eq_false hp, if_neg Bool.false_ne_true]; exact h
end
end Bs

namespace Bs
open PySem PySem.Spec L2
open PyProof.Rows hiding St
/-! ### more operators, built-ins -/
abbrev oMulA : R2 := rI IntMulOk fun i j => .int (i * j)
def CDivP (i j : Int) : Prop := 0 < j ∧ j.natAbs.log2 < 9000
abbrev oDivP : R2 := rI CDivP fun i j => .int (i / j)
def CModP (_ j : Int) : Prop := 0 < j
abbrev oModP : R2 := rI CModP fun i j => .int (i % j)
def CPowA (i j : Int) : Prop := 0 ≤ j ∧ (Builtin.Int.intBits i : Int) * j ≤ 2 ^ 27
abbrev oPowA : R2 := rI CPowA fun i j => .int (i ^ j.toNat)
abbrev oMax2 : List V → Hp → VK → Prop := fun xs H Q => ∃ i j, xs = [.int i, .int j] ∧ Q (.int (if j > i then j else i)) H
abbrev oMin2 : List V → Hp → VK → Prop := fun xs H Q => ∃ i j, xs = [.int i, .int j] ∧ Q (.int (if j < i then j else i)) H
def oMax3 : List V → Hp → VK → Prop := fun xs H Q => ∃ i j k : Int, xs = [.int i, .int j, .int k] ∧ Q (.int (max (max i j) k)) H
def oMin3 : List V → Hp → VK → Prop := fun xs H Q => ∃ i j k : Int, xs = [.int i, .int j, .int k] ∧ Q (.int (min (min i j) k)) H
abbrev oInt : List V → Hp → VK → Prop := fun xs H Q => (∃ i, xs = [.int i] ∧ Q (.int i) H) ∨ ∃ k, xs = [.bl k] ∧ Q (.int (if k then 1 else 0)) H
abbrev oLen (K : PySem.W.Frag) : List V → Hp → VK → Prop := fun xs H Q => ∃ p ys, xs = [.ref p] ∧ (SqL K H p ys ∨ SqT K H p ys) ∧ Q (.int ys.length) H
/-- repr of an int, None, True, False -/
def repV : V → Option Str
  | .int i => some (toString i)
  | .non => some "None"
  | .bl true => some "True"
  | .bl false => some "False"
  | _ => none
def oRepr : List V → Hp → VK → Prop := fun xs H Q => ∃ x z, xs = [x] ∧ repV x = some z ∧ (∀ i, x = .int i → i.natAbs.log2 < 1920) ∧ Q (.str z) H
section
variable {X : Cx} {x : Str} {pos : Pos}
theorem pe_globI {i : Int} (hm : ∃ t, X.mg x = some (.int i t)) (hg : Gl X x := by rfl) (hdb : (x == ("__debug__" : Str)) = false := by decide) : PE X (.Name x pos) (tC (.int i)) := by
  obtain ⟨t, h⟩ := hm
  exact pe_glob hg h ⟨_, rfl⟩ hdb
theorem op_mulA : OpR X (binaryOp .Mult) oMulA := opI fun _ _ _ _ _ _ _ hc q => mul_int q hc
theorem op_divP : OpR X (binaryOp .FloorDiv) oDivP := opI fun i j _ _ _ _ _ hc q => by
  have h1 : (0 : Int) < j := hc.1
  exact floordiv_int (by omega) (by rw [Int.fdiv_eq_ediv_of_nonneg i (by omega)]; exact q) (.inl (PyProof.noPylong_of_log2 hc.2))
theorem op_modP : OpR X (binaryOp .Mod) oModP := by
  intro pins s σ H x y u v Q I r1 r2 h
  obtain ⟨i, j, e1, e2, hc, q⟩ := h
  have hj : (0 : Int) < j := hc
  refine op_modN pins s σ H x y u v Q I r1 r2 ⟨i, j, e1, e2, by omega, ?_⟩
  show Q (.int (i.fmod j)) H
  rw [Int.fmod_eq_emod_of_nonneg i (by omega)]
  exact q
theorem op_powA : OpR X (binaryOp .Pow) oPowA := opI fun i j _ _ _ _ _ hc q => pow_int hc.1 hc.2 q
theorem call_reprA : CallR X (.builtin "repr") oRepr := by
  intro pins s σ H xs us Q I r h
  obtain ⟨x, z, rfl, hz, hi, q⟩ := h
  obtain ⟨u, rfl, rx⟩ := vals1 r
  cases x with
  | int i =>
    obtain ⟨t, rfl⟩ := rx
    have e : z = toString i := (Option.some.inj hz).symm
    subst e
    exact PySem.P.repr_of_int (hi i rfl) ⟨.str _, H, I.tok _, ⟨_, rfl⟩, q⟩
  | non =>
    cases (show u = Value.none from rx)
    have e : z = "None" := (Option.some.inj hz).symm
    subst e
    exact PySem.P.repr_of_none ⟨.str _, H, I.tok _, ⟨_, rfl⟩, q⟩
  | bl b =>
    cases (show u = Value.bool b from rx)
    cases b with
    | true =>
      have e : z = "True" := (Option.some.inj hz).symm
      subst e
      exact PySem.P.repr_of_bool ⟨.str _, H, I.tok _, ⟨_, rfl⟩, q⟩
    | false =>
      have e : z = "False" := (Option.some.inj hz).symm
      subst e
      exact PySem.P.repr_of_bool ⟨.str _, H, I.tok _, ⟨_, rfl⟩, q⟩
  | _ => cases hz
theorem call_max3 (hc : X.calm = true) : CallR X (.builtin "max") oMax3 := by
  intro pins s σ H xs us Q I r h
  obtain ⟨i, j, k, e, q⟩ := h
  refine call_max3Nu hc pins s σ H xs us Q I r ⟨.int i, .int j, .int k, _, e, ?_, q⟩
  show ((nuLt (.int i) (.int j)).map fun c => if c = true then V.int j else .int i).bind (fun m => nuMax2 m (.int k)) = _
  show nuMax2 (if decide (i < j) = true then V.int j else .int i) (.int k) = _
  by_cases h1 : i < j
  · rw [decide_eq_true h1, if_pos rfl]
    show some (if decide (j < k) = true then V.int k else .int j) = _
    by_cases h2 : j < k
    · rw [decide_eq_true h2, if_pos rfl, show max (max i j) k = k by omega]
    · rw [decide_eq_false h2, if_neg Bool.false_ne_true, show max (max i j) k = j by omega]
  · rw [decide_eq_false h1, if_neg Bool.false_ne_true]
    show some (if decide (i < k) = true then V.int k else .int i) = _
    by_cases h2 : i < k
    · rw [decide_eq_true h2, if_pos rfl, show max (max i j) k = k by omega]
    · rw [decide_eq_false h2, if_neg Bool.false_ne_true, show max (max i j) k = i by omega]
theorem call_min3 (hc : X.calm = true) : CallR X (.builtin "min") oMin3 := by
  intro pins s σ H xs us Q I r h
  obtain ⟨i, j, k, e, q⟩ := h
  refine call_min3Nu hc pins s σ H xs us Q I r ⟨.int i, .int j, .int k, _, e, ?_, q⟩
  show ((nuLt (.int j) (.int i)).map fun c => if c = true then V.int j else .int i).bind (fun m => nuMin2 m (.int k)) = _
  show nuMin2 (if decide (j < i) = true then V.int j else .int i) (.int k) = _
  by_cases h1 : j < i
  · rw [decide_eq_true h1, if_pos rfl]
    show some (if decide (k < j) = true then V.int k else .int j) = _
    by_cases h2 : k < j
    · rw [decide_eq_true h2, if_pos rfl, show min (min i j) k = k by omega]
    · rw [decide_eq_false h2, if_neg Bool.false_ne_true, show min (min i j) k = j by omega]
  · rw [decide_eq_false h1, if_neg Bool.false_ne_true]
    show some (if decide (k < i) = true then V.int k else .int i) = _
    by_cases h2 : k < i
    · rw [decide_eq_true h2, if_pos rfl, show min (min i j) k = k by omega]
    · rw [decide_eq_false h2, if_neg Bool.false_ne_true, show min (min i j) k = i by omega]
end
section
variable {X : Cx} {a b c d : Expr} {ta tb tc td : TE} {pos : Pos}
/-- a op1 b op2 c op3 d -/
def tChain3 (r1 r2 r3 : R2) (ta tb tc td : TE) : TE := fun σ H Q => ta σ H fun x H1 => tb σ H1 fun y H2 => r1 x y H2 fun z H3 => ∃ k, z = .bl k ∧
  (if k = true then tc σ H3 fun u H4 => r2 y u H4 fun z' H5 => ∃ k', z' = .bl k' ∧ (if k' = true then td σ H5 fun w' H6 => r3 u w' H6 Q else Q (.bl false) H5) else Q (.bl false) H3)
theorem pe_chain3 {op1 op2 op3 : CmpOp} {q1 q2 q3 : R2} (h1 : OpR X (compareOp op1) q1) (h2 : OpR X (compareOp op2) q2) (h3 : OpR X (compareOp op3) q3) (ha : PE X a ta) (hb : PE X b tb) (hc : PE X c tc) (hd : PE X d td)
    (hm : lastMarks [op1, op2, op3] [b, c, d] = false := by with_unfolding_all rfl) : PE X (.Compare a [op1, op2, op3] [b, c, d] pos) (tChain3 q1 q2 q3 ta tb tc td) := by
  refine ⟨fun pins s σ H Q I h => ?_⟩
  refine Compare_chain (thn (ha.run pins s σ H _ I h) fun v s1 ⟨x, H1, I1, r1, q1⟩ => chain_link (thn (hb.run pins s1 σ H1 _ I1 q1) fun u s2 ⟨y, H2, I2, r2, q2⟩ =>
    thn (h1 pins s2 σ H2 x y v u _ I2 r1 r2 q2) fun d s3 ⟨z, H3, I3, r3, k, e, q3⟩ => ?_)) hm
  subst e
  cases r3
  refine wpAny_truthy_bool ?_
  cases k with
  | false => exact ite_ff ⟨.bl false, H3, I3, rfl, q3⟩
  | true =>
    refine ite_tt (chain_link (thn (hc.run pins s3 σ H3 _ I3 q3) fun u2 s4 ⟨y2, H4, I4, r4, q4⟩ => thn (h2 pins s4 σ H4 y y2 u u2 _ I4 r2 r4 q4) fun d2 s5 ⟨z2, H5, I5, r5, k2, e2, q5⟩ => ?_))
    subst e2
    cases r5
    refine wpAny_truthy_bool ?_
    cases k2 with
    | false => exact ite_ff ⟨.bl false, H5, I5, rfl, q5⟩
    | true => exact ite_tt (chain_last (thn (hd.run pins s5 σ H5 _ I5 q5) fun w' s6 ⟨z', H6, I6, r6, q6⟩ => h3 pins s6 σ H6 y2 z' u2 w' Q I6 r4 r6 q6))
theorem pt_chain3 {op1 op2 op3 : CmpOp} {q1 q2 q3 : R2} (h1 : OpR X (compareOp op1) q1) (h2 : OpR X (compareOp op2) q2) (h3 : OpR X (compareOp op3) q3) (ha : PE X a ta) (hb : PE X b tb) (hc : PE X c tc) (hd : PE X d td)
    (hm : lastMarks [op1, op2, op3] [b, c, d] = false := by with_unfolding_all rfl) : PT X (.Compare a [op1, op2, op3] [b, c, d] pos) (tTest (tChain3 q1 q2 q3 ta tb tc td)) := by
  refine ⟨fun pins s σ H Q I h => ?_⟩
  refine isTrue_chain (thn (ha.run pins s σ H _ I h) fun v s1 ⟨x, H1, I1, r1, q1⟩ => test_link (thn (hb.run pins s1 σ H1 _ I1 q1) fun u s2 ⟨y, H2, I2, r2, q2⟩ =>
    thn (h1 pins s2 σ H2 x y v u _ I2 r1 r2 q2) fun d s3 ⟨z, H3, I3, r3, k, e, q3⟩ => ?_)) hm
  subst e
  cases r3
  refine wpAny_truthy_bool ?_
  cases k with
  | false =>
    obtain ⟨k', e', q'⟩ := q3
    cases e'
    exact ite_ff ⟨H3, I3, q'⟩
  | true =>
    refine ite_tt (test_link (thn (hc.run pins s3 σ H3 _ I3 q3) fun u2 s4 ⟨y2, H4, I4, r4, q4⟩ => thn (h2 pins s4 σ H4 y y2 u u2 _ I4 r2 r4 q4) fun d2 s5 ⟨z2, H5, I5, r5, k2, e2, q5⟩ => ?_))
    subst e2
    cases r5
    refine wpAny_truthy_bool ?_
    cases k2 with
    | false =>
      obtain ⟨k', e', q'⟩ := q5
      cases e'
      exact ite_ff ⟨H5, I5, q'⟩
    | true =>
      refine ite_tt (test_last (thn (hd.run pins s5 σ H5 _ I5 q5) fun w' s6 ⟨z', H6, I6, r6, q6⟩ => thn (h3 pins s6 σ H6 y2 z' u2 w' _ I6 r4 r6 q6) fun d' s7 ⟨z3, H7, I7, r7, k3, e3, q7⟩ => ?_))
      subst e3
      cases r7
      exact wpAny_truthy_bool ⟨H7, I7, q7⟩
end
/-! ### reading them -/
section
variable {D : Ends} {σ : L2.St} {H : Hp} {Q : VK} {E : XK} {K : PySem.W.Frag} {i j k : Int} {n m : Nat} {x y v : V} {ta tb te tc td : TE} {t u : TS} {c d : TT} {r : R2}
theorem r_max2 (h : Q (.int (if j > i then j else i)) H) : oMax2 [.int i, .int j] H Q := ⟨i, j, rfl, h⟩
theorem r_min2 (h : Q (.int (if j < i then j else i)) H) : oMin2 [.int i, .int j] H Q := ⟨i, j, rfl, h⟩
theorem r_max2' (h : Q (.int (max i j)) H) : oMax2 [.int i, .int j] H Q := r_max2 (by
  have e : (if j > i then j else i) = max i j := by split <;> omega
  rw [e]; exact h)
theorem r_min2' (h : Q (.int (min i j)) H) : oMin2 [.int i, .int j] H Q := r_min2 (by
  have e : (if j < i then j else i) = min i j := by split <;> omega
  rw [e]; exact h)
theorem r_max3 (h : Q (.int (max (max i j) k)) H) : oMax3 [.int i, .int j, .int k] H Q := ⟨i, j, k, rfl, h⟩
theorem r_min3 (h : Q (.int (min (min i j) k)) H) : oMin3 [.int i, .int j, .int k] H Q := ⟨i, j, k, rfl, h⟩
theorem r_intI (h : Q (.int i) H) : oInt [.int i] H Q := .inl ⟨i, rfl, h⟩
theorem r_intB {b : Bool} (h : Q (.int (if b then 1 else 0)) H) : oInt [.bl b] H Q := .inr ⟨b, rfl, h⟩
theorem r_lenL {p : Addr} {xs : List V} (hp : SqL K H p xs) (h : Q (.int xs.length) H) : oLen K [.ref p] H Q := ⟨p, xs, rfl, .inl hp, h⟩
theorem r_lenT {p : Addr} {xs : List V} (hp : SqT K H p xs) (h : Q (.int xs.length) H) : oLen K [.ref p] H Q := ⟨p, xs, rfl, .inr hp, h⟩
theorem r_reprI (hz : i.natAbs.log2 < 1920) (h : Q (.str (toString i)) H) : oRepr [.int i] H Q := ⟨_, _, rfl, rfl, fun j e => by cases e; exact hz, h⟩
theorem r_reprN (h : Q (.str "None") H) : oRepr [.non] H Q := ⟨.non, "None", rfl, rfl, fun j e => (nomatch e), h⟩
theorem r_chain3 {r1 r2 r3 : R2} (h : ta σ H fun x H1 => tb σ H1 fun y H2 => r1 x y H2 fun z H3 => ∃ k, z = .bl k ∧
  (if k = true then tc σ H3 fun u H4 => r2 y u H4 fun z' H5 => ∃ k', z' = .bl k' ∧ (if k' = true then td σ H5 fun w' H6 => r3 u w' H6 Q else Q (.bl false) H5) else Q (.bl false) H3)) : tChain3 r1 r2 r3 ta tb tc td σ H Q := h
theorem r_ixL {p : Addr} {xs : List V} (hp : SqL K H p xs) (ha : atI xs i = some v) (h : Q v H) : rIxL K (.ref p) (.int i) H Q := ⟨p, xs, i, v, rfl, rfl, hp, ha, h⟩
theorem r_ixT {p : Addr} {xs : List V} (hp : SqT K H p xs) (ha : atI xs i = some v) (h : Q v H) : rIxT K (.ref p) (.int i) H Q := ⟨p, xs, i, v, rfl, rfl, hp, ha, h⟩
theorem r_setL {p : Addr} {xs : List V} {Q : Hp → Prop} {jj : Nat} (hp : H p = some (.lst xs)) (ha : ixN xs.length i = some jj) (h : Q (upd H p (.lst (xs.set jj v)))) : rSetL (.ref p) (.int i) v H Q := ⟨p, xs, i, jj, rfl, rfl, hp, ha, h⟩
theorem r_sub {to ti : TE} {ts : TSet} {Q : L2.St → Hp → Prop} (h : to σ H fun o H1 => ti σ H1 fun i H2 => ts o i v H2 fun H3 => Q σ H3) : gSub to ti ts v σ H Q := h
theorem r_gname {Q : L2.St → Hp → Prop} (h : Q (σ.set n (some v)) H) : gName n v σ H Q := h
theorem r_gtup {a : Addr} {xs : List V} {tg : TGs} {Q : L2.St → Hp → Prop} (hp : SqT K H a xs) (hl : xs.length = n) (h : tg xs σ H Q) : gTup K n tg (.ref a) σ H Q := ⟨a, xs, rfl, hp, hl, h⟩
theorem r_gcons {tg : TG} {tgs : TGs} {vs : List V} {Q : L2.St → Hp → Prop} (h : tg v σ H fun σ' H' => tgs vs σ' H' Q) : gCons tg tgs (v :: vs) σ H Q := ⟨v, vs, rfl, h⟩
theorem r_gnil {Q : L2.St → Hp → Prop} (h : Q σ H) : gNil [] σ H Q := ⟨rfl, h⟩
theorem r_slice {r : V → Option Int → Option Int → Hp → VK → Prop} {tl th : TO} (h : te σ H fun x H1 => tl σ H1 fun l H2 => th σ H2 fun u H3 => r x l u H3 Q) : tSl r te tl th σ H Q := h
theorem r_noPart {Q : Option Int → Hp → Prop} (h : Q none H) : tNoPart σ H Q := h
theorem r_part {Q : Option Int → Hp → Prop} (h : te σ H fun x H1 => ∃ i, x = .int i ∧ Q (some i) H1) : tPart te σ H Q := h
theorem r_ex {P : Int → Prop} (h : P i) : ∃ j, V.int i = .int j ∧ P j := ⟨i, rfl, h⟩
theorem r_cat {l b : Addr} {xs zs : List V} (h1 : H l = some (.lst xs)) (h2 : H b = some (.lst zs)) (hz : xs.length + zs.length ≤ 100000) (h : ∀ p, H p = none → Q (.ref p) (upd H p (.lst (xs ++ zs)))) : rCat (.ref l) (.ref b) H Q :=
  ⟨l, b, xs, zs, rfl, rfl, h1, h2, sz_of hz, h⟩
theorem mulL (h : -(2 ^ 64) < i ∧ i < 2 ^ 64) : IntMulOk i j := CMul.ok (.inl h)
theorem mulR (h : -(2 ^ 64) < j ∧ j < 2 ^ 64) : IntMulOk i j := CMul.ok (.inr h)
theorem mulW {a b : Nat} (ha : i.natAbs < 2 ^ a) (hb : j.natAbs < 2 ^ b) (h0 : 0 < a) (h1 : 0 < b) (h : a + b ≤ 1000000) : IntMulOk i j := (wide_mul ha hb h0 h1 h).ok
theorem divP {b : Nat} (h : 0 < j) (hb : j.natAbs < 2 ^ b) (h0 : 0 < b) (h9 : b ≤ 9000) : CDivP i j := ⟨h, Nat.lt_of_lt_of_le (PySem.Flt.log2_lt_of h0 hb) h9⟩
theorem divS (h : 0 < j) (hb : j < 2 ^ 200) : CDivP i j := divP (b := 200) h (by omega) (by decide) (by decide)
theorem bits_lt {i : Int} {b : Nat} (h0 : 0 < b) (hb : i.natAbs < 2 ^ b) : Builtin.Int.intBits i ≤ b := by
  unfold Builtin.Int.intBits
  have := PySem.Flt.log2_lt_of h0 hb
  split <;> omega
theorem powS {b : Nat} (h0 : 0 < b) (hb : i.natAbs < 2 ^ b) (hj : 0 ≤ j) (h : (b : Int) * j ≤ 2 ^ 27) : CPowA i j := ⟨hj, Int.le_trans (Int.mul_le_mul_of_nonneg_right (by have := bits_lt h0 hb; omega) hj) h⟩
end
end Bs

namespace Bs
open PySem PySem.Spec L2
open PyProof.Rows hiding St
/-! ### heaps -/
theorem Same.get {H H' : Hp} {a : Addr} {o : HO} (e : Same H H') (h : H a = some o) : H' a = some o := e _ _ h
theorem ne_none {H : Hp} {a b : Addr} {o : HO} (h' : H b = none) (h : H a = some o) : a ≠ b := ne_of_none h h'
theorem Same.new {H : Hp} {p : Addr} {o : HO} (h : H p = none) : Same H (upd H p o) := fun a u e => (upd_ne (ne_of_none e h)).trans e
theorem Same.newT {H H1 : Hp} {p : Addr} {o : HO} (s : Same H H1) (h : H1 p = none) : Same H (upd H1 p o) := s.trans (Same.new h)
/-- an object that H does not know may change -/
theorem Same.mut {H H1 : Hp} {p : Addr} {o : HO} (s : Same H H1) (h : H p = none) : Same H (upd H1 p o) := fun a u e => (upd_ne (ne_of_none e h)).trans (s a u e)
theorem Same.none {H H1 : Hp} {p : Addr} (s : Same H H1) (h : H1 p = none) : H p = none := s.free h
/-- all but a is as it was -/
def But (a : Addr) (H H' : Hp) : Prop := ∀ b o, b ≠ a → H b = some o → H' b = some o
theorem But.refl (a : Addr) (H : Hp) : But a H H := fun _ _ _ h => h
theorem But.trans {a : Addr} {H H1 H2 : Hp} (x : But a H H1) (y : But a H1 H2) : But a H H2 := fun b o n h => y b o n (x b o n h)
theorem But.of {a : Addr} {H H' : Hp} (s : Same H H') : But a H H' := fun b o _ h => s b o h
theorem But.get {a b : Addr} {H H' : Hp} {o : HO} (e : But a H H') (h : H b = some o) (n : b ≠ a) : H' b = some o := e _ _ n h
theorem But.upd {a : Addr} {H H1 : Hp} {o : HO} (x : But a H H1) : But a H (upd H1 a o) := fun b u n h => (upd_ne n).trans (x b u n h)
theorem But.new {a p : Addr} {H H1 : Hp} {o : HO} (x : But a H H1) (h : H1 p = none) : But a H (L2.upd H1 p o) := x.trans (But.of (Same.new h))
theorem But.mut {a p : Addr} {H H1 : Hp} {o : HO} (x : But a H H1) (h : H p = none) : But a H (L2.upd H1 p o) := fun b u n e => (upd_ne (ne_of_none e h)).trans (x b u n e)
theorem But.seq {K : PySem.W.Frag} {H H' : Hp} {a b : Addr} {xs : List V} (e : But b H H') (h : SqL K H a xs) (n : a ≠ b) : SqL K H' a xs := by
  rcases h with (h | ⟨o, h⟩) | h
  · exact .inl (.inl (e _ _ n h))
  · exact .inl (.inr ⟨o, e _ _ n h⟩)
  · exact .inr h
/-! ### loops -/
section
variable {D : Ends} {σ : L2.St} {H : Hp} {c : TT} {tb : TS}
theorem r_while (W : Nat → L2.St → Hp → Prop) (m : Nat) (w0 : W m σ H) (h : ∀ m σ H, W m σ H → c σ H fun b H1 => if b = true then ∃ N : L2.St → Hp → Prop, (∀ σ' H', N σ' H' → ∃ m', m' < m ∧ W m' σ' H') ∧ tb { D with nx := N, ct := N, bk := D.nx } σ H1 else D.nx σ H1) : tWhile c tb D σ H :=
  ⟨W, ⟨m, w0⟩, h⟩
theorem r_N {m : Nat} {W : Nat → L2.St → Hp → Prop} (h : tb { D with nx := fun σ' H' => ∃ m', m' < m ∧ W m' σ' H', ct := fun σ' H' => ∃ m', m' < m ∧ W m' σ' H', bk := D.nx } σ H) :
    ∃ N : L2.St → Hp → Prop, (∀ σ' H', N σ' H' → ∃ m', m' < m ∧ W m' σ' H') ∧ tb { D with nx := N, ct := N, bk := D.nx } σ H := ⟨_, fun _ _ z => z, h⟩
end
theorem atI_0 {α : Type} {x : α} {xs : List α} : atI (x :: xs) 0 = some x := by
  unfold atI ixN
  rw [if_pos (Int.le_refl _), if_pos (by rw [List.length_cons]; omega)]
  rfl
theorem atI_i {α : Type} {xs : List α} {v : α} {i : Int} (h0 : 0 ≤ i) (h : xs[i.toNat]? = some v) : atI xs i = some v := by
  have := atI_nat h
  rwa [Int.toNat_of_nonneg h0] at this
/-- a draw picks some item of a written list -/
theorem atI_mem {xs : List V} {i : Int} (h0 : 0 ≤ i) (h1 : i < xs.length) : ∃ v, atI xs i = some v ∧ v ∈ xs := by
  have h : i.toNat < xs.length := by omega
  exact ⟨xs[i.toNat], atI_i h0 (List.getElem?_eq_getElem h), List.getElem_mem h⟩
end Bs

namespace Bm
/-! ### binomials: rc s r is the number of states that s slots reach by r rounds -/
def rch : Nat → Nat → Nat
  | 0, _ => 1
  | _ + 1, 0 => 1
  | s + 1, r + 1 => rch s (r + 1) + rch (s + 1) r
termination_by s r => (s, r)
theorem rch_z (r : Nat) : rch 0 r = 1 := by rw [rch]
theorem rch_s0 (s : Nat) : rch s 0 = 1 := by cases s <;> rw [rch]
theorem rch_ss (s r : Nat) : rch (s + 1) (r + 1) = rch s (r + 1) + rch (s + 1) r := by rw [rch]
theorem rch_pos : ∀ s r : Nat, 1 ≤ rch s r
  | 0, r => by rw [rch_z]; exact Nat.le_refl _
  | s + 1, 0 => by rw [rch_s0]; exact Nat.le_refl _
  | s + 1, r + 1 => by rw [rch_ss]; have := rch_pos s (r + 1); omega
termination_by s r => (s, r)
theorem rch_1 : ∀ r : Nat, rch 1 r = r + 1
  | 0 => by rw [rch_s0]
  | r + 1 => by rw [rch_ss, rch_z, rch_1 r]; omega
/-- (s + 1) C(s + 1 + r, r) = (s + 1 + r) C(s + r, r) and its twin by r -/
theorem rch_prod : ∀ s r : Nat, (s + 1) * rch (s + 1) r = (s + 1 + r) * rch s r ∧ r * rch (s + 1) r = (s + 1 + r) * rch (s + 1) (r - 1) - (if r = 0 then (s + 1) else 0)
  | s, 0 => by
    refine ⟨by rw [rch_s0, rch_s0], ?_⟩
    rw [if_pos rfl]
    show 0 * rch (s + 1) 0 = (s + 1 + 0) * rch (s + 1) 0 - (s + 1)
    rw [rch_s0]; omega
  | 0, r + 1 => by
    refine ⟨by rw [rch_1, rch_z]; omega, ?_⟩
    rw [rch_1, if_neg (by omega)]
    show (r + 1) * (r + 1 + 1) = (0 + 1 + (r + 1)) * rch 1 r - 0
    rw [rch_1, Nat.sub_zero, Nat.mul_comm]
    congr 1 <;> omega
  | s + 1, r + 1 => by
    obtain ⟨a1, a2⟩ := rch_prod s (r + 1)
    obtain ⟨b1, b2⟩ := rch_prod (s + 1) r
    rw [if_neg (by omega)] at a2
    have e2 : rch (s + 1 + 1) (r + 1) = rch (s + 1) (r + 1) + rch (s + 1 + 1) r := rch_ss (s + 1) r
    have a2' : (r + 1) * rch (s + 1) (r + 1) = (s + 1 + (r + 1)) * rch (s + 1) r := by simpa using a2
    -- x = rch (s+1) (r+1), y = rch (s+2) r, z = rch (s+1) r
    have b1' : (s + 1 + 1) * rch (s + 1 + 1) r = (s + 1 + 1 + r) * rch (s + 1) r := b1
    have key : (r + 1) * rch (s + 1) (r + 1) = (s + 1 + 1) * rch (s + 1 + 1) r := by
      rw [a2', b1']
      congr 1 <;> omega
    constructor
    · rw [e2, Nat.mul_add]
      rw [← key, ← Nat.add_mul]
    · rw [if_neg (by omega), Nat.sub_zero, e2, Nat.mul_add, key, ← Nat.add_mul]
      show (s + 1 + 1 + (r + 1)) * rch (s + 1 + 1) r = (s + 1 + 1 + (r + 1)) * rch (s + 1 + 1) (r + 1 - 1)
      rw [Nat.add_sub_cancel]
termination_by s r => (s, r)
def rc (s : Nat) (r : Int) : Int := if s = 0 then 1 else if r < 0 then 0 else (rch s r.toNat : Nat)
theorem rc_0 (r : Int) : rc 0 r = 1 := by unfold rc; rw [if_pos rfl]
theorem rc_neg {s : Nat} {r : Int} (h : r < 0) : rc (s + 1) r = 0 := by unfold rc; rw [if_neg (by omega), if_pos h]
theorem rc_nat (s r : Nat) : rc s (r : Int) = (rch s r : Nat) := by
  unfold rc
  by_cases h : s = 0
  · subst h; rw [if_pos rfl, rch_z]; rfl
  · rw [if_neg h, if_neg (by omega), Int.toNat_natCast]
theorem rc_of {s : Nat} {r : Int} (h : 0 ≤ r) : rc s r = (rch s r.toNat : Nat) := by
  have := rc_nat s r.toNat
  rwa [Int.toNat_of_nonneg h] at this
theorem rc_pascal {s : Nat} {r : Int} (h : 0 ≤ r) : rc (s + 1) r = rc s r + rc (s + 1) (r - 1) := by
  rw [rc_of h, rc_of h]
  by_cases h0 : r = 0
  · subst h0
    rw [rc_neg (by omega)]
    show ((rch (s + 1) 0 : Nat) : Int) = (rch s 0 : Nat) + 0
    rw [rch_s0, rch_s0]; rfl
  · have e : r.toNat = (r - 1).toNat + 1 := by omega
    rw [rc_of (s := s + 1) (show 0 ≤ r - 1 by omega), e, rch_ss]
    omega
theorem rc_pos {s : Nat} {r : Int} (h : 0 ≤ r) : 1 ≤ rc s r := by
  rw [rc_of h]
  have := rch_pos s r.toNat
  omega
theorem rc_nn (s : Nat) (r : Int) : 0 ≤ rc s r := by
  unfold rc
  split
  · omega
  · split <;> omega
theorem rc_step (s : Nat) (r : Int) : rc s (r - 1) ≤ rc s r := by
  cases s with
  | zero => rw [rc_0, rc_0]; omega
  | succ s =>
    by_cases h : r < 0
    · rw [rc_neg (by omega), rc_neg h]; omega
    · have := rc_pascal (s := s) (r := r) (by omega)
      have := rc_nn s r
      omega
theorem rc_lt {s : Nat} {r : Int} (h : 0 ≤ r) : rc (s + 1) (r - 1) < rc (s + 1) r := by
  have := rc_pascal (s := s) h
  have := rc_pos (s := s) h
  omega
theorem rc_mono {s : Nat} {r q : Int} (h : r ≤ q) : rc s r ≤ rc s q := by
  obtain ⟨k, rfl⟩ : ∃ k : Nat, q = r + k := ⟨(q - r).toNat, by omega⟩
  clear h
  induction k with
  | zero => simp
  | succ k ih =>
    have := rc_step s (r + (k + 1 : Nat))
    have e : r + ((k + 1 : Nat) : Int) - 1 = r + (k : Int) := by omega
    rw [e] at this
    omega
theorem rc_smaller {s : Nat} {r : Int} (h : 0 ≤ r) : rc s r ≤ rc (s + 1) r := by
  have := rc_pascal (s := s) h
  have := rc_nn (s + 1) (r - 1)
  omega
theorem rc_1 {r : Int} (h : -1 ≤ r) : rc 1 r = r + 1 := by
  by_cases h0 : r < 0
  · rw [rc_neg h0]; omega
  · rw [rc_of (by omega), rch_1]; omega
theorem rc_smono {s q : Nat} {r : Int} (h : 0 ≤ r) (hs : s ≤ q) : rc s r ≤ rc q r := by
  induction q with
  | zero => rw [show s = 0 by omega]; omega
  | succ q ih =>
    by_cases e : s = q + 1
    · rw [e]; omega
    · have := ih (by omega)
      have := rc_smaller (s := q) h
      omega
theorem rc_lin {s : Nat} {r : Int} (h : -1 ≤ r) : r + 1 ≤ rc (s + 1) r := by
  by_cases h0 : r < 0
  · rw [rc_neg h0]; omega
  · have := rc_smono (s := 1) (q := s + 1) (r := r) (by omega) (by omega)
    rw [rc_1 h] at this
    exact this
theorem rc_prod {s : Nat} {r : Int} (h : -1 ≤ r) : rc s r * (r + s + 1) = ((s : Int) + 1) * rc (s + 1) r := by
  by_cases h0 : r < 0
  · have e : r = -1 := by omega
    subst e
    rw [rc_neg (s := s) (by omega)]
    cases s with
    | zero => rw [rc_0]; simp
    | succ s => rw [rc_neg (by omega)]; simp
  · rw [rc_of (by omega), rc_of (by omega)]
    have := (rch_prod s r.toNat).1
    have e : (r + s + 1 : Int) = ((s + 1 + r.toNat : Nat) : Int) := by omega
    rw [e, Int.mul_comm]
    have e2 : ((s : Int) + 1) = ((s + 1 : Nat) : Int) := by omega
    rw [e2, ← Int.natCast_mul, ← Int.natCast_mul, this]
theorem rc_div {s : Nat} {r : Int} (h : -1 ≤ r) : rc s r * (r + s + 1) / ((s : Int) + 1) = rc (s + 1) r := by
  rw [rc_prod h, Int.mul_ediv_cancel_left _ (by omega)]
/-- a form that computes -/
def rcC : Nat → Int → Int
  | 0, _ => 1
  | s + 1, r => rcC s r * (r + s + 1) / ((s : Int) + 1)
theorem rcC_eq {r : Int} (h : -1 ≤ r) : ∀ s : Nat, rcC s r = rc s r
  | 0 => by rw [rc_0]; rfl
  | s + 1 => by rw [rcC, rcC_eq h s, rc_div h]
/-- a bound that suffices for the sizes of products -/
theorem rc_le {r : Int} (h : -1 ≤ r) (hr : r ≤ 2 ^ 110) : ∀ s : Nat, s ≤ 1000 → rc s r ≤ 2 ^ (111 * s)
  | 0, _ => by rw [rc_0]; decide
  | s + 1, hs => by
    have ih := rc_le h hr s (by omega)
    have h1 := rc_prod (s := s) h
    have h0 := rc_nn s r
    have h2 := rc_nn (s + 1) r
    have a : rc (s + 1) r ≤ ((s : Int) + 1) * rc (s + 1) r := by
      have := Int.mul_le_mul_of_nonneg_right (show (1 : Int) ≤ (s : Int) + 1 by omega) h2
      omega
    have b : rc s r * (r + s + 1) ≤ 2 ^ (111 * s) * 2 ^ 111 := by
      refine Int.le_trans (Int.mul_le_mul_of_nonneg_left (show r + s + 1 ≤ 2 ^ 111 by omega) h0) (Int.mul_le_mul_of_nonneg_right ih (by decide))
    have e : (2 : Int) ^ (111 * (s + 1)) = 2 ^ (111 * s) * 2 ^ 111 := by
      rw [Nat.mul_add, Int.pow_add]
    rw [e]
    omega
/-! ### rounds -/
structure IsR (n : Int) (s : Nat) (r : Int) : Prop where
  nn : 0 ≤ r
  hi : n ≤ rc s r
  lo : rc s (r - 1) < n
theorem IsR.le {n q : Int} {s : Nat} {r : Int} (h : IsR n s r) (hq : n ≤ rc s q) : r ≤ q := by
  apply Decidable.byContradiction
  intro c
  have := rc_mono (s := s) (r := q) (q := r - 1) (by omega)
  have := h.lo
  omega
theorem IsR.uniq {n : Int} {s : Nat} {r q : Int} (h : IsR n s r) (g : IsR n s q) : r = q := by
  have := h.le g.hi
  have := g.le h.hi
  omega
def rhoF (n : Int) (s : Nat) : Nat → Int → Int
  | 0, r => r
  | f + 1, r => if n ≤ rc s r then r else rhoF n s f (r + 1)
def rho (n : Int) (s : Nat) : Int := rhoF n s n.toNat 0
theorem rhoF_is {n : Int} {s : Nat} : ∀ (f : Nat) (r : Int), 0 ≤ r → rc (s + 1) (r - 1) < n → n ≤ rc (s + 1) (r + f) → IsR n (s + 1) (rhoF n (s + 1) f r)
  | 0, r, h0, h1, h2 => ⟨h0, by simpa [rhoF] using h2, h1⟩
  | f + 1, r, h0, h1, h2 => by
    unfold rhoF
    by_cases c : n ≤ rc (s + 1) r
    · rw [if_pos c]; exact ⟨h0, c, h1⟩
    · rw [if_neg c]
      refine rhoF_is f (r + 1) (by omega) ?_ ?_
      · rw [show r + 1 - 1 = r by omega]; omega
      · rw [show r + 1 + (f : Int) = r + ((f + 1 : Nat) : Int) by omega]; exact h2
theorem rho_is {n : Int} {s : Nat} (hn : 1 ≤ n) (hs : 1 ≤ s) : IsR n s (rho n s) := by
  obtain ⟨s, rfl⟩ : ∃ k, s = k + 1 := ⟨s - 1, by omega⟩
  refine rhoF_is _ 0 (by omega) ?_ ?_
  · rw [rc_neg (by omega)]; omega
  · have := rc_lin (s := s) (r := 0 + (n.toNat : Int)) (by omega)
    omega
theorem rho_eq {n : Int} {s : Nat} {r : Int} (hn : 1 ≤ n) (hs : 1 ≤ s) (h : IsR n s r) : rho n s = r := (rho_is hn hs).uniq h
theorem rho_lt {n : Int} {s : Nat} (hn : 1 ≤ n) (hs : 1 ≤ s) : rho n s < n := by
  have h := rho_is hn hs
  obtain ⟨s, rfl⟩ : ∃ k, s = k + 1 := ⟨s - 1, by omega⟩
  have := rc_lin (s := s) (r := rho n (s + 1) - 1) (by have := h.nn; omega)
  have := h.lo
  omega
theorem rho_0 {s : Nat} (hs : 1 ≤ s) : rho 1 s = 0 := by
  obtain ⟨s, rfl⟩ : ∃ k, s = k + 1 := ⟨s - 1, by omega⟩
  refine rho_eq (by omega) (by omega) ⟨by omega, rc_pos (by omega), ?_⟩
  rw [rc_neg (by omega)]; omega
theorem rho_pos {n : Int} {s : Nat} (hn : 2 ≤ n) (hs : 1 ≤ s) : 1 ≤ rho n s := by
  have h := rho_is (n := n) (by omega) hs
  apply Decidable.byContradiction
  intro c
  have e : rho n s = 0 := by have := h.nn; omega
  have := h.hi
  rw [e, rc_of (by omega), show (0 : Int).toNat = 0 from rfl, rch_s0] at this
  omega
theorem rho_mono {n m : Int} {s : Nat} (hn : 1 ≤ n) (h : n ≤ m) (hs : 1 ≤ s) : rho n s ≤ rho m s :=
  (rho_is hn hs).le (Int.le_trans h (rho_is (by omega) hs).hi)
theorem rho_smono {n : Int} {s q : Nat} (hn : 1 ≤ n) (hs : 1 ≤ s) (h : s ≤ q) : rho n q ≤ rho n s := by
  have a := rho_is hn hs
  have b := rho_is (s := q) hn (by omega)
  exact b.le (Int.le_trans a.hi (rc_smono a.nn h))
/-! ### the least steps -/
def gg (n : Int) (s : Nat) (k : Int) : Int := k * n - rc (s + 1) (k - 1)
def tt (n : Int) (s : Nat) : Int := gg n s (rho n s)
theorem gg_step {n : Int} {s : Nat} {k : Int} (h : 0 ≤ k) : gg n s (k + 1) = gg n s k + (n - rc s k) := by
  unfold gg
  have := rc_pascal (s := s) (r := k) h
  rw [Int.add_mul, show k + 1 - 1 = k by omega]
  omega
theorem gg_up {n : Int} {s : Nat} {k : Int} (h0 : 0 ≤ k) : ∀ (j : Nat), n ≥ rc s (k + j - 1) → gg n s k ≤ gg n s (k + j) ∧ (n > rc s k → 1 ≤ j → gg n s k < gg n s (k + j))
  | 0, _ => by simp
  | j + 1, h => by
    have e : k + ((j + 1 : Nat) : Int) = (k + j) + 1 := by omega
    rw [e] at h ⊢
    rw [show k + (j : Int) + 1 - 1 = k + j by omega] at h
    have h1 := rc_mono (s := s) (r := k + j - 1) (q := k + j) (by omega)
    have ih := gg_up (n := n) (s := s) h0 j (by omega)
    rw [gg_step (by omega)]
    refine ⟨by have := ih.1; omega, fun c _ => ?_⟩
    cases j with
    | zero => simp at c h ⊢; omega
    | succ j => have := ih.2 c (by omega); omega
theorem gg_down {n : Int} {s : Nat} {k : Int} (h0 : 0 ≤ k) (h : n ≤ rc s k) : ∀ (j : Nat), gg n s (k + j) ≤ gg n s k ∧ (n < rc s (k + j - 1) → 1 ≤ j → gg n s (k + j) < gg n s k)
  | 0 => by simp
  | j + 1 => by
    have e : k + ((j + 1 : Nat) : Int) = (k + j) + 1 := by omega
    rw [e, show k + (j : Int) + 1 - 1 = k + j by omega]
    have h1 := rc_mono (s := s) (r := k) (q := k + j) (by omega)
    have ih := (gg_down (n := n) (s := s) h0 h j).1
    rw [gg_step (by omega)]
    exact ⟨by omega, fun c _ => by omega⟩
/-- tt is the greatest of the lines gg -/
theorem gg_le {n : Int} {s : Nat} {k : Int} (hn : 1 ≤ n) (hs : 1 ≤ s) (hk : 0 ≤ k) : gg n s k ≤ tt n s := by
  have h := rho_is hn hs
  have := h.lo
  have := h.hi
  unfold tt
  by_cases c : k ≤ rho n s
  · obtain ⟨j, e⟩ : ∃ j : Nat, rho n s = k + j := ⟨(rho n s - k).toNat, by omega⟩
    have := (gg_up (n := n) (s := s) hk j (by rw [← e]; omega)).1
    rw [← e] at this
    exact this
  · obtain ⟨j, e⟩ : ∃ j : Nat, k = rho n s + j := ⟨(k - rho n s).toNat, by omega⟩
    have := (gg_down h.nn h.hi j).1
    rw [← e] at this
    exact this
theorem gg_eq {n : Int} {s : Nat} {k : Int} (hn : 1 ≤ n) (hs : 1 ≤ s) (hk : 0 ≤ k) : gg n s k = tt n s ↔ rc s (k - 1) ≤ n ∧ n ≤ rc s k := by
  have h := rho_is hn hs
  have h1 := h.lo
  have h2 := h.hi
  unfold tt
  by_cases c : k ≤ rho n s
  · obtain ⟨j, e⟩ : ∃ j : Nat, rho n s = k + j := ⟨(rho n s - k).toNat, by omega⟩
    have u := gg_up (n := n) (s := s) hk j (by rw [← e]; omega)
    rw [← e] at u
    have m1 := rc_mono (s := s) (r := k - 1) (q := rho n s - 1) (by omega)
    constructor
    · intro q
      refine ⟨by omega, ?_⟩
      apply Decidable.byContradiction
      intro d
      by_cases j0 : j = 0
      · subst j0; rw [show rho n s = k by omega] at h2; omega
      · have := u.2 (by omega) (by omega)
        omega
    · rintro ⟨_, q⟩
      by_cases j0 : j = 0
      · rw [e, j0]; simp
      · -- n > rc s (rho - 1) ≥ rc s k ≥ n
        have m2 := rc_mono (s := s) (r := k) (q := rho n s - 1) (by omega)
        omega
  · obtain ⟨j, e⟩ : ∃ j : Nat, k = rho n s + j := ⟨(k - rho n s).toNat, by omega⟩
    have u := gg_down (n := n) (s := s) h.nn h.hi j
    rw [← e] at u
    have m1 := rc_mono (s := s) (r := rho n s) (q := k) (by omega)
    constructor
    · intro q
      refine ⟨?_, by omega⟩
      apply Decidable.byContradiction
      intro d
      have := u.2 (by omega) (by omega)
      omega
    · rintro ⟨q, _⟩
      -- rc s (k - 1) ≤ n ≤ rc s rho ≤ rc s (k - 1): all steps between are nought
      have z : ∀ i : Nat, i ≤ j → gg n s (rho n s + i) = gg n s (rho n s) := by
        intro i
        induction i with
        | zero => intro _; simp
        | succ i ih =>
          intro hi
          rw [show rho n s + ((i + 1 : Nat) : Int) = (rho n s + i) + 1 by omega, gg_step (by have := h.nn; omega), ih (by omega)]
          have m2 := rc_mono (s := s) (r := rho n s) (q := rho n s + i) (by omega)
          have m3 := rc_mono (s := s) (r := rho n s + i) (q := k - 1) (by omega)
          omega
      rw [e]
      exact z j (Nat.le_refl _)
theorem tt_1 {s : Nat} (hs : 1 ≤ s) : tt 1 s = 0 := by
  unfold tt gg
  rw [rho_0 hs, rc_neg (by omega)]
  omega
/-- one state more: as many steps more as its rounds -/
theorem tt_step {n : Int} {s : Nat} (hn : 1 ≤ n) (hs : 1 ≤ s) : tt (n + 1) s = tt n s + rho (n + 1) s := by
  have h := rho_is (n := n + 1) (by omega) hs
  have e := (gg_eq (n := n) (s := s) (k := rho (n + 1) s) hn hs h.nn).mpr ⟨by have := h.lo; omega, by have := h.hi; omega⟩
  rw [← e]
  show gg (n + 1) s (rho (n + 1) s) = gg n s (rho (n + 1) s) + rho (n + 1) s
  unfold gg
  rw [Int.mul_add]
  omega
theorem tt_nn {n : Int} {s : Nat} (hn : 1 ≤ n) (hs : 1 ≤ s) : 0 ≤ tt n s := by
  have := gg_le (n := n) (s := s) (k := 0) hn hs (by omega)
  unfold gg at this
  rw [rc_neg (by omega)] at this
  omega
/-- more slots: no more steps -/
theorem tt_smono {n : Int} {s : Nat} (hn : 1 ≤ n) (hs : 1 ≤ s) : tt n (s + 1) ≤ tt n s := by
  have h := rho_is (n := n) (s := s + 1) hn (by omega)
  have a := gg_le (n := n) (s := s) (k := rho n (s + 1)) hn hs h.nn
  have : gg n (s + 1) (rho n (s + 1)) ≤ gg n s (rho n (s + 1)) := by
    unfold gg
    by_cases c : rho n (s + 1) - 1 < 0
    · rw [rc_neg c, rc_neg c]; omega
    · have := rc_smaller (s := s + 1) (r := rho n (s + 1) - 1) (by omega)
      omega
  unfold tt at a ⊢
  omega
/-! ### splits -/
/-- the steps of a split at m, less the least -/
def loss (n : Int) (s : Nat) (m : Int) : Int := m + tt (n - m) (s - 1) + tt m s - tt n s
def spLo (n : Int) (s : Nat) : Int := max (max 1 (rc s (rho n s - 2))) (n - rc (s - 1) (rho n s))
def spHi (n : Int) (s : Nat) : Int := min (min (n - 1) (rc s (rho n s - 1))) (n - rc (s - 1) (rho n s - 1))
section
variable {n m : Int} {s : Nat}
theorem split_sum {r : Int} (hr : 1 ≤ r) (hs : 2 ≤ s) : m + gg (n - m) (s - 1) r + gg m s (r - 1) = gg n s r := by
  unfold gg
  have e : s - 1 + 1 = s := by omega
  have := rc_pascal (s := s) (r := r - 1) (by omega)
  have e1 : r * (n - m) = r * n - r * m := Int.mul_sub ..
  have e2 : (r - 1) * m = r * m - m := by rw [Int.sub_mul, Int.one_mul]
  rw [e, e1, e2]
  omega
theorem loss_nn (hn : 2 ≤ n) (hs : 2 ≤ s) (h1 : 1 ≤ m) (h2 : m < n) : 0 ≤ loss n s m := by
  have hr := rho_pos (n := n) (s := s) hn (by omega)
  have a := gg_le (n := n - m) (s := s - 1) (k := rho n s) (by omega) (by omega) (by omega)
  have b := gg_le (n := m) (s := s) (k := rho n s - 1) h1 (by omega) (by omega)
  have c := split_sum (n := n) (m := m) (s := s) hr hs
  unfold loss
  have d : tt n s = gg n s (rho n s) := rfl
  omega
theorem loss_0 (hn : 2 ≤ n) (hs : 2 ≤ s) (h1 : 1 ≤ m) (h2 : m < n) : loss n s m = 0 ↔ spLo n s ≤ m ∧ m ≤ spHi n s := by
  have hr := rho_pos (n := n) (s := s) hn (by omega)
  have a := gg_le (n := n - m) (s := s - 1) (k := rho n s) (by omega) (by omega) (by omega)
  have b := gg_le (n := m) (s := s) (k := rho n s - 1) h1 (by omega) (by omega)
  have a' := gg_eq (n := n - m) (s := s - 1) (k := rho n s) (by omega) (by omega) (by omega)
  have b' := gg_eq (n := m) (s := s) (k := rho n s - 1) h1 (by omega) (by omega)
  have c := split_sum (n := n) (m := m) (s := s) hr hs
  have d : tt n s = gg n s (rho n s) := rfl
  rw [show rho n s - 1 - 1 = rho n s - 2 by omega] at b'
  have e : loss n s m = 0 ↔ gg (n - m) (s - 1) (rho n s) = tt (n - m) (s - 1) ∧ gg m s (rho n s - 1) = tt m s := by
    unfold loss
    constructor
    · intro q
      exact ⟨by omega, by omega⟩
    · rintro ⟨q1, q2⟩
      omega
  rw [e, a', b']
  unfold spLo spHi
  omega
theorem split_range (hn : 2 ≤ n) (hs : 2 ≤ s) : 1 ≤ spLo n s ∧ spLo n s ≤ spHi n s ∧ spHi n s < n := by
  have hr := rho_pos (n := n) (s := s) hn (by omega)
  have h := rho_is (n := n) (s := s) (by omega) (by omega)
  have h1 := h.lo
  have h2 := h.hi
  obtain ⟨s, rfl⟩ : ∃ k, s = k + 2 := ⟨s - 2, by omega⟩
  have e : s + 2 - 1 = s + 1 := by omega
  have p1 := rc_pascal (s := s + 1) (r := rho n (s + 2)) (by omega)
  have p2 := rc_pascal (s := s + 1) (r := rho n (s + 2) - 1) (by omega)
  have q1 := rc_pos (s := s + 2) (r := rho n (s + 2) - 1) (by omega)
  have q2 := rc_pos (s := s + 1) (r := rho n (s + 2)) (by omega)
  have q3 := rc_pos (s := s + 1) (r := rho n (s + 2) - 1) (by omega)
  have m1 := rc_step (s + 2) (rho n (s + 2) - 1)
  have m2 := rc_step (s + 1) (rho n (s + 2))
  rw [show rho n (s + 2) - 1 - 1 = rho n (s + 2) - 2 by omega] at *
  have e2 : s + 1 + 1 = s + 2 := rfl
  rw [e2] at p1 p2
  have z := rc_nn (s + 2) (rho n (s + 2) - 2)
  unfold spLo spHi
  rw [e]
  omega
theorem loss_step (hs : 2 ≤ s) (h1 : 1 ≤ m) (h2 : m + 1 < n) : loss n s (m + 1) = loss n s m + 1 + rho (m + 1) s - rho (n - m) (s - 1) := by
  unfold loss
  have a := tt_step (n := m) (s := s) h1 (by omega)
  have b := tt_step (n := n - (m + 1)) (s := s - 1) (by omega) (by omega)
  rw [show n - (m + 1) + 1 = n - m by omega] at b
  omega
theorem loss_falls (hn : 2 ≤ n) (hs : 2 ≤ s) (h1 : 1 ≤ m) (h2 : m < spLo n s) : loss n s (m + 1) ≤ loss n s m := by
  have R := split_range hn hs
  have h := rho_is (n := n) (s := s) (by omega) (by omega)
  have hr := rho_pos (n := n) (s := s) hn (by omega)
  rw [loss_step hs h1 (by omega)]
  have A := rho_is (n := m + 1) (s := s) (by omega) (by omega)
  have B := rho_is (n := n - m) (s := s - 1) (by omega) (by omega)
  have hlo := h.lo
  have hhi := h.hi
  obtain ⟨s, rfl⟩ : ∃ k, s = k + 2 := ⟨s - 2, by omega⟩
  have e : s + 2 - 1 = s + 1 := by omega
  rw [e] at B ⊢
  have h2' := h2
  unfold spLo at h2
  rw [e] at h2
  by_cases c : m < rc (s + 2) (rho n (s + 2) - 2)
  · have a1 := A.le (q := rho n (s + 2) - 2) (by omega)
    have p2 := rc_pascal (s := s + 1) (r := rho n (s + 2) - 1) (by omega)
    rw [show rho n (s + 2) - 1 - 1 = rho n (s + 2) - 2 by omega, show s + 1 + 1 = s + 2 from rfl] at p2
    have b1 : rho n (s + 2) - 1 < rho (n - m) (s + 1) := by
      apply Decidable.byContradiction
      intro d
      have := rc_mono (s := s + 1) (r := rho (n - m) (s + 1)) (q := rho n (s + 2) - 1) (by omega)
      have := B.hi
      omega
    omega
  · have c2 : m < n - rc (s + 1) (rho n (s + 2)) := by
      apply Decidable.byContradiction
      intro d
      have := Int.max_le.mpr ⟨Int.max_le.mpr ⟨h1, Int.not_lt.mp c⟩, Int.not_lt.mp d⟩
      omega
    have a1 := A.le (q := rho n (s + 2)) (by omega)
    have b1 : rho n (s + 2) < rho (n - m) (s + 1) := by
      apply Decidable.byContradiction
      intro d
      have := rc_mono (s := s + 1) (r := rho (n - m) (s + 1)) (q := rho n (s + 2)) (by omega)
      have := B.hi
      omega
    omega
theorem loss_rises (hn : 2 ≤ n) (hs : 2 ≤ s) (h1 : spHi n s < m) (h2 : m < n) : loss n s (m - 1) ≤ loss n s m := by
  have R := split_range hn hs
  have h := rho_is (n := n) (s := s) (by omega) (by omega)
  have hr := rho_pos (n := n) (s := s) hn (by omega)
  have st := loss_step (n := n) (m := m - 1) hs (by omega) (by omega)
  rw [show m - 1 + 1 = m by omega] at st
  have A := rho_is (n := m) (s := s) (by omega) (by omega)
  have B := rho_is (n := n - (m - 1)) (s := s - 1) (by omega) (by omega)
  have hlo := h.lo
  have hhi := h.hi
  obtain ⟨s, rfl⟩ : ∃ k, s = k + 2 := ⟨s - 2, by omega⟩
  have e : s + 2 - 1 = s + 1 := by omega
  rw [e] at B st
  unfold spHi at h1
  rw [e] at h1
  by_cases c : rc (s + 2) (rho n (s + 2) - 1) < m
  · have a1 : rho n (s + 2) - 1 < rho m (s + 2) := by
      apply Decidable.byContradiction
      intro d
      have := rc_mono (s := s + 2) (r := rho m (s + 2)) (q := rho n (s + 2) - 1) (by omega)
      have := A.hi
      omega
    have p1 := rc_pascal (s := s + 1) (r := rho n (s + 2)) (by omega)
    rw [show s + 1 + 1 = s + 2 from rfl] at p1
    have b1 := B.le (q := rho n (s + 2)) (by omega)
    omega
  · have c2 : n - rc (s + 1) (rho n (s + 2) - 1) < m := by omega
    have b1 := B.le (q := rho n (s + 2) - 1) (by omega)
    have p2 := rc_pascal (s := s + 1) (r := rho n (s + 2) - 1) (by omega)
    rw [show rho n (s + 2) - 1 - 1 = rho n (s + 2) - 2 by omega, show s + 1 + 1 = s + 2 from rfl] at p2
    have a1 : rho n (s + 2) - 2 < rho m (s + 2) := by
      apply Decidable.byContradiction
      intro d
      have := rc_mono (s := s + 2) (r := rho m (s + 2)) (q := rho n (s + 2) - 2) (by omega)
      have := A.hi
      omega
    omega
end
end Bm

namespace Bm
def rcI (s r : Int) : Int := rc s.toNat r
def rhoI (n s : Int) : Int := rho n s.toNat
def ggI (n s r : Int) : Int := r * n - rcI (s + 1) (r - 1)
def ttI (n s : Int) : Int := tt n s.toNat
def lossI (n s m : Int) : Int := m + ttI (n - m) (s - 1) + ttI m s - ttI n s
def loI (n s : Int) : Int := max (max 1 (if rhoI n s > 1 then rcI s (rhoI n s - 2) else 0)) (n - rcI (s - 1) (rhoI n s))
def hiI (n s : Int) : Int := min (min (n - 1) (rcI s (rhoI n s - 1))) (n - rcI (s - 1) (rhoI n s - 1))
section
variable {n s m r : Int}
theorem ttI_eq (hs : 0 ≤ s) : ttI n s = ggI n s (rhoI n s) := by
  unfold ttI tt gg ggI rcI rhoI
  rw [show (s + 1).toNat = s.toNat + 1 by omega]
theorem rhoI_nn (hn : 1 ≤ n) (hs : 1 ≤ s) : 0 ≤ rhoI n s := (rho_is hn (by omega)).nn
theorem rhoI_pos (hn : 2 ≤ n) (hs : 1 ≤ s) : 1 ≤ rhoI n s := rho_pos hn (by omega)
theorem rhoI_lt (hn : 1 ≤ n) (hs : 1 ≤ s) : rhoI n s < n := rho_lt hn (by omega)
theorem lossI_eq (hs : 1 ≤ s) : lossI n s m = loss n s.toNat m := by
  unfold lossI loss ttI
  rw [show (s - 1).toNat = s.toNat - 1 by omega]
theorem loI_eq (hn : 1 ≤ n) (hs : 2 ≤ s) : loI n s = spLo n s.toNat := by
  unfold loI spLo rhoI rcI
  rw [show (s - 1).toNat = s.toNat - 1 by omega]
  by_cases c : rho n s.toNat > 1
  · rw [if_pos c]
  · rw [if_neg c]
    obtain ⟨k, e⟩ : ∃ k, s.toNat = k + 1 := ⟨s.toNat - 1, by omega⟩
    by_cases d : rho n s.toNat = 1
    · rw [d, e, rc_neg (s := k) (r := 1 - 2) (by omega)]
    · have := (rho_is (n := n) (s := s.toNat) hn (by omega)).nn
      have e0 : rho n s.toNat = 0 := by omega
      rw [e0, e, rc_neg (s := k) (r := 0 - 2) (by omega)]
theorem hiI_eq (hs : 2 ≤ s) : hiI n s = spHi n s.toNat := by
  unfold hiI spHi rhoI rcI
  rw [show (s - 1).toNat = s.toNat - 1 by omega]
theorem rangeI (hn : 2 ≤ n) (hs : 2 ≤ s) : 1 ≤ loI n s ∧ loI n s ≤ hiI n s ∧ hiI n s < n := by
  rw [loI_eq (by omega) hs, hiI_eq hs]
  exact split_range hn (by omega)
theorem lossI_0 (hn : 2 ≤ n) (hs : 2 ≤ s) (h1 : 1 ≤ m) (h2 : m < n) : lossI n s m = 0 ↔ loI n s ≤ m ∧ m ≤ hiI n s := by
  rw [loI_eq (by omega) hs, hiI_eq hs, lossI_eq (by omega)]
  exact loss_0 hn (by omega) h1 h2
theorem lossI_nn (hn : 2 ≤ n) (hs : 2 ≤ s) (h1 : 1 ≤ m) (h2 : m < n) : 0 ≤ lossI n s m := by
  rw [lossI_eq (by omega)]
  exact loss_nn hn (by omega) h1 h2
theorem lossI_falls (hn : 2 ≤ n) (hs : 2 ≤ s) (h1 : 1 ≤ m) (h2 : m < loI n s) : lossI n s (m + 1) ≤ lossI n s m := by
  rw [loI_eq (by omega) hs] at h2
  rw [lossI_eq (by omega), lossI_eq (by omega)]
  exact loss_falls hn (by omega) h1 h2
theorem lossI_rises (hn : 2 ≤ n) (hs : 2 ≤ s) (h1 : hiI n s < m) (h2 : m < n) : lossI n s (m - 1) ≤ lossI n s m := by
  rw [hiI_eq hs] at h1
  rw [lossI_eq (by omega), lossI_eq (by omega)]
  exact loss_rises hn (by omega) h1 h2
theorem rcI_le (hs : 0 ≤ s) (hs2 : s ≤ 110) (h : -1 ≤ r) (hr : r ≤ 2 ^ 110) : (rcI s r).natAbs < 2 ^ 12300 := by
  have h0 := rc_nn s.toNat r
  have h1 := rc_le h hr s.toNat (by omega)
  unfold rcI
  have h2 : (2 : Int) ^ (111 * s.toNat) ≤ 2 ^ 12210 := by
    have := Nat.pow_le_pow_right (n := 2) (by decide) (show 111 * s.toNat ≤ 12210 by omega)
    exact_mod_cast this
  have h3 : ((rc s.toNat r).natAbs : Int) ≤ 2 ^ 12210 := by
    rw [Int.natAbs_of_nonneg h0]; exact Int.le_trans h1 h2
  have h4 : (2 : Nat) ^ 12210 < 2 ^ 12300 := Nat.pow_lt_pow_right (by decide) (by decide)
  have h5 : (rc s.toNat r).natAbs ≤ 2 ^ 12210 := by exact_mod_cast h3
  omega
end
end Bm
namespace Bs
open PySem PySem.Spec L2 Bm
open PyProof.Rows hiding St
/-! ### promises -/
def sp_is_int (_ : PySem.W.Frag) : Sp := fun vs H Q _ => ∃ i, vs = [.int i] ∧ Q (.bl true) H
def sp_is_whole (_ : PySem.W.Frag) : Sp := fun vs H Q _ => ∃ v lo hi, vs = [.int v, .int lo, .int hi] ∧ Q (.bl (decide (lo ≤ v ∧ v ≤ hi))) H
def sp_require_length (_ : PySem.W.Frag) : Sp := fun vs H Q _ => ∃ n, vs = [.int n] ∧ 1 ≤ n ∧ n ≤ 1000000000000000000000000000000 ∧ Q .non H
def sp_require_slots (_ : PySem.W.Frag) : Sp := fun vs H Q _ => ∃ s, vs = [.int s] ∧ 1 ≤ s ∧ s ≤ 100 ∧ Q .non H
def sp_require_task (_ : PySem.W.Frag) : Sp := fun vs H Q _ => ∃ n s, vs = [.int n, .int s] ∧ 1 ≤ n ∧ n ≤ 1000000000000000000000000000000 ∧ 1 ≤ s ∧ s ≤ 100 ∧ Q .non H
def sp_reach_of (_ : PySem.W.Frag) : Sp := fun vs H Q _ => ∃ s r, vs = [.int s, .int r] ∧ 0 ≤ s ∧ s ≤ 102 ∧ -1 ≤ r ∧ r ≤ 2 ^ 110 ∧ Q (.int (rcI s r)) H
/-- an answer that stands beside new objects -/
def sp_rounds_of (_ : PySem.W.Frag) : Sp := fun vs H Q _ => ∃ n s, vs = [.int n, .int s] ∧ 1 ≤ n ∧ n ≤ 2 ^ 100 ∧ 1 ≤ s ∧ s ≤ 101 ∧ ∀ H', Same H H' → Q (.int (rhoI n s)) H'
def sp_steps_with (_ : PySem.W.Frag) : Sp := fun vs H Q _ => ∃ n s r, vs = [.int n, .int s, .int r] ∧ 1 ≤ n ∧ n ≤ 2 ^ 100 ∧ 1 ≤ s ∧ s ≤ 101 ∧ 0 ≤ r ∧ r ≤ 2 ^ 110 ∧ Q (.int (ggI n s r)) H
def sp_least_of (_ : PySem.W.Frag) : Sp := fun vs H Q _ => ∃ n s, vs = [.int n, .int s] ∧ 1 ≤ n ∧ n ≤ 2 ^ 100 ∧ 1 ≤ s ∧ s ≤ 101 ∧ ∀ H', Same H H' → Q (.int (ttI n s)) H'
def sp_splits_with (_ : PySem.W.Frag) : Sp := fun vs H Q _ => ∃ n s, vs = [.int n, .int s, .int (rhoI n s)] ∧ 2 ≤ n ∧ n ≤ 2 ^ 100 ∧ 2 ≤ s ∧ s ≤ 100 ∧ ∀ p H', Same H H' → H p = none → H' p = some (.tup [.int (loI n s), .int (hiI n s)]) → Q (.ref p) H'
def sp_best_splits (_ : PySem.W.Frag) : Sp := fun vs H Q _ => ∃ n s, vs = [.int n, .int s] ∧ 1 ≤ n ∧ n ≤ 1000000000000000000000000000000 ∧ 1 ≤ s ∧ s ≤ 100 ∧
  ((n = 1 ∨ s = 1) → ∀ H', Same H H' → Q .non H') ∧ (2 ≤ n → 2 ≤ s → ∀ p H', Same H H' → H p = none → H' p = some (.tup [.int (loI n s), .int (hiI n s)]) → Q (.ref p) H')
def sp_split_loss (_ : PySem.W.Frag) : Sp := fun vs H Q _ => ∃ n s m, vs = [.int n, .int s, .int m] ∧ n ≤ 1000000000000000000000000000000 ∧ 2 ≤ s ∧ s ≤ 100 ∧ 1 ≤ m ∧ m < n ∧ ∀ H', Same H H' → Q (.int (lossI n s m)) H'
/-- the draws of a cell: a list of three ints -/
def Bag (H : Hp) (a : Addr) : Prop := ∃ x y z : Int, H a = some (.lst [.int x, .int y, .int z])
def sp_l_bag (_ : PySem.W.Frag) : Sp := fun vs H Q _ => ∃ c, vs = [.int c] ∧ ∀ p H', Same H H' → H p = none → Bag H' p → Q (.ref p) H'
def sp_l_pick (_ : PySem.W.Frag) : Sp := fun vs H Q _ => ∃ a m, vs = [.ref a, .int m] ∧ 1 ≤ m ∧ m < 2 ^ 200 ∧ Bag H a ∧ ∀ r H', 0 ≤ r → r < m → But a H H' → Bag H' a → Q (.int r) H'
def sp_l_reach (_ : PySem.W.Frag) : Sp := fun vs H Q _ => ∃ s r, vs = [.int s, .int r] ∧ 0 ≤ s ∧ s ≤ 102 ∧ -1 ≤ r ∧ r ≤ 2 ^ 110 ∧ Q (.int (rcI s r)) H
def sp_l_rounds (_ : PySem.W.Frag) : Sp := fun vs H Q _ => ∃ n s, vs = [.int n, .int s] ∧ 1 ≤ n ∧ n ≤ 2 ^ 100 ∧ 1 ≤ s ∧ s ≤ 101 ∧ ∀ H', Same H H' → Q (.int (rhoI n s)) H'
def sp_l_least (_ : PySem.W.Frag) : Sp := fun vs H Q _ => ∃ n s, vs = [.int n, .int s] ∧ 1 ≤ n ∧ n ≤ 2 ^ 100 ∧ 1 ≤ s ∧ s ≤ 101 ∧ ∀ H', Same H H' → Q (.int (ttI n s)) H'
def sp_l_task (_ : PySem.W.Frag) : Sp := fun vs H Q _ => ∃ a, vs = [.ref a] ∧ Bag H a ∧ ∀ n s p H', 1 ≤ n → n ≤ 1000000000000000000000000000000 → 1 ≤ s → s ≤ 100 → But a H H' → Bag H' a → H p = none → H' p = some (.tup [.int n, .int s]) → Q (.ref p) H'
def sp_l_loss (_ : PySem.W.Frag) : Sp := fun vs H Q _ => ∃ n s m, vs = [.int n, .int s, .int m] ∧ n ≤ 1000000000000000000000000000000 ∧ 2 ≤ s ∧ s ≤ 100 ∧ 1 ≤ m ∧ m < n ∧ ∀ H', Same H H' → Q (.int (lossI n s m)) H'
def sp_l_right (_ : PySem.W.Frag) : Sp := fun vs H Q _ => ∃ a, vs = [.ref a] ∧ Bag H a ∧ ∀ H', But a H H' → Bag H' a → Q (.bl true) H'
def sp_law_k11 (K : PySem.W.Frag) : Sp := fun vs H Q _ => ∃ (a : Addr) (ns : List Int), vs = [.ref a] ∧ SqL K H a (ns.map V.int) ∧ ns.length ≤ 63 ∧ ∀ H', Q (.bl true) H'

theorem len_is_int (K : PySem.W.Frag) {vs : List V} {H : Hp} {Q : VK} {E : XK} (h : sp_is_int K vs H Q E) : vs.length = 1 := by
  obtain ⟨_, rfl, _⟩ := h
  rfl
theorem len_is_whole (K : PySem.W.Frag) {vs : List V} {H : Hp} {Q : VK} {E : XK} (h : sp_is_whole K vs H Q E) : vs.length = 3 := by
  obtain ⟨_, _, _, rfl, _⟩ := h
  rfl
theorem len_require_length (K : PySem.W.Frag) {vs : List V} {H : Hp} {Q : VK} {E : XK} (h : sp_require_length K vs H Q E) : vs.length = 1 := by
  obtain ⟨_, rfl, _⟩ := h
  rfl
theorem len_require_slots (K : PySem.W.Frag) {vs : List V} {H : Hp} {Q : VK} {E : XK} (h : sp_require_slots K vs H Q E) : vs.length = 1 := by
  obtain ⟨_, rfl, _⟩ := h
  rfl
theorem len_require_task (K : PySem.W.Frag) {vs : List V} {H : Hp} {Q : VK} {E : XK} (h : sp_require_task K vs H Q E) : vs.length = 2 := by
  obtain ⟨_, _, rfl, _⟩ := h
  rfl
theorem len_reach_of (K : PySem.W.Frag) {vs : List V} {H : Hp} {Q : VK} {E : XK} (h : sp_reach_of K vs H Q E) : vs.length = 2 := by
  obtain ⟨_, _, rfl, _⟩ := h
  rfl
theorem len_rounds_of (K : PySem.W.Frag) {vs : List V} {H : Hp} {Q : VK} {E : XK} (h : sp_rounds_of K vs H Q E) : vs.length = 2 := by
  obtain ⟨_, _, rfl, _⟩ := h
  rfl
theorem len_steps_with (K : PySem.W.Frag) {vs : List V} {H : Hp} {Q : VK} {E : XK} (h : sp_steps_with K vs H Q E) : vs.length = 3 := by
  obtain ⟨_, _, _, rfl, _⟩ := h
  rfl
theorem len_least_of (K : PySem.W.Frag) {vs : List V} {H : Hp} {Q : VK} {E : XK} (h : sp_least_of K vs H Q E) : vs.length = 2 := by
  obtain ⟨_, _, rfl, _⟩ := h
  rfl
theorem len_splits_with (K : PySem.W.Frag) {vs : List V} {H : Hp} {Q : VK} {E : XK} (h : sp_splits_with K vs H Q E) : vs.length = 3 := by
  obtain ⟨_, _, rfl, _⟩ := h
  rfl
theorem len_best_splits (K : PySem.W.Frag) {vs : List V} {H : Hp} {Q : VK} {E : XK} (h : sp_best_splits K vs H Q E) : vs.length = 2 := by
  obtain ⟨_, _, rfl, _⟩ := h
  rfl
theorem len_split_loss (K : PySem.W.Frag) {vs : List V} {H : Hp} {Q : VK} {E : XK} (h : sp_split_loss K vs H Q E) : vs.length = 3 := by
  obtain ⟨_, _, _, rfl, _⟩ := h
  rfl
theorem len_l_bag (K : PySem.W.Frag) {vs : List V} {H : Hp} {Q : VK} {E : XK} (h : sp_l_bag K vs H Q E) : vs.length = 1 := by
  obtain ⟨_, rfl, _⟩ := h
  rfl
theorem len_l_pick (K : PySem.W.Frag) {vs : List V} {H : Hp} {Q : VK} {E : XK} (h : sp_l_pick K vs H Q E) : vs.length = 2 := by
  obtain ⟨_, _, rfl, _⟩ := h
  rfl
theorem len_l_reach (K : PySem.W.Frag) {vs : List V} {H : Hp} {Q : VK} {E : XK} (h : sp_l_reach K vs H Q E) : vs.length = 2 := by
  obtain ⟨_, _, rfl, _⟩ := h
  rfl
theorem len_l_rounds (K : PySem.W.Frag) {vs : List V} {H : Hp} {Q : VK} {E : XK} (h : sp_l_rounds K vs H Q E) : vs.length = 2 := by
  obtain ⟨_, _, rfl, _⟩ := h
  rfl
theorem len_l_least (K : PySem.W.Frag) {vs : List V} {H : Hp} {Q : VK} {E : XK} (h : sp_l_least K vs H Q E) : vs.length = 2 := by
  obtain ⟨_, _, rfl, _⟩ := h
  rfl
theorem len_l_task (K : PySem.W.Frag) {vs : List V} {H : Hp} {Q : VK} {E : XK} (h : sp_l_task K vs H Q E) : vs.length = 1 := by
  obtain ⟨_, rfl, _⟩ := h
  rfl
theorem len_l_loss (K : PySem.W.Frag) {vs : List V} {H : Hp} {Q : VK} {E : XK} (h : sp_l_loss K vs H Q E) : vs.length = 3 := by
  obtain ⟨_, _, _, rfl, _⟩ := h
  rfl
theorem len_l_right (K : PySem.W.Frag) {vs : List V} {H : Hp} {Q : VK} {E : XK} (h : sp_l_right K vs H Q E) : vs.length = 1 := by
  obtain ⟨_, rfl, _⟩ := h
  rfl
theorem len_law_k11 (K : PySem.W.Frag) {vs : List V} {H : Hp} {Q : VK} {E : XK} (h : sp_law_k11 K vs H Q E) : vs.length = 1 := by
  obtain ⟨_, _, rfl, _⟩ := h
  rfl

/-- is_int: slots 0 value -/
abbrev n_is_int : List Str := ["value"]
def t_is_int (K : PySem.W.Frag) : TS :=
  (tRet (tAndV (tCB (rIsi K) (tCons (tVar 0) (tCons (tC (.ty "int")) tNil))) (tNotV (tCB (rIsi K) (tCons (tVar 0) (tCons (tC (.ty "bool")) tNil))))))
/-- is_whole: slots 0 value, 1 low, 2 high -/
abbrev n_is_whole : List Str := ["value", "low", "high"]
def t_is_whole (K : PySem.W.Frag) : TS :=
  (tRet (tAndV (tCall (sp_is_int K) [] E0 (tCons (tVar 0) tNil)) (tChain oLe oLe (tVar 1) (tVar 0) (tVar 2))))
/-- require_length: slots 0 value -/
abbrev n_require_length : List Str := ["value"]
def t_require_length (K : PySem.W.Frag) : TS :=
  (tIfS (tNot (tB (tCall (sp_is_whole K) [] E0 (tCons (tVar 0) (tCons (tC (.int 1)) (tCons (tC (.int 1000000000000000000000000000000)) tNil)))))) tNever tNext)
/-- require_slots: slots 0 value -/
abbrev n_require_slots : List Str := ["value"]
def t_require_slots (K : PySem.W.Frag) : TS :=
  (tIfS (tNot (tB (tCall (sp_is_whole K) [] E0 (tCons (tVar 0) (tCons (tC (.int 1)) (tCons (tC (.int 100)) tNil)))))) tNever tNext)
/-- require_task: slots 0 length, 1 slots -/
abbrev n_require_task : List Str := ["length", "slots"]
def t_require_task (K : PySem.W.Frag) : TS :=
  (tSeq (tDrop (tCall (sp_require_length K) [] E0 (tCons (tVar 0) tNil)))
  (tDrop (tCall (sp_require_slots K) [] E0 (tCons (tVar 1) tNil))))
/-- reach_of: slots 0 slots, 1 rounds, 2 found, 3 turn -/
abbrev n_reach_of : List Str := ["slots", "rounds", "found", "turn"]
def t_reach_of (K : PySem.W.Frag) : TS :=
  (tSeq (tAsg (tC (.int 1)) (gName 2))
  (tSeq (tFor (iRng2 (tCons (tC (.int 1)) (tCons (tOp oAdd (tVar 0) (tC (.int 1))) tNil))) (gName 3)
  (tAsg (tOp oDivP (tOp oMulA (tVar 2) (tOp oAdd (tVar 1) (tVar 3))) (tVar 3)) (gName 2)))
  (tRet (tVar 2))))
/-- rounds_of: slots 0 length, 1 slots, 2 low, 3 high, 4 middle -/
abbrev n_rounds_of : List Str := ["length", "slots", "low", "high", "middle"]
def t_rounds_of (K : PySem.W.Frag) : TS :=
  (tSeq (tAsg (tTup (tCons (tUn uNeg (tC (.int 1))) (tCons (tC (.int 1)) tNil))) (gTup K 2 (gCons (gName 2) (gCons (gName 3) gNil))))
  (tSeq (tWhile (tTest (tOp oLt (tCall (sp_reach_of K) [] E0 (tCons (tVar 1) (tCons (tVar 3) tNil))) (tVar 0)))
  (tPar 2 3 (tCons (tVar 3) (tCons (tOp oMulA (tC (.int 2)) (tVar 3)) tNil))))
  (tSeq (tWhile (tTest (tOp oGt (tOp oSub (tVar 3) (tVar 2)) (tC (.int 1))))
  (tSeq (tAsg (tOp oDivP (tOp oAdd (tVar 2) (tVar 3)) (tC (.int 2))) (gName 4))
  (tIfS (tTest (tOp oLt (tCall (sp_reach_of K) [] E0 (tCons (tVar 1) (tCons (tVar 4) tNil))) (tVar 0))) (tAsg (tVar 4) (gName 2)) (tAsg (tVar 4) (gName 3)))))
  (tRet (tVar 3)))))
/-- steps_with: slots 0 length, 1 slots, 2 rounds -/
abbrev n_steps_with : List Str := ["length", "slots", "rounds"]
def t_steps_with (K : PySem.W.Frag) : TS :=
  (tRet (tOp oSub (tOp oMulA (tVar 2) (tVar 0)) (tCall (sp_reach_of K) [] E0 (tCons (tOp oAdd (tVar 1) (tC (.int 1))) (tCons (tOp oSub (tVar 2) (tC (.int 1))) tNil)))))
/-- least_of: slots 0 length, 1 slots -/
abbrev n_least_of : List Str := ["length", "slots"]
def t_least_of (K : PySem.W.Frag) : TS :=
  (tRet (tCall (sp_steps_with K) [] E0 (tCons (tVar 0) (tCons (tVar 1) (tCons (tCall (sp_rounds_of K) [] E0 (tCons (tVar 0) (tCons (tVar 1) tNil))) tNil)))))
/-- splits_with: slots 0 length, 1 slots, 2 rounds, 3 least -/
abbrev n_splits_with : List Str := ["length", "slots", "rounds", "least"]
def t_splits_with (K : PySem.W.Frag) : TS :=
  (tSeq (tAsg (tCB oMax3 (tCons (tC (.int 1)) (tCons (tIf (tTest (tOp oGt (tVar 2) (tC (.int 1)))) (tCall (sp_reach_of K) [] E0 (tCons (tVar 1) (tCons (tOp oSub (tVar 2) (tC (.int 2))) tNil))) (tC (.int 0))) (tCons (tOp oSub (tVar 0) (tCall (sp_reach_of K) [] E0 (tCons (tOp oSub (tVar 1) (tC (.int 1))) (tCons (tVar 2) tNil)))) tNil)))) (gName 3))
  (tRet (tTup (tCons (tVar 3) (tCons (tCB oMin3 (tCons (tOp oSub (tVar 0) (tC (.int 1))) (tCons (tCall (sp_reach_of K) [] E0 (tCons (tVar 1) (tCons (tOp oSub (tVar 2) (tC (.int 1))) tNil))) (tCons (tOp oSub (tVar 0) (tCall (sp_reach_of K) [] E0 (tCons (tOp oSub (tVar 1) (tC (.int 1))) (tCons (tOp oSub (tVar 2) (tC (.int 1))) tNil)))) tNil)))) tNil)))))
/-- best_splits: slots 0 length, 1 slots -/
abbrev n_best_splits : List Str := ["length", "slots"]
def t_best_splits (K : PySem.W.Frag) : TS :=
  (tSeq (tDrop (tCall (sp_require_task K) [] E0 (tCons (tVar 0) (tCons (tVar 1) tNil))))
  (tSeq (tIfS (tOr (tTest (tOp rEq (tVar 0) (tC (.int 1)))) (tTest (tOp rEq (tVar 1) (tC (.int 1))))) (tRet (tC .non)) tNext)
  (tRet (tCall (sp_splits_with K) [] E0 (tCons (tVar 0) (tCons (tVar 1) (tCons (tCall (sp_rounds_of K) [] E0 (tCons (tVar 0) (tCons (tVar 1) tNil))) tNil)))))))
/-- split_loss: slots 0 length, 1 slots, 2 state, 3 found -/
abbrev n_split_loss : List Str := ["length", "slots", "state", "found"]
def t_split_loss (K : PySem.W.Frag) : TS :=
  (tSeq (tDrop (tCall (sp_require_length K) [] E0 (tCons (tVar 0) tNil)))
  (tSeq (tDrop (tCall (sp_require_slots K) [] E0 (tCons (tVar 1) tNil)))
  (tSeq (tIfS (tTest (tOp rEq (tVar 1) (tC (.int 1)))) tNever tNext)
  (tSeq (tIfS (tNot (tB (tCall (sp_is_whole K) [] E0 (tCons (tVar 2) (tCons (tC (.int 1)) (tCons (tOp oSub (tVar 0) (tC (.int 1))) tNil)))))) tNever tNext)
  (tSeq (tAsg (tOp oAdd (tOp oAdd (tVar 2) (tCall (sp_least_of K) [] E0 (tCons (tOp oSub (tVar 0) (tVar 2)) (tCons (tOp oSub (tVar 1) (tC (.int 1))) tNil)))) (tCall (sp_least_of K) [] E0 (tCons (tVar 2) (tCons (tVar 1) tNil)))) (gName 3))
  (tRet (tOp oSub (tVar 3) (tCall (sp_least_of K) [] E0 (tCons (tVar 0) (tCons (tVar 1) tNil))))))))))
/-- bag: slots 0 l_cell -/
abbrev n_l_bag : List Str := ["_law_cell"]
def t_l_bag (K : PySem.W.Frag) : TS :=
  (tRet (tLst (tCons (tCB oMax2 (tCons (tC (.int 0)) (tCons (tOp oSub (tVar 0) (tOp oPowA (tC (.int 10)) (tC (.int 18)))) tNil))) (tCons (tVar 0) (tCons (tC (.int 0)) tNil)))))
/-- pick: slots 0 l_bag_here, 1 l_many, 2 l_told, 3 l_seed, 4 l_turn, 5 l_first, 6 l_second, 7 l_drawn -/
abbrev n_l_pick : List Str := ["_law_bag_here", "_law_many", "_law_told", "_law_seed", "_law_turn", "_law_first", "_law_second", "_law_drawn"]
def t_l_pick (K : PySem.W.Frag) : TS :=
  (tSeq (tAsg (tOp oAdd (tOp (rIxL K) (tVar 0) (tC (.int 2))) (tC (.int 1))) (gSub (tVar 0) (tC (.int 2)) rSetL))
  (tSeq (tIfS (tTest (tOp oGt (tOp (rIxL K) (tVar 0) (tC (.int 0))) (tC (.int 0)))) (tSeq (tAsg (tOp oModP (tCB oInt (tCons (tOp (rIxL K) (tVar 0) (tC (.int 0))) tNil)) (tVar 1)) (gName 2))
  (tSeq (tAsg (tOp oDivP (tCB oInt (tCons (tOp (rIxL K) (tVar 0) (tC (.int 0))) tNil)) (tVar 1)) (gSub (tVar 0) (tC (.int 0)) rSetL))
  (tRet (tVar 2)))) tNext)
  (tSeq (tPar 3 4 (tCons (tCB oInt (tCons (tOp (rIxL K) (tVar 0) (tC (.int 1))) tNil)) (tCons (tCB oInt (tCons (tOp (rIxL K) (tVar 0) (tC (.int 2))) tNil)) tNil)))
  (tSeq (tAsg (tOp oModP (tCB oInt (tCons (tOp oAdd (tOp oAdd (tOp oMulA (tOp oModP (tVar 3) (tC (.int 2147483629))) (tC (.int 48271))) (tOp oMulA (tVar 4) (tC (.int 69621)))) (tC (.int 12345))) tNil)) (tC (.int 2147483647))) (gName 5))
  (tSeq (tAsg (tOp oModP (tCB oInt (tCons (tOp oAdd (tOp oMulA (tVar 5) (tVar 5)) (tOp oMulA (tVar 4) (tC (.int 40692)))) tNil)) (tC (.int 2147483587))) (gName 6))
  (tSeq (tAsg (tOp oDivP (tCB oInt (tCons (tOp oAdd (tOp oMulA (tVar 5) (tC (.int 2147483587))) (tVar 6)) tNil)) (tC (.int 32))) (gName 7))
  (tSeq (tIfS (tTest (tOp oGt (tVar 1) (tOp oPowA (tC (.int 10)) (tC (.int 15))))) (tAsg (tOp oAdd (tOp oPowA (tVar 7) (tC (.int 8))) (tVar 6)) (gName 7)) tNext)
  (tRet (tOp oModP (tCB oInt (tCons (tVar 7) tNil)) (tVar 1))))))))))
/-- reach: slots 0 l_slots, 1 l_rounds_here, 2 l_found, 3 l_turn -/
abbrev n_l_reach : List Str := ["_law_slots", "_law_rounds_here", "_law_found", "_law_turn"]
def t_l_reach (K : PySem.W.Frag) : TS :=
  (tSeq (tAsg (tC (.int 1)) (gName 2))
  (tSeq (tFor (iRng1 (tCons (tVar 0) tNil)) (gName 3)
  (tAsg (tOp oDivP (tOp oMulA (tVar 2) (tOp oAdd (tOp oAdd (tVar 1) (tVar 3)) (tC (.int 1)))) (tOp oAdd (tVar 3) (tC (.int 1)))) (gName 2)))
  (tRet (tVar 2))))
/-- rounds: slots 0 l_length, 1 l_slots, 2 l_low, 3 l_high, 4 l_middle -/
abbrev n_l_rounds : List Str := ["_law_length", "_law_slots", "_law_low", "_law_high", "_law_middle"]
def t_l_rounds (K : PySem.W.Frag) : TS :=
  (tSeq (tAsg (tTup (tCons (tUn uNeg (tC (.int 1))) (tCons (tC (.int 1)) tNil))) (gTup K 2 (gCons (gName 2) (gCons (gName 3) gNil))))
  (tSeq (tWhile (tTest (tOp oLt (tCall (sp_l_reach K) [] E0 (tCons (tVar 1) (tCons (tVar 3) tNil))) (tVar 0)))
  (tPar 2 3 (tCons (tVar 3) (tCons (tOp oMulA (tC (.int 2)) (tVar 3)) tNil))))
  (tSeq (tWhile (tTest (tOp oGt (tOp oSub (tVar 3) (tVar 2)) (tC (.int 1))))
  (tSeq (tAsg (tOp oDivP (tOp oAdd (tVar 2) (tVar 3)) (tC (.int 2))) (gName 4))
  (tIfS (tTest (tOp oLt (tCall (sp_l_reach K) [] E0 (tCons (tVar 1) (tCons (tVar 4) tNil))) (tVar 0))) (tAsg (tVar 4) (gName 2)) (tAsg (tVar 4) (gName 3)))))
  (tRet (tVar 3)))))
/-- least: slots 0 l_length, 1 l_slots, 2 l_times -/
abbrev n_l_least : List Str := ["_law_length", "_law_slots", "_law_times"]
def t_l_least (K : PySem.W.Frag) : TS :=
  (tSeq (tAsg (tCall (sp_l_rounds K) [] E0 (tCons (tVar 0) (tCons (tVar 1) tNil))) (gName 2))
  (tRet (tOp oSub (tOp oMulA (tVar 2) (tVar 0)) (tCall (sp_l_reach K) [] E0 (tCons (tOp oAdd (tVar 1) (tC (.int 1))) (tCons (tOp oSub (tVar 2) (tC (.int 1))) tNil))))))
/-- task: slots 0 l_bag_here, 1 l_slots, 2 l_length -/
abbrev n_l_task : List Str := ["_law_bag_here", "_law_slots", "_law_length"]
def t_l_task (K : PySem.W.Frag) : TS :=
  (tSeq (tAsg (tOp oAdd (tC (.int 1)) (tCall (sp_l_pick K) [] E0 (tCons (tVar 0) (tCons (tOp (rIxL K) (tLst (tCons (tC (.int 5)) (tCons (tC (.int 100)) tNil))) (tCall (sp_l_pick K) [] E0 (tCons (tVar 0) (tCons (tC (.int 2)) tNil)))) tNil)))) (gName 1))
  (tSeq (tAsg (tOp oAdd (tC (.int 1)) (tCall (sp_l_pick K) [] E0 (tCons (tVar 0) (tCons (tOp (rIxL K) (tLst (tCons (tC (.int 90)) (tCons (tOp oPowA (tC (.int 10)) (tC (.int 12))) (tCons (tOp oPowA (tC (.int 10)) (tC (.int 30))) tNil)))) (tCall (sp_l_pick K) [] E0 (tCons (tVar 0) (tCons (tC (.int 3)) tNil)))) tNil)))) (gName 2))
  (tSeq (tIfS (tTest (tOp rEq (tCall (sp_l_pick K) [] E0 (tCons (tVar 0) (tCons (tC (.int 2)) tNil))) (tC (.int 0)))) (tAsg (tOp oSub (tOp oAdd (tCall (sp_l_reach K) [] E0 (tCons (tVar 1) (tCons (tCall (sp_l_pick K) [] E0 (tCons (tVar 0) (tCons (tC (.int 40)) tNil))) tNil))) (tCall (sp_l_pick K) [] E0 (tCons (tVar 0) (tCons (tC (.int 3)) tNil)))) (tC (.int 1))) (gName 2)) tNext)
  (tRet (tTup (tCons (tCB oMin2 (tCons (tOp oPowA (tC (.int 10)) (tC (.int 30))) (tCons (tCB oMax2 (tCons (tC (.int 1)) (tCons (tVar 2) tNil))) tNil))) (tCons (tVar 1) tNil)))))))
/-- loss: slots 0 l_length, 1 l_slots, 2 l_m, 3 l_found -/
abbrev n_l_loss : List Str := ["_law_length", "_law_slots", "_law_m", "_law_found"]
def t_l_loss (K : PySem.W.Frag) : TS :=
  (tSeq (tAsg (tOp oAdd (tOp oAdd (tVar 2) (tCall (sp_l_least K) [] E0 (tCons (tOp oSub (tVar 0) (tVar 2)) (tCons (tOp oSub (tVar 1) (tC (.int 1))) tNil)))) (tCall (sp_l_least K) [] E0 (tCons (tVar 2) (tCons (tVar 1) tNil)))) (gName 3))
  (tRet (tOp oSub (tVar 3) (tCall (sp_l_least K) [] E0 (tCons (tVar 0) (tCons (tVar 1) tNil))))))
/-- right: slots 0 l_bag_here, 1 l_length, 2 l_slots, 3 l_least_here, 4 l_greatest, 5 l_asked, 6 l_m, 7 l_told, 8 l_near, 9 l_turn -/
abbrev n_l_right : List Str := ["_law_bag_here", "_law_length", "_law_slots", "_law_least_here", "_law_greatest", "_law_asked", "_law_m", "_law_told", "_law_near", "_law_turn"]
def t_l_right (K : PySem.W.Frag) : TS :=
  (tSeq (tAsg (tCall (sp_l_task K) [] E0 (tCons (tVar 0) tNil)) (gTup K 2 (gCons (gName 1) (gCons (gName 2) gNil))))
  (tSeq (tIfS (tOr (tTest (tOp rEq (tVar 1) (tC (.int 1)))) (tTest (tOp rEq (tVar 2) (tC (.int 1))))) (tRet (tOp oIsN (tCall (sp_best_splits K) [] E0 (tCons (tVar 1) (tCons (tVar 2) tNil))) (tC .non))) tNext)
  (tSeq (tAsg (tCall (sp_best_splits K) [] E0 (tCons (tVar 1) (tCons (tVar 2) tNil))) (gTup K 2 (gCons (gName 3) (gCons (gName 4) gNil))))
  (tSeq (tIfS (tNot (tTest (tChain3 oLe oLe oLt (tC (.int 1)) (tVar 3) (tVar 4) (tVar 1)))) (tRet (tC (.bl false))) tNext)
  (tSeq (tAsg (tLst (tCons (tVar 3) (tCons (tVar 4) (tCons (tOp oAdd (tVar 3) (tCall (sp_l_pick K) [] E0 (tCons (tVar 0) (tCons (tOp oAdd (tOp oSub (tVar 4) (tVar 3)) (tC (.int 1))) tNil)))) tNil)))) (gName 5))
  (tSeq (tAsg (tOp rCat (tVar 5) (tLc (iRng1 (tCons (tC (.int 3)) tNil)) (gName 9) tYes (tOp oAdd (tC (.int 1)) (tCall (sp_l_pick K) [] E0 (tCons (tVar 0) (tCons (tOp oSub (tVar 1) (tC (.int 1))) tNil)))) [9])) (gName 5))
  (tSeq (tFor (iList K (tOp rCat (tVar 5) (tLc (iTup K (tTup (tCons (tOp oSub (tVar 3) (tC (.int 1))) (tCons (tOp oAdd (tVar 4) (tC (.int 1))) tNil)))) (gName 6) (tTest (tChain oLt oLt (tC (.int 0)) (tVar 6) (tVar 1))) (tVar 6) [6]))) (gName 6)
  (tSeq (tAsg (tCall (sp_split_loss K) [] E0 (tCons (tVar 1) (tCons (tVar 2) (tCons (tVar 6) tNil)))) (gName 7))
  (tSeq (tIfS (tOr (tTest (tOp rNe (tCB oRepr (tCons (tVar 7) tNil)) (tCB oRepr (tCons (tCall (sp_l_loss K) [] E0 (tCons (tVar 1) (tCons (tVar 2) (tCons (tVar 6) tNil)))) tNil)))) (tTest (tOp rNe (tOp rEq (tVar 7) (tC (.int 0))) (tChain oLe oLe (tVar 3) (tVar 6) (tVar 4))))) (tRet (tC (.bl false))) tNext)
  (tSeq (tAsg (tOp oSub (tOp oAdd (tVar 6) (tCB oInt (tCons (tOp oLt (tVar 6) (tVar 3)) tNil))) (tCB oInt (tCons (tOp oGt (tVar 6) (tVar 4)) tNil))) (gName 8))
  (tIfS (tTest (tOp oGt (tCall (sp_split_loss K) [] E0 (tCons (tVar 1) (tCons (tVar 2) (tCons (tVar 8) tNil)))) (tVar 7))) (tRet (tC (.bl false))) tNext)))))
  (tRet (tC (.bl true))))))))))
/-- law: slots 0 l_script, 1 l_cell, 2 l_bag_here, 3 l_turn -/
abbrev n_law_k11 : List Str := ["_law_script", "_law_cell", "_law_bag_here", "_law_turn"]
def t_law_k11 (K : PySem.W.Frag) : TS :=
  (tSeq (tFor (iList K (tOp rCat (tSl (rSlL K) (tVar 0) tNoPart (tPart (tC (.int 6)))) (tLst (tCons (tC (.int 0)) tNil)))) (gName 1)
  (tSeq (tAsg (tCall (sp_l_bag K) [] E0 (tCons (tVar 1) tNil)) (gName 2))
  (tFor (iRng1 (tCons (tC (.int 3)) tNil)) (gName 3)
  (tIfS (tNot (tB (tCall (sp_l_right K) [] E0 (tCons (tVar 2) tNil)))) (tRet (tC (.bl false))) tNext))))
  (tRet (tAndV (tOp oIsN (tCall (sp_best_splits K) [] E0 (tCons (tOp oPowA (tC (.int 10)) (tC (.int 30))) (tCons (tC (.int 1)) tNil))) (tC .non)) (tOp oGt (tCall (sp_split_loss K) [] E0 (tCons (tOp oPowA (tC (.int 10)) (tC (.int 30))) (tCons (tC (.int 100)) (tCons (tC (.int 1)) tNil)))) (tC (.int 0))))))

end Bs

namespace Bs
open PySem PySem.Spec L2 Bm
open PyProof.Rows hiding St
/-! ### comprehensions, lists of ints -/
section
variable {D : Ends} {σ : L2.St} {H : Hp} {Q : VK} {K : PySem.W.Frag}
theorem r_lc {wi : TI} {g : TG} {tt : TT} {te : TE} {vs : List Nat} (h : wi σ H fun J H1 => ∀ D, H1 D = none → ∃ W : Nat → Nat → Hp → Prop, (∃ m, W 0 m (upd H1 D (.lst []))) ∧ ∀ i m H, W i m H →
  (J.stop i H ∧ Q (.ref D) H) ∨ (J.go i H ∧ ∃ Nx : Hp → Prop, (∀ H', Nx H' → ∃ m', m' < m ∧ W (i + 1) m' H') ∧ ∀ x H', J.yld i H x H' → g x (wipe σ vs) H' fun σ2 H2 => wipe σ2 vs = wipe σ vs ∧ tt σ2 H2 fun b H3 =>
    if b = true then te σ2 H3 fun y H4 => ∃ acc, H4 D = some (.lst acc) ∧ acc.length < sizeLine ∧ Nx (upd H4 D (.lst (acc ++ [y]))) else Nx H3)) : tLc wi g tt te vs σ H Q := h
theorem r_yesT {Q : Bool → Hp → Prop} (h : Q true H) : tYes σ H Q := h
theorem r_same {p : Prop} {x y : L2.St} (e : x = y) (h : p) : x = y ∧ p := ⟨e, h⟩
theorem r_acc {p : Addr} {acc : List V} {v : V} {N : Hp → Prop} (h1 : H p = some (.lst acc)) (h2 : acc.length < 100000) (h3 : N (upd H p (.lst (acc ++ [v])))) : ∃ acc, H p = some (.lst acc) ∧ acc.length < sizeLine ∧ N (upd H p (.lst (acc ++ [v]))) := ⟨acc, h1, sz_lt h2, h3⟩
theorem r_iL {te : TE} {R : It → Hp → Prop} (h : te σ H fun x H1 => ∃ a, x = .ref a ∧ (∃ xs, SqL K H1 a xs) ∧ R (Itl K a) H1) : iList K te σ H R := h
theorem r_iT {te : TE} {R : It → Hp → Prop} (h : te σ H fun x H1 => ∃ a, x = .ref a ∧ (∃ xs, SqT K H1 a xs) ∧ R (Itt K a) H1) : iTup K te σ H R := h
theorem r_refL {p : Addr} {xs : List V} {R : Addr → Prop} (h1 : SqL K H p xs) (h : R p) : ∃ a, V.ref p = .ref a ∧ (∃ xs, SqL K H a xs) ∧ R a := ⟨p, rfl, ⟨xs, h1⟩, h⟩
theorem r_refT {p : Addr} {xs : List V} {R : Addr → Prop} (h1 : SqT K H p xs) (h : R p) : ∃ a, V.ref p = .ref a ∧ (∃ xs, SqT K H a xs) ∧ R a := ⟨p, rfl, ⟨xs, h1⟩, h⟩
theorem r_slL {p : Addr} {xs : List V} {l u : Option Int} (hp : SqL K H p xs) (h : ∀ q, H q = none → Q (.ref q) (upd H q (.lst (cutV xs l u)))) : rSlL K (.ref p) l u H Q := ⟨p, xs, rfl, hp, h⟩
section
variable {A B : Prop} {i : Int} {a : Addr} {b : Bool}
theorem r_nonT (h : A) : if decide (V.non = V.non) = true then A else B := r_yes rfl h
theorem r_nonI (h : B) : if decide (V.int i = V.non) = true then A else B := r_no (fun e => nomatch e) h
theorem r_nonR (h : B) : if decide (V.ref a = V.non) = true then A else B := r_no (fun e => nomatch e) h
theorem r_notT (h : B) : if (!decide (V.non = V.non)) = true then A else B := by rw [decide_eq_true rfl]; exact r_iteNT h
theorem r_notI (h : A) : if (!decide (V.int i = V.non)) = true then A else B := by rw [decide_eq_false (fun e => nomatch e)]; exact r_iteNF h
theorem r_notR (h : A) : if (!decide (V.ref a = V.non)) = true then A else B := by rw [decide_eq_false (fun e => nomatch e)]; exact r_iteNF h
end
theorem r_p64 (h : Q (.int 10000000000000000000000000000000000000000000000000000000000000000) H) : oPowA (.int 10) (.int 64) H Q := ⟨10, 64, rfl, rfl, powS (b := 4) (by decide) (by decide) (by decide) (by decide), h⟩
theorem r_p30 (h : Q (.int 1000000000000000000000000000000) H) : oPowA (.int 10) (.int 30) H Q := ⟨10, 30, rfl, rfl, powS (b := 4) (by decide) (by decide) (by decide) (by decide), h⟩
theorem r_p18 (h : Q (.int 1000000000000000000) H) : oPowA (.int 10) (.int 18) H Q := ⟨10, 18, rfl, rfl, powS (b := 4) (by decide) (by decide) (by decide) (by decide), h⟩
theorem r_p15 (h : Q (.int 1000000000000000) H) : oPowA (.int 10) (.int 15) H Q := ⟨10, 15, rfl, rfl, powS (b := 4) (by decide) (by decide) (by decide) (by decide), h⟩
theorem r_p12 (h : Q (.int 1000000000000) H) : oPowA (.int 10) (.int 12) H Q := ⟨10, 12, rfl, rfl, powS (b := 4) (by decide) (by decide) (by decide) (by decide), h⟩
theorem r_p9 (h : Q (.int 1000000000) H) : oPowA (.int 10) (.int 9) H Q := ⟨10, 9, rfl, rfl, powS (b := 4) (by decide) (by decide) (by decide) (by decide), h⟩
theorem r_p6 (h : Q (.int 1000000) H) : oPowA (.int 10) (.int 6) H Q := ⟨10, 6, rfl, rfl, powS (b := 4) (by decide) (by decide) (by decide) (by decide), h⟩
theorem r_neS {x : Str} (h : Q (.bl false) H) : rNe (.str x) (.str x) H Q := ⟨rfl, by rw [decide_eq_true rfl]; exact h⟩
end
theorem atI_ints {xs : List Int} {i : Int} (h0 : 0 ≤ i) (h1 : i < xs.length) : ∃ v, v ∈ xs ∧ atI (xs.map V.int) i = some (.int v) := by
  have h : i.toNat < xs.length := by omega
  refine ⟨xs[i.toNat], List.getElem_mem h, atI_i h0 ?_⟩
  rw [List.getElem?_map, List.getElem?_eq_getElem h]
  rfl
theorem cut_int {ns : List Int} {l u : Option Int} {x : V} (h : x ∈ cutV (ns.map V.int) l u) : ∃ z ∈ ns, x = .int z := by
  have h1 := List.mem_of_mem_drop (List.mem_of_mem_take h)
  obtain ⟨z, hz, e⟩ := List.mem_map.mp h1
  exact ⟨z, hz, e.symm⟩
/-! ### the draws -/
theorem Bag.ne {H : Hp} {a p : Addr} (g : Bag H a) (h : H p = none) : p ≠ a := by
  rintro rfl
  obtain ⟨x, y, z, e⟩ := g
  rw [h] at e
  cases e
theorem Bag.new {H : Hp} {a p : Addr} {o : HO} (g : Bag H a) (h : H p = none) : Bag (upd H p o) a := by
  obtain ⟨x, y, z, e⟩ := g
  exact ⟨x, y, z, (upd_ne (ne_of_none e h)).trans e⟩
theorem Bag.at {H H' : Hp} {a : Addr} (g : Bag H a) (s : Same H H') : Bag H' a := by
  obtain ⟨x, y, z, e⟩ := g
  exact ⟨x, y, z, s _ _ e⟩
theorem Bag.upd {H : Hp} {a p : Addr} {o : HO} (g : Bag H a) (h : a ≠ p) : Bag (L2.upd H p o) a := by
  obtain ⟨x, y, z, e⟩ := g
  exact ⟨x, y, z, (upd_ne h).trans e⟩
theorem But.free {H H' : Hp} {a p : Addr} (b : But a H H') (h : H' p = none) (n : p ≠ a) : H p = none := by
  cases q : H p with
  | none => rfl
  | some o =>
    rw [b p o n q] at h
    cases h
theorem But.freeB {H H' : Hp} {a p : Addr} (b : But a H H') (h : H' p = none) (g : Bag H' a) : H p = none := b.free h (g.ne h)
end Bs

namespace Bs
open PySem PySem.Spec L2 He
open PyProof.Rows hiding St
/-! ### the head's facts: classes with properties, a table with text keys -/
/-- where the getter of the property f of the class C stands -/
def gAd (K : PySem.W.Frag) (p : Str × Str) : Addr := match PySem.W.recIn K (ma K (ga K p.1) p.2) "property" with
  | some (.ref g :: _) => g
  | _ => 0
def propB (K : PySem.W.Frag) (p : Str × Str) : Bool :=
  decide (PySem.W.findIn K (.ref (ga K p.1)) p.2 = some (some (.ref (ma K (ga K p.1) p.2)))) && decide (PySem.W.specialIn K (.ref (ma K (ga K p.1) p.2)) "__get__" = some (some (.builtin "property.__get__"))) &&
    decide (PySem.W.takesIn K (.ref (ma K (ga K p.1) p.2)) = some true) && (match PySem.W.recIn K (ma K (ga K p.1) p.2) "property" with
      | some (.ref _ :: _) => true
      | _ => false)
theorem propB_ok {K : PySem.W.Frag} {p : Str × Str} (h : propB K p = true) : PropOf K (ga K p.1) p.2 (ma K (ga K p.1) p.2) (gAd K p) := by
  unfold propB at h
  rw [Bool.and_eq_true, Bool.and_eq_true, Bool.and_eq_true] at h
  obtain ⟨⟨⟨h1, h2⟩, h3⟩, h4⟩ := h
  refine ⟨of_decide_eq_true h1, of_decide_eq_true h2, of_decide_eq_true h3, ?_⟩
  unfold gAd
  generalize PySem.W.recIn K (ma K (ga K p.1) p.2) "property" = z at h4 ⊢
  cases z with
  | none => cases h4
  | some l =>
    cases l with
    | nil => cases h4
    | cons v r =>
      cases v with
      | ref g => exact ⟨r, rfl⟩
      | _ => cases h4
/-- a def of no defaults that stands at a -/
def DfA (K : PySem.W.Frag) (a : Addr) (d : DefD) : Prop := ∃ fd, FunD K d.name d.qual d.params d.body d.scope (d.dvs K) (d.kws K) a fd
def seen (K : PySem.W.Frag) (a : Addr) : FnW := match K.lookup a with
  | some ⟨_, _, .func x, _⟩ => some (x.name, x.qualname, x.params, x.body, x.scope, x.globals, x.closure, x.builtins)
  | _ => none
def seenB (K : PySem.W.Frag) (a : Addr) (d : DefD) : Bool := PySem.W.keepIn K (.ref a) && match K.lookup a with
  | some ⟨_, _, .func x, _⟩ => (PySem.W.codeIn K x.code d.qual && dflB K x.defaults (d.dvs K)) && kwdB K x.kwdefaults (d.kws K)
  | _ => false
theorem seen_ok {K : PySem.W.Frag} {a : Addr} {d : DefD} (e : seen K a = d.val) (c : seenB K a d = true) : DfA K a d := by
  unfold seenB at c
  unfold seen at e
  rw [Bool.and_eq_true] at c
  obtain ⟨kp, c⟩ := c
  generalize q : K.lookup a = z at c e
  cases z with
  | none => cases c
  | some o =>
    cases o with
    | mk oc od dt osl =>
      cases dt with
      | func x =>
        cases x with
        | mk a1 a2 a3 a4 a5 a6 a7 a8 a9 b1 b2 b3 b4 b5 b6 =>
          replace c : ((PySem.W.codeIn K b4 d.qual && dflB K a8 (d.dvs K)) && kwdB K a9 (d.kws K)) = true := c
          rw [Bool.and_eq_true, Bool.and_eq_true] at c
          obtain ⟨⟨c1, c2⟩, c3⟩ := c
          replace e := Option.some.inj e
          injection e with g1 e
          injection e with g2 e
          injection e with g3 e
          injection e with g4 e
          injection e with g5 e
          injection e with g6 e
          injection e with g7 g8
          subst g1 g2 g3 g4 g5 g6 g7 g8
          exact ⟨_, ⟨oc, od, a8, a9, b1, b2, b3, b4, b5, osl, rfl, q, c1, dflB_ok c2, kwdB_ok c3⟩, kp⟩
      | _ => cases c
/-- properties: class and name, getter's def -/
abbrev Gt : Type := (Str × Str) × DefD
abbrev AlP : Type := AlT × (Bool × List FnW)
def obsP (fa : List Fa) (fn : List DefD) (ts : List Tab) (gs : List Gt) (ex : PySem.W.Frag → Bool) (K : PySem.W.Frag) : AlP :=
  (obsT fa fn ts K, (ex K && gs.all (fun q => propB K q.1 && seenB K (gAd K q.1) q.2), gs.map fun q => seen K (gAd K q.1)))
def valP (fn : List DefD) (ts : List Tab) (gs : List Gt) (w : World) : AlP := (valT fn ts w, (true, gs.map fun q => q.2.val))
def SaysP (fa : List Fa) (fn : List DefD) (ts : List Tab) (gs : List Gt) (ex : PySem.W.Frag → Bool) (w : World) (K : PySem.W.Frag) : Prop := obsP fa fn ts gs ex K = valP fn ts gs w
def obsPG (n : Nat) (fa : List Fa) (fn : List DefD) (ts : List Tab) (gs : List Gt) (ex : PySem.W.Frag → Bool) (g : Addr → Option Obj) : AlP := obsP fa fn ts gs ex (frG g (asD g n))
def hookP (n : Nat) (fa : List Fa) (fn : List DefD) (ts : List Tab) (gs : List Gt) (ex : PySem.W.Frag → Bool) : PySem.W.Hook where
  α := AlP
  obs := fun s => obsPG n fa fn ts gs ex s.heap.get?
  val := fun w => valP fn ts gs w
  says := fun w h => ∃ K : PySem.W.Frag, K.In h ∧ SaysP fa fn ts gs ex w K
  of := fun _ _ z => ⟨_, frG_in, z⟩
  keeps := fun _ _ _ ⟨K, hK, c⟩ k => ⟨K, PySem.W.Frag.In.keeps hK k, c⟩
theorem obsPG_eq {n : Nat} {fa : List Fa} {fn : List DefD} {ts : List Tab} {gs : List Gt} {ex : PySem.W.Frag → Bool} {g : Addr → Option Obj} {s : Shared} (h : ∀ a, g a = s.heap.get? a) : obsPG n fa fn ts gs ex g = (hookP n fa fn ts gs ex).obs s := by
  have z : g = s.heap.get? := funext h
  rw [z] <;> rfl
section
variable {fa : List Fa} {fn : List DefD} {ts : List Tab} {gs : List Gt} {ex : PySem.W.Frag → Bool} {w : World} {K : PySem.W.Frag}
theorem SaysP.t (c : SaysP fa fn ts gs ex w K) : SaysT fa fn ts w K := congrArg (fun z : AlP => z.1) c
theorem SaysP.d (c : SaysP fa fn ts gs ex w K) : SaysD fa fn K := c.t.d
theorem SaysP.both (c : SaysP fa fn ts gs ex w K) : ex K = true ∧ gs.all (fun q => propB K q.1 && seenB K (gAd K q.1) q.2) = true := by
  have z : (ex K && gs.all (fun q => propB K q.1 && seenB K (gAd K q.1) q.2)) = true := congrArg (fun z : AlP => z.2.1) c
  rw [Bool.and_eq_true] at z
  exact z
theorem SaysP.get (c : SaysP fa fn ts gs ex w K) (i : Nat) {q : Gt} (h : gs[i]? = some q) : PropOf K (ga K q.1.1) q.1.2 (ma K (ga K q.1.1) q.1.2) (gAd K q.1) ∧ DfA K (gAd K q.1) q.2 := by
  have a := List.all_eq_true.mp c.both.2 q (List.mem_of_getElem? h)
  rw [Bool.and_eq_true] at a
  have e : (gs.map fun q => seen K (gAd K q.1)) = gs.map fun q => q.2.val := congrArg (fun z : AlP => z.2.2) c
  have e2 : (gs.map fun q => seen K (gAd K q.1))[i]? = (gs.map fun q => q.2.val)[i]? := congrArg (fun l => l[i]?) e
  rw [List.getElem?_map, List.getElem?_map, h] at e2
  exact ⟨propB_ok a.1, seen_ok (Option.some.inj e2) a.2⟩
end
end Bs

namespace Bs
open PySem PySem.Spec L2 Sem
open PyProof.Rows hiding St
/-! ### instances of own classes, by the class's name -/
section
variable {P : Program} {w : World} {K : PySem.W.Frag} {mg : Str → Option Value} {base : Heap}
/-- a def of the text, a method, a getter: at a -/
theorem mk_fn {CX : CXT} {k : Nat} {a : Addr} {at_ : Str × Option Str} {x q : Str} {st : Stmt} {N ps : List Str} {sp : Sp} (F : DfA K a ⟨at_, x, q, defArgs st, defBody st, defScope st, [], []⟩)
    (hb : ∀ (kV doc pm : Value) (an : Option Addr) (cdv ct : Value) (us : List Value), us.length = ps.length → bindArgs (PySem.W.fnOf x q (defArgs st) (defBody st) (defScope st) .none kV doc pm an cdv ct) ⟨us, []⟩ = pure (ps.zip us))
    (S : FnScope N ps (defScope st)) (len : ∀ vs H Q E, sp vs H Q E → vs.length = ps.length)
    (go : ∀ (cdv : Value) (A : Around) (outer : List Env) (s : Shared) (H : Hp) (vs : List V) (Q : VK) (E : XK), Room k (A.deeper (envOfC q (defScope st) s.heap.objs.size a cdv)) → sp vs H Q E →
      ∃ t, PSs (cxOf CX P w K mg base N q (defScope st) a cdv A outer s H E) (defBody st) t ∧ t { nx := fun _ H' => Q .non H', rt := Q } (start N vs) H) : ∃ fd, Binds K fd ps [] ∧ FnOk P w K mg base CX (k + 1) a fd ps sp := by
  obtain ⟨fd, F⟩ := F
  exact ⟨fd, F.bindsN hb, F.ok S len go⟩
/-- the method m of the class C keeps sp -/
def OkM (P : Program) (w : World) (K : PySem.W.Frag) (mg : Str → Option Value) (base : Heap) (CX : CXT) (k : Nat) (C m : Str) (ps : List Str) (sp : Sp) : Prop :=
  Cls K (He.ga K C) ∧ Meth K (He.ga K C) m (He.ma K (He.ga K C) m) ∧ ∃ fd, Binds K fd ps [] ∧ FnOk P w K mg base CX k (He.ma K (He.ga K C) m) fd ps sp
/-- C(..), its __init__ keeps sp -/
def OkI (P : Program) (w : World) (K : PySem.W.Frag) (mg : Str → Option Value) (base : Heap) (CX : CXT) (k : Nat) (C : Str) (ps : List Str) (sp : Sp) : Prop :=
  mg C = some (.ref (He.ga K C)) ∧ Mk K (He.ga K C) (He.ma K (He.ga K C) "__init__") ∧ ∃ fd, Binds K fd ps [] ∧ FnOk P w K mg base CX k (He.ma K (He.ga K C) "__init__") fd ps sp
/-- the property f of the class C keeps sp -/
def OkP (P : Program) (w : World) (K : PySem.W.Frag) (mg : Str → Option Value) (base : Heap) (CX : CXT) (k : Nat) (C f : Str) (sp : Sp) : Prop :=
  Cls K (He.ga K C) ∧ PropOf K (He.ga K C) f (He.ma K (He.ga K C) f) (gAd K (C, f)) ∧ ∃ fd, Binds K fd ["self"] [] ∧ FnOk P w K mg base CX k (gAd K (C, f)) fd ["self"] sp
theorem Df.at {K : PySem.W.Frag} {d : He.DefD} (h : Df K d) : DfA K (He.fAd K d.at_) d := h
end
/-! ### readings that name the class -/
def tFldC (C : Addr) (ta : TE) (f : Str) : TE := fun σ H Q => ta σ H fun x H1 => ∃ a dx fs v, x = .ref a ∧ H1 a = some (.ins C dx fs) ∧ fs.lookup f = some v ∧ Q v H1
def sFldC (C : Addr) (ta tv : TE) (f : Str) : TS := fun D σ H => tv σ H fun y H1 => ta σ H1 fun x H2 => ∃ a dx fs, x = .ref a ∧ H2 a = some (.ins C dx fs) ∧ fs.length < 1000 ∧ D.nx σ (upd H2 a (.ins C dx (putF f y fs)))
/-- e.f += value, of ints, the value without effect -/
def sFldAugC (C : Addr) (ta tv : TE) (f : Str) : TS := fun D σ H => ta σ H fun x H1 => ∃ a dx fs i, x = .ref a ∧ H1 a = some (.ins C dx fs) ∧ fs.lookup f = some (.int i) ∧
  tv σ H1 fun y H2 => ∃ j dx' fs', y = .int j ∧ H2 a = some (.ins C dx' fs') ∧ fs'.length < 1000 ∧ D.nx σ (upd H2 a (.ins C dx' (putF f (.int (i + j)) fs')))
def tProp1 (C : Addr) (sp : Sp) (ta : TE) : TE := fun σ H Q => ta σ H fun x H1 => ∃ a dx fs, x = .ref a ∧ H1 a = some (.ins C dx fs) ∧ sp [.ref a] H1 Q E0
section
variable {X : Cx} {C : Addr} {e o value : Expr} {f : Str} {ta tv : TE} {pos pos' tpos : Pos}
theorem pe_fldC (he : PE X e ta) (c : Cls X.K C) (n : NoAttr X.K C f) (hb : attributeBase e f X.env (eval e X.env) = eval e X.env := by rfl) : PE X (.Attribute e f pos) (tFldC C ta f) := ⟨fun pins s σ H Q I h =>
  attr_of hb (thn (he.run pins s σ H _ I h) fun u s1 ⟨x, H1, I1, rx, a, dx, fs, v, ex, ea, l, q⟩ => by
    cases ex
    have eu : u = Value.ref a := rx
    cases eu
    exact getattr_ok I1 ea c n l fun u' s2 I2 ru => ⟨v, H1, I2, ru, q⟩)⟩
theorem ps_fldC (ha : PE X o ta) (hv : PE X value tv) (c : Cls X.K C) (n : NoAttr X.K C f) (hs : swapsWith value (some (.Attribute o f pos')) pos.line X.env = pure false := by rfl) : PS X (.Assign [.Attribute o f pos'] value pos) (sFldC C ta tv f) := ⟨fun pins s σ H D I h =>
  plainObj_wpAny_Assign_Attribute (thn (hv.run pins s σ H _ I h) fun u s1 ⟨y, H1, I1, ry, q⟩ => thn (ha.run pins s1 σ H1 _ I1 q) fun ov s2 ⟨x, H2, I2, rx, a, dx, fs, ex, ea, l, q2⟩ => by
    cases ex
    have eu : ov = Value.ref a := rx
    cases eu
    exact setattr_ok I2 ea c n l ry fun s3 I3 => ⟨σ, _, I3, q2⟩) hs⟩
theorem ps_fldaugC (ha : PE X o ta) (hv : PE X value tv) (c : Cls X.K C) (n : NoAttr X.K C f) : PS X (.AugAssign (.Attribute o f tpos) .Add value pos) (sFldAugC C ta tv f) := ⟨fun pins s σ H D I h =>
  wpAny_AugAssign_AttributeAny (thn (ha.run pins s σ H _ I h) fun ov s1 ⟨x, H1, I1, rx, a, dx, fs, i, ex, ea, l, q⟩ => by
    cases ex
    have eu : ov = Value.ref a := rx
    cases eu
    refine getattr_ok I1 ea c n l fun u s2 I2 ru => thn (hv.run pins s2 σ H1 _ I2 q) fun w3 s3 ⟨y, H2, I3, ry, j, dx', fs', ey, ea', l', q4⟩ => ?_
    cases ey
    refine thn (ip_add pins s3 σ H2 (.int i) (.int j) u w3 (fun z H3 => z = .int (i + j) ∧ H3 = H2) I3 ru ry ⟨i, j, rfl, rfl, rfl, rfl⟩) fun w4 s4 ⟨z, H3, I4, rz, ez, eh⟩ => ?_
    cases ez
    cases eh
    exact setattr_ok I4 ea' c n l' rz fun s5 I5 => ⟨σ, _, I5, q4⟩)⟩
variable {k : Nat} {Cn m x : Str} {ps : List Str} {sp : Sp} {es : List Expr} {t : TA} {apos p : Pos}
theorem pe_propO (F : OkP X.prog X.w X.K X.mg X.base CX0 k Cn f sp) (hr : Room (k + 1) X.A) (he : PE X e ta) (hx : Passes CX0 X.nox E0) (hab : attributeBase e f X.env (eval e X.env) = eval e X.env := by rfl) : PE X (.Attribute e f pos) (tProp1 (He.ga X.K Cn) sp ta) := by
  obtain ⟨c, hp, fd, b, G⟩ := F
  exact pe_prop he c hp G hr b .nil hx hab
end
end Bs

namespace Bs
open PySem PySem.Spec L2 Sem
open PyProof.Rows hiding St
/-! ### an own exception class: made, stored, raised, its field read -/
def oexB (K : PySem.W.Frag) (C : Addr) : Bool := (match K.lookup C with
  | some o => decide (o.cls = .type "type") && (decide (o.slots.toList.length = 6) && (decide (o.slots.toList[4]? = some (some (.builtin "ValueError.__new__"))) && (match o.data with
      | .cls cd => decide (cd.mro.head? = some (.ref C)) && (PySem.HandSPX.refsVE cd.mro.tail && (cd.hasDict && !cd.hasDel))
      | _ => false)))
  | none => false) && (decide (PySem.W.findIn K (.ref C) "__setattr__" = some (some (.builtin "object.__setattr__"))) && (decide (PySem.W.subIn K (.ref C) (.type "BaseException") = some true) &&
    (decide (PySem.W.typeIn K (.ref C) = some (.type "type")) && PySem.W.keepIn K (.ref C))))
theorem len_cons {α : Type} {l : List α} {n : Nat} (h : l.length = n + 1) : ∃ a r, l = a :: r ∧ r.length = n := by
  cases l with
  | nil => cases h
  | cons a r => exact ⟨a, r, rfl, Nat.succ.inj h⟩
theorem oexB_ok {K : PySem.W.Frag} {C : Addr} (h : oexB K C = true) : OexC K C := by
  unfold oexB at h
  obtain ⟨h1, h⟩ := Bool.and_eq_true_iff.mp h
  obtain ⟨h2, h⟩ := Bool.and_eq_true_iff.mp h
  obtain ⟨h3, h⟩ := Bool.and_eq_true_iff.mp h
  obtain ⟨h4, h5⟩ := Bool.and_eq_true_iff.mp h
  refine ⟨?_, of_decide_eq_true h2, of_decide_eq_true h3, of_decide_eq_true h4, h5⟩
  cases hz : K.lookup C with
  | none =>
    rw [hz] at h1
    cases h1
  | some o =>
    rw [hz] at h1
    cases o with
    | mk oc od dt sl =>
      obtain ⟨a1, h1⟩ := Bool.and_eq_true_iff.mp h1
      obtain ⟨a2, h1⟩ := Bool.and_eq_true_iff.mp h1
      obtain ⟨a3, h1⟩ := Bool.and_eq_true_iff.mp h1
      have e1 : oc = .type "type" := of_decide_eq_true a1
      have e2 : sl.toList.length = 6 := of_decide_eq_true a2
      have e3 : sl.toList[4]? = some (some (.builtin "ValueError.__new__")) := of_decide_eq_true a3
      cases sl with
      | mk l =>
        obtain ⟨k0, l0, rfl, q0⟩ := len_cons e2
        obtain ⟨k1, l1, rfl, q1⟩ := len_cons q0
        obtain ⟨k2, l2, rfl, q2⟩ := len_cons q1
        obtain ⟨k3, l3, rfl, q3⟩ := len_cons q2
        obtain ⟨k4, l4, rfl, q4⟩ := len_cons q3
        obtain ⟨k5, l5, rfl, q5⟩ := len_cons q4
        have e5 : l5 = [] := List.eq_nil_of_length_eq_zero q5
        have e4 : k4 = some (.builtin "ValueError.__new__") := Option.some.inj e3
        subst e5 e4 e1
        cases dt with
        | cls cd =>
          obtain ⟨b1, h1⟩ := Bool.and_eq_true_iff.mp h1
          obtain ⟨b2, h1⟩ := Bool.and_eq_true_iff.mp h1
          obtain ⟨b3, b4⟩ := Bool.and_eq_true_iff.mp h1
          cases cd with
          | mk nm bs mro N q hd sn sub ab col hdel =>
            have f1 : mro.head? = some (.ref C) := of_decide_eq_true b1
            have f3 : hd = true := b3
            have f4 : hdel = false := by
              have b4 : (!hdel) = true := b4
              cases hdel with
              | false => rfl
              | true => cases b4
            cases mro with
            | nil => cases f1
            | cons D bm =>
              have f2 : D = .ref C := Option.some.inj f1
              subst f2 f3 f4
              exact ⟨nm, q, N, bs, bm, sn, sub, ab, col, od, k0, k1, k2, k3, k5, rfl, b2⟩
        | _ => cases h1
/-- self.f = e, the first one, of an exception that is being made -/
def tOstC (C : Addr) (f : Str) (to te : TE) : TS := fun D σ H => te σ H fun y H1 => to σ H1 fun x H2 => ∃ a, x = .ref a ∧ H2 a = some (exo a C none) ∧ ∀ dx, H2 dx = none → dx ≠ a → D.nx σ (upd (upd H2 dx (exd dx [(f, y)])) a (exo a C (some dx)))
theorem ps_ostC {X : Cx} {C : Addr} {f : Str} {o e : Expr} {to te : TE} {p' pos : Pos} (T : OexC X.K C) (hno : PySem.W.findIn X.K (.ref C) f = some none) (ho : PE X o to) (he : PE X e te) (hs : swapsWith e (some (.Attribute o f p')) pos.line X.env = pure false := by rfl) :
    PS X (.Assign [.Attribute o f p'] e pos) (tOstC C f to te) := ⟨fun pins s σ H D I h =>
  plainObj_wpAny_Assign_Attribute (thn (he.run pins s σ H _ I h) fun v s1 ⟨y, H1, I1, r1, q1⟩ => thn (ho.run pins s1 σ H1 _ I1 q1) fun u s2 ⟨x, H2, I2, r2, a, ex, ea, q⟩ => by
    cases ex
    have eu : u = Value.ref a := r2
    cases eu
    exact ost_new T I2 ea hno r1 fun dx s' n ne J => ⟨σ, _, J, q dx n ne⟩) hs⟩
/-- raise C(..) -/
def tRaiseX (C : Addr) (sp : Sp) (ta : TA) (E : XK) : TS := fun _ σ H => tMkO C sp [] ta σ H fun cls d H' => E cls d H'
def rIsC (C : Addr) : List V → Hp → VK → Prop := fun xs H Q => ∃ (a dx : Addr) (fs : List (Str × V)), xs = [.ref a, .ref C] ∧ H a = some (.ins C dx fs) ∧ Q (.bl true) H
/-- C(..) of an own exception class: its __init__ keeps sp -/
def OkX (P : Program) (w : World) (K : PySem.W.Frag) (mg : Str → Option Value) (base : Heap) (CX : CXT) (k : Nat) (C : Str) (ps : List Str) (sp : Sp) : Prop :=
  mg C = some (.ref (He.ga K C)) ∧ Meth K (He.ga K C) "__init__" (He.ma K (He.ga K C) "__init__") ∧ ∃ fd, Binds K fd ps [] ∧ FnOk P w K mg base CX k (He.ma K (He.ga K C) "__init__") fd ps sp
end Bs

namespace Bs
open PySem PySem.Spec L2 He
open PyProof.Rows hiding St
/-! ### what the head has to show of CannotDo and Session -/
def insB (K : PySem.W.Frag) (C : Addr) : Bool := decide (PySem.W.findIn K (.ref C) "__class__" = some (some (.builtin "object.__class__"))) && (decide (PySem.W.specialIn K (.builtin "object.__class__") "__get__" = some (some (.builtin "getset_descriptor.__get__"))) &&
  (decide (PySem.W.takesIn K (.builtin "object.__class__") = some true) && (decide (PySem.W.mroIn K C (.type "object") = some true) && decide (PySem.W.kitOne K (.ref C) (.ref C) = some true))))
theorem insB_ok {K : PySem.W.Frag} {C : Addr} (c : Cls K C) (h : insB K C = true) : C8.InsC K C := by
  unfold insB at h
  obtain ⟨h1, h⟩ := Bool.and_eq_true_iff.mp h
  obtain ⟨h2, h⟩ := Bool.and_eq_true_iff.mp h
  obtain ⟨h3, h⟩ := Bool.and_eq_true_iff.mp h
  obtain ⟨h4, h5⟩ := Bool.and_eq_true_iff.mp h
  exact ⟨c, of_decide_eq_true h1, of_decide_eq_true h2, of_decide_eq_true h3, of_decide_eq_true h4, of_decide_eq_true h5⟩
def exS (K : PySem.W.Frag) : Bool := oexB K (He.ga K "CannotDo") && (decide (PySem.W.typeIn K (.ref (He.ma K (He.ga K "CannotDo") "__init__")) = some (.type "function")) && (xfB K (He.ga K "CannotDo") && insB K (He.ga K "Session")))
section
variable {K : PySem.W.Frag}
theorem exS_oex (h : exS K = true) : OexC K (He.ga K "CannotDo") := oexB_ok (Bool.and_eq_true_iff.mp h).1
theorem exS_oexT (h : exS K = true) : PySem.W.typeIn K (.ref (He.ma K (He.ga K "CannotDo") "__init__")) = some (.type "function") := of_decide_eq_true (Bool.and_eq_true_iff.mp (Bool.and_eq_true_iff.mp h).2).1
theorem exS_xf (h : exS K = true) : XfC K (He.ga K "CannotDo") := xfB_ok (Bool.and_eq_true_iff.mp (Bool.and_eq_true_iff.mp (Bool.and_eq_true_iff.mp h).2).2).1
theorem exS_ins (c : Cls K (He.ga K "Session")) (h : exS K = true) : C8.InsC K (He.ga K "Session") := insB_ok c (Bool.and_eq_true_iff.mp (Bool.and_eq_true_iff.mp (Bool.and_eq_true_iff.mp h).2).2).2
end
end Bs

namespace Bs
open PySem PySem.Spec L2 Sem
open PyProof.Rows hiding St
/-! ### match over a text: written texts, and _ -/
def tCases : List (Option Str × TS) → Str → TS
  | [], _ => tNext
  | (none, t) :: _, _ => t
  | (some k, t) :: r, z => fun D σ H => if decide (z = k) = true then t D σ H else tCases r z D σ H
def tMatch (te : TE) (cs : List (Option Str × TS)) : TS := fun D σ H => te σ H fun x H1 => ∃ z, x = .str z ∧ tCases cs z D σ H1
inductive PCs (X : Cx) : List MatchCase → List (Option Str × TS) → Prop
  | nil : PCs X [] []
  | any {p : Pos} {b : List Stmt} {t : TS} {r : List MatchCase} (hb : PSs X b t) : PCs X (⟨.MatchAs none none p, none, b⟩ :: r) [(none, t)]
  | str {k : Str} {j : Nat} {p q : Pos} {b : List Stmt} {t : TS} {r : List MatchCase} {cs : List (Option Str × TS)} (hb : PSs X b t) (hr : PCs X r cs) : PCs X (⟨.MatchValue (.Constant (.str k) j p) q, none, b⟩ :: r) ((some k, t) :: cs)
theorem PCs.run {X : Cx} {l : List MatchCase} {cs : List (Option Str × TS)} (h : PCs X l cs) : ∀ (first : Bool) (pins : List (Addr × Obj)) (s : Shared) (σ : L2.St) (H : Hp) (D : Ends) (z : Str) (u : Value), L2.Inv X pins σ H s → RelV (.str z) u → tCases cs z D σ H →
    wpAny (model X.prog X.w) X.A (matchCases l X.env u first) (SP X pins D) X.xe s := by
  induction h with
  | nil => exact fun first pins s σ H D z u I r q => wpAny_matchCases_nil ⟨σ, H, I, q⟩
  | any hb => exact fun first pins s σ H D z u I r q => wpAny_matchCases_cons (wpAny_matchPattern_Capture (wpAny_assignInOrder_none (hb.run pins s σ H D I q)))
  | @str k j p q b t r cs hb hr ih =>
    intro first pins s σ H D z u I rz g
    refine wpAny_matchCases_cons (wpAny_matchPattern_Value (thn (pe_str.run pins s σ H (fun v H1 => v = .str k ∧ H1 = H) I ⟨rfl, rfl⟩) fun x s1 ⟨v, H1, I1, rx, ev, eh⟩ => ?_))
    cases ev
    cases eh
    refine thn (op_eq pins s1 σ H (.str z) (.str k) u x (fun v H1 => v = .bl (decide (z = k)) ∧ H1 = H) I1 rz rx ⟨rfl, ?_, rfl⟩) fun d s2 ⟨v, H1, I2, rd, ev, eh⟩ => ?_
    · congr 1
      by_cases e : z = k
      · rw [decide_eq_true e, e, decide_eq_true rfl]
      · rw [decide_eq_false e, decide_eq_false (fun q => e (V.str.inj q))]
    cases ev
    cases eh
    cases rd
    refine wpAny_truthy_bool ?_
    have g2 : if decide (z = k) = true then t D σ H else tCases cs z D σ H := g
    cases hd : decide (z = k) with
    | true =>
      rw [hd, if_pos rfl] at g2
      rw [if_pos rfl]
      exact wpAny_assignInOrder_none (hb.run pins s2 σ H D I2 g2)
    | false =>
      rw [hd, if_neg Bool.false_ne_true] at g2
      rw [if_neg Bool.false_ne_true]
      exact ih false pins s2 σ H D z u I2 rz g2
theorem ps_match {X : Cx} {e : Expr} {te : TE} {l : List MatchCase} {cs : List (Option Str × TS)} {pos : Pos} (he : PE X e te) (h : PCs X l cs) : PS X (.Match e l pos) (tMatch te cs) := ⟨fun pins s σ H D I q =>
  wpAny_Match (thn (he.run pins s σ H _ I q) fun u s1 ⟨x, H1, I1, rx, z, ez, q1⟩ => by
    cases ez
    exact h.run true pins s1 σ H1 D z u I1 rx q1)⟩
section
variable {D : Ends} {σ : L2.St} {H : Hp} {te : TE} {cs : List (Option Str × TS)} {t : TS} {z k : Str}
theorem r_match (h : te σ H fun x H1 => ∃ z, x = .str z ∧ tCases cs z D σ H1) : tMatch te cs D σ H := h
theorem r_str {P : Str → Prop} (h : P z) : ∃ y, V.str z = .str y ∧ P y := ⟨z, rfl, h⟩
theorem r_caseY (h : t D σ H) : tCases ((some z, t) :: cs) z D σ H := by
  show if decide (z = z) = true then t D σ H else tCases cs z D σ H
  rw [decide_eq_true rfl, if_pos rfl]
  exact h
theorem r_caseN (n : ¬ z = k) (h : tCases cs z D σ H) : tCases ((some k, t) :: cs) z D σ H := by
  show if decide (z = k) = true then t D σ H else tCases cs z D σ H
  rw [decide_eq_false n, if_neg Bool.false_ne_true]
  exact h
theorem r_caseA (h : t D σ H) : tCases ((none, t) :: cs) z D σ H := h
end
end Bs

namespace Bl
/-! ### lists of operations -/
inductive Op where
  | go (k : Int)
  | keep
  | take (x : Int)
  | free (x : Int)
  | back
structure Tr where
  hand : Int
  kept : List Int
  steps : Int
  backs : Int
def ini : Tr := ⟨0, [0], 0, 0⟩
def can (n s : Int) (t : Tr) : Op → Bool
  | .go k => decide (t.hand + k < n)
  | .keep => !decide (t.hand ∈ t.kept) && decide ((t.kept.length : Int) < s)
  | .back => decide (t.backs < n) && decide (t.hand = n - 1 - t.backs)
  | .take x => decide (x ∈ t.kept)
  | .free x => decide (x ∈ t.kept)
def step (t : Tr) : Op → Tr
  | .go k => ⟨t.hand + k, t.kept, t.steps + k, t.backs⟩
  | .keep => ⟨t.hand, t.kept ++ [t.hand], t.steps, t.backs⟩
  | .back => ⟨t.hand, t.kept, t.steps, t.backs + 1⟩
  | .take x => ⟨x, t.kept, t.steps, t.backs⟩
  | .free x => ⟨t.hand, t.kept.erase x, t.steps, t.backs⟩
/-- its number or state is in bounds -/
def okOp : Op → Prop
  | .go k => 1 ≤ k ∧ k ≤ 1000000000000000000000000000000
  | .take x => 0 ≤ x ∧ x ≤ 1000000000000000000000000000000
  | .free x => 0 ≤ x ∧ x ≤ 1000000000000000000000000000000
  | _ => True
def run (t : Tr) (ops : List Op) : Tr := ops.foldl step t
def scan : Tr → List Op → List Tr
  | t, [] => [t]
  | t, o :: r => t :: scan (step t o) r
def Can (n s : Int) : Tr → List Op → Prop
  | _, [] => True
  | t, o :: r => can n s t o = true ∧ Can n s (step t o) r
def wrong (n s : Int) : Tr → List Op → Option Nat
  | _, [] => none
  | t, o :: r => if can n s t o = true then (wrong n s (step t o) r).map (· + 1) else some 0
def gos : Tr → List Op → List (Int × Int)
  | _, [] => []
  | t, .go k :: r => (t.hand, t.hand + k) :: gos (step t (.go k)) r
  | t, o :: r => gos (step t o) r
theorem run_nil {t : Tr} : run t [] = t := rfl
theorem run_cons {t : Tr} {o : Op} {r : List Op} : run t (o :: r) = run (step t o) r := rfl
theorem run_app {t : Tr} {xs ys : List Op} : run t (xs ++ ys) = run (run t xs) ys := List.foldl_append
theorem Can_app {n s : Int} : ∀ {t : Tr} {xs ys : List Op}, Can n s t (xs ++ ys) ↔ Can n s t xs ∧ Can n s (run t xs) ys
  | t, [], ys => ⟨fun h => ⟨trivial, h⟩, fun h => h.2⟩
  | t, x :: xs, ys => by
    show can n s t x = true ∧ Can n s (step t x) (xs ++ ys) ↔ (can n s t x = true ∧ Can n s (step t x) xs) ∧ Can n s (run (step t x) xs) ys
    rw [Can_app]
    exact ⟨fun h => ⟨⟨h.1, h.2.1⟩, h.2.2⟩, fun h => ⟨h.1.1, h.1.2, h.2⟩⟩
theorem Can_snoc {n s : Int} {t : Tr} {xs : List Op} {o : Op} (h : Can n s t xs) (c : can n s (run t xs) o = true) : Can n s t (xs ++ [o]) := Can_app.mpr ⟨h, c, trivial⟩
theorem Can_take {n s : Int} {t : Tr} {xs : List Op} (h : Can n s t xs) (i : Nat) : Can n s t (xs.take i) := by
  have e : xs = xs.take i ++ xs.drop i := (List.take_append_drop i xs).symm
  rw [e] at h
  exact (Can_app.mp h).1
theorem take_snoc {α : Type} {xs : List α} {i : Nat} {o : α} (h : xs[i]? = some o) : xs.take (i + 1) = xs.take i ++ [o] := by
  obtain ⟨hi, e⟩ := List.getElem?_eq_some_iff.mp h
  rw [List.take_add_one, h]
  rfl
theorem Can_at {n s : Int} {t : Tr} {xs : List Op} (h : Can n s t xs) {i : Nat} {o : Op} (e : xs[i]? = some o) : can n s (run t (xs.take i)) o = true := by
  have := Can_take h (i + 1)
  rw [take_snoc e] at this
  exact (Can_app.mp this).2.1
theorem wrong_none {n s : Int} : ∀ {t : Tr} {xs : List Op}, Can n s t xs → wrong n s t xs = none
  | t, [], _ => rfl
  | t, x :: xs, h => by
    show (if can n s t x = true then (wrong n s (step t x) xs).map (· + 1) else some 0) = none
    rw [if_pos h.1, wrong_none h.2]
    rfl
theorem wrong_at {n s : Int} : ∀ {t : Tr} {xs : List Op} {i : Nat} {o : Op}, Can n s t (xs.take i) → xs[i]? = some o → can n s (run t (xs.take i)) o = false → wrong n s t xs = some i
  | t, [], i, o, _, e, _ => by simp at e
  | t, x :: xs, 0, o, _, e, c => by
    have e : x = o := by simpa using e
    subst e
    show (if can n s t x = true then (wrong n s (step t x) xs).map (· + 1) else some 0) = some 0
    rw [if_neg (by rw [show can n s t x = false from c]; exact Bool.false_ne_true)]
  | t, x :: xs, i + 1, o, h, e, c => by
    have h1 : can n s t x = true ∧ Can n s (step t x) (xs.take i) := h
    show (if can n s t x = true then (wrong n s (step t x) xs).map (· + 1) else some 0) = some (i + 1)
    rw [if_pos h1.1, wrong_at h1.2 (by simpa using e) c]
    rfl
theorem scan_len : ∀ {t : Tr} {xs : List Op}, (scan t xs).length = xs.length + 1
  | t, [] => rfl
  | t, x :: xs => by
    show (scan (step t x) xs).length + 1 = xs.length + 1 + 1
    rw [scan_len]
theorem scan_at : ∀ {t : Tr} {xs : List Op} {i : Nat}, i ≤ xs.length → (scan t xs)[i]? = some (run t (xs.take i))
  | t, [], 0, _ => rfl
  | t, [], i + 1, h => by simp at h
  | t, x :: xs, 0, _ => rfl
  | t, x :: xs, i + 1, h => by
    show (scan (step t x) xs)[i]? = some (run (step t x) (xs.take i))
    exact scan_at (by simpa using h)
theorem scan_snoc : ∀ {t : Tr} {xs : List Op} {o : Op}, scan t (xs ++ [o]) = scan t xs ++ [run t (xs ++ [o])]
  | t, [], o => rfl
  | t, x :: xs, o => by
    show t :: scan (step t x) (xs ++ [o]) = t :: (scan (step t x) xs ++ [run (step t x) (xs ++ [o])])
    rw [scan_snoc]
theorem gos_app : ∀ {t : Tr} {xs ys : List Op}, gos t (xs ++ ys) = gos t xs ++ gos (run t xs) ys
  | t, [], ys => rfl
  | t, .go k :: xs, ys => by
    show (t.hand, t.hand + k) :: gos (step t (.go k)) (xs ++ ys) = (t.hand, t.hand + k) :: (gos (step t (.go k)) xs ++ gos (run (step t (.go k)) xs) ys)
    rw [gos_app]
  | t, .keep :: xs, ys => gos_app (t := step t .keep)
  | t, .take x :: xs, ys => gos_app (t := step t (.take x))
  | t, .free x :: xs, ys => gos_app (t := step t (.free x))
  | t, .back :: xs, ys => gos_app (t := step t .back)
/-- in bounds -/
structure InB (n s : Int) (t : Tr) : Prop where
  h0 : 0 ≤ t.hand
  h1 : t.hand < n
  kb : ∀ x ∈ t.kept, 0 ≤ x ∧ x < n
  nd : t.kept.Nodup
  kl : (t.kept.length : Int) ≤ s
  b0 : 0 ≤ t.backs
  b1 : t.backs ≤ n
theorem ini_inB {n s : Int} (hn : 1 ≤ n) (hs : 1 ≤ s) : InB n s ini := ⟨Int.le_refl _, by show (0 : Int) < n; omega, fun x hx => by
  have e : x = 0 := by simpa [ini] using hx
  omega, by simp [ini], by simpa [ini] using hs, Int.le_refl _, by show (0 : Int) ≤ n; omega⟩
theorem step_inB {n s : Int} {t : Tr} {o : Op} (h : InB n s t) (k : okOp o) (c : can n s t o = true) : InB n s (step t o) := by
  obtain ⟨h0, h1, kb, nd, kl, b0, b1⟩ := h
  cases o with
  | go k' =>
    have c1 : t.hand + k' < n := of_decide_eq_true c
    have k1 : 1 ≤ k' ∧ _ := k
    exact ⟨by show 0 ≤ t.hand + k'; omega, c1, kb, nd, kl, b0, b1⟩
  | keep =>
    have c0 : (!decide (t.hand ∈ t.kept) && decide ((t.kept.length : Int) < s)) = true := c
    rw [Bool.and_eq_true, Bool.not_eq_true'] at c0
    have c1 : ¬ t.hand ∈ t.kept := of_decide_eq_false c0.1
    have c2 : (t.kept.length : Int) < s := of_decide_eq_true c0.2
    refine ⟨h0, h1, fun x hx => ?_, ?_, ?_, b0, b1⟩
    · rcases List.mem_append.mp hx with z | z
      · exact kb x z
      · have e : x = t.hand := by simpa using z
        rw [e]
        exact ⟨h0, h1⟩
    · show (t.kept ++ [t.hand]).Nodup
      rw [List.nodup_append]
      refine ⟨nd, by simp, fun a ha b hb => ?_⟩
      have e : b = t.hand := by simpa using hb
      rw [e]
      rintro rfl
      exact c1 ha
    · show ((t.kept ++ [t.hand]).length : Int) ≤ s
      rw [List.length_append]
      show ((t.kept.length + 1 : Nat) : Int) ≤ s
      omega
  | take x =>
    have c1 : x ∈ t.kept := of_decide_eq_true c
    exact ⟨(kb x c1).1, (kb x c1).2, kb, nd, kl, b0, b1⟩
  | free x =>
    have hl : (t.kept.erase x).length ≤ t.kept.length := (List.erase_sublist).length_le
    exact ⟨h0, h1, fun y hy => kb y (List.mem_of_mem_erase hy), nd.erase x, by show ((t.kept.erase x).length : Int) ≤ s; omega, b0, b1⟩
  | back =>
    have c0 : (decide (t.backs < n) && decide (t.hand = n - 1 - t.backs)) = true := c
    rw [Bool.and_eq_true] at c0
    have c1 : t.backs < n := of_decide_eq_true c0.1
    exact ⟨h0, h1, kb, nd, kl, by show 0 ≤ t.backs + 1; omega, by show t.backs + 1 ≤ n; omega⟩
theorem run_inB {n s : Int} : ∀ {t : Tr} {xs : List Op}, InB n s t → (∀ o ∈ xs, okOp o) → Can n s t xs → InB n s (run t xs)
  | t, [], h, _, _ => h
  | t, x :: xs, h, k, c => run_inB (t := step t x) (xs := xs) (step_inB h (k x List.mem_cons_self) c.1) (fun o ho => k o (List.mem_cons_of_mem _ ho)) c.2
/-- steps are few -/
theorem run_steps {n s : Int} : ∀ {t : Tr} {xs : List Op}, InB n s t → (∀ o ∈ xs, okOp o) → Can n s t xs → t.steps ≤ (run t xs).steps ∧ (run t xs).steps ≤ t.steps + xs.length * n
  | t, [], h, _, _ => ⟨Int.le_refl _, by show t.steps ≤ t.steps + ((0 : Nat) : Int) * n; simp⟩
  | t, x :: xs, h, k, c => by
    have ih := run_steps (step_inB h (k x List.mem_cons_self) c.1) (fun o ho => k o (List.mem_cons_of_mem _ ho)) c.2
    have n0 : 0 < n := by have := h.h0; have := h.h1; omega
    have e1 : (((x :: xs).length : Nat) : Int) * n = xs.length * n + n := by
      rw [List.length_cons]
      push_cast
      rw [Int.add_mul, Int.one_mul]
    have d : t.steps ≤ (step t x).steps ∧ (step t x).steps ≤ t.steps + n := by
      cases x with
      | go k' =>
        have c1 : t.hand + k' < n := of_decide_eq_true c.1
        have k1 : 1 ≤ k' ∧ _ := k (.go k') List.mem_cons_self
        have := h.h0
        exact ⟨by show t.steps ≤ t.steps + k'; omega, by show t.steps + k' ≤ t.steps + n; omega⟩
      | _ => exact ⟨Int.le_refl _, by show t.steps ≤ t.steps + n; omega⟩
    rw [run_cons, e1]
    omega
theorem sorted_eq {a b c : List Int} (h1 : a.Perm c) (h2 : b.Perm c) (p1 : a.Pairwise (· ≤ ·)) (p2 : b.Pairwise (· ≤ ·)) : a = b :=
  List.Perm.eq_of_pairwise (fun _ _ _ _ x y => Int.le_antisymm x y) p1 p2 (h1.trans h2.symm)
end Bl

namespace Bl
/-! ### the law's own box -/
structure Bx where
  hand : Int
  held : List Int
  spent : Int
  gone : Int
  most : Int
  goes : List (Int × Int)
def bini : Bx := ⟨0, [0], 0, 0, 1, []⟩
def Bx.tr (b : Bx) : Tr := ⟨b.hand, b.held, b.spent, b.gone⟩
def bst (b : Bx) : Op → Bx → Prop
  | .go k, b' => b' = ⟨b.hand + k, b.held, b.spent + k, b.gone, b.most, b.goes ++ [(b.hand, b.hand + k)]⟩
  | .keep, b' => ∃ ks : List Int, ks.Perm (b.held ++ [b.hand]) ∧ ks.Pairwise (· ≤ ·) ∧ b' = ⟨b.hand, ks, b.spent, b.gone, max b.most ks.length, b.goes⟩
  | .take x, b' => b' = ⟨x, b.held, b.spent, b.gone, b.most, b.goes⟩
  | .free x, b' => b' = ⟨b.hand, b.held.filter (fun y => !decide (y = x)), b.spent, b.gone, b.most, b.goes⟩
  | .back, b' => b' = ⟨b.hand, b.held, b.spent, b.gone + 1, b.most, b.goes⟩
def IsMx (m : Int) (ts : List Tr) : Prop := (∃ t ∈ ts, (t.kept.length : Int) = m) ∧ ∀ t ∈ ts, (t.kept.length : Int) ≤ m
structure Rel (n s : Int) (b : Bx) (ops : List Op) : Prop where
  can : Can n s ini ops
  hand : b.hand = (run ini ops).hand
  perm : b.held.Perm (run ini ops).kept
  sort : b.held.Pairwise (· ≤ ·)
  spent : b.spent = (run ini ops).steps
  gone : b.gone = (run ini ops).backs
  most : IsMx b.most (scan ini ops)
  goes : b.goes = gos ini ops
  ok : ∀ o ∈ ops, okOp o
theorem Rel.ini {n s : Int} : Rel n s bini [] := ⟨trivial, rfl, List.Perm.refl _, by simp [bini], rfl, rfl, ⟨⟨Bl.ini, List.mem_cons_self, rfl⟩, fun t ht => by
  have e : t = Bl.ini := by simpa [scan] using ht
  rw [e]
  exact Int.le_refl _⟩, rfl, fun o ho => by simp at ho⟩
theorem can_perm {n s : Int} {b : Bx} {ops : List Op} (h : Rel n s b ops) (o : Op) : can n s b.tr o = can n s (run Bl.ini ops) o := by
  cases o with
  | go k =>
    show decide (b.hand + k < n) = decide ((run Bl.ini ops).hand + k < n)
    rw [h.hand]
  | keep =>
    show (!decide (b.hand ∈ b.held) && decide ((b.held.length : Int) < s)) = (!decide ((run Bl.ini ops).hand ∈ (run Bl.ini ops).kept) && decide (((run Bl.ini ops).kept.length : Int) < s))
    rw [h.hand, h.perm.length_eq, decide_eq_decide.mpr h.perm.mem_iff]
  | take x => exact decide_eq_decide.mpr h.perm.mem_iff
  | free x => exact decide_eq_decide.mpr h.perm.mem_iff
  | back =>
    show (decide (b.gone < n) && decide (b.hand = n - 1 - b.gone)) = (decide ((run Bl.ini ops).backs < n) && decide ((run Bl.ini ops).hand = n - 1 - (run Bl.ini ops).backs))
    rw [h.hand, h.gone]
theorem IsMx.snoc {m : Int} {ts : List Tr} {t : Tr} (h : IsMx m ts) (ht : (t.kept.length : Int) ≤ m) : IsMx m (ts ++ [t]) := by
  obtain ⟨⟨u, h1, h2⟩, h3⟩ := h
  refine ⟨⟨u, List.mem_append_left _ h1, h2⟩, fun v hv => ?_⟩
  rcases List.mem_append.mp hv with z | z
  · exact h3 v z
  · have e : v = t := by simpa using z
    rw [e]
    exact ht
theorem IsMx.max {m : Int} {ts : List Tr} {t : Tr} (h : IsMx m ts) : IsMx (max m (t.kept.length : Int)) (ts ++ [t]) := by
  obtain ⟨⟨u, h1, h2⟩, h3⟩ := h
  refine ⟨?_, fun v hv => ?_⟩
  · by_cases c : (t.kept.length : Int) ≤ m
    · exact ⟨u, List.mem_append_left _ h1, by omega⟩
    · exact ⟨t, List.mem_append_right _ List.mem_cons_self, by omega⟩
  · rcases List.mem_append.mp hv with z | z
    · have := h3 v z
      omega
    · have e : v = t := by simpa using z
      rw [e]
      omega
theorem IsMx.one {m m' : Int} {ts : List Tr} (h : IsMx m ts) (h' : IsMx m' ts) : m = m' := by
  obtain ⟨⟨u, h1, h2⟩, h3⟩ := h
  obtain ⟨⟨u', h1', h2'⟩, h3'⟩ := h'
  have := h3 u' h1'
  have := h3' u h1
  omega
theorem last_scan {t : Tr} {ops : List Op} : run t ops ∈ scan t ops := by
  have h := scan_at (t := t) (xs := ops) (i := ops.length) (Nat.le_refl _)
  rw [List.take_length] at h
  exact List.mem_of_getElem? h
theorem Rel.step {n s : Int} {b b' : Bx} {ops : List Op} {o : Op} (h : Rel n s b ops) (nd : (run Bl.ini ops).kept.Nodup) (ok : okOp o) (c : Bl.can n s (run Bl.ini ops) o = true) (hb : bst b o b') : Rel n s b' (ops ++ [o]) := by
  obtain ⟨h1, h2, h3, h4, h5, h6, h7, h8, h9⟩ := h
  have ok' : ∀ u ∈ ops ++ [o], okOp u := fun u hu => by
    rcases List.mem_append.mp hu with z | z
    · exact h9 u z
    · have e : u = o := by simpa using z
      rw [e]
      exact ok
  have lst := h7.2 _ (last_scan (t := Bl.ini) (ops := ops))
  have cn := Can_snoc h1 c
  have rn : run Bl.ini (ops ++ [o]) = Bl.step (run Bl.ini ops) o := run_app
  cases o with
  | go k =>
    have hb : b' = ⟨b.hand + k, b.held, b.spent + k, b.gone, b.most, b.goes ++ [(b.hand, b.hand + k)]⟩ := hb
    subst hb
    refine ⟨cn, ?_, ?_, h4, ?_, ?_, ?_, ?_, ok'⟩
    · rw [rn]; show b.hand + k = (run Bl.ini ops).hand + k; rw [h2]
    · rw [rn]; exact h3
    · rw [rn]; show b.spent + k = (run Bl.ini ops).steps + k; rw [h5]
    · rw [rn]; exact h6
    · rw [scan_snoc, rn]; exact h7.snoc lst
    · rw [gos_app, ← h8]; show b.goes ++ [(b.hand, b.hand + k)] = b.goes ++ [((run Bl.ini ops).hand, (run Bl.ini ops).hand + k)]; rw [h2]
  | keep =>
    obtain ⟨ks, k1, k2, hb⟩ : ∃ ks : List Int, ks.Perm (b.held ++ [b.hand]) ∧ ks.Pairwise (· ≤ ·) ∧ b' = ⟨b.hand, ks, b.spent, b.gone, Max.max b.most ks.length, b.goes⟩ := hb
    subst hb
    have pk : ks.Perm ((run Bl.ini ops).kept ++ [(run Bl.ini ops).hand]) := by
      rw [← h2]
      exact k1.trans (h3.append_right _)
    refine ⟨cn, ?_, ?_, k2, ?_, ?_, ?_, ?_, ok'⟩
    · rw [rn]; exact h2
    · rw [rn]; exact pk
    · rw [rn]; exact h5
    · rw [rn]; exact h6
    · rw [scan_snoc, rn, pk.length_eq]
      exact h7.max (t := Bl.step (run Bl.ini ops) .keep)
    · rw [gos_app, ← h8]; exact (List.append_nil _).symm
  | take x =>
    have hb : b' = ⟨x, b.held, b.spent, b.gone, b.most, b.goes⟩ := hb
    subst hb
    refine ⟨cn, ?_, ?_, h4, ?_, ?_, ?_, ?_, ok'⟩
    · rw [rn]; rfl
    · rw [rn]; exact h3
    · rw [rn]; exact h5
    · rw [rn]; exact h6
    · rw [scan_snoc, rn]; exact h7.snoc lst
    · rw [gos_app, ← h8]; exact (List.append_nil _).symm
  | free x =>
    have hb : b' = ⟨b.hand, b.held.filter (fun y => !decide (y = x)), b.spent, b.gone, b.most, b.goes⟩ := hb
    subst hb
    refine ⟨cn, ?_, ?_, h4.filter _, ?_, ?_, ?_, ?_, ok'⟩
    · rw [rn]; exact h2
    · rw [rn]
      show (b.held.filter (fun y => !decide (y = x))).Perm ((run Bl.ini ops).kept.erase x)
      rw [nd.erase_eq_filter]
      have e : (fun y : Int => !decide (y = x)) = fun y => y != x := by
        funext y
        by_cases z : y = x
        · simp [z]
        · simp [z]
      rw [e]
      exact h3.filter _
    · rw [rn]; exact h5
    · rw [rn]; exact h6
    · rw [scan_snoc, rn]
      refine h7.snoc ?_
      have : ((run Bl.ini ops).kept.erase x).length ≤ (run Bl.ini ops).kept.length := List.erase_sublist.length_le
      show (((run Bl.ini ops).kept.erase x).length : Int) ≤ _
      omega
    · rw [gos_app, ← h8]; exact (List.append_nil _).symm
  | back =>
    have hb : b' = ⟨b.hand, b.held, b.spent, b.gone + 1, b.most, b.goes⟩ := hb
    subst hb
    refine ⟨cn, ?_, ?_, h4, ?_, ?_, ?_, ?_, ok'⟩
    · rw [rn]; exact h2
    · rw [rn]; exact h3
    · rw [rn]; exact h5
    · rw [rn]; show b.gone + 1 = (run Bl.ini ops).backs + 1; rw [h6]
    · rw [scan_snoc, rn]; exact h7.snoc lst
    · rw [gos_app, ← h8]; exact (List.append_nil _).symm
theorem Rel.inB {n s : Int} {b : Bx} {ops : List Op} (h : Rel n s b ops) (hn : 1 ≤ n) (hs : 1 ≤ s) : InB n s (run Bl.ini ops) := run_inB (ini_inB hn hs) h.ok h.can
theorem gos_len : ∀ {t : Tr} {ops : List Op}, (gos t ops).length ≤ ops.length
  | t, [] => Nat.le_refl _
  | t, .go k :: r => Nat.succ_le_succ (gos_len (t := step t (.go k)))
  | t, .keep :: r => Nat.le_succ_of_le (gos_len (t := step t .keep))
  | t, .take x :: r => Nat.le_succ_of_le (gos_len (t := step t (.take x)))
  | t, .free x :: r => Nat.le_succ_of_le (gos_len (t := step t (.free x)))
  | t, .back :: r => Nat.le_succ_of_le (gos_len (t := step t .back))
end Bl

namespace Bs
open PySem PySem.Spec L2 Sem Bl
open PyProof.Rows hiding St
/-! ### the table of words -/
def wordV : List (Str × V) := [("go", .int 1), ("keep", .non), ("take", .int 0), ("free", .int 0), ("back", .non)]
def wordD : List (Str × He.Dv) := [("go", .int 1), ("keep", .non), ("take", .int 0), ("free", .int 0), ("back", .non)]
structure WordsOk (K : PySem.W.Frag) (w : World) : Prop where
  kd : ∃ es n, KDict K w (He.ga K "WORDS") es n
  vals : ∀ z v, (z, v) ∈ wordV → ∃ u, PySem.W.nsIn K (He.ga K "WORDS") z = some (some u) ∧ RelV v u
theorem wordsOk {K : PySem.W.Frag} {w : World} (kd : ∃ es n, KDict K w (He.ga K "WORDS") es n) (h : He.valsB K (He.ga K "WORDS") wordD = true) : WordsOk K w := ⟨kd, fun z v m => by
  have g : ∀ q ∈ wordD, ∃ u, PySem.W.nsIn K (He.ga K "WORDS") q.1 = some (some u) ∧ RelV (q.2.v K) u := fun q hq => He.valsB_ok h hq
  have m2 : (z, v) ∈ wordD.map (fun q => (q.1, q.2.v K)) := m
  obtain ⟨q, hq, e⟩ := List.mem_map.mp m2
  cases e
  exact g q hq⟩
def rWnot (K : PySem.W.Frag) : R2 := fun x y H Q => ∃ z v, x = .str z ∧ y = .ref (He.ga K "WORDS") ∧ (z, v) ∈ wordV ∧ Q (.bl false) H
def rWget (K : PySem.W.Frag) : R2 := fun x y H Q => ∃ z v, x = .ref (He.ga K "WORDS") ∧ y = .str z ∧ (z, v) ∈ wordV ∧ Q v H
abbrev oList (K : PySem.W.Frag) : List V → Hp → VK → Prop := fun xs H Q => ∃ p ys, xs = [.ref p] ∧ (SqL K H p ys ∨ SqT K H p ys) ∧ ∀ l, H l = none → Q (.ref l) (upd H l (.lst ys))
section
variable {X : Cx} {o i : Expr} {to ti : TE} {pos : Pos}
theorem op_notInW (W : WordsOk X.K X.w) : OpR X (compareOp .NotIn) (rWnot X.K) := by
  intro pins s σ H x y v u Q I rx ry h
  obtain ⟨z, v0, ex, ey, m, q⟩ := h
  obtain ⟨es, n, D⟩ := W.kd
  obtain ⟨u0, e, r⟩ := W.vals z v0 m
  exact op_notIn_kd D pins s σ H x y v u Q I rx ry ⟨z, some u0, ex, ey, e, q⟩
theorem pe_ixW (W : WordsOk X.K X.w) (ha : PE X o to) (hb : PE X i ti) (hs : PlainIx i) : PE X (.Subscript o i pos) (tOp (rWget X.K) to ti) := by
  refine pe_ix (fun value slice pins s σ H x y v u Q I rx ry h hz => ?_) ha hb hs
  obtain ⟨z, v0, ex, ey, m, q⟩ := h
  obtain ⟨es, n, D⟩ := W.kd
  obtain ⟨u0, e, r⟩ := W.vals z v0 m
  subst ex ey
  cases rx
  obtain ⟨t, rfl⟩ := ry
  have hm := PySem.W.mapOf_K (prog := X.prog) (w := X.w) I.kIn D.at_ D.lit
  exact tail_any hm.typeIs slot_dict_getitem.lookup (wpAny_getItem_of (PySem.strKind_is X.prog X.w z t) hm (PySem.W.find_K D.at_ e) ⟨v0, H, I.tok _, r, q⟩) hz
end
end Bs

namespace K47
open PySem PySem.Spec L2 Bs
open PyProof.Rows hiding St

def top (i : Nat) : Stmt := PySem.Challenge.pw_backslots_k47_whole_sessions_and_lists.main.body.getD i (.Pass ⟨0, 0, 0, 0⟩)
/-! ### the head: facts by names, the run -/
abbrev R : PySem.W.OpenRow := PySem.W.OpenLaw.row PySem.Challenge.rw_backslots_k47_whole_sessions_and_lists
def mkD (x : Str) (i : Nat) : He.DefD := ⟨(x, none), x, x, defArgs (top i), defBody (top i), defScope (top i), [], []⟩
def mkM (C m q : Str) (i j : Nat) : He.DefD := ⟨(C, some m), m, q, defArgs (inClass (top i) j), defBody (inClass (top i) j), defScope (inClass (top i) j), [], []⟩
def fn : List He.DefD := ([mkD "is_int" 2, mkD "is_whole" 3, mkD "require_length" 16, mkD "require_slots" 17, mkD "require_task" 18, mkD "reach_of" 19, mkD "rounds_of" 20, mkD "steps_with" 22, mkD "least_of" 23, mkD "is_operation" 27, mkD "require_operations" 28, mkD "require_list" 30, mkD "wrong_of" 31, mkD "traces_of" 32, mkD "first_wrong" 33, mkD "steps_of" 34, mkD "backs_of" 35, mkD "extra_steps" 36, mkD "most_kept" 37, mkD "kept_behind" 38, mkD "_law_bag" 43, mkD "_law_pick" 44, mkD "_law_after" 46, mkD "_law_operation" 47, mkD "_law_called" 50, mkD "_law_told" 51, mkD "_law_tried" 53, mkD "_law_right" 54, mkD "law" 55, mkM "CannotDo" "__init__" "CannotDo.__init__" 7 0] : List He.DefD) ++ ([mkM "Trace" "__init__" "Trace.__init__" 29 0, mkM "Trace" "copied" "Trace.copied" 29 5, mkM "Trace" "can_do" "Trace.can_do" 29 6, mkM "Trace" "do" "Trace.do" 29 7, mkM "Session" "__init__" "Session.__init__" 41 0, mkM "Session" "__eq__" "Session.__eq__" 41 7, mkM "Session" "require_fit" "Session.require_fit" 41 9, mkM "Session" "perform" "Session.perform" 41 10, mkM "Session" "go" "Session.go" 41 11, mkM "Session" "keep" "Session.keep" 41 12, mkM "Session" "take" "Session.take" 41 13, mkM "Session" "free" "Session.free" 41 14, mkM "Session" "back" "Session.back" 41 15, mkM "Session" "log" "Session.log" 41 17] : List He.DefD)
def fa : List He.Fa := ([.glo "is_int", .glo "is_whole", .glo "require_length", .glo "require_slots", .glo "require_task", .glo "reach_of", .glo "rounds_of", .glo "steps_with", .glo "least_of", .glo "is_operation", .glo "require_operations", .glo "require_list", .glo "wrong_of", .glo "traces_of", .glo "first_wrong", .glo "steps_of", .glo "backs_of", .glo "extra_steps", .glo "most_kept", .glo "kept_behind", .glo "_law_bag", .glo "_law_pick", .glo "_law_after", .glo "_law_operation", .glo "_law_called", .glo "_law_told", .glo "_law_tried", .glo "_law_right", .glo "law", .free "isinstance"] : List He.Fa) ++ ([.free "int", .free "bool", .free "range", .free "tuple", .free "str", .free "len", .free "list", .free "enumerate", .free "sorted", .free "max", .int "MOST_LENGTH" 1000000000000000000000000000000, .int "MOST_SLOTS" 100, .int "MOST_OPERATIONS" 400, .int "MOST_NUMBER" 1000000000000000000000000000000, .glo "Trace", .cls "Trace", .mkr "Trace", .noat "Trace" "own_length", .noat "Trace" "own_slots", .noat "Trace" "own_hand", .noat "Trace" "own_kept", .noat "Trace" "own_steps", .noat "Trace" "own_backs", .glo "Session", .cls "Session", .mkr "Session", .noat "Session" "own_budget", .noat "Session" "own_length", .noat "Session" "own_slots", .noat "Session" "own_trace"] : List He.Fa) ++ ([.noat "Session" "own_calls", .meth "CannotDo" "__init__", .meth "Trace" "copied", .meth "Trace" "can_do", .meth "Trace" "do", .meth "Session" "__eq__", .meth "Session" "require_fit", .meth "Session" "perform", .meth "Session" "go", .meth "Session" "keep", .meth "Session" "take", .meth "Session" "free", .meth "Session" "back", .meth "Session" "log", .glo "WORDS", .glo "CannotDo", .noat "CannotDo" "operation", .exm "CannotDo" "CannotDo" true] : List He.Fa)
def ts : List He.Tab := [(fun K => He.ga K "WORDS", ["go", "keep", "take", "free", "back"])]
def gs : List Gt := ([(("Trace", "hand"), mkM "Trace" "hand" "Trace.hand" 29 1), (("Trace", "kept"), mkM "Trace" "kept" "Trace.kept" 29 2), (("Trace", "steps"), mkM "Trace" "steps" "Trace.steps" 29 3), (("Trace", "backs"), mkM "Trace" "backs" "Trace.backs" 29 4), (("Session", "hand"), mkM "Session" "hand" "Session.hand" 41 3), (("Session", "kept"), mkM "Session" "kept" "Session.kept" 41 4), (("Session", "steps"), mkM "Session" "steps" "Session.steps" 41 5), (("Session", "wanted"), mkM "Session" "wanted" "Session.wanted" 41 6)] : List Gt)
def ex (K : PySem.W.Frag) : Bool := He.valsB K (He.ga K "WORDS") wordD && exS K
abbrev hk : PySem.W.Hook := hookP 6 fa fn ts gs ex
def ob (s : PySem.W.SharedT) : AlP := obsPG 6 fa fn ts gs ex (HandSHeadRun.getT s)
theorem ob_eq (s : PySem.W.SharedT) : ob s = hk.obs s.abs := obsPG_eq (HandSHeadRun.getT_eq s)
def loose : List PySem.Str := (["_wall", "is_int", "is_whole", "SlotError", "InvalidOperations", "CannotDo", "OverBudget", "InvalidLength", "InvalidSlots", "InvalidState", "InvalidNumber", "MOST_LENGTH", "MOST_SLOTS", "require_length", "require_slots", "require_task", "reach_of", "rounds_of", "steps_with", "least_of", "MOST_OPERATIONS", "WORDS", "is_operation", "require_operations", "Trace", "require_list", "wrong_of", "traces_of", "first_wrong", "steps_of"] : List PySem.Str) ++ (["backs_of", "extra_steps", "most_kept", "kept_behind", "MOST_NUMBER", "Session", "_law_bag", "_law_pick", "_law_can", "_law_after", "_law_operation", "_law_text", "_law_least", "_law_called", "_law_told", "_law_due", "_law_tried", "_law_right"] : List PySem.Str)
def steps : Nat := 6000
theorem run_f (w : World) : HandSHeadRun.RunEq R (PySem.W.view R.prog [55]) hk ob steps loose (w.withFollow "special-get-raises" false) := by
  intro os
  kernel_rfl
theorem run_t (w : World) : HandSHeadRun.RunEq R (PySem.W.view R.prog [55]) hk ob steps loose (w.withFollow "special-get-raises" true) := by
  intro os
  kernel_rfl
theorem run (w : World) : HandSHeadRun.RunEq R (PySem.W.view R.prog [55]) hk ob steps loose w :=
  PySem.W.byRow2 "special-get-raises" (P := fun w => HandSHeadRun.RunEq R (PySem.W.view R.prog [55]) hk ob steps loose w) run_f run_t w
end K47

namespace Bs
open PySem PySem.Spec L2 Bm
open PyProof.Rows hiding St
-- one step of a reading; side conditions; what a heap holds
local macro_rules | `(tactic| walk_at "sc") => `(tactic| (first
  | exact mulL ⟨by omega, by omega⟩ | exact mulR ⟨by omega, by omega⟩ | exact divS (by omega) (by omega) | exact (show (0 : Int) < _ by omega) | exact powS (b := 4) (by decide) (by decide) (by decide) (by decide) | assumption | omega))
local macro_rules | `(tactic| walk_at "ne") => `(tactic| (first
  | assumption | (apply Ne.symm; assumption) | exact ne_none (by assumption) (by walk_at "hp") | exact Ne.symm (ne_none (by assumption) (by walk_at "hp"))))
local macro_rules | `(tactic| walk_at "hp") => `(tactic| (first
  | assumption | exact upd_same | (refine (upd_ne ?k1).trans ?k2; (case k1 => walk_at "ne"); (case k2 => walk_at "hp")) | (refine Same.get (by assumption) ?_; walk_at "hp") | (refine But.get (by assumption) ?k1 ?k2; (case k1 => walk_at "hp"); (case k2 => walk_at "ne"))))
local macro_rules | `(tactic| walk_at "sq") => `(tactic| (first | assumption | exact SqL.of (by walk_at "hp") | exact SqT.of (by walk_at "hp")))
local macro_rules | `(tactic| walk_at "rd1") => `(tactic| (first
  | with_reducible refine r_seq ?_ | with_reducible refine r_asg ?_ | with_reducible refine r_asgG ?_ | with_reducible refine r_op ?_ | with_reducible refine r_var (by with_unfolding_all exact rfl) ?_ | with_reducible refine r_c ?_ | with_reducible refine r_I0 ?_ | with_reducible refine r_p30 ?_ | with_reducible refine r_p18 ?_ | with_reducible refine r_p12 ?_ | with_reducible refine r_p15 ?_ | with_reducible refine r_p9 ?_ | with_reducible refine r_p6 ?_ | with_reducible refine r_p64 ?_ | ((with_reducible refine r_I ?k1 ?k2); (case k1 => walk_at "sc")) | with_reducible refine r_U ?_ | with_reducible refine r_un ?_
  | with_reducible refine r_ret ?_ | with_reducible refine r_ifS ?_ | with_reducible refine r_test ?_ | with_reducible refine r_bl ?_ | with_reducible refine r_cb ?_ | with_reducible refine r_cons ?_ | with_reducible refine r_nil ?_ | with_reducible refine r_intI ?_ | with_reducible refine r_intB ?_ | refine r_max2' ?_ | refine r_min2' ?_ | with_reducible refine r_max3 ?_ | with_reducible refine r_min3 ?_
  | with_reducible refine r_call ?_ | with_reducible refine r_par ?_ | with_reducible refine r_and ?_ | with_reducible refine r_or ?_ | with_reducible refine r_not ?_ | with_reducible refine r_B ?_ | with_reducible refine r_andV ?_ | with_reducible refine r_orV ?_ | with_reducible refine r_notV ?_ | with_reducible refine r_ifE ?_ | with_reducible refine r_eqI ?_ | with_reducible refine r_neI ?_ | with_reducible refine r_eqB ?_ | with_reducible refine r_neB ?_ | with_reducible refine r_isN ?_ | with_reducible refine r_notN ?_
  | with_reducible refine r_chain ?_ | with_reducible refine r_chain3 ?_ | with_reducible refine r_drop ?_ | with_reducible refine r_next ?_ | with_reducible refine r_retN ?_ | with_reducible refine r_brk ?_ | with_reducible refine r_cont ?_ | with_reducible refine r_ex ?_
  | with_reducible refine r_tup ?_ | with_reducible refine r_lst ?_ | ((with_reducible refine r_new ?k1 ?k2); (case k1 => first | decide | exact Nat.le_of_ble_eq_true rfl)) | with_reducible refine r_sub ?_ | with_reducible refine r_gname ?_ | with_reducible refine r_gcons ?_ | with_reducible refine r_gnil ?_ | with_reducible refine r_slice ?_ | with_reducible refine r_noPart ?_ | with_reducible refine r_part ?_
  | with_reducible refine r_gtup (by with_unfolding_all walk_at "sq") (by with_unfolding_all exact rfl) ?_
  | with_reducible refine r_rng1 ?_ | with_reducible refine r_rng2 ?_ | ((with_reducible refine r_r1 ?k1 ?k2 ?k3); (case k1 => omega); (case k2 => omega)) | ((with_reducible refine r_r2 ?k1 ?k2); (case k1 => omega)) | with_reducible refine r_nonT ?_ | with_reducible refine r_nonI ?_ | with_reducible refine r_nonR ?_ | with_reducible refine r_notT ?_ | with_reducible refine r_notI ?_ | with_reducible refine r_notR ?_ | with_reducible refine r_for ?_ | with_reducible refine r_lc ?_ | with_reducible refine r_iL ?_ | with_reducible refine r_iT ?_ | with_reducible refine r_yesT ?_ | with_reducible refine r_same (by with_unfolding_all exact rfl) ?_ | with_reducible refine r_neS ?_ | with_reducible refine r_iteT ?_ | with_reducible refine r_iteF ?_ | with_reducible refine r_iteNT ?_ | with_reducible refine r_iteNF ?_))
local macro_rules | `(tactic| walk_at "rd") => `(tactic| repeat walk_at "rd1")
section
variable (K : PySem.W.Frag) {vs : List V} {H : Hp} {Q : VK} {E : XK}
theorem pure_is_int (h : sp_is_int K vs H Q E) : t_is_int K { nx := fun _ H' => Q .non H', rt := Q } (start n_is_int vs) H := by
  obtain ⟨i, rfl, q⟩ := h
  show t_is_int K _ [some (.int i)] H
  unfold t_is_int
  walk_at "rd"
  refine ⟨.int i, .ty "int", .type "int", .type "int", true, rfl, .ty _, .base (.int i), kit_ty (by decide +kernel), ?_⟩
  walk_at "rd"
  refine ⟨.int i, .ty "bool", .type "int", .type "bool", false, rfl, .ty _, .base (.int i), kit_ty (by decide +kernel), ?_⟩
  walk_at "rd"
  exact q
theorem pure_is_whole (h : sp_is_whole K vs H Q E) : t_is_whole K { nx := fun _ H' => Q .non H', rt := Q } (start n_is_whole vs) H := by
  obtain ⟨v, lo, hi, rfl, q⟩ := h
  show t_is_whole K _ [some (.int v), some (.int lo), some (.int hi)] H
  unfold t_is_whole
  walk_at "rd"
  refine ⟨v, rfl, ?_⟩
  walk_at "rd"
  refine r_ite (fun c => ?_) fun c => ?_
  · walk_at "rd"
    have e : decide (v ≤ hi) = decide (lo ≤ v ∧ v ≤ hi) := decide_eq_decide.mpr ⟨fun d => ⟨c, d⟩, fun d => d.2⟩
    rw [e]
    exact q
  · have e : decide (lo ≤ v ∧ v ≤ hi) = false := decide_eq_false fun d => c d.1
    rw [e] at q
    exact q
theorem pure_require_length (h : sp_require_length K vs H Q E) : t_require_length K { nx := fun _ H' => Q .non H', rt := Q } (start n_require_length vs) H := by
  obtain ⟨n, rfl, h1, h2, q⟩ := h
  show t_require_length K _ [some (.int n)] H
  unfold t_require_length
  walk_at "rd"
  refine ⟨n, _, _, rfl, ?_⟩
  rw [decide_eq_true ⟨h1, h2⟩]
  walk_at "rd"
  exact q
theorem pure_require_slots (h : sp_require_slots K vs H Q E) : t_require_slots K { nx := fun _ H' => Q .non H', rt := Q } (start n_require_slots vs) H := by
  obtain ⟨n, rfl, h1, h2, q⟩ := h
  show t_require_slots K _ [some (.int n)] H
  unfold t_require_slots
  walk_at "rd"
  refine ⟨n, _, _, rfl, ?_⟩
  rw [decide_eq_true ⟨h1, h2⟩]
  walk_at "rd"
  exact q
theorem pure_require_task (h : sp_require_task K vs H Q E) : t_require_task K { nx := fun _ H' => Q .non H', rt := Q } (start n_require_task vs) H := by
  obtain ⟨n, s, rfl, h1, h2, h3, h4, q⟩ := h
  show t_require_task K _ [some (.int n), some (.int s)] H
  unfold t_require_task
  walk_at "rd"
  refine ⟨n, rfl, h1, h2, ?_⟩
  walk_at "rd"
  refine ⟨s, rfl, h3, h4, ?_⟩
  exact q
theorem reach_turn {s r : Int} {i : Nat} (hi : i < s.toNat) (hs : s ≤ 110) (h : -1 ≤ r) (hr : r ≤ 2 ^ 110) : IntMulOk (rcI i r) (r + i + 1) ∧ rcI i r * (r + i + 1) / ((i : Int) + 1) = rcI ((i : Int) + 1) r := by
  constructor
  · exact mulW (a := 12300) (b := 112) (rcI_le (by omega) (by omega) h hr) (by omega) (by decide) (by decide) (by decide)
  · have e := rc_div (s := i) h
    unfold rcI
    rw [Int.toNat_natCast, show ((i : Int) + 1).toNat = i + 1 by omega]
    exact e
theorem pure_reach_of (h : sp_reach_of K vs H Q E) : t_reach_of K { nx := fun _ H' => Q .non H', rt := Q } (start n_reach_of vs) H := by
  obtain ⟨s, r, rfl, h1, h2, h3, h4, q⟩ := h
  show t_reach_of K _ [some (.int s), some (.int r), none, none] H
  unfold t_reach_of
  walk_at "rd"
  refine for_range (fun i σ H' => H' = H ∧ ∃ v, σ = [some (.int s), some (.int r), some (.int (rcI i r)), v]) ⟨rfl, none, ?_⟩ ?_ ?_
  · unfold rcI; rw [show ((0 : Nat) : Int).toNat = 0 from rfl, rc_0]; rfl
  · rintro i σ H' hi ⟨rfl, v, rfl⟩
    have hi' : i < s.toNat := by omega
    obtain ⟨a, b⟩ := reach_turn hi' (by omega) h3 h4
    walk_at "rd"
    refine r_I (by rw [show r + (1 + (i : Int)) = r + i + 1 by omega]; exact a) ?_
    walk_at "rd"
    refine ⟨rfl, some (.int (1 + (i : Int))), ?_⟩
    rw [show r + (1 + (i : Int)) = r + i + 1 by omega, show 1 + (i : Int) = (i : Int) + 1 by omega, b]
    rfl
  · rintro σ H' ⟨rfl, v, rfl⟩
    walk_at "rd"
    rw [show ((s + 1 - 1).toNat : Int) = s by omega]
    exact q
theorem pure_l_reach (h : sp_l_reach K vs H Q E) : t_l_reach K { nx := fun _ H' => Q .non H', rt := Q } (start n_l_reach vs) H := by
  obtain ⟨s, r, rfl, h1, h2, h3, h4, q⟩ := h
  show t_l_reach K _ [some (.int s), some (.int r), none, none] H
  unfold t_l_reach
  walk_at "rd"
  refine for_range (fun i σ H' => H' = H ∧ ∃ v, σ = [some (.int s), some (.int r), some (.int (rcI i r)), v]) ⟨rfl, none, ?_⟩ ?_ ?_
  · unfold rcI; rw [show ((0 : Nat) : Int).toNat = 0 from rfl, rc_0]; rfl
  · rintro i σ H' hi ⟨rfl, v, rfl⟩
    obtain ⟨a, b⟩ := reach_turn hi (by omega) h3 h4
    walk_at "rd"
    refine r_I (by rw [show r + (0 + (i : Int)) + 1 = r + i + 1 by omega]; exact a) ?_
    walk_at "rd"
    refine ⟨rfl, some (.int (0 + (i : Int))), ?_⟩
    rw [show r + (0 + (i : Int)) + 1 = r + i + 1 by omega, show 0 + (i : Int) + 1 = (i : Int) + 1 by omega, b]
    rfl
  · rintro σ H' ⟨rfl, v, rfl⟩
    walk_at "rd"
    rw [show (s.toNat : Int) = s by omega]
    exact q
end
end Bs

namespace Bs
open PySem PySem.Spec L2 Bm
open PyProof.Rows hiding St
-- one step of a reading; side conditions; what a heap holds
local macro_rules | `(tactic| walk_at "sc") => `(tactic| (first
  | exact mulL ⟨by omega, by omega⟩ | exact mulR ⟨by omega, by omega⟩ | exact divS (by omega) (by omega) | exact (show (0 : Int) < _ by omega) | exact powS (b := 4) (by decide) (by decide) (by decide) (by decide) | assumption | omega))
local macro_rules | `(tactic| walk_at "ne") => `(tactic| (first
  | assumption | (apply Ne.symm; assumption) | exact ne_none (by assumption) (by walk_at "hp") | exact Ne.symm (ne_none (by assumption) (by walk_at "hp"))))
local macro_rules | `(tactic| walk_at "hp") => `(tactic| (first
  | assumption | exact upd_same | (refine (upd_ne ?k1).trans ?k2; (case k1 => walk_at "ne"); (case k2 => walk_at "hp")) | (refine Same.get (by assumption) ?_; walk_at "hp") | (refine But.get (by assumption) ?k1 ?k2; (case k1 => walk_at "hp"); (case k2 => walk_at "ne"))))
local macro_rules | `(tactic| walk_at "sq") => `(tactic| (first | assumption | exact SqL.of (by walk_at "hp") | exact SqT.of (by walk_at "hp")))
local macro_rules | `(tactic| walk_at "rd1") => `(tactic| (first
  | with_reducible refine r_seq ?_ | with_reducible refine r_asg ?_ | with_reducible refine r_asgG ?_ | with_reducible refine r_op ?_ | with_reducible refine r_var (by with_unfolding_all exact rfl) ?_ | with_reducible refine r_c ?_ | with_reducible refine r_I0 ?_ | with_reducible refine r_p30 ?_ | with_reducible refine r_p18 ?_ | with_reducible refine r_p12 ?_ | with_reducible refine r_p15 ?_ | with_reducible refine r_p9 ?_ | with_reducible refine r_p6 ?_ | with_reducible refine r_p64 ?_ | ((with_reducible refine r_I ?k1 ?k2); (case k1 => walk_at "sc")) | with_reducible refine r_U ?_ | with_reducible refine r_un ?_
  | with_reducible refine r_ret ?_ | with_reducible refine r_ifS ?_ | with_reducible refine r_test ?_ | with_reducible refine r_bl ?_ | with_reducible refine r_cb ?_ | with_reducible refine r_cons ?_ | with_reducible refine r_nil ?_ | with_reducible refine r_intI ?_ | with_reducible refine r_intB ?_ | refine r_max2' ?_ | refine r_min2' ?_ | with_reducible refine r_max3 ?_ | with_reducible refine r_min3 ?_
  | with_reducible refine r_call ?_ | with_reducible refine r_par ?_ | with_reducible refine r_and ?_ | with_reducible refine r_or ?_ | with_reducible refine r_not ?_ | with_reducible refine r_B ?_ | with_reducible refine r_andV ?_ | with_reducible refine r_orV ?_ | with_reducible refine r_notV ?_ | with_reducible refine r_ifE ?_ | with_reducible refine r_eqI ?_ | with_reducible refine r_neI ?_ | with_reducible refine r_eqB ?_ | with_reducible refine r_neB ?_ | with_reducible refine r_isN ?_ | with_reducible refine r_notN ?_
  | with_reducible refine r_chain ?_ | with_reducible refine r_chain3 ?_ | with_reducible refine r_drop ?_ | with_reducible refine r_next ?_ | with_reducible refine r_retN ?_ | with_reducible refine r_brk ?_ | with_reducible refine r_cont ?_ | with_reducible refine r_ex ?_
  | with_reducible refine r_tup ?_ | with_reducible refine r_lst ?_ | ((with_reducible refine r_new ?k1 ?k2); (case k1 => first | decide | exact Nat.le_of_ble_eq_true rfl)) | with_reducible refine r_sub ?_ | with_reducible refine r_gname ?_ | with_reducible refine r_gcons ?_ | with_reducible refine r_gnil ?_ | with_reducible refine r_slice ?_ | with_reducible refine r_noPart ?_ | with_reducible refine r_part ?_
  | with_reducible refine r_gtup (by with_unfolding_all walk_at "sq") (by with_unfolding_all exact rfl) ?_
  | with_reducible refine r_rng1 ?_ | with_reducible refine r_rng2 ?_ | ((with_reducible refine r_r1 ?k1 ?k2 ?k3); (case k1 => omega); (case k2 => omega)) | ((with_reducible refine r_r2 ?k1 ?k2); (case k1 => omega)) | with_reducible refine r_nonT ?_ | with_reducible refine r_nonI ?_ | with_reducible refine r_nonR ?_ | with_reducible refine r_notT ?_ | with_reducible refine r_notI ?_ | with_reducible refine r_notR ?_ | with_reducible refine r_for ?_ | with_reducible refine r_lc ?_ | with_reducible refine r_iL ?_ | with_reducible refine r_iT ?_ | with_reducible refine r_yesT ?_ | with_reducible refine r_same (by with_unfolding_all exact rfl) ?_ | with_reducible refine r_neS ?_ | with_reducible refine r_iteT ?_ | with_reducible refine r_iteF ?_ | with_reducible refine r_iteNT ?_ | with_reducible refine r_iteNF ?_))
local macro_rules | `(tactic| walk_at "rd") => `(tactic| repeat walk_at "rd1")
section
variable (K : PySem.W.Frag) {vs : List V} {H : Hp} {Q : VK} {E : XK}
/-- the search for the rounds: what holds while the upper bound is doubled, while the gap is halved -/
def Dbl (n s : Int) (H : Hp) (m : Nat) (σ : L2.St) (H' : Hp) : Prop := ∃ lo hi v, σ = [some (.int n), some (.int s), some (.int lo), some (.int hi), v] ∧ Same H H' ∧ -1 ≤ lo ∧ lo < hi ∧ rcI s lo < n ∧ (hi = 1 ∨ hi = 2 * lo) ∧ m = (n - lo).toNat
def Hlv (n s : Int) (H : Hp) (m : Nat) (σ : L2.St) (H' : Hp) : Prop := ∃ lo hi v, σ = [some (.int n), some (.int s), some (.int lo), some (.int hi), v] ∧ Same H H' ∧ -1 ≤ lo ∧ lo < hi ∧ rcI s lo < n ∧ n ≤ rcI s hi ∧ hi ≤ 2 ^ 105 ∧ m = (hi - lo).toNat
theorem rcI_lt {n s lo : Int} (hs : 1 ≤ s) (h : -1 ≤ lo) (hl : rcI s lo < n) : lo + 1 < n := by
  unfold rcI at hl
  obtain ⟨k, e⟩ : ∃ k, s.toNat = k + 1 := ⟨s.toNat - 1, by omega⟩
  rw [e] at hl
  have := rc_lin (s := k) h
  omega
theorem rcI_m1 {s : Int} (hs : 1 ≤ s) : rcI s (-1) = 0 := by
  unfold rcI
  obtain ⟨k, e⟩ : ∃ k, s.toNat = k + 1 := ⟨s.toNat - 1, by omega⟩
  rw [e, rc_neg (by omega)]
theorem rhoI_of {n s hi lo : Int} (hn : 1 ≤ n) (hs : 1 ≤ s) (h : -1 ≤ lo) (h1 : lo < hi) (h2 : ¬ 1 < hi - lo) (h3 : rcI s lo < n) (h4 : n ≤ rcI s hi) : hi = rhoI n s := by
  have e : lo = hi - 1 := by omega
  subst e
  exact (rho_eq hn (by omega) ⟨by omega, h4, h3⟩).symm
theorem pure_rounds_of (h : sp_rounds_of K vs H Q E) : t_rounds_of K { nx := fun _ H' => Q .non H', rt := Q } (start n_rounds_of vs) H := by
  obtain ⟨n, s, rfl, h1, h2, h3, h4, q⟩ := h
  show t_rounds_of K _ [some (.int n), some (.int s), none, none, none] H
  unfold t_rounds_of
  walk_at "rd"
  intro p hp
  walk_at "rd"
  refine r_while (Dbl n s H) _ ⟨-1, 1, none, rfl, Same.new hp, by omega, by omega, by rw [rcI_m1 h3]; omega, .inl rfl, rfl⟩ ?_
  rintro m σ H1 ⟨lo, hi, v, rfl, s1, a1, a2, a3, a4, rfl⟩
  have a5 := rcI_lt h3 a1 a3
  walk_at "rd"
  refine ⟨s, hi, rfl, by omega, by omega, by omega, by omega, ?_⟩
  walk_at "rd"
  refine r_ite (fun c => ?_) fun c => ?_
  · refine r_N ?_
    walk_at "rd"
    refine ⟨(n - hi).toNat, by omega, hi, 2 * hi, v, rfl, s1, by omega, ?_, c, .inr rfl, rfl⟩
    · have : 1 ≤ hi := by
        rcases a4 with e | e
        · omega
        · have : lo ≠ 0 := by rintro rfl; omega
          omega
      omega
  · walk_at "rd"
    refine r_while (Hlv n s H) _ ⟨lo, hi, v, rfl, s1, a1, a2, a3, by omega, by omega, rfl⟩ ?_
    rintro m σ H2 ⟨lo, hi, v, rfl, s2, b1, b2, b3, b4, b5, rfl⟩
    walk_at "rd"
    refine r_ite (fun c => ?_) fun c => ?_
    · refine r_N ?_
      walk_at "rd"
      refine ⟨s, (lo + hi) / 2, rfl, by omega, by omega, by omega, by omega, ?_⟩
      walk_at "rd"
      refine r_ite (fun d => ?_) fun d => ?_
      · walk_at "rd"
        exact ⟨(hi - (lo + hi) / 2).toNat, by omega, _, _, _, rfl, s2, by omega, by omega, d, b4, b5, rfl⟩
      · walk_at "rd"
        exact ⟨((lo + hi) / 2 - lo).toNat, by omega, _, _, _, rfl, s2, by omega, by omega, b3, by omega, by omega, rfl⟩
    · walk_at "rd"
      rw [rhoI_of h1 h3 b1 b2 c b3 b4]
      exact q _ s2
theorem pure_l_rounds (h : sp_l_rounds K vs H Q E) : t_l_rounds K { nx := fun _ H' => Q .non H', rt := Q } (start n_l_rounds vs) H := by
  obtain ⟨n, s, rfl, h1, h2, h3, h4, q⟩ := h
  show t_l_rounds K _ [some (.int n), some (.int s), none, none, none] H
  unfold t_l_rounds
  walk_at "rd"
  intro p hp
  walk_at "rd"
  refine r_while (Dbl n s H) _ ⟨-1, 1, none, rfl, Same.new hp, by omega, by omega, by rw [rcI_m1 h3]; omega, .inl rfl, rfl⟩ ?_
  rintro m σ H1 ⟨lo, hi, v, rfl, s1, a1, a2, a3, a4, rfl⟩
  have a5 := rcI_lt h3 a1 a3
  walk_at "rd"
  refine ⟨s, hi, rfl, by omega, by omega, by omega, by omega, ?_⟩
  walk_at "rd"
  refine r_ite (fun c => ?_) fun c => ?_
  · refine r_N ?_
    walk_at "rd"
    refine ⟨(n - hi).toNat, by omega, hi, 2 * hi, v, rfl, s1, by omega, ?_, c, .inr rfl, rfl⟩
    · have : 1 ≤ hi := by
        rcases a4 with e | e
        · omega
        · have : lo ≠ 0 := by rintro rfl; omega
          omega
      omega
  · walk_at "rd"
    refine r_while (Hlv n s H) _ ⟨lo, hi, v, rfl, s1, a1, a2, a3, by omega, by omega, rfl⟩ ?_
    rintro m σ H2 ⟨lo, hi, v, rfl, s2, b1, b2, b3, b4, b5, rfl⟩
    walk_at "rd"
    refine r_ite (fun c => ?_) fun c => ?_
    · refine r_N ?_
      walk_at "rd"
      refine ⟨s, (lo + hi) / 2, rfl, by omega, by omega, by omega, by omega, ?_⟩
      walk_at "rd"
      refine r_ite (fun d => ?_) fun d => ?_
      · walk_at "rd"
        exact ⟨(hi - (lo + hi) / 2).toNat, by omega, _, _, _, rfl, s2, by omega, by omega, d, b4, b5, rfl⟩
      · walk_at "rd"
        exact ⟨((lo + hi) / 2 - lo).toNat, by omega, _, _, _, rfl, s2, by omega, by omega, b3, by omega, by omega, rfl⟩
    · walk_at "rd"
      rw [rhoI_of h1 h3 b1 b2 c b3 b4]
      exact q _ s2
theorem pure_steps_with (h : sp_steps_with K vs H Q E) : t_steps_with K { nx := fun _ H' => Q .non H', rt := Q } (start n_steps_with vs) H := by
  obtain ⟨n, s, r, rfl, h1, h2, h3, h4, h5, h6, q⟩ := h
  show t_steps_with K _ [some (.int n), some (.int s), some (.int r)] H
  unfold t_steps_with
  walk_at "rd"
  refine r_I (mulW (a := 120) (b := 120) (by omega) (by omega) (by decide) (by decide) (by decide)) ?_
  walk_at "rd"
  refine ⟨s + 1, r - 1, rfl, by omega, by omega, by omega, by omega, ?_⟩
  walk_at "rd"
  exact q
theorem pure_least_of (h : sp_least_of K vs H Q E) : t_least_of K { nx := fun _ H' => Q .non H', rt := Q } (start n_least_of vs) H := by
  obtain ⟨n, s, rfl, h1, h2, h3, h4, q⟩ := h
  show t_least_of K _ [some (.int n), some (.int s)] H
  unfold t_least_of
  walk_at "rd"
  refine ⟨n, s, rfl, h1, h2, h3, h4, fun H' s' => ?_⟩
  walk_at "rd"
  have a := rhoI_nn h1 h3
  have b := rhoI_lt h1 h3
  refine ⟨n, s, rhoI n s, rfl, h1, h2, h3, h4, a, by omega, ?_⟩
  rw [← ttI_eq (by omega)]
  exact q _ s'
theorem pure_l_least (h : sp_l_least K vs H Q E) : t_l_least K { nx := fun _ H' => Q .non H', rt := Q } (start n_l_least vs) H := by
  obtain ⟨n, s, rfl, h1, h2, h3, h4, q⟩ := h
  show t_l_least K _ [some (.int n), some (.int s), none] H
  unfold t_l_least
  walk_at "rd"
  refine ⟨n, s, rfl, h1, h2, h3, h4, fun H' s' => ?_⟩
  have a := rhoI_nn h1 h3
  have b := rhoI_lt h1 h3
  walk_at "rd"
  refine r_I (mulW (a := 120) (b := 120) (by omega) (by omega) (by decide) (by decide) (by decide)) ?_
  walk_at "rd"
  refine ⟨s + 1, rhoI n s - 1, rfl, by omega, by omega, by omega, by omega, ?_⟩
  walk_at "rd"
  have e := ttI_eq (n := n) (s := s) (by omega)
  unfold ggI at e
  rw [← e]
  exact q _ s'
theorem pure_splits_with (h : sp_splits_with K vs H Q E) : t_splits_with K { nx := fun _ H' => Q .non H', rt := Q } (start n_splits_with vs) H := by
  obtain ⟨n, s, rfl, h1, h2, h3, h4, q⟩ := h
  show t_splits_with K _ [some (.int n), some (.int s), some (.int (rhoI n s)), none] H
  have a := rhoI_pos h1 (s := s) (by omega)
  have b := rhoI_lt (n := n) (s := s) (by omega) (by omega)
  unfold t_splits_with
  have step : ∀ (z : Int), z = (if rhoI n s > 1 then rcI s (rhoI n s - 2) else 0) → t_splits_with K { nx := fun _ H' => Q .non H', rt := Q } [some (.int n), some (.int s), some (.int (rhoI n s)), none] H := by
    intro z hz
    unfold t_splits_with
    walk_at "rd"
    refine r_ite (fun c => ?_) fun c => ?_
    all_goals
      walk_at "rd"
      first
        | refine ⟨s, rhoI n s - 2, rfl, by omega, by omega, by omega, by omega, ?_⟩
          walk_at "rd"
        | skip
      refine ⟨s - 1, rhoI n s, rfl, by omega, by omega, by omega, by omega, ?_⟩
      walk_at "rd"
      refine ⟨s, rhoI n s - 1, rfl, by omega, by omega, by omega, by omega, ?_⟩
      walk_at "rd"
      refine ⟨s - 1, rhoI n s - 1, rfl, by omega, by omega, by omega, by omega, ?_⟩
      walk_at "rd"
      intro p hp
      refine q p _ (Same.new hp) hp ?_
      rw [upd_same]
      unfold loI hiI
      first
        | rw [if_pos c]
        | rw [if_neg c]
  exact step _ rfl
theorem pure_best_splits (h : sp_best_splits K vs H Q E) : t_best_splits K { nx := fun _ H' => Q .non H', rt := Q } (start n_best_splits vs) H := by
  obtain ⟨n, s, rfl, h1, h2, h3, h4, q1, q2⟩ := h
  show t_best_splits K _ [some (.int n), some (.int s)] H
  unfold t_best_splits
  walk_at "rd"
  refine ⟨n, s, rfl, h1, h2, h3, h4, ?_⟩
  walk_at "rd"
  refine r_ite (fun c => ?_) fun c => ?_
  · walk_at "rd"
    exact q1 (.inl c) _ (Same.refl _)
  · walk_at "rd"
    refine r_ite (fun d => ?_) fun d => ?_
    · walk_at "rd"
      exact q1 (.inr d) _ (Same.refl _)
    · walk_at "rd"
      refine ⟨n, s, rfl, h1, by omega, h3, by omega, fun H' s' => ?_⟩
      walk_at "rd"
      exact ⟨n, s, rfl, by omega, by omega, by omega, h4, fun p H2 s2 hp e => q2 (by omega) (by omega) p H2 (s'.trans s2) (Same.none s' hp) e⟩
theorem pure_split_loss (h : sp_split_loss K vs H Q E) : t_split_loss K { nx := fun _ H' => Q .non H', rt := Q } (start n_split_loss vs) H := by
  obtain ⟨n, s, m, rfl, h1, h2, h3, h4, h5, q⟩ := h
  show t_split_loss K _ [some (.int n), some (.int s), some (.int m), none] H
  unfold t_split_loss
  walk_at "rd"
  refine ⟨n, rfl, by omega, h1, ?_⟩
  walk_at "rd"
  refine ⟨s, rfl, by omega, h3, ?_⟩
  walk_at "rd"
  refine r_no (by omega) ?_
  walk_at "rd"
  refine ⟨m, 1, n - 1, rfl, ?_⟩
  rw [decide_eq_true ⟨h4, by omega⟩]
  walk_at "rd"
  refine ⟨n - m, s - 1, rfl, by omega, by omega, by omega, by omega, fun H1 s1 => ?_⟩
  walk_at "rd"
  refine ⟨m, s, rfl, by omega, by omega, by omega, by omega, fun H2 s2 => ?_⟩
  walk_at "rd"
  refine ⟨n, s, rfl, by omega, by omega, by omega, by omega, fun H3 s3 => ?_⟩
  walk_at "rd"
  exact q _ ((s1.trans s2).trans s3)
theorem pure_l_loss (h : sp_l_loss K vs H Q E) : t_l_loss K { nx := fun _ H' => Q .non H', rt := Q } (start n_l_loss vs) H := by
  obtain ⟨n, s, m, rfl, h1, h2, h3, h4, h5, q⟩ := h
  show t_l_loss K _ [some (.int n), some (.int s), some (.int m), none] H
  unfold t_l_loss
  walk_at "rd"
  refine ⟨n - m, s - 1, rfl, by omega, by omega, by omega, by omega, fun H1 s1 => ?_⟩
  walk_at "rd"
  refine ⟨m, s, rfl, by omega, by omega, by omega, by omega, fun H2 s2 => ?_⟩
  walk_at "rd"
  refine ⟨n, s, rfl, by omega, by omega, by omega, by omega, fun H3 s3 => ?_⟩
  walk_at "rd"
  exact q _ ((s1.trans s2).trans s3)
end
end Bs

namespace Bs
open PySem PySem.Spec L2 Bm
open PyProof.Rows hiding St
-- one step of a reading; side conditions; what a heap holds
local macro_rules | `(tactic| walk_at "sc") => `(tactic| (first
  | exact mulL ⟨by omega, by omega⟩ | exact mulR ⟨by omega, by omega⟩ | exact divS (by omega) (by omega) | exact (show (0 : Int) < _ by omega) | exact powS (b := 4) (by decide) (by decide) (by decide) (by decide) | assumption | omega))
local macro_rules | `(tactic| walk_at "ne") => `(tactic| (first
  | assumption | (apply Ne.symm; assumption) | exact ne_none (by assumption) (by walk_at "hp") | exact Ne.symm (ne_none (by assumption) (by walk_at "hp"))))
local macro_rules | `(tactic| walk_at "hp") => `(tactic| (first
  | assumption | exact upd_same | (refine (upd_ne ?k1).trans ?k2; (case k1 => walk_at "ne"); (case k2 => walk_at "hp")) | (refine Same.get (by assumption) ?_; walk_at "hp") | (refine But.get (by assumption) ?k1 ?k2; (case k1 => walk_at "hp"); (case k2 => walk_at "ne"))))
local macro_rules | `(tactic| walk_at "sq") => `(tactic| (first | assumption | exact SqL.of (by walk_at "hp") | exact SqT.of (by walk_at "hp")))
local macro_rules | `(tactic| walk_at "rd1") => `(tactic| (first
  | with_reducible refine r_seq ?_ | with_reducible refine r_asg ?_ | with_reducible refine r_asgG ?_ | with_reducible refine r_op ?_ | with_reducible refine r_var (by with_unfolding_all exact rfl) ?_ | with_reducible refine r_c ?_ | with_reducible refine r_I0 ?_ | with_reducible refine r_p30 ?_ | with_reducible refine r_p18 ?_ | with_reducible refine r_p12 ?_ | with_reducible refine r_p15 ?_ | with_reducible refine r_p9 ?_ | with_reducible refine r_p6 ?_ | with_reducible refine r_p64 ?_ | ((with_reducible refine r_I ?k1 ?k2); (case k1 => walk_at "sc")) | with_reducible refine r_U ?_ | with_reducible refine r_un ?_
  | with_reducible refine r_ret ?_ | with_reducible refine r_ifS ?_ | with_reducible refine r_test ?_ | with_reducible refine r_bl ?_ | with_reducible refine r_cb ?_ | with_reducible refine r_cons ?_ | with_reducible refine r_nil ?_ | with_reducible refine r_intI ?_ | with_reducible refine r_intB ?_ | refine r_max2' ?_ | refine r_min2' ?_ | with_reducible refine r_max3 ?_ | with_reducible refine r_min3 ?_
  | with_reducible refine r_call ?_ | with_reducible refine r_par ?_ | with_reducible refine r_and ?_ | with_reducible refine r_or ?_ | with_reducible refine r_not ?_ | with_reducible refine r_B ?_ | with_reducible refine r_andV ?_ | with_reducible refine r_orV ?_ | with_reducible refine r_notV ?_ | with_reducible refine r_ifE ?_ | with_reducible refine r_eqI ?_ | with_reducible refine r_neI ?_ | with_reducible refine r_eqB ?_ | with_reducible refine r_neB ?_ | with_reducible refine r_isN ?_ | with_reducible refine r_notN ?_
  | with_reducible refine r_chain ?_ | with_reducible refine r_chain3 ?_ | with_reducible refine r_drop ?_ | with_reducible refine r_next ?_ | with_reducible refine r_retN ?_ | with_reducible refine r_brk ?_ | with_reducible refine r_cont ?_ | with_reducible refine r_ex ?_
  | with_reducible refine r_tup ?_ | with_reducible refine r_lst ?_ | ((with_reducible refine r_new ?k1 ?k2); (case k1 => first | decide | exact Nat.le_of_ble_eq_true rfl)) | with_reducible refine r_sub ?_ | with_reducible refine r_gname ?_ | with_reducible refine r_gcons ?_ | with_reducible refine r_gnil ?_ | with_reducible refine r_slice ?_ | with_reducible refine r_noPart ?_ | with_reducible refine r_part ?_
  | with_reducible refine r_gtup (by with_unfolding_all walk_at "sq") (by with_unfolding_all exact rfl) ?_
  | with_reducible refine r_rng1 ?_ | with_reducible refine r_rng2 ?_ | ((with_reducible refine r_r1 ?k1 ?k2 ?k3); (case k1 => omega); (case k2 => omega)) | ((with_reducible refine r_r2 ?k1 ?k2); (case k1 => omega)) | with_reducible refine r_nonT ?_ | with_reducible refine r_nonI ?_ | with_reducible refine r_nonR ?_ | with_reducible refine r_notT ?_ | with_reducible refine r_notI ?_ | with_reducible refine r_notR ?_ | with_reducible refine r_for ?_ | with_reducible refine r_lc ?_ | with_reducible refine r_iL ?_ | with_reducible refine r_iT ?_ | with_reducible refine r_yesT ?_ | with_reducible refine r_same (by with_unfolding_all exact rfl) ?_ | with_reducible refine r_neS ?_ | with_reducible refine r_iteT ?_ | with_reducible refine r_iteF ?_ | with_reducible refine r_iteNT ?_ | with_reducible refine r_iteNF ?_))
local macro_rules | `(tactic| walk_at "rd") => `(tactic| repeat walk_at "rd1")
section
variable (K : PySem.W.Frag) {vs : List V} {H : Hp} {Q : VK} {E : XK}
theorem pure_l_bag (h : sp_l_bag K vs H Q E) : t_l_bag K { nx := fun _ H' => Q .non H', rt := Q } (start n_l_bag vs) H := by
  obtain ⟨c, rfl, q⟩ := h
  show t_l_bag K _ [some (.int c)] H
  unfold t_l_bag
  walk_at "rd"
  intro p hp
  exact q p _ (Same.new hp) hp ⟨_, _, _, upd_same⟩
theorem pure_l_pick (h : sp_l_pick K vs H Q E) : t_l_pick K { nx := fun _ H' => Q .non H', rt := Q } (start n_l_pick vs) H := by
  obtain ⟨a, m, rfl, h1, h2, ⟨x, y, z, hb⟩, q⟩ := h
  show t_l_pick K _ [some (.ref a), some (.int m), none, none, none, none, none, none] H
  unfold t_l_pick
  walk_at "rd"
  refine r_ixL (xs := [.int x, .int y, .int z]) (i := 2) (v := .int z) (SqL.of hb) rfl ?_
  walk_at "rd"
  refine r_setL hb (jj := 2) rfl ?_
  walk_at "rd"
  have hb1 : (upd H a (.lst ([V.int x, .int y, .int z].set 2 (.int (z + 1))))) a = some (.lst [.int x, .int y, .int (z + 1)]) := upd_same
  have b1 : But a H (upd H a (.lst ([V.int x, .int y, .int z].set 2 (.int (z + 1))))) := (But.refl a H).upd
  generalize upd H a (.lst ([V.int x, .int y, .int z].set 2 (.int (z + 1)))) = H1 at hb1 b1 ⊢
  refine r_ixL (xs := [.int x, .int y, .int (z + 1)]) (i := 0) (v := .int x) (SqL.of hb1) rfl ?_
  walk_at "rd"
  refine r_ite (fun c => ?_) fun c => ?_
  · walk_at "rd"
    refine r_ixL (xs := [.int x, .int y, .int (z + 1)]) (i := 0) (v := .int x) (SqL.of hb1) rfl ?_
    walk_at "rd"
    refine r_ixL (xs := [.int x, .int y, .int (z + 1)]) (i := 0) (v := .int x) (SqL.of hb1) rfl ?_
    walk_at "rd"
    refine r_setL hb1 (jj := 0) rfl ?_
    walk_at "rd"
    exact q _ _ (Int.emod_nonneg _ (by omega)) (Int.emod_lt_of_pos _ (by omega)) b1.upd ⟨_, _, _, upd_same⟩
  · walk_at "rd"
    refine r_ixL (xs := [.int x, .int y, .int (z + 1)]) (i := 1) (v := .int y) (SqL.of hb1) rfl ?_
    walk_at "rd"
    refine r_ixL (xs := [.int x, .int y, .int (z + 1)]) (i := 2) (v := .int (z + 1)) (SqL.of hb1) rfl ?_
    walk_at "rd"
    refine r_ite (fun d => ?_) fun d => ?_
    · walk_at "rd"
      refine r_I (powS (b := 60) (by decide) (by omega) (by decide) (by decide)) ?_
      walk_at "rd"
      exact q _ _ (Int.emod_nonneg _ (by omega)) (Int.emod_lt_of_pos _ (by omega)) b1 ⟨_, _, _, hb1⟩
    · walk_at "rd"
      exact q _ _ (Int.emod_nonneg _ (by omega)) (Int.emod_lt_of_pos _ (by omega)) b1 ⟨_, _, _, hb1⟩
theorem rcI_small {s r : Int} (h0 : 0 ≤ s) (h1 : s ≤ 100) (h2 : 0 ≤ r) (h3 : r ≤ 2 ^ 110) : 1 ≤ rcI s r := rc_pos h2
theorem pure_l_task (h : sp_l_task K vs H Q E) : t_l_task K { nx := fun _ H' => Q .non H', rt := Q } (start n_l_task vs) H := by
  obtain ⟨a, rfl, hb, q⟩ := h
  show t_l_task K _ [some (.ref a), none, none] H
  unfold t_l_task
  walk_at "rd"
  intro p1 hp1
  have n1 := hb.ne hp1
  walk_at "rd"
  refine ⟨a, 2, rfl, by omega, by omega, hb.new hp1, fun r1 H1 a1 a2 b1 g1 => ?_⟩
  obtain ⟨v1, m1, e1⟩ := atI_ints (xs := [5, 100]) a1 a2
  refine r_ixL (xs := [.int 5, .int 100]) (SqL.of (b1.get upd_same n1)) e1 ?_
  have w1 : 1 ≤ v1 ∧ v1 ≤ 100 := by simp at m1; omega
  walk_at "rd"
  refine ⟨a, v1, rfl, by omega, by omega, g1, fun r2 H2 c1 c2 b2 g2 => ?_⟩
  walk_at "rd"
  intro p2 hp2
  have n2 := g2.ne hp2
  walk_at "rd"
  refine ⟨a, 3, rfl, by omega, by omega, g2.new hp2, fun r3 H3 d1 d2 b3 g3 => ?_⟩
  obtain ⟨v2, m2, e2⟩ := atI_ints (xs := [90, 1000000000000, 1000000000000000000000000000000]) d1 d2
  refine r_ixL (xs := [.int 90, .int 1000000000000, .int 1000000000000000000000000000000]) (SqL.of (b3.get upd_same n2)) e2 ?_
  have w2 : 1 ≤ v2 ∧ v2 ≤ 1000000000000000000000000000000 := by simp at m2; omega
  walk_at "rd"
  refine ⟨a, v2, rfl, by omega, by omega, g3, fun r4 H4 f1 f2 b4 g4 => ?_⟩
  walk_at "rd"
  refine ⟨a, 2, rfl, by omega, by omega, g4, fun r5 H5 _ _ b5 g5 => ?_⟩
  have bt : But a H H5 := (((((But.refl a H).new hp1).trans b1).trans b2).new hp2).trans (b3.trans (b4.trans b5))
  walk_at "rd"
  refine r_ite (fun c => ?_) fun c => ?_
  · walk_at "rd"
    refine ⟨a, 40, rfl, by omega, by omega, g5, fun r6 H6 k1 k2 b6 g6 => ?_⟩
    walk_at "rd"
    refine ⟨1 + r2, r6, rfl, by omega, by omega, by omega, by omega, ?_⟩
    walk_at "rd"
    refine ⟨a, 3, rfl, by omega, by omega, g6, fun r7 H7 l1 l2 b7 g7 => ?_⟩
    walk_at "rd"
    intro p hp
    refine q _ (1 + r2) p _ ?_ ?_ (by omega) (by omega) ((bt.trans (b6.trans b7)).new hp) (g7.new hp) ((bt.trans (b6.trans b7)).freeB hp g7) upd_same <;> omega
  · walk_at "rd"
    intro p hp
    refine q _ (1 + r2) p _ ?_ ?_ (by omega) (by omega) (bt.new hp) (g5.new hp) (bt.freeB hp g5) upd_same <;> omega
/-- ttI's size -/
theorem ttI_le {n s : Int} (hn : 1 ≤ n) (h : n ≤ 2 ^ 101) (hs : 1 ≤ s) : 0 ≤ ttI n s ∧ ttI n s ≤ 2 ^ 202 := by
  refine ⟨tt_nn hn (by omega), ?_⟩
  have a := rhoI_nn hn hs
  have b := rhoI_lt hn hs
  rw [ttI_eq (by omega)]
  unfold ggI
  have c : 0 ≤ rcI (s + 1) (rhoI n s - 1) := rc_nn _ _
  have d : rhoI n s * n ≤ 2 ^ 101 * 2 ^ 101 := Int.le_trans (Int.mul_le_mul_of_nonneg_right (show rhoI n s ≤ 2 ^ 101 by omega) (by omega)) (Int.mul_le_mul_of_nonneg_left h (by decide))
  omega
theorem lossI_le {n s m : Int} (h : n ≤ 2 ^ 100) (hs : 2 ≤ s) (h1 : 1 ≤ m) (h2 : m < n) : (lossI n s m).natAbs.log2 < 1920 := by
  have a := ttI_le (n := n - m) (s := s - 1) (by omega) (by omega) (by omega)
  have b := ttI_le (n := m) (s := s) (by omega) (by omega) (by omega)
  have c := ttI_le (n := n) (s := s) (by omega) (by omega) (by omega)
  refine Nat.lt_of_lt_of_le (PySem.Flt.log2_lt_of (k := 210) (by decide) ?_) (by decide)
  unfold lossI
  omega
/-- a list of ints that are states -/
def Mid (n : Int) (xs : List Int) : Prop := ∀ x ∈ xs, 1 ≤ x ∧ x < n
theorem Mid.app {n : Int} {xs : List Int} {x : Int} (h : Mid n xs) (h1 : 1 ≤ x) (h2 : x < n) : Mid n (xs ++ [x]) := fun y hy => by
  rcases List.mem_append.mp hy with q | q
  · exact h y q
  · rw [List.mem_singleton.mp q]; exact ⟨h1, h2⟩
theorem Mid.cat {n : Int} {xs ys : List Int} (h : Mid n xs) (h2 : Mid n ys) : Mid n (xs ++ ys) := fun y hy => (List.mem_append.mp hy).elim (h y) (h2 y)
theorem near_fact {n s z : Int} (hn : 2 ≤ n) (hs : 2 ≤ s) (h1 : 1 ≤ z) (h2 : z < n) : ∃ m, z + (if decide (z < loI n s) = true then 1 else 0) - (if decide (hiI n s < z) = true then 1 else 0) = m ∧ 1 ≤ m ∧ m < n ∧ lossI n s m ≤ lossI n s z := by
  obtain ⟨R1, R2, R3⟩ := rangeI hn hs
  by_cases c : z < loI n s
  · rw [if_pos (decide_eq_true c), if_neg (by rw [decide_eq_true_eq]; omega)]
    exact ⟨z + 1, by omega, by omega, by omega, lossI_falls hn hs h1 c⟩
  · rw [if_neg (by rw [decide_eq_true_eq]; exact c)]
    by_cases d : hiI n s < z
    · rw [if_pos (decide_eq_true d)]
      exact ⟨z - 1, by omega, by omega, by omega, lossI_rises hn hs d h2⟩
    · rw [if_neg (by rw [decide_eq_true_eq]; exact d)]
      exact ⟨z, by omega, h1, h2, Int.le_refl _⟩
theorem snoc_map (xs : List Int) (x : Int) : xs.map V.int ++ [.int x] = (xs ++ [x]).map V.int := by simp
theorem pure_l_right (h : sp_l_right K vs H Q E) : t_l_right K { nx := fun _ H' => Q .non H', rt := Q } (start n_l_right vs) H := by
  obtain ⟨a, rfl, hb, q⟩ := h
  show t_l_right K _ [some (.ref a), none, none, none, none, none, none, none, none, none] H
  unfold t_l_right
  walk_at "rd"
  refine ⟨a, rfl, hb, fun n s p1 H1 h1 h2 h3 h4 b1 g1 _ e1 => ?_⟩
  walk_at "rd"
  refine r_ite (fun c => ?_) fun c => ?_
  · walk_at "rd"
    refine ⟨n, s, rfl, h1, h2, h3, h4, fun _ H2 s2 => ?_, fun c1 c2 => by omega⟩
    walk_at "rd"
    exact q _ (b1.trans (But.of s2)) (g1.at s2)
  walk_at "rd"
  refine r_ite (fun d => ?_) fun d => ?_
  · walk_at "rd"
    refine ⟨n, s, rfl, h1, h2, h3, h4, fun _ H2 s2 => ?_, fun c1 c2 => by omega⟩
    walk_at "rd"
    exact q _ (b1.trans (But.of s2)) (g1.at s2)
  walk_at "rd"
  have hn : 2 ≤ n := by omega
  have hs : 2 ≤ s := by omega
  obtain ⟨R1, R2, R3⟩ := rangeI hn hs
  refine ⟨n, s, rfl, h1, h2, h3, h4, fun c1 => by omega, fun _ _ p2 H2 s2 _ e2 => ?_⟩
  walk_at "rd"
  refine r_yes R1 ?_
  walk_at "rd"
  refine r_yes R2 ?_
  walk_at "rd"
  rw [decide_eq_true R3]
  walk_at "rd"
  have b2 : But a H H2 := b1.trans (But.of s2)
  have g2 := g1.at s2
  refine ⟨a, hiI n s - loI n s + 1, rfl, by omega, by omega, g2, fun r3 H3 k1 k2 b3 g3 => ?_⟩
  walk_at "rd"
  intro p4 hp4
  walk_at "rd"
  intro D hD
  have nD := (g3.new hp4).ne hD
  have n4 := g3.ne hp4
  have n4D : p4 ≠ D := ne_none hD upd_same
  refine lc_range (fun i H' => But a H H' ∧ Bag H' a ∧ H' p4 = some (.lst ([loI n s, hiI n s, loI n s + r3].map V.int)) ∧ ∃ xs : List Int, H' D = some (.lst (xs.map V.int)) ∧ xs.length = i ∧ Mid n xs) ?_ ?_ ?_
  · refine ⟨(((b2.trans b3).new hp4)).new hD, (g3.new hp4).new hD, ?_, [], upd_same, rfl, fun x hx => nomatch hx⟩
    exact (upd_ne n4D).trans upd_same
  · rintro i H4 hi ⟨b4, g4, e4, xs, e5, e6, e7⟩
    walk_at "rd"
    refine ⟨a, n - 1, rfl, by omega, by omega, g4, fun r5 H5 l1 l2 b5 g5 => ?_⟩
    walk_at "rd"
    refine ⟨_, b5.get e5 nD, sz_lt (by rw [List.length_map]; omega), ?_⟩
    refine ⟨(b4.trans b5).mut ((b2.trans b3).freeB ?_ g3), g5.upd (Ne.symm nD), (upd_ne n4D).trans (b5.get e4 n4), xs ++ [1 + r5], ?_, by simp [e6], e7.app (by omega) (by omega)⟩
    · exact (upd_ne (Ne.symm n4D)).symm.trans hD
    · rw [upd_same, snoc_map]
  · rintro H4 ⟨b4, g4, e4, xs, e5, e6, e7⟩
    refine r_cat e4 e5 (by simp [e6]) ?_
    intro p6 hp6
    have n6 := g4.ne hp6
    walk_at "rd"
    intro p8 hp8
    have n68 : p6 ≠ p8 := ne_none hp8 upd_same
    have n8 := (g4.new hp6).ne hp8
    refine r_refT (SqT.of upd_same) ?_
    intro D2 hD2
    have n6D : p6 ≠ D2 := ne_none hD2 ((upd_ne n68).trans upd_same)
    have n8D : p8 ≠ D2 := ne_none hD2 upd_same
    have nD2 := ((g4.new hp6).new hp8).ne hD2
    refine lc_tup (K := K) (a := p8) (xs := [.int (loI n s - 1), .int (hiI n s + 1)]) (fun i H' => But a H H' ∧ Bag H' a ∧ H' p6 = some (.lst (([loI n s, hiI n s, loI n s + r3] ++ xs).map V.int)) ∧ H' p8 = some (.tup [.int (loI n s - 1), .int (hiI n s + 1)]) ∧
      ∃ zs : List Int, H' D2 = some (.lst (zs.map V.int)) ∧ zs.length ≤ i ∧ Mid n zs) ?_ ?_ ?_ ?_
    · refine ⟨((b4.new hp6).new hp8).new hD2, ((g4.new hp6).new hp8).new hD2, ?_, (upd_ne n8D).trans upd_same, [], upd_same, Nat.le_refl _, fun x hx => nomatch hx⟩
      rw [List.map_append]
      exact (upd_ne n6D).trans ((upd_ne n68).trans upd_same)
    · rintro i H5 _ ⟨_, _, _, e, _⟩
      exact SqT.of e
    · rintro i x H5 hx ⟨b5, g5, f6, f8, zs, f1, f2, f3⟩
      obtain ⟨z, rfl⟩ : ∃ z, x = V.int z := by
        have := List.mem_of_getElem? hx
        simp only [List.mem_cons, List.not_mem_nil, or_false] at this
        rcases this with e | e
        · exact ⟨_, e⟩
        · exact ⟨_, e⟩
      have hi : i < 2 := (List.getElem?_eq_some_iff.mp hx).1
      walk_at "rd"
      refine r_ite (fun k1 => ?_) fun k1 => ?_
      · walk_at "rd"
        refine r_ite (fun k2 => ?_) fun k2 => ?_
        · walk_at "rd"
          refine ⟨_, f1, sz_lt (by rw [List.length_map]; omega), ?_⟩
          refine ⟨b5.mut ((b4.freeB ?_ g4)), g5.upd (Ne.symm nD2), (upd_ne n6D).trans f6, (upd_ne n8D).trans f8, zs ++ [z], ?_, by simp [f2], f3.app (by omega) k2⟩
          · exact ((upd_ne (Ne.symm n6D)).symm.trans ((upd_ne (Ne.symm n8D)).symm.trans hD2))
          · rw [upd_same, snoc_map]
        · exact ⟨b5, g5, f6, f8, zs, f1, by omega, f3⟩
      · walk_at "rd"
        exact ⟨b5, g5, f6, f8, zs, f1, by omega, f3⟩
    · rintro H5 ⟨b5, g5, f6, f8, zs, f1, f2, f3⟩
      refine r_cat f6 f1 (by have h2 : zs.length ≤ 2 := f2; simp only [List.length_map, List.length_append, List.length_cons, List.length_nil, e6]; show 3 + 3 + zs.length ≤ 100000; omega) ?_
      intro p9 hp9
      have n9 := g5.ne hp9
      refine r_refL (SqL.of upd_same) ?_
      rw [← List.map_append]
      have M : Mid n ([loI n s, hiI n s, loI n s + r3] ++ xs ++ zs) := by
        refine Mid.cat (Mid.cat (fun y hy => ?_) e7) f3
        simp only [List.mem_cons, List.not_mem_nil, or_false] at hy
        omega
      generalize [loI n s, hiI n s, loI n s + r3] ++ xs ++ zs = items at M ⊢
      refine for_list (K := K) (a := p9) (xs := items.map V.int) (fun i σ H' => But a H H' ∧ Bag H' a ∧ H' p9 = some (.lst (items.map V.int)) ∧ ∃ v5 v6 v7 v8, σ = [some (.ref a), some (.int n), some (.int s), some (.int (loI n s)), some (.int (hiI n s)), v5, v6, v7, v8, none]) ?_ ?_ ?_ ?_
      · exact ⟨b5.new hp9, g5.new hp9, upd_same, _, _, _, _, rfl⟩
      · rintro i σ H6 _ ⟨_, _, e, _⟩
        exact SqL.of e
      · rintro i x σ H6 hx ⟨b6, g6, e9, v5, v6, v7, v8, rfl⟩
        obtain ⟨z, hz, rfl⟩ : ∃ z ∈ items, x = V.int z := by
          obtain ⟨z, hz, e⟩ := List.mem_map.mp (List.mem_of_getElem? hx)
          exact ⟨z, hz, e.symm⟩
        obtain ⟨z1, z2⟩ := M z hz
        walk_at "rd"
        refine ⟨n, s, z, rfl, h2, hs, h4, z1, z2, fun H7 s7 => ?_⟩
        walk_at "rd"
        refine r_reprI (lossI_le (by omega) hs z1 z2) ?_
        walk_at "rd"
        refine ⟨n, s, z, rfl, h2, hs, h4, z1, z2, fun H8 s8 => ?_⟩
        walk_at "rd"
        refine r_reprI (lossI_le (by omega) hs z1 z2) ?_
        walk_at "rd"
        have k0 := lossI_0 hn hs z1 z2
        refine r_ite (fun k1 => ?_) fun k1 => ?_
        · walk_at "rd"
          have key : decide (lossI n s z = 0) = decide (z ≤ hiI n s) := decide_eq_decide.mpr (by rw [k0]; exact ⟨fun h => h.2, fun h => ⟨k1, h⟩⟩)
          rw [key, beq_self_eq_true]
          walk_at "rd"
          obtain ⟨m, em, m1, m2, m3⟩ := near_fact hn hs z1 z2
          rw [em]
          refine ⟨n, s, m, rfl, h2, hs, h4, m1, m2, fun H9 s9 => ?_⟩
          walk_at "rd"
          refine r_no (by omega) ?_
          walk_at "rd"
          have sx := (s7.trans s8).trans s9
          exact ⟨b6.trans (But.of sx), g6.at sx, sx _ _ e9, _, _, _, _, rfl⟩
        · walk_at "rd"
          have key : decide (lossI n s z = 0) = false := decide_eq_false (by rw [k0]; exact fun h => k1 h.1)
          rw [key, beq_self_eq_true]
          walk_at "rd"
          obtain ⟨m, em, m1, m2, m3⟩ := near_fact hn hs z1 z2
          rw [em]
          refine ⟨n, s, m, rfl, h2, hs, h4, m1, m2, fun H9 s9 => ?_⟩
          walk_at "rd"
          refine r_no (by omega) ?_
          walk_at "rd"
          have sx := (s7.trans s8).trans s9
          exact ⟨b6.trans (But.of sx), g6.at sx, sx _ _ e9, _, _, _, _, rfl⟩
      · rintro σ H6 ⟨b6, g6, e9, v5, v6, v7, v8, rfl⟩
        walk_at "rd"
        exact q _ b6 g6
theorem script_int {K : PySem.W.Frag} {ns : List Int} {i : Nat} {x : V} (h : (cutV (ns.map V.int) none (some 6) ++ [.int 0])[i]? = some x) : ∃ z, x = .int z := by
  rcases List.mem_append.mp (List.mem_of_getElem? h) with q | q
  · obtain ⟨z, _, e⟩ := cut_int q
    exact ⟨z, e⟩
  · exact ⟨0, List.mem_singleton.mp q⟩
theorem pure_law_k11 (h : sp_law_k11 K vs H Q E) : t_law_k11 K { nx := fun _ H' => Q .non H', rt := Q } (start n_law_k11 vs) H := by
  obtain ⟨a, ns, rfl, hS, hl, q⟩ := h
  show t_law_k11 K _ [some (.ref a), none, none, none] H
  unfold t_law_k11
  walk_at "rd"
  refine r_slL hS ?_
  intro p1 hp1
  walk_at "rd"
  intro p2 hp2
  have n12 : p1 ≠ p2 := ne_none hp2 upd_same
  have cl := cutV_length (ns.map V.int) none (some 6)
  rw [List.length_map] at cl
  refine r_cat ((upd_ne n12).trans upd_same) upd_same (by show _ + 1 ≤ 100000; omega) ?_
  intro p3 hp3
  refine r_refL (SqL.of upd_same) ?_
  refine for_list (K := K) (a := p3) (xs := cutV (ns.map V.int) none (some 6) ++ [.int 0]) (fun i σ H' => H' p3 = some (.lst (cutV (ns.map V.int) none (some 6) ++ [.int 0])) ∧ ∃ v1 v2 v3, σ = [some (.ref a), v1, v2, v3]) ?_ ?_ ?_ ?_
  · exact ⟨upd_same, none, none, none, rfl⟩
  · rintro i σ H1 _ ⟨e, _⟩
    exact SqL.of e
  · rintro i x σ H1 hx ⟨e1, v1, v2, v3, rfl⟩
    obtain ⟨z, rfl⟩ := script_int (K := K) hx
    walk_at "rd"
    refine ⟨z, rfl, fun p4 H2 s2 hp4 g2 => ?_⟩
    walk_at "rd"
    have n34 : p3 ≠ p4 := ne_none hp4 e1
    refine for_range (fun i σ H' => H' p3 = some (.lst (cutV (ns.map V.int) none (some 6) ++ [.int 0])) ∧ Bag H' p4 ∧ ∃ v3, σ = [some (.ref a), some (.int z), some (.ref p4), v3]) ?_ ?_ ?_
    · exact ⟨s2 _ _ e1, g2, v3, rfl⟩
    · rintro j σ H3 hj ⟨e3, g3, v3, rfl⟩
      walk_at "rd"
      refine ⟨p4, rfl, g3, fun H4 b4 g4 => ?_⟩
      walk_at "rd"
      exact ⟨b4.get e3 n34, g4, _, rfl⟩
    · rintro σ H3 ⟨e3, g3, v3, rfl⟩
      walk_at "rd"
      exact ⟨e3, _, _, _, rfl⟩
  · rintro σ H1 ⟨e1, v1, v2, v3, rfl⟩
    walk_at "rd"
    refine ⟨_, 1, rfl, by omega, by omega, by omega, by omega, fun _ H2 s2 => ?_, fun _ h => by omega⟩
    walk_at "rd"
    refine ⟨_, 100, 1, rfl, by omega, by omega, by omega, by omega, by omega, fun H3 s3 => ?_⟩
    walk_at "rd"
    have f := lossI_nn (n := 1000000000000000000000000000000) (s := 100) (m := 1) (by omega) (by omega) (by omega) (by omega)
    have g : lossI 1000000000000000000000000000000 100 1 ≠ 0 := by
      rw [Ne, lossI_0 (by omega) (by omega) (by omega) (by omega)]
      rintro ⟨h1, h2⟩
      have R := rho_is (n := 1000000000000000000000000000000) (s := 100) (by omega) (by omega)
      have c2 : rc 100 2 = 5151 := (rcC_eq (by omega) 100).symm.trans (by decide +kernel)
      have r3 : 3 ≤ rho 1000000000000000000000000000000 100 := by
        apply Decidable.byContradiction
        intro c
        have := rc_mono (s := 100) (r := rho 1000000000000000000000000000000 100) (q := 2) (by omega)
        have := R.hi
        omega
      rw [loI_eq (by omega) (by omega)] at h1
      have c1 : rc 100 1 = 101 := (rcC_eq (by omega) 100).symm.trans (by decide +kernel)
      have := rc_mono (s := 100) (r := 1) (q := rho 1000000000000000000000000000000 100 - 2) (by omega)
      unfold spLo at h1
      rw [show Int.toNat 100 = 100 from rfl] at h1
      omega
    rw [decide_eq_true (show (0 : Int) < lossI 1000000000000000000000000000000 100 1 by omega)]
    exact q _
end
end Bs

namespace Bs
open PySem PySem.Spec L2 Bm
open PyProof.Rows hiding St
/-! ### min of a list of tuples of ints: the comparisons lean on the heap, so the loop's rule is said once more over what stands -/
/-- comparisons that are decided wherever g₀ stands -/
def CmpH (prog : Program) (w : World) (A : Around) (g₀ : Heap) (P : Nat → Value → Prop) (bt : Nat → Nat → Bool) : Prop :=
  ∀ i j vi vj (s : Shared) (Q : Value → Shared → Prop) (E : Value → Shared → Prop), (∀ b o, g₀.get? b = some o → s.heap.get? b = some o) → P i vi → P j vj → Q (.bool (bt i j)) s → wpAny (model prog w) A (richCompare .Lt vi vj) Q E s
section
variable {prog : Program} {w : World} {A : Around} {R : Result → Shared → Prop} {it : Addr} {fp wr : List Addr} {n : Nat} {P : Nat → Value → Prop} {Sp_ : Nat → Heap → Prop} {g₀ : Heap} {L : Addr} {bt : Nat → Nat → Bool}
theorem min_turns (Wk : Walks prog w A.in1 it fp wr n P Sp_) (cmp : CmpH prog w A.in1 g₀ P bt) (outf : L ∉ fp) (w0 : ∀ b ∈ wr, g₀.get? b = none) (l0 : g₀.get? L = none) :
    ∀ (k j : Nat) (s : Shared) (best : Value) (c : Nat), n - (j + 1) = k → j + 1 ≤ n → Sp_ (j + 1) s.heap → P (argBest bt j) best → (∀ b o, g₀.get? b = some o → s.heap.get? b = some o) →
    s.heap.get? L = some { cls := .type "list", dict := none, data := .seq #[best, best] c, slots := #[] } →
    (∀ v h' tk, P (argBest bt (n - 1)) v → (∀ b o, b ∉ wr → b ≠ L → s.heap.get? b = some o → h'.get? b = some o) → R (.ok (.ret v)) { s with heap := h', toks := tk }) →
    codeAny (model prog w) A (.builtin "min.loop" ⟨[.ref it, .none, .ref L], []⟩) R s := by
  have outw : L ∉ wr := fun h => outf (Wk.sub _ h)
  have nameIs : (toString "min" ++ toString ".loop" : String) = "min.loop" := by decide
  have stays : ∀ {g g' : Heap}, (∀ b o, g₀.get? b = some o → g.get? b = some o) → (∀ b o, b ∉ wr → g.get? b = some o → g'.get? b = some o) → ∀ b o, g₀.get? b = some o → g'.get? b = some o := fun a b c o e => b c o (fun hm => by rw [w0 c hm] at e; cases e) (a c o e)
  intro k
  induction k with
  | zero =>
    intro j s best c ek ej hst pb st0 eL toR
    have ein : j + 1 = n := by omega
    refine codeAny_builtin PySem.F.entry_min_loop ?_
    rw [Around.under_plainId PySem.F.plain_min_loop _]
    show wpAny (model prog w) A.in1 (seqItems? (.ref L) >>= _) _ _ s
    refine wpAny_bind (wpAny_seqItems eL rfl ?_)
    show wpAny (model prog w) A.in1 (tryCatch (pyNext (.ref it)) _ >>= _) _ _ s
    refine wpAny_bind (wpAny_tryCatch (Wk.done s _ _ (ein ▸ hst) fun h1 tk kp => ?_))
    have eL' := kp L _ outw eL
    show wpAny (model prog w) A.in1 (updateSeq L (fun _ => #[]) >>= _) _ _ _
    refine wpAny_bind (wpAny_updateSeq eL' rfl (wpAny_bind (wpAny_letGo (wpAny_pure ?_))))
    exact toR best _ tk (by rw [← ein]; exact pb) fun b o nb nL e => (Heap.get?_update_other _ _ (Ne.symm nL)).trans (kp b o nb e)
  | succ k ih =>
    intro j s best c ek ej hst pb st0 eL toR
    have less : j + 1 < n := by omega
    refine codeAny_builtin PySem.F.entry_min_loop ?_
    rw [Around.under_plainId PySem.F.plain_min_loop _]
    show wpAny (model prog w) A.in1 (seqItems? (.ref L) >>= _) _ _ s
    refine wpAny_bind (wpAny_seqItems eL rfl ?_)
    show wpAny (model prog w) A.in1 (tryCatch (pyNext (.ref it)) _ >>= _) _ _ s
    refine wpAny_bind (wpAny_tryCatch (Wk.item (j + 1) s _ _ less hst fun v h1 tk pv hst' kp => ?_))
    have eL' := kp L _ outw eL
    have st1 : ∀ b o, g₀.get? b = some o → h1.get? b = some o := stays st0 kp
    show wpAny (model prog w) A.in1 (tryCatch (holding [v, v] (richCompare .Lt v best >>= _)) _ >>= _) _ _ _
    refine wpAny_bind (wpAny_tryCatch (wpAny_holding (wpAny_bind (cmp (j + 1) (argBest bt j) v best _ _ _ st1 pv pb ?_))))
    refine wpAny_bind (wpAny_holding (wpAny_truthy_bool (wpAny_bind (wpAny_letGo (wpAny_pure ?_)))))
    cases hb : bt (j + 1) (argBest bt j) with
    | true =>
      simp only [if_true]
      refine wpAny_bind (wpAny_updateSeq eL' rfl (wpAny_bind (wpAny_letGo ?_)))
      rw [nameIs]
      refine wpAny_pure ⟨plainId_quiet PySem.F.plain_min_loop _, ih (j + 1) _ v _ (by omega) less (Wk.frame _ _ _ hst' fun b hbf o e => ?_) (by simp only [argBest, hb, if_true]; exact pv) (fun b o e => ?_) (Heap.get?_update_self _ eL' rfl)
        fun v' h2 tk2 pv' kp2 => ?_⟩
      · exact (Heap.get?_update_other _ _ (fun h : L = b => outf (by rw [h]; exact hbf))).trans e
      · exact (Heap.get?_update_other _ _ (fun h : L = b => by rw [h, e] at l0; cases l0)).trans (st1 b o e)
      · exact toR v' h2 tk2 pv' fun b o nb nL e => kp2 b o nb nL ((Heap.get?_update_other _ _ (Ne.symm nL)).trans (kp b o nb e))
    | false =>
      simp only [Bool.false_eq_true, if_false]
      refine wpAny_bind (wpAny_letGo ?_)
      rw [nameIs]
      refine wpAny_pure ⟨plainId_quiet PySem.F.plain_min_loop _, ih (j + 1) _ best c (by omega) less hst' (by simp only [argBest, hb, Bool.false_eq_true, if_false]; exact pb) st1 eL' fun v' h2 tk2 pv' kp2 => ?_⟩
      exact toR v' h2 tk2 pv' fun b o nb nL e => kp2 b o nb nL (kp b o nb e)
theorem min_first (Wk : Walks prog w A.in1 it fp wr n P Sp_) (cmp : CmpH prog w A.in1 g₀ P bt) (outf : L ∉ fp) (w0 : ∀ b ∈ wr, g₀.get? b = none) (l0 : g₀.get? L = none) (n0 : 0 < n) {s : Shared} {c : Nat} (hst : Sp_ 0 s.heap)
    (st0 : ∀ b o, g₀.get? b = some o → s.heap.get? b = some o) (eL : s.heap.get? L = some { cls := .type "list", dict := none, data := .seq #[] c, slots := #[] })
    (toR : ∀ v h' tk, P (argBest bt (n - 1)) v → (∀ b o, b ∉ wr → b ≠ L → s.heap.get? b = some o → h'.get? b = some o) → R (.ok (.ret v)) { s with heap := h', toks := tk }) :
    codeAny (model prog w) A (.builtin "min.loop" ⟨[.ref it, .none, .ref L], []⟩) R s := by
  have outw : L ∉ wr := fun h => outf (Wk.sub _ h)
  have nameIs : (toString "min" ++ toString ".loop" : String) = "min.loop" := by decide
  refine codeAny_builtin PySem.F.entry_min_loop ?_
  rw [Around.under_plainId PySem.F.plain_min_loop _]
  show wpAny (model prog w) A.in1 (seqItems? (.ref L) >>= _) _ _ s
  refine wpAny_bind (wpAny_seqItems eL rfl ?_)
  show wpAny (model prog w) A.in1 (tryCatch (pyNext (.ref it)) _ >>= _) _ _ s
  refine wpAny_bind (wpAny_tryCatch (Wk.item 0 s _ _ n0 hst fun v h1 tk pv hst' kp => ?_))
  have eL' := kp L _ outw eL
  show wpAny (model prog w) A.in1 (updateSeq L (fun _ => #[v, v]) >>= _) _ _ _
  refine wpAny_bind (wpAny_updateSeq eL' rfl ?_)
  rw [nameIs]
  refine wpAny_pure ⟨plainId_quiet PySem.F.plain_min_loop _, min_turns Wk cmp outf w0 l0 _ 0 _ v _ rfl n0 (Wk.frame _ _ _ hst' fun b hbf o e => ?_) pv (fun b o e => ?_) (Heap.get?_update_self _ eL' rfl) fun v' h2 tk2 pv' kp2 => ?_⟩
  · exact (Heap.get?_update_other _ _ (fun h : L = b => outf (by rw [h]; exact hbf))).trans e
  · refine (Heap.get?_update_other _ _ (fun h : L = b => by rw [h, e] at l0; cases l0)).trans (kp b o (fun hm => ?_) (st0 b o e))
    rw [w0 b hm] at e; cases e
  · exact toR v' h2 tk2 pv' fun b o nb nL e => kp2 b o nb nL ((Heap.get?_update_other _ _ (Ne.symm nL)).trans (kp b o nb e))
end
section
variable {prog : Program} {w : World} {A : Around} {E : Value → Shared → Prop} {s : Shared}
theorem min_walkH {x : Value} {g₀ : Heap} {Q : Value → Shared → Prop} (st0 : ∀ b o, g₀.get? b = some o → b < s.heap.objs.size)
    (h : wpAny (model prog w) A.in1 (pyIter x) (fun iv s₂ => ∃ it fp wr n P Sp_ bt, iv = .ref it ∧ Walks prog w A.in1 it fp wr n P Sp_ ∧ Sp_ 0 s₂.heap ∧ (∀ b ∈ fp, b < s₂.heap.objs.size) ∧ 0 < n ∧ CmpH prog w A.in1 g₀ P bt ∧
      (∀ b ∈ wr, g₀.get? b = none) ∧ (∀ b o, g₀.get? b = some o → s₂.heap.get? b = some o) ∧
      ∀ v h' tk, P (argBest bt (n - 1)) v → (∀ b o, b ∉ wr → s₂.heap.get? b = some o → h'.get? b = some o) → Q v { s₂ with heap := h', toks := tk }) E s) :
    wpAny (model prog w) A (call (.builtin "min") [x]) Q E s := by
  have nameIs : (toString "min" ++ toString ".loop" : String) = "min.loop" := by decide
  refine call_function_tree PySem.F.kind_min PySem.F.plain_min PySem.F.entry_min (PySem.F.args_min1 _) ?_
  show wpAny (model prog w) A.in1 (Builtin.Builtins.bindParams "min" ["key", "default"] 0 ⟨[], []⟩ >>= _) _ _ s
  refine wpAny_bind (wpAny_of_eq (show Builtin.Builtins.bindParams "min" ["key", "default"] 0 ⟨[], []⟩ = pure [none, none] from rfl) (wpAny_bind (wpAny_pure ?_)))
  refine wpAny_bind (wpAny_mono h (fun iv s₂ z => ?_) fun _ _ e => e)
  obtain ⟨it, fp, wr, n, P, Sp_, bt, rfl, Wk, hst, fpl, n0, cmp, w0, st1, toQ⟩ := z
  refine wpAny_bind (wpAny_newObj_type ?_)
  have outf : s₂.heap.objs.size ∉ fp := fun hm => Nat.lt_irrefl _ (fpl _ hm)
  have l0 : g₀.get? s₂.heap.objs.size = none := by
    cases e : g₀.get? s₂.heap.objs.size with
    | none => rfl
    | some o => exact absurd (Heap.lt_size (st1 _ o e)) (Nat.lt_irrefl _)
  rw [nameIs]
  refine wpAny_pure ⟨plainId_quiet PySem.F.plain_min_loop _, min_first Wk cmp outf w0 l0 n0 (Wk.frame _ _ _ hst fun b _ o e => Heap.get?_push_of_some _ e) (fun b o e => Heap.get?_push_of_some _ (st1 b o e)) (Heap.get?_push_size _ rfl) fun v h' tk pv kp => ?_⟩
  exact toQ v h' tk pv fun b o nb e => kp b o nb (Nat.ne_of_lt (Heap.lt_size e)) (Heap.get?_push_of_some _ e)
end
/-! the best of the comparisons -/
theorem argBest_le (bt : Nat → Nat → Bool) : ∀ k, argBest bt k ≤ k
  | 0 => Nat.le_refl _
  | k + 1 => by
    unfold argBest
    have := argBest_le bt k
    split <;> omega
/-- none of the first k is less than the best one, where «less» goes on -/
theorem argBest_least (bt : Nat → Nat → Bool) (tr : ∀ a b c, bt a b = true → bt c b = false → bt c a = false) (irr : ∀ a, bt a a = false) : ∀ k j, j ≤ k → bt j (argBest bt k) = false
  | 0, j, h => by
    rw [show j = 0 by omega]
    exact irr 0
  | k + 1, j, h => by
    unfold argBest
    by_cases c : bt (k + 1) (argBest bt k) = true
    · rw [if_pos c]
      by_cases e : j = k + 1
      · rw [e]; exact irr _
      · exact tr (k + 1) (argBest bt k) j c (argBest_least bt tr irr k j (by omega))
    · rw [if_neg c]
      by_cases e : j = k + 1
      · rw [e]; simpa using c
      · exact argBest_least bt tr irr k j (by omega)
def rMinT (K : PySem.W.Frag) : List V → Hp → VK → Prop := fun vs H Q => ∃ (a : Addr) (xs : List V) (key : V → List Int), vs = [.ref a] ∧ SqL K H a xs ∧ xs ≠ [] ∧ (∀ x ∈ xs, ∃ t, x = .ref t ∧ SqT K H t ((key x).map V.int)) ∧
  ∀ x, x ∈ xs → (∀ y ∈ xs, HT.lexLt (key y) (key x) = false) → Q x H
theorem lex_irr : ∀ l : List Int, HT.lexLt l l = false
  | [] => rfl
  | x :: l => by rw [HT.lexLt_cons, if_pos rfl]; exact lex_irr l
theorem lex_tr : ∀ a b c : List Int, HT.lexLt a b = true → HT.lexLt c b = false → HT.lexLt c a = false
  | [], [], c, h, _ => by rw [HT.lexLt_nil_nil] at h; cases h
  | x :: a, [], c, h, _ => by rw [HT.lexLt_cons_nil] at h; cases h
  | [], y :: b, c, _, h => by
    cases c with
    | nil => rw [HT.lexLt_nil_cons] at h; cases h
    | cons z c => exact HT.lexLt_cons_nil z c
  | x :: a, y :: b, c, h1, h2 => by
    cases c with
    | nil => rw [HT.lexLt_nil_cons] at h2; cases h2
    | cons z c =>
      rw [HT.lexLt_cons] at h1 h2 ⊢
      by_cases e1 : x = y
      · subst e1
        rw [if_pos rfl] at h1
        by_cases e2 : z = x
        · subst e2
          rw [if_pos rfl] at h2 ⊢
          exact lex_tr a b c h1 h2
        · rw [if_neg e2] at h2 ⊢
          exact h2
      · rw [if_neg e1] at h1
        have l1 := of_decide_eq_true h1
        by_cases e2 : z = y
        · rw [if_neg (by omega)]
          exact decide_eq_false (by omega)
        · rw [if_neg e2] at h2
          have l2 := of_decide_eq_false h2
          rw [if_neg (by omega)]
          exact decide_eq_false (by omega)
section
variable {X : Cx}
theorem cr_minT {k : Nat} (hr : Room k X.A) (hc : X.calm = true) : CallR X (.builtin "min") (rMinT X.K) := by
  intro pins s σ H vs us Q I r h
  obtain ⟨a, xs, key, rfl, hs, hne, hk, q⟩ := h
  obtain ⟨its, rv, hl, _⟩ := I.list hs
  rw [Vals.ref1 r]
  have hlen := rv.length
  have hpos : 0 < its.toArray.size := by
    rw [List.size_toArray, ← hlen]
    exact List.length_pos_iff.mpr hne
  have hL : s.heap.IsList a its.toArray := hl.isList
  have hlt : a < s.heap.objs.size := by obtain ⟨_, e, _⟩ := hL; exact Heap.lt_size e
  have hu := hr.units
  refine min_walkH (g₀ := s.heap) (fun b o e => Heap.lt_size e) (wpAny_pyIter_list hL ?_)
  have keyOf : ∀ (i : Nat) (v : Value), its.toArray[i]? = some v → ∃ x t, xs[i]? = some x ∧ x = V.ref t ∧ v = .ref t ∧ SqT X.K H t ((key x).map V.int) := by
    intro i v hv
    rw [List.getElem?_toArray] at hv
    have hi : i < xs.length := by rw [hlen]; exact (List.getElem?_eq_some_iff.mp hv).1
    obtain ⟨u, hu2, ru⟩ := rv.get (List.getElem?_eq_getElem hi)
    rw [hv] at hu2
    cases hu2
    obtain ⟨t, e, ht⟩ := hk xs[i] (List.getElem_mem hi)
    rw [e] at ru
    exact ⟨xs[i], t, List.getElem?_eq_getElem hi, e, ru, ht⟩
  refine ⟨_, _, _, _, _, _, (fun i j => HT.lexLt (key (xs.getD i .non)) (key (xs.getD j .non))), rfl, Walks.list (A := X.A.in1) (I.ok.hd hc) _ a (Nat.ne_of_lt hlt) its.toArray, ⟨⟨_, Heap.get?_push_size _ rfl, rfl, rfl⟩, hL.push _⟩, fun b hb => ?_, hpos, ?_, ?_, fun b o e => Heap.get?_push_of_some _ e, fun v h' tk pv kp => ?_⟩
  · show b < (s.heap.push _).objs.size
    rw [Heap.size_push]
    simp only [List.mem_cons, List.not_mem_nil, or_false] at hb
    rcases hb with rfl | rfl
    · exact Nat.lt_succ_self _
    · exact Nat.lt_succ_of_lt hlt
  · intro i j vi vj s' Q' E' st hi hj hq
    obtain ⟨x, t, ex, rfl, rfl, ht⟩ := keyOf i vi hi
    obtain ⟨y, t', ey, rfl, rfl, ht'⟩ := keyOf j vj hj
    obtain ⟨it1, r1, p1, _⟩ := I.tuple ht
    obtain ⟨it2, r2, p2, _⟩ := I.tuple ht'
    have g1 : s'.heap.get? t = some p1.choose := st _ _ p1.choose_spec.1
    have q1 : IsTup s'.heap t it1.toArray := ⟨_, g1, p1.choose_spec.2⟩
    have g2 : s'.heap.get? t' = some p2.choose := st _ _ p2.choose_spec.1
    have q2 : IsTup s'.heap t' it2.toArray := ⟨_, g2, p2.choose_spec.2⟩
    have e1 : xs.getD i .non = V.ref t := by rw [List.getD_eq_getElem?_getD, ex]; rfl
    have e2 : xs.getD j .non = V.ref t' := by rw [List.getD_eq_getElem?_getD, ey]; rfl
    have hq : Q' (.bool (HT.lexLt (key (xs.getD i .non)) (key (xs.getD j .non)))) s' := hq
    rw [e1, e2] at hq
    exact HT.lt_tupInts (A := X.A.in1) q1 q2 (intsAre_of r1) (intsAre_of r2) (by show X.A.units + 1 < cLine; omega) hq
  · intro b hb
    simp only [List.mem_cons, List.not_mem_nil, or_false] at hb
    rw [hb]
    exact Heap.get?_none_of_le (Nat.le_refl _)
  · obtain ⟨x, t, ex, rfl, rfl, ht⟩ := keyOf _ v pv
    have old : ∀ b o, s.heap.get? b = some o → h'.get? b = some o := fun b o e => kp b o (fun hm => by
      simp only [List.mem_cons, List.not_mem_nil, or_false] at hm
      exact absurd (hm ▸ Heap.lt_size e) (Nat.lt_irrefl _)) (Heap.get?_push_of_some _ e)
    refine ⟨.ref t, H, I.kept old, rfl, q _ (List.mem_of_getElem? ex) fun y hy => ?_⟩
    obtain ⟨j, hj, e⟩ := List.mem_iff_getElem.mp hy
    have z := argBest_least (fun i j => HT.lexLt (key (xs.getD i .non)) (key (xs.getD j .non))) (fun _ _ _ => lex_tr _ _ _) (fun _ => lex_irr _) (its.toArray.size - 1) j (by rw [List.size_toArray, ← hlen]; omega)
    have ej : xs.getD j .non = y := by rw [List.getD_eq_getElem?_getD, List.getElem?_eq_getElem hj, e]; rfl
    have eb : xs.getD (argBest (fun i j => HT.lexLt (key (xs.getD i .non)) (key (xs.getD j .non))) (its.toArray.size - 1)) .non = V.ref t := by rw [List.getD_eq_getElem?_getD, ex]; rfl
    rw [← ej, ← eb]
    exact z
end
end Bs

namespace Bm
/-! ### sweeps -/
/-- the steps of a sweep over the states from a on: to the next cut, what is behind it, the part ahead of it -/
def swp (n : Int) : Int → Int → List Int → Int
  | s, a, [] => ttI (n - a) s
  | s, a, c :: cs => (c - a) + ttI (c - a) s + swp n (s - 1) c cs
/-- ascending states between a and n -/
def Asc (n : Int) : Int → List Int → Prop
  | _, [] => True
  | a, c :: cs => a < c ∧ c < n ∧ Asc n c cs
theorem swp_ge {n : Int} : ∀ (cs : List Int) (s a : Int), Asc n a cs → (cs.length : Int) < s → a < n → ttI (n - a) s ≤ swp n s a cs
  | [], _, _, _, _, _ => Int.le_refl _
  | c :: cs, s, a, h, hl, ha => by
    obtain ⟨h1, h2, h3⟩ := h
    rw [List.length_cons] at hl
    have ih := swp_ge cs (s - 1) c h3 (by omega) h2
    have L := lossI_nn (n := n - a) (s := s) (m := c - a) (by omega) (by omega) (by omega) (by omega)
    unfold lossI at L
    rw [show n - a - (c - a) = n - c by omega] at L
    unfold swp
    omega
/-- what the plan keeps ahead of its first back: f turns at most, begin, states left, slots -/
def bcut : Nat → Int → Int → Int → List Int
  | 0, _, _, _ => []
  | f + 1, b, l, s => if 1 < l ∧ 1 < s then (if 1 < l - hiI l s then [b + hiI l s] else []) ++ bcut f (b + hiI l s) (l - hiI l s) (s - 1) else []
theorem bcut_1 (f : Nat) (b s : Int) : bcut f b 1 s = [] := by
  cases f with
  | zero => rfl
  | succ f => unfold bcut; rw [if_neg (by omega)]
theorem bcut_s {f : Nat} {b l s : Int} (h : s ≤ 1) : bcut f b l s = [] := by
  cases f with
  | zero => rfl
  | succ f => unfold bcut; rw [if_neg (by omega)]
theorem bcut_go {f : Nat} {b l s : Int} (h1 : 1 < l) (h2 : 1 < s) (h3 : 1 < l - hiI l s) : bcut (f + 1) b l s = (b + hiI l s) :: bcut f (b + hiI l s) (l - hiI l s) (s - 1) := by
  conv => lhs; unfold bcut
  rw [if_pos ⟨h1, h2⟩, if_pos h3]
  rfl
theorem bcut_end {f : Nat} {b l s : Int} (h1 : 1 < l) (h2 : 1 < s) (h3 : ¬ 1 < l - hiI l s) : bcut (f + 1) b l s = [] := by
  have R := rangeI (n := l) (s := s) (by omega) (by omega)
  conv => lhs; unfold bcut
  rw [if_pos ⟨h1, h2⟩, if_neg h3, show l - hiI l s = 1 by omega, bcut_1]
  rfl
theorem hi_sum {l s : Int} (h1 : 2 ≤ l) (h2 : 2 ≤ s) : hiI l s + ttI (l - hiI l s) (s - 1) + ttI (hiI l s) s = ttI l s := by
  have R := rangeI h1 h2
  have := (lossI_0 (m := hiI l s) h1 h2 (by omega) (by omega)).mpr ⟨by omega, by omega⟩
  unfold lossI at this
  omega
theorem bcut_take : ∀ (f : Nat) (b l s : Int) (k : Nat), 1 ≤ l → 1 ≤ s → swp (b + l) s b ((bcut f b l s).take k) = ttI l s
  | 0, b, l, s, k, _, _ => by
    unfold bcut
    rw [List.take_nil]
    show ttI (b + l - b) s = _
    rw [show b + l - b = l by omega]
  | f + 1, b, l, s, k, h1, h2 => by
    have nil : swp (b + l) s b [] = ttI l s := by
      show ttI (b + l - b) s = _
      rw [show b + l - b = l by omega]
    by_cases c : 1 < l ∧ 1 < s
    · have R := rangeI (n := l) (s := s) (by omega) (by omega)
      by_cases d : 1 < l - hiI l s
      · rw [bcut_go c.1 c.2 d]
        cases k with
        | zero => exact nil
        | succ k =>
          rw [List.take_succ_cons]
          have ih := bcut_take f (b + hiI l s) (l - hiI l s) (s - 1) k (by omega) (by omega)
          rw [show b + hiI l s + (l - hiI l s) = b + l by omega] at ih
          unfold swp
          rw [ih, show b + hiI l s - b = hiI l s by omega]
          have := hi_sum (l := l) (s := s) (by omega) (by omega)
          omega
      · rw [bcut_end c.1 c.2 d, List.take_nil]
        exact nil
    · unfold bcut
      rw [if_neg c, List.take_nil]
      exact nil
theorem bcut_ok : ∀ (f : Nat) (b l s : Int), 1 ≤ l → 1 ≤ s → Asc (b + l) b (bcut f b l s) ∧ ((bcut f b l s).length : Int) < s
  | 0, b, l, s, _, _ => ⟨trivial, by show ((0 : Nat) : Int) < s; omega⟩
  | f + 1, b, l, s, h1, h2 => by
    by_cases c : 1 < l ∧ 1 < s
    · have R := rangeI (n := l) (s := s) (by omega) (by omega)
      by_cases d : 1 < l - hiI l s
      · rw [bcut_go c.1 c.2 d]
        have ih := bcut_ok f (b + hiI l s) (l - hiI l s) (s - 1) (by omega) (by omega)
        rw [show b + hiI l s + (l - hiI l s) = b + l by omega] at ih
        refine ⟨⟨by omega, by omega, ih.1⟩, ?_⟩
        rw [List.length_cons]
        have := ih.2
        omega
      · rw [bcut_end c.1 c.2 d]
        exact ⟨trivial, by show ((0 : Nat) : Int) < s; omega⟩
    · unfold bcut
      rw [if_neg c]
      exact ⟨trivial, by show ((0 : Nat) : Int) < s; omega⟩
def bestCuts (n s : Int) : List Int := bcut s.toNat 0 n s
theorem bestCuts_take {n s : Int} (hn : 1 ≤ n) (hs : 1 ≤ s) (k : Nat) : swp n s 0 ((bestCuts n s).take k) = ttI n s := by
  have := bcut_take s.toNat 0 n s k hn hs
  rwa [Int.zero_add] at this
theorem bestCuts_ok {n s : Int} (hn : 1 ≤ n) (hs : 1 ≤ s) : Asc n 0 (bestCuts n s) ∧ ((bestCuts n s).length : Int) < s := by
  have := bcut_ok s.toNat 0 n s hn hs
  rwa [Int.zero_add] at this
theorem bestCuts_sum {n s : Int} (hn : 1 ≤ n) (hs : 1 ≤ s) : swp n s 0 (bestCuts n s) = ttI n s := by
  have := bestCuts_take hn hs (bestCuts n s).length
  rwa [List.take_length] at this
theorem bestCuts_head {n s : Int} (hn : 2 ≤ n) (hs : 2 ≤ s) : (1 < n - hiI n s → ∃ cs, bestCuts n s = hiI n s :: cs) ∧ (¬ 1 < n - hiI n s → bestCuts n s = []) := by
  unfold bestCuts
  obtain ⟨f, e⟩ : ∃ f, s.toNat = f + 1 := ⟨s.toNat - 1, by omega⟩
  rw [e]
  constructor
  · intro h
    rw [bcut_go (by omega) (by omega) h, Int.zero_add]
    exact ⟨_, rfl⟩
  · intro h
    exact bcut_end (by omega) (by omega) h
/-! the same sum as the code has it -/
def lastD (a : Int) (cs : List Int) : Int := cs.getLastD a
def parts : Int → Int → List Int → Int
  | _, _, [] => 0
  | s, a, c :: cs => ttI (c - a) s + parts (s - 1) c cs
theorem lastD_cons (a c : Int) (cs : List Int) : lastD a (c :: cs) = lastD c cs := by
  unfold lastD
  cases cs <;> simp [List.getLastD]
theorem lastD_snoc (a c : Int) (cs : List Int) : lastD a (cs ++ [c]) = c := by
  unfold lastD
  simp [List.getLastD_eq_getLast?]
theorem parts_snoc : ∀ (cs : List Int) (s a c : Int), parts s a (cs ++ [c]) = parts s a cs + ttI (c - lastD a cs) (s - cs.length)
  | [], s, a, c => by
    show ttI (c - a) s + 0 = 0 + ttI (c - a) (s - ((0 : Nat) : Int))
    rw [show s - ((0 : Nat) : Int) = s by omega]; omega
  | d :: cs, s, a, c => by
    show ttI (d - a) s + parts (s - 1) d (cs ++ [c]) = ttI (d - a) s + parts (s - 1) d cs + ttI (c - lastD a (d :: cs)) (s - ((cs.length + 1 : Nat) : Int))
    rw [parts_snoc cs (s - 1) d c, lastD_cons, show s - 1 - (cs.length : Int) = s - ((cs.length + 1 : Nat) : Int) by omega]
    omega
theorem swp_parts {n : Int} : ∀ (cs : List Int) (s a : Int), swp n s a cs = (lastD a cs - a) + ttI (n - lastD a cs) (s - cs.length) + parts s a cs
  | [], s, a => by
    show ttI (n - a) s = (a - a) + ttI (n - a) (s - ((0 : Nat) : Int)) + 0
    rw [show s - ((0 : Nat) : Int) = s by omega]; omega
  | c :: cs, s, a => by
    show (c - a) + ttI (c - a) s + swp n (s - 1) c cs = (lastD a (c :: cs) - a) + ttI (n - lastD a (c :: cs)) (s - ((cs.length + 1 : Nat) : Int)) + (ttI (c - a) s + parts (s - 1) c cs)
    rw [swp_parts cs (s - 1) c, lastD_cons, show s - 1 - (cs.length : Int) = s - ((cs.length + 1 : Nat) : Int) by omega]
    omega
theorem Asc.snoc {n : Int} : ∀ {cs : List Int} {a c : Int}, Asc n a (cs ++ [c]) → lastD a cs < c ∧ c < n
  | [], a, c, h => ⟨h.1, h.2.1⟩
  | d :: cs, a, c, h => by
    rw [lastD_cons]
    exact Asc.snoc (cs := cs) h.2.2
theorem Asc.take {n : Int} : ∀ {cs : List Int} {a : Int} (k : Nat), Asc n a cs → Asc n a (cs.take k)
  | [], _, k, _ => by rw [List.take_nil]; trivial
  | c :: cs, a, 0, _ => trivial
  | c :: cs, a, k + 1, h => ⟨h.1, h.2.1, Asc.take k h.2.2⟩
theorem Asc.last {n : Int} : ∀ {cs : List Int} {a : Int}, Asc n a cs → a ≤ lastD a cs ∧ (a < n → lastD a cs < n)
  | [], a, _ => ⟨Int.le_refl _, fun h => h⟩
  | c :: cs, a, h => by
    rw [lastD_cons]
    have := Asc.last h.2.2
    exact ⟨by have := this.1; have := h.1; omega, fun _ => this.2 h.2.1⟩
theorem Asc.sorted {n : Int} : ∀ {cs : List Int} {a : Int}, Asc n a cs → (∀ c ∈ cs, a < c) ∧ cs.Pairwise (· ≤ ·)
  | [], _, _ => ⟨fun _ h => (List.not_mem_nil h).elim, List.Pairwise.nil⟩
  | c :: cs, a, h => by
    have ih := Asc.sorted h.2.2
    refine ⟨fun d hd => ?_, List.Pairwise.cons (fun d hd => Int.le_of_lt (ih.1 d hd)) ih.2⟩
    rcases List.mem_cons.mp hd with rfl | hd
    · exact h.1
    · have := ih.1 d hd
      have := h.1
      omega
/-! prices -/
def price (n a b s : Int) : Int := s * a + ttI n s * b
theorem ttI_smono {n s q : Int} (hn : 1 ≤ n) (hs : 1 ≤ s) (h : s ≤ q) : ttI n q ≤ ttI n s := by
  obtain ⟨k, e⟩ : ∃ k : Nat, q = s + k := ⟨(q - s).toNat, by omega⟩
  subst e
  clear h
  induction k with
  | zero => simp
  | succ k ih =>
    have := tt_smono (n := n) (s := (s + k).toNat) hn (by omega)
    unfold ttI at ih ⊢
    rw [show (s + ((k + 1 : Nat) : Int)).toNat = (s + k).toNat + 1 by omega]
    omega
theorem ttI_1 {s : Int} (hs : 1 ≤ s) : ttI 1 s = 0 := tt_1 (by omega)
theorem ttI_pos {n s : Int} (hn : 2 ≤ n) (hs : 1 ≤ s) : 1 ≤ ttI n s := by
  have h := tt_step (n := n - 1) (s := s.toNat) (by omega) (by omega)
  rw [show n - 1 + 1 = n by omega] at h
  have a := tt_nn (n := n - 1) (s := s.toNat) (by omega) (by omega)
  have b := rho_pos (n := n) (s := s.toNat) hn (by omega)
  unfold ttI
  omega
end Bm

namespace Bs
open PySem PySem.Spec L2 Bm
open PyProof.Rows hiding St
/-! ### data that are compared -/
section
variable {K : PySem.W.Frag} {H : Hp}
theorem dpa_ints : ∀ ns : List Int, DpAll K H (ns.map V.int) (ns.map PyData.int)
  | [] => .nil
  | n :: ns => .cons (.int n) (dpa_ints ns)
theorem dp_ints {p : Addr} {ns : List Int} (h : SqL K H p (ns.map V.int)) : Dp K H (.ref p) (.list (ns.map PyData.int)) := .lst h (dpa_ints ns)
theorem dp_intsT {p : Addr} {ns : List Int} (h : SqT K H p (ns.map V.int)) : Dp K H (.ref p) (.tuple (ns.map PyData.int)) := .tup h (dpa_ints ns)
end
theorem canAll_ints : ∀ ns : List Int, PyData.canLayAll0 (ns.map PyData.int) = true
  | [] => rfl
  | n :: ns => by
    show (PyData.canLay0 (.int n) && PyData.canLayAll0 (ns.map PyData.int)) = true
    rw [canAll_ints ns]
    rfl
theorem depthAll_ints : ∀ ns : List Int, PyData.depthAll (ns.map PyData.int) = 0
  | [] => rfl
  | n :: ns => by
    show max (PyData.depth (.int n)) (PyData.depthAll (ns.map PyData.int)) = 0
    rw [depthAll_ints ns]
    rfl
theorem shaped_ints (ns : List Int) : SeqAt.shaped (.list (ns.map PyData.int)) = true := by
  unfold SeqAt.shaped
  rw [Bool.and_eq_true]
  refine ⟨canAll_ints ns, decide_eq_true ?_⟩
  show PyData.depthAll (ns.map PyData.int) + 1 ≤ 64
  rw [depthAll_ints]
  decide
theorem shaped_intsT (ns : List Int) : SeqAt.shaped (.tuple (ns.map PyData.int)) = true := by
  unfold SeqAt.shaped
  rw [Bool.and_eq_true]
  refine ⟨canAll_ints ns, decide_eq_true ?_⟩
  show PyData.depthAll (ns.map PyData.int) + 1 ≤ 64
  rw [depthAll_ints]
  decide
theorem eqvAll_ints : ∀ ns ms : List Int, PyData.eqvAll (ns.map PyData.int) (ms.map PyData.int) = decide (ns = ms)
  | [], [] => by rw [decide_eq_true rfl]; rfl
  | [], m :: ms => by rw [decide_eq_false (fun e => nomatch e)]; rfl
  | n :: ns, [] => by rw [decide_eq_false (fun e => nomatch e)]; rfl
  | n :: ns, m :: ms => by
    show ((n == m) && PyData.eqvAll (ns.map PyData.int) (ms.map PyData.int)) = _
    rw [eqvAll_ints ns ms]
    by_cases e : n = m
    · subst e
      simp
    · have : ¬ (n :: ns = m :: ms) := fun h => e (List.cons.inj h).1
      rw [decide_eq_false this, beq_eq_false_iff_ne.mpr e]
      rfl
section
variable {K : PySem.W.Frag} {H : Hp} {Q : VK} {p q : Addr} {ns ms : List Int}
theorem r_eqL (h1 : SqL K H p (ns.map V.int)) (h2 : SqL K H q (ms.map V.int)) (h : Q (.bl (decide (ns = ms))) H) : rEqD K (.ref p) (.ref q) H Q :=
  ⟨_, _, dp_ints h1, dp_ints h2, shaped_ints _, shaped_ints _, by
    show Q (.bl (PyData.eqvAll _ _)) H
    rw [eqvAll_ints]; exact h⟩
theorem r_neL (h1 : SqL K H p (ns.map V.int)) (h2 : SqL K H q (ms.map V.int)) (h : Q (.bl (!decide (ns = ms))) H) : rNeD K (.ref p) (.ref q) H Q :=
  ⟨_, _, dp_ints h1, dp_ints h2, shaped_ints _, shaped_ints _, by
    show Q (.bl (!PyData.eqvAll _ _)) H
    rw [eqvAll_ints]; exact h⟩
theorem r_eqT (h1 : SqT K H p (ns.map V.int)) (h2 : SqT K H q (ms.map V.int)) (h : Q (.bl (decide (ns = ms))) H) : rEqD K (.ref p) (.ref q) H Q :=
  ⟨_, _, dp_intsT h1, dp_intsT h2, shaped_intsT _, shaped_intsT _, by
    show Q (.bl (PyData.eqvAll _ _)) H
    rw [eqvAll_ints]; exact h⟩
theorem r_neT (h1 : SqT K H p (ns.map V.int)) (h2 : SqT K H q (ms.map V.int)) (h : Q (.bl (!decide (ns = ms))) H) : rNeD K (.ref p) (.ref q) H Q :=
  ⟨_, _, dp_intsT h1, dp_intsT h2, shaped_intsT _, shaped_intsT _, by
    show Q (.bl (!PyData.eqvAll _ _)) H
    rw [eqvAll_ints]; exact h⟩
end
/-- two ascending lists with the same items are one -/
theorem sorted_same : ∀ {xs ys : List Int}, xs.Perm ys → xs.Pairwise (· ≤ ·) → ys.Pairwise (· ≤ ·) → xs = ys
  | [], ys, h, _, _ => by rw [List.Perm.nil_eq h]
  | x :: xs, [], h, _, _ => by have := h.length_eq; simp at this
  | x :: xs, y :: ys, h, h1, h2 => by
    have e : x = y := by
      have a : x ∈ y :: ys := h.subset List.mem_cons_self
      have b : y ∈ x :: xs := h.symm.subset List.mem_cons_self
      rcases List.mem_cons.mp a with a | a
      · exact a
      · rcases List.mem_cons.mp b with b | b
        · exact b.symm
        · have := (List.pairwise_cons.mp h1).1 y b
          have := (List.pairwise_cons.mp h2).1 x a
          omega
    subst e
    rw [sorted_same (List.Perm.cons_inv h) (List.pairwise_cons.mp h1).2 (List.pairwise_cons.mp h2).2]
end Bs

namespace Bs
open PySem PySem.Spec L2 Bm
open PyProof.Rows hiding St
/-! ### more readings -/
section
variable {D : Ends} {σ : L2.St} {H : Hp} {Q : VK} {K : PySem.W.Frag} {i j k : Int} {n m o : Nat} {x y v : V} {ta tb te tc td : TE} {t u : TS} {c d : TT} {r : R2}
/-- what comes after a statement, said once -/
theorem r_join (J : L2.St → Hp → Prop) (rest : ∀ σ' H', J σ' H' → u D σ' H') (h : ∀ N : L2.St → Hp → Prop, (∀ σ' H', J σ' H' → N σ' H') → t { D with nx := N } σ H) : tSeq t u D σ H := h (u D) rest
theorem r_jn (J : L2.St → Hp → Prop) (h : ∀ N : L2.St → Hp → Prop, (∀ σ' H', J σ' H' → N σ' H') → t { D with nx := N } σ H) (rest : ∀ σ' H', J σ' H' → u D σ' H') : tSeq t u D σ H := h (u D) rest
theorem r_nn {p : Prop} [Decidable p] {A B : Prop} (hp : p) (h : B) : if (!decide p) = true then A else B := by rw [decide_eq_true hp]; exact r_iteNT h
theorem r_ny {p : Prop} [Decidable p] {A B : Prop} (hp : ¬ p) (h : A) : if (!decide p) = true then A else B := by rw [decide_eq_false hp]; exact r_iteNF h
theorem r_aug {ti : TIp} (h : σ[n]? = some (some x)) (q : te σ H fun y H1 => ti x y H1 fun z H2 => D.nx (σ.set n (some z)) H2) : tAug n te ti D σ H := ⟨x, h, q⟩
theorem r_ipI {f : Int → Int → Int} (h : Q (.int (f i j)) H) : ipI f (.int i) (.int j) H Q := ⟨i, j, rfl, rfl, h⟩
theorem r_bm {T : String} {f : V → List V → Hp → VK → Prop} {tA : TA} (h : te σ H fun x H1 => tyV K T x H1 ∧ tA σ H1 fun xs H2 => f x xs H2 Q) : tBM K T f te tA σ H Q := h
theorem r_tyL {p : Addr} {xs : List V} {P : Prop} (h1 : SqL K H p xs) (h : P) : tyV K "list" (.ref p) H ∧ P := ⟨.inl ⟨rfl, xs, h1⟩, h⟩
theorem r_app {p : Addr} {xs : List V} (h1 : H p = some (.lst xs)) (hl : xs.length < 100000) (h : Q .non (upd H p (.lst (xs ++ [y])))) : rAppend (.ref p) [y] H Q := ⟨p, xs, y, rfl, rfl, h1, sz_lt hl, h⟩
theorem r_enum {tA : TA} {R : It → Hp → Prop} (h : tA σ H fun vs H1 => ∃ a xs, vs = [.ref a] ∧ SqL K H1 a xs ∧ R (Ite K a) H1) : iEnum K tA σ H R := h
theorem r_en {p : Addr} {xs : List V} {R : Addr → Prop} (h1 : SqL K H p xs) (h : R p) : ∃ a xs, [V.ref p] = [.ref a] ∧ SqL K H a xs ∧ R a := ⟨p, xs, rfl, h1, h⟩
theorem r_par3' (h : ta σ H fun x H1 => tb σ H1 fun y H2 => tc σ H2 fun z H3 => D.nx (((σ.set n (some x)).set m (some y)).set o (some z)) H3) : tPar3 n m o (tCons ta (tCons tb (tCons tc tNil))) D σ H := by
  show ta σ H fun x H1 => tb σ H1 fun y H2 => tc σ H2 fun z H3 => ∃ u v w, [x, y, z] = [u, v, w] ∧ D.nx (((σ.set n (some u)).set m (some v)).set o (some w)) H3
  have e : (fun (x : V) (H1 : Hp) => tb σ H1 fun y H2 => tc σ H2 fun z H3 => ∃ u v w, [x, y, z] = [u, v, w] ∧ D.nx (((σ.set n (some u)).set m (some v)).set o (some w)) H3) =
      fun x H1 => tb σ H1 fun y H2 => tc σ H2 fun z H3 => D.nx (((σ.set n (some x)).set m (some y)).set o (some z)) H3 := by
    funext x H1
    congr 1
    funext y H2
    congr 1
    funext z H3
    apply propext
    constructor
    · rintro ⟨u, v, w, e, h⟩
      cases e
      exact h
    · intro h
      exact ⟨x, y, z, rfl, h⟩
  rw [e]
  exact h
theorem r_sum {p : Addr} {ns : List Int} (h1 : SqL K H p (ns.map V.int)) (h : Q (.int ns.sum) H) : rSum K [.ref p] H Q := ⟨p, ns, rfl, h1, h⟩
theorem r_p20 (h : Q (.int 100000000000000000000) H) : oPowA (.int 10) (.int 20) H Q := ⟨10, 20, rfl, rfl, powS (b := 4) (by decide) (by decide) (by decide) (by decide), h⟩
theorem r_p27 (h : Q (.int 1000000000000000000000000000) H) : oPowA (.int 10) (.int 27) H Q := ⟨10, 27, rfl, rfl, powS (b := 4) (by decide) (by decide) (by decide) (by decide), h⟩
theorem r_p29 (h : Q (.int 100000000000000000000000000000) H) : oPowA (.int 10) (.int 29) H Q := ⟨10, 29, rfl, rfl, powS (b := 4) (by decide) (by decide) (by decide) (by decide), h⟩
theorem r_p38 (h : Q (.int 100000000000000000000000000000000000000) H) : oPowA (.int 10) (.int 38) H Q := ⟨10, 38, rfl, rfl, powS (b := 4) (by decide) (by decide) (by decide) (by decide), h⟩
theorem r_p40 (h : Q (.int 10000000000000000000000000000000000000000) H) : oPowA (.int 10) (.int 40) H Q := ⟨10, 40, rfl, rfl, powS (b := 4) (by decide) (by decide) (by decide) (by decide), h⟩
theorem r_p42 (h : Q (.int 1000000000000000000000000000000000000000000) H) : oPowA (.int 10) (.int 42) H Q := ⟨10, 42, rfl, rfl, powS (b := 4) (by decide) (by decide) (by decide) (by decide), h⟩
theorem r_p44 (h : Q (.int 100000000000000000000000000000000000000000000) H) : oPowA (.int 10) (.int 44) H Q := ⟨10, 44, rfl, rfl, powS (b := 4) (by decide) (by decide) (by decide) (by decide), h⟩
theorem r_p49 (h : Q (.int 10000000000000000000000000000000000000000000000000) H) : oPowA (.int 10) (.int 49) H Q := ⟨10, 49, rfl, rfl, powS (b := 4) (by decide) (by decide) (by decide) (by decide), h⟩
theorem r_p50 (h : Q (.int 100000000000000000000000000000000000000000000000000) H) : oPowA (.int 10) (.int 50) H Q := ⟨10, 50, rfl, rfl, powS (b := 4) (by decide) (by decide) (by decide) (by decide), h⟩
theorem r_p60 (h : Q (.int 1000000000000000000000000000000000000000000000000000000000000) H) : oPowA (.int 10) (.int 60) H Q := ⟨10, 60, rfl, rfl, powS (b := 4) (by decide) (by decide) (by decide) (by decide), h⟩
end
theorem sum_snoc (x : Int) : ∀ xs : List Int, (xs ++ [x]).sum = xs.sum + x
  | [] => by simp
  | y :: ys => by rw [List.cons_append, List.sum_cons, sum_snoc x ys, List.sum_cons, Int.add_assoc]
theorem SqL.seq {K : PySem.W.Frag} {H H' : Hp} {a : Addr} {xs : List V} (e : Same H H') (h : SqL K H a xs) : SqL K H' a xs := by
  rcases h with (h | ⟨o, h⟩) | h
  · exact .inl (.inl (e _ _ h))
  · exact .inl (.inr ⟨o, e _ _ h⟩)
  · exact .inr h
/-- a list stays where all but a new object does -/
theorem SqL.keep {K : PySem.W.Frag} {H H' : Hp} {a p : Addr} {xs : List V} (h : SqL K H a xs) (hp : H p = none) (e : But p H H') : SqL K H' a xs := by
  rcases h with (h | ⟨o, h⟩) | h
  · exact .inl (.inl (e _ _ (ne_of_none h hp) h))
  · exact .inl (.inr ⟨o, e _ _ (ne_of_none h hp) h⟩)
  · exact .inr h
end Bs

namespace Bs
open PySem PySem.Spec L2 Bm
open PyProof.Rows hiding St
def sp_require_rounds (_ : PySem.W.Frag) : Sp := fun vs H Q _ => ∃ r, vs = [.int r] ∧ 0 ≤ r ∧ r ≤ 1000 ∧ Q .non H
def sp_reach (_ : PySem.W.Frag) : Sp := fun vs H Q _ => ∃ s r, vs = [.int s, .int r] ∧ 1 ≤ s ∧ s ≤ 100 ∧ 0 ≤ r ∧ r ≤ 1000 ∧ Q (.int (rcI s r)) H
def sp_least_rounds (_ : PySem.W.Frag) : Sp := fun vs H Q _ => ∃ n s, vs = [.int n, .int s] ∧ 1 ≤ n ∧ n ≤ 1000000000000000000000000000000 ∧ 1 ≤ s ∧ s ≤ 100 ∧ ∀ H', Same H H' → Q (.int (rhoI n s)) H'
def sp_least_slots (_ : PySem.W.Frag) : Sp := fun vs H Q _ => ∃ n r s, vs = [.int n, .int r] ∧ 1 ≤ n ∧ n ≤ 1000000000000000000000000000000 ∧ 0 ≤ r ∧ r ≤ 1000 ∧ 1 ≤ s ∧ s ≤ 100 ∧ n ≤ rcI s r ∧
  ∀ t, 1 ≤ t → t ≤ s → n ≤ rcI t r → (∀ q, 1 ≤ q → q < t → rcI q r < n) → Q (.int t) H
def sp_require_number (_ : PySem.W.Frag) : Sp := fun vs H Q _ => ∃ i, vs = [.int i] ∧ 0 ≤ i ∧ Q .non H
def sp_least_steps (_ : PySem.W.Frag) : Sp := fun vs H Q _ => ∃ n s, vs = [.int n, .int s] ∧ 1 ≤ n ∧ n ≤ 1000000000000000000000000000000 ∧ 1 ≤ s ∧ s ≤ 100 ∧ ∀ H', Same H H' → Q (.int (ttI n s)) H'
def sp_slot_gain (_ : PySem.W.Frag) : Sp := fun vs H Q _ => ∃ n s, vs = [.int n, .int s] ∧ 1 ≤ n ∧ n ≤ 1000000000000000000000000000000 ∧ 1 ≤ s ∧ s ≤ 100 ∧ ∀ H', Same H H' → Q (.int (ttI n s - ttI n (s + 1))) H'
def sp_slots_for (_ : PySem.W.Frag) : Sp := fun vs H Q _ => ∃ n m, vs = [.int n, .int m] ∧ 1 ≤ n ∧ n ≤ 1000000000000000000000000000000 ∧ 0 ≤ m ∧
  (∀ s H', 1 ≤ s → s ≤ 100 → ttI n s ≤ m → (∀ t, 1 ≤ t → t < s → m < ttI n t) → Same H H' → Q (.int s) H') ∧ ((∀ t, 1 ≤ t → t ≤ 100 → m < ttI n t) → ∀ H', Same H H' → Q .non H')
def sp_cheapest_slots (_ : PySem.W.Frag) : Sp := fun vs H Q _ => ∃ n a b, vs = [.int n, .int a, .int b] ∧ 1 ≤ n ∧ n ≤ 1000000000000000000000000000000 ∧ 0 ≤ a ∧ a.natAbs < 2 ^ 1000 ∧ 0 ≤ b ∧ b.natAbs < 2 ^ 1000 ∧
  ∀ s p H', 1 ≤ s → s ≤ 100 → (∀ t, 1 ≤ t → t ≤ 100 → price n a b s ≤ price n a b t) → (∀ t, 1 ≤ t → t < s → price n a b s < price n a b t) → Same H H' → H p = none → H' p = some (.tup [.int (price n a b s), .int s]) → Q (.ref p) H'
def sp_require_cuts (K : PySem.W.Frag) : Sp := fun vs H Q _ => ∃ (n s : Int) (p : Addr) (cs : List Int), vs = [.int n, .int s, .ref p] ∧ H p = some (.lst (cs.map V.int)) ∧ Asc n 0 cs ∧ (cs.length : Int) < s ∧ s ≤ 100 ∧ ∀ H', Same H H' → Q .non H'
def sp_sweep_steps (K : PySem.W.Frag) : Sp := fun vs H Q _ => ∃ (n s : Int) (p : Addr) (cs : List Int), vs = [.int n, .int s, .ref p] ∧ 1 ≤ n ∧ n ≤ 1000000000000000000000000000000 ∧ 1 ≤ s ∧ s ≤ 100 ∧ H p = some (.lst (cs.map V.int)) ∧ Asc n 0 cs ∧ (cs.length : Int) < s ∧
  ∀ H', Same H H' → Q (.int (swp n s 0 cs)) H'
def sp_best_cuts (K : PySem.W.Frag) : Sp := fun vs H Q _ => ∃ (n s : Int), vs = [.int n, .int s] ∧ 1 ≤ n ∧ n ≤ 1000000000000000000000000000000 ∧ 1 ≤ s ∧ s ≤ 100 ∧ ∀ p H', Same H H' → H p = none → H' p = some (.lst ((bestCuts n s).map V.int)) → Q (.ref p) H'
/-- the draws of a cell: three ints, f draws are left -/
def Reel (H : Hp) (a : Addr) (f : Int) : Prop := ∃ x y z : Int, H a = some (.lst [.int x, .int y, .int z]) ∧ 0 ≤ y ∧ y < 2 ^ 200 ∧ 0 ≤ z ∧ z + f ≤ 100000
def sp_l_wound (K : PySem.W.Frag) : Sp := fun vs H Q _ => ∃ (a : Addr) (ns : List Int) (k : Int), vs = [.ref a, .int k] ∧ SqL K H a (ns.map V.int) ∧ 0 ≤ k ∧ k ≤ 100 ∧ ∀ p H', Same H H' → H p = none → Reel H' p 100000 → Q (.ref p) H'
def sp_l_spin (_ : PySem.W.Frag) : Sp := fun vs H Q _ => ∃ a m f, vs = [.ref a, .int m] ∧ 1 ≤ m ∧ m < 2 ^ 220 ∧ Reel H a f ∧ 1 ≤ f ∧ ∀ r H', 0 ≤ r → r < m → But a H H' → Reel H' a (f - 1) → Q (.int r) H'
def sp_l_choose (_ : PySem.W.Frag) : Sp := fun vs H Q _ => ∃ s r, vs = [.int s, .int r] ∧ 1 ≤ s ∧ s ≤ 102 ∧ -1 ≤ r ∧ r ≤ 2 ^ 109 ∧ Q (.int (rcI s r)) H
def sp_l_great (_ : PySem.W.Frag) : Sp := fun vs H Q _ => ∃ a f, vs = [.ref a] ∧ Reel H a f ∧ 8 ≤ f ∧ ∀ n s p H', 1 ≤ n → n ≤ 1000000000000000000000000000000 → 1 ≤ s → s ≤ 100 → But a H H' → Reel H' a (f - 8) → H p = none → H' p = some (.tup [.int n, .int s]) → Q (.ref p) H'
def sp_l_slots_right (_ : PySem.W.Frag) : Sp := fun vs H Q _ => ∃ a n s f, vs = [.ref a, .int n, .int s] ∧ 1 ≤ n ∧ n ≤ 1000000000000000000000000000000 ∧ 1 ≤ s ∧ s ≤ 100 ∧ Reel H a f ∧ 3 ≤ f ∧ ∀ H', But a H H' → Reel H' a (f - 3) → Q (.bl true) H'
def sp_l_splits_right (_ : PySem.W.Frag) : Sp := fun vs H Q _ => ∃ a n s f, vs = [.ref a, .int n, .int s] ∧ 1 ≤ n ∧ n ≤ 1000000000000000000000000000000 ∧ 1 ≤ s ∧ s ≤ 100 ∧ Reel H a f ∧ 1 ≤ f ∧ ∀ f' H', f - 1 ≤ f' → But a H H' → Reel H' a f' → Q (.bl true) H'
def sp_law_k43 (K : PySem.W.Frag) : Sp := fun vs H Q _ => ∃ (a : Addr) (ns : List Int), vs = [.ref a] ∧ SqL K H a (ns.map V.int) ∧ ns.length ≤ 63 ∧ ∀ H', Q (.bl true) H'

theorem len_require_rounds (K : PySem.W.Frag) {vs : List V} {H : Hp} {Q : VK} {E : XK} (h : sp_require_rounds K vs H Q E) : vs.length = 1 := by
  obtain ⟨_, rfl, _⟩ := h
  rfl
theorem len_reach (K : PySem.W.Frag) {vs : List V} {H : Hp} {Q : VK} {E : XK} (h : sp_reach K vs H Q E) : vs.length = 2 := by
  obtain ⟨_, _, rfl, _⟩ := h
  rfl
theorem len_least_rounds (K : PySem.W.Frag) {vs : List V} {H : Hp} {Q : VK} {E : XK} (h : sp_least_rounds K vs H Q E) : vs.length = 2 := by
  obtain ⟨_, _, rfl, _⟩ := h
  rfl
theorem len_least_slots (K : PySem.W.Frag) {vs : List V} {H : Hp} {Q : VK} {E : XK} (h : sp_least_slots K vs H Q E) : vs.length = 2 := by
  obtain ⟨_, _, _, rfl, _⟩ := h
  rfl
theorem len_require_number (K : PySem.W.Frag) {vs : List V} {H : Hp} {Q : VK} {E : XK} (h : sp_require_number K vs H Q E) : vs.length = 1 := by
  obtain ⟨_, rfl, _⟩ := h
  rfl
theorem len_least_steps (K : PySem.W.Frag) {vs : List V} {H : Hp} {Q : VK} {E : XK} (h : sp_least_steps K vs H Q E) : vs.length = 2 := by
  obtain ⟨_, _, rfl, _⟩ := h
  rfl
theorem len_slot_gain (K : PySem.W.Frag) {vs : List V} {H : Hp} {Q : VK} {E : XK} (h : sp_slot_gain K vs H Q E) : vs.length = 2 := by
  obtain ⟨_, _, rfl, _⟩ := h
  rfl
theorem len_slots_for (K : PySem.W.Frag) {vs : List V} {H : Hp} {Q : VK} {E : XK} (h : sp_slots_for K vs H Q E) : vs.length = 2 := by
  obtain ⟨_, _, rfl, _⟩ := h
  rfl
theorem len_cheapest_slots (K : PySem.W.Frag) {vs : List V} {H : Hp} {Q : VK} {E : XK} (h : sp_cheapest_slots K vs H Q E) : vs.length = 3 := by
  obtain ⟨_, _, _, rfl, _⟩ := h
  rfl
theorem len_require_cuts (K : PySem.W.Frag) {vs : List V} {H : Hp} {Q : VK} {E : XK} (h : sp_require_cuts K vs H Q E) : vs.length = 3 := by
  obtain ⟨_, _, _, _, rfl, _⟩ := h
  rfl
theorem len_sweep_steps (K : PySem.W.Frag) {vs : List V} {H : Hp} {Q : VK} {E : XK} (h : sp_sweep_steps K vs H Q E) : vs.length = 3 := by
  obtain ⟨_, _, _, _, rfl, _⟩ := h
  rfl
theorem len_best_cuts (K : PySem.W.Frag) {vs : List V} {H : Hp} {Q : VK} {E : XK} (h : sp_best_cuts K vs H Q E) : vs.length = 2 := by
  obtain ⟨_, _, rfl, _⟩ := h
  rfl
theorem len_l_wound (K : PySem.W.Frag) {vs : List V} {H : Hp} {Q : VK} {E : XK} (h : sp_l_wound K vs H Q E) : vs.length = 2 := by
  obtain ⟨_, _, _, rfl, _⟩ := h
  rfl
theorem len_l_spin (K : PySem.W.Frag) {vs : List V} {H : Hp} {Q : VK} {E : XK} (h : sp_l_spin K vs H Q E) : vs.length = 2 := by
  obtain ⟨_, _, _, rfl, _⟩ := h
  rfl
theorem len_l_choose (K : PySem.W.Frag) {vs : List V} {H : Hp} {Q : VK} {E : XK} (h : sp_l_choose K vs H Q E) : vs.length = 2 := by
  obtain ⟨_, _, rfl, _⟩ := h
  rfl
theorem len_l_great (K : PySem.W.Frag) {vs : List V} {H : Hp} {Q : VK} {E : XK} (h : sp_l_great K vs H Q E) : vs.length = 1 := by
  obtain ⟨_, _, rfl, _⟩ := h
  rfl
theorem len_l_slots_right (K : PySem.W.Frag) {vs : List V} {H : Hp} {Q : VK} {E : XK} (h : sp_l_slots_right K vs H Q E) : vs.length = 3 := by
  obtain ⟨_, _, _, _, rfl, _⟩ := h
  rfl
theorem len_l_splits_right (K : PySem.W.Frag) {vs : List V} {H : Hp} {Q : VK} {E : XK} (h : sp_l_splits_right K vs H Q E) : vs.length = 3 := by
  obtain ⟨_, _, _, _, rfl, _⟩ := h
  rfl
theorem len_law_k43 (K : PySem.W.Frag) {vs : List V} {H : Hp} {Q : VK} {E : XK} (h : sp_law_k43 K vs H Q E) : vs.length = 1 := by
  obtain ⟨_, _, rfl, _⟩ := h
  rfl

/-- require_rounds: slots 0 value -/
abbrev n_require_rounds : List Str := ["value"]
def t_require_rounds (K : PySem.W.Frag) : TS :=
  (tIfS (tNot (tB (tCall (sp_is_whole K) [] E0 (tCons (tVar 0) (tCons (tC (.int 0)) (tCons (tC (.int 1000)) tNil)))))) tNever tNext)
/-- reach: slots 0 slots, 1 rounds -/
abbrev n_reach : List Str := ["slots", "rounds"]
def t_reach (K : PySem.W.Frag) : TS :=
  (tSeq (tDrop (tCall (sp_require_slots K) [] E0 (tCons (tVar 0) tNil)))
  (tSeq (tDrop (tCall (sp_require_rounds K) [] E0 (tCons (tVar 1) tNil)))
  (tRet (tCall (sp_reach_of K) [] E0 (tCons (tVar 0) (tCons (tVar 1) tNil))))))
/-- least_rounds: slots 0 length, 1 slots -/
abbrev n_least_rounds : List Str := ["length", "slots"]
def t_least_rounds (K : PySem.W.Frag) : TS :=
  (tSeq (tDrop (tCall (sp_require_task K) [] E0 (tCons (tVar 0) (tCons (tVar 1) tNil))))
  (tRet (tCall (sp_rounds_of K) [] E0 (tCons (tVar 0) (tCons (tVar 1) tNil)))))
/-- least_slots: slots 0 length, 1 rounds, 2 slots -/
abbrev n_least_slots : List Str := ["length", "rounds", "slots"]
def t_least_slots (K : PySem.W.Frag) : TS :=
  (tSeq (tDrop (tCall (sp_require_length K) [] E0 (tCons (tVar 0) tNil)))
  (tSeq (tDrop (tCall (sp_require_rounds K) [] E0 (tCons (tVar 1) tNil)))
  (tSeq (tFor (iRng2 (tCons (tC (.int 1)) (tCons (tOp oAdd (tC (.int 100)) (tC (.int 1))) tNil))) (gName 2)
  (tIfS (tTest (tOp oGe (tCall (sp_reach_of K) [] E0 (tCons (tVar 2) (tCons (tVar 1) tNil))) (tVar 0))) (tRet (tVar 2)) tNext))
  (tRet (tC .non)))))
/-- require_number: slots 0 value -/
abbrev n_require_number : List Str := ["value"]
def t_require_number (K : PySem.W.Frag) : TS :=
  (tIfS (tOr (tNot (tB (tCall (sp_is_int K) [] E0 (tCons (tVar 0) tNil)))) (tTest (tOp oLt (tVar 0) (tC (.int 0))))) tNever tNext)
/-- least_steps: slots 0 length, 1 slots -/
abbrev n_least_steps : List Str := ["length", "slots"]
def t_least_steps (K : PySem.W.Frag) : TS :=
  (tSeq (tDrop (tCall (sp_require_task K) [] E0 (tCons (tVar 0) (tCons (tVar 1) tNil))))
  (tRet (tCall (sp_least_of K) [] E0 (tCons (tVar 0) (tCons (tVar 1) tNil)))))
/-- slot_gain: slots 0 length, 1 slots -/
abbrev n_slot_gain : List Str := ["length", "slots"]
def t_slot_gain (K : PySem.W.Frag) : TS :=
  (tSeq (tDrop (tCall (sp_require_task K) [] E0 (tCons (tVar 0) (tCons (tVar 1) tNil))))
  (tRet (tOp oSub (tCall (sp_least_of K) [] E0 (tCons (tVar 0) (tCons (tVar 1) tNil))) (tCall (sp_least_of K) [] E0 (tCons (tVar 0) (tCons (tOp oAdd (tVar 1) (tC (.int 1))) tNil))))))
/-- slots_for: slots 0 length, 1 steps, 2 slots -/
abbrev n_slots_for : List Str := ["length", "steps", "slots"]
def t_slots_for (K : PySem.W.Frag) : TS :=
  (tSeq (tDrop (tCall (sp_require_length K) [] E0 (tCons (tVar 0) tNil)))
  (tSeq (tDrop (tCall (sp_require_number K) [] E0 (tCons (tVar 1) tNil)))
  (tSeq (tFor (iRng2 (tCons (tC (.int 1)) (tCons (tOp oAdd (tC (.int 100)) (tC (.int 1))) tNil))) (gName 2)
  (tIfS (tTest (tOp oLe (tCall (sp_least_of K) [] E0 (tCons (tVar 0) (tCons (tVar 2) tNil))) (tVar 1))) (tRet (tVar 2)) tNext))
  (tRet (tC .non)))))
/-- cheapest_slots: slots 0 length, 1 slot_price, 2 step_price, 3 found, 4 slots -/
abbrev n_cheapest_slots : List Str := ["length", "slot_price", "step_price", "found", "slots"]
def t_cheapest_slots (K : PySem.W.Frag) : TS :=
  (tSeq (tDrop (tCall (sp_require_length K) [] E0 (tCons (tVar 0) tNil)))
  (tSeq (tDrop (tCall (sp_require_number K) [] E0 (tCons (tVar 1) tNil)))
  (tSeq (tDrop (tCall (sp_require_number K) [] E0 (tCons (tVar 2) tNil)))
  (tSeq (tAsg (tLst tNil) (gName 3))
  (tSeq (tFor (iRng2 (tCons (tC (.int 1)) (tCons (tOp oAdd (tC (.int 100)) (tC (.int 1))) tNil))) (gName 4)
  (tDrop (tBM K "list" rAppend (tVar 3) (tCons (tTup (tCons (tOp oAdd (tOp oMulA (tVar 4) (tVar 1)) (tOp oMulA (tCall (sp_least_of K) [] E0 (tCons (tVar 0) (tCons (tVar 4) tNil))) (tVar 2))) (tCons (tVar 4) tNil))) tNil))))
  (tRet (tCB (rMinT K) (tCons (tVar 3) tNil))))))))
/-- require_cuts: slots 0 length, 1 slots, 2 value, 3 ahead, 4 item, 5 cut -/
abbrev n_require_cuts : List Str := ["length", "slots", "value", "ahead", "item", "cut"]
def t_require_cuts (K : PySem.W.Frag) : TS :=
  (tSeq (tIfS (tOr (tNot (tB (tCB (rIsi K) (tCons (tVar 2) (tCons (tC (.ty "list")) tNil))))) (tTest (tOp oGe (tCB (oLen K) (tCons (tVar 2) tNil)) (tVar 1)))) tNever tNext)
  (tSeq (tAsg (tC (.int 0)) (gName 3))
  (tFor (iEnum K (tCons (tVar 2) tNil)) (gTup K 2 (gCons (gName 4) (gCons (gName 5) gNil)))
  (tSeq (tIfS (tNot (tB (tCall (sp_is_whole K) [] E0 (tCons (tVar 5) (tCons (tOp oAdd (tVar 3) (tC (.int 1))) (tCons (tOp oSub (tVar 0) (tC (.int 1))) tNil)))))) tNever tNext)
  (tAsg (tVar 5) (gName 3))))))
/-- sweep_steps: slots 0 length, 1 slots, 2 cuts, 3 found, 4 ahead, 5 item, 6 cut -/
abbrev n_sweep_steps : List Str := ["length", "slots", "cuts", "found", "ahead", "item", "cut"]
def t_sweep_steps (K : PySem.W.Frag) : TS :=
  (tSeq (tDrop (tCall (sp_require_task K) [] E0 (tCons (tVar 0) (tCons (tVar 1) tNil))))
  (tSeq (tDrop (tCall (sp_require_cuts K) [] E0 (tCons (tVar 0) (tCons (tVar 1) (tCons (tVar 2) tNil)))))
  (tSeq (tIfS (tTest (tOp (rEqD K) (tVar 2) (tLst tNil))) (tRet (tCall (sp_least_of K) [] E0 (tCons (tVar 0) (tCons (tVar 1) tNil)))) tNext)
  (tSeq (tPar 3 4 (tCons (tOp oAdd (tOp (rIxL K) (tVar 2) (tUn uNeg (tC (.int 1)))) (tCall (sp_least_of K) [] E0 (tCons (tOp oSub (tVar 0) (tOp (rIxL K) (tVar 2) (tUn uNeg (tC (.int 1))))) (tCons (tOp oSub (tVar 1) (tCB (oLen K) (tCons (tVar 2) tNil))) tNil)))) (tCons (tC (.int 0)) tNil)))
  (tSeq (tFor (iEnum K (tCons (tVar 2) tNil)) (gTup K 2 (gCons (gName 5) (gCons (gName 6) gNil)))
  (tSeq (tAug 3 (tCall (sp_least_of K) [] E0 (tCons (tOp oSub (tVar 6) (tVar 4)) (tCons (tOp oSub (tVar 1) (tVar 5)) tNil))) (ipI fun i j => i + j))
  (tAsg (tVar 6) (gName 4))))
  (tRet (tVar 3)))))))
/-- best_cuts: slots 0 length, 1 slots, 2 found, 3 begin, 4 left, 5 free, 6 split -/
abbrev n_best_cuts : List Str := ["length", "slots", "found", "begin", "left", "free", "split"]
def t_best_cuts (K : PySem.W.Frag) : TS :=
  (tSeq (tDrop (tCall (sp_require_task K) [] E0 (tCons (tVar 0) (tCons (tVar 1) tNil))))
  (tSeq (tAsg (tTup (tCons (tLst tNil) (tCons (tC (.int 0)) (tCons (tVar 0) (tCons (tVar 1) tNil))))) (gTup K 4 (gCons (gName 2) (gCons (gName 3) (gCons (gName 4) (gCons (gName 5) gNil))))))
  (tSeq (tWhile (tAnd (tTest (tOp oGt (tVar 4) (tC (.int 1)))) (tTest (tOp oGt (tVar 5) (tC (.int 1)))))
  (tSeq (tAsg (tOp (rIxT K) (tCall (sp_splits_with K) [] E0 (tCons (tVar 4) (tCons (tVar 5) (tCons (tCall (sp_rounds_of K) [] E0 (tCons (tVar 4) (tCons (tVar 5) tNil))) tNil)))) (tC (.int 1))) (gName 6))
  (tSeq (tPar3 3 4 5 (tCons (tOp oAdd (tVar 3) (tVar 6)) (tCons (tOp oSub (tVar 4) (tVar 6)) (tCons (tOp oSub (tVar 5) (tC (.int 1))) tNil))))
  (tIfS (tTest (tOp oGt (tVar 4) (tC (.int 1)))) (tDrop (tBM K "list" rAppend (tVar 2) (tCons (tVar 3) tNil))) tNext))))
  (tRet (tVar 2)))))
/-- wound: slots 0 l_script, 1 l_k, 2 l_cell -/
abbrev n_l_wound : List Str := ["_law_script", "_law_k", "_law_cell"]
def t_l_wound (K : PySem.W.Frag) : TS :=
  (tSeq (tAsg (tC (.int 0)) (gName 2))
  (tSeq (tIfS (tTest (tOp oLt (tVar 1) (tCB (oLen K) (tCons (tVar 0) tNil)))) (tAsg (tOp (rIxL K) (tVar 0) (tVar 1)) (gName 2)) tNext)
  (tRet (tLst (tCons (tCB oMax2 (tCons (tC (.int 0)) (tCons (tOp oSub (tVar 2) (tOp oPowA (tC (.int 10)) (tC (.int 18)))) tNil))) (tCons (tOp oAdd (tOp oAdd (tOp oMulA (tOp oModP (tCB oInt (tCons (tVar 2) tNil)) (tOp oAdd (tOp oPowA (tC (.int 10)) (tC (.int 38))) (tC (.int 133)))) (tC (.int 67))) (tOp oMulA (tC (.int 141650939)) (tVar 1))) (tC (.int 23))) (tCons (tC (.int 0)) tNil)))))))
/-- spin: slots 0 l_reel, 1 l_many, 2 l_drawn, 3 l_mixed -/
abbrev n_l_spin : List Str := ["_law_reel", "_law_many", "_law_drawn", "_law_mixed"]
def t_l_spin (K : PySem.W.Frag) : TS :=
  (tSeq (tIfS (tTest (tOp oGt (tOp (rIxL K) (tVar 0) (tC (.int 0))) (tC (.int 0)))) (tSeq (tAsg (tOp oModP (tCB oInt (tCons (tOp (rIxL K) (tVar 0) (tC (.int 0))) tNil)) (tVar 1)) (gName 2))
  (tSeq (tAsg (tOp oDivP (tOp (rIxL K) (tVar 0) (tC (.int 0))) (tVar 1)) (gSub (tVar 0) (tC (.int 0)) rSetL))
  (tRet (tVar 2)))) tNext)
  (tSeq (tAsg (tOp oAdd (tOp (rIxL K) (tVar 0) (tC (.int 2))) (tC (.int 1))) (gSub (tVar 0) (tC (.int 2)) rSetL))
  (tSeq (tAsg (tOp oModP (tCB oInt (tCons (tOp oPowA (tOp oAdd (tOp (rIxL K) (tVar 0) (tC (.int 1))) (tOp oMulA (tC (.int 86028121)) (tOp (rIxL K) (tVar 0) (tC (.int 2))))) (tC (.int 3))) tNil)) (tOp oAdd (tOp oPowA (tC (.int 10)) (tC (.int 42))) (tC (.int 63)))) (gName 3))
  (tSeq (tAsg (tOp oModP (tCB oInt (tCons (tOp oPowA (tOp oAdd (tVar 3) (tOp oMulA (tC (.int 67867967)) (tOp (rIxL K) (tVar 0) (tC (.int 2))))) (tC (.int 3))) tNil)) (tOp oAdd (tOp oPowA (tC (.int 10)) (tC (.int 44))) (tC (.int 57)))) (gName 3))
  (tRet (tOp oModP (tCB oInt (tCons (tOp oDivP (tVar 3) (tC (.int 655331))) tNil)) (tVar 1)))))))
/-- choose: slots 0 l_slots, 1 l_rounds, 2 l_found, 3 l_turn -/
abbrev n_l_choose : List Str := ["_law_slots", "_law_rounds", "_law_found", "_law_turn"]
def t_l_choose (K : PySem.W.Frag) : TS :=
  (tSeq (tAsg (tC (.int 1)) (gName 2))
  (tSeq (tFor (iRng1 (tCons (tCB oMin2 (tCons (tVar 0) (tCons (tCB oMax2 (tCons (tVar 1) (tCons (tC (.int 0)) tNil))) tNil))) tNil)) (gName 3)
  (tAsg (tOp oDivP (tOp oMulA (tVar 2) (tOp oSub (tOp oAdd (tVar 0) (tVar 1)) (tVar 3))) (tOp oAdd (tVar 3) (tC (.int 1)))) (gName 2)))
  (tRet (tIf (tTest (tOp oGe (tVar 1) (tC (.int 0)))) (tVar 2) (tC (.int 0))))))
/-- great: slots 0 l_reel, 1 l_slots, 2 l_edge, 3 l_some -/
abbrev n_l_great : List Str := ["_law_reel", "_law_slots", "_law_edge", "_law_some"]
def t_l_great (K : PySem.W.Frag) : TS :=
  (tSeq (tAsg (tOp oAdd (tC (.int 1)) (tCall (sp_l_spin K) [] E0 (tCons (tVar 0) (tCons (tOp (rIxL K) (tLst (tCons (tC (.int 4)) (tCons (tC (.int 100)) tNil))) (tCall (sp_l_spin K) [] E0 (tCons (tVar 0) (tCons (tC (.int 2)) tNil)))) tNil)))) (gName 1))
  (tSeq (tAsg (tCB oMin2 (tCons (tOp oSub (tOp oPowA (tC (.int 10)) (tC (.int 30))) (tC (.int 1))) (tCons (tCall (sp_l_choose K) [] E0 (tCons (tVar 1) (tCons (tCall (sp_l_spin K) [] E0 (tCons (tVar 0) (tCons (tOp (rIxL K) (tLst (tCons (tC (.int 9)) (tCons (tC (.int 60)) tNil))) (tCall (sp_l_spin K) [] E0 (tCons (tVar 0) (tCons (tC (.int 2)) tNil)))) tNil))) tNil))) tNil))) (gName 2))
  (tSeq (tAsg (tLst (tCons (tOp oAdd (tC (.int 1)) (tCall (sp_l_spin K) [] E0 (tCons (tVar 0) (tCons (tOp oPowA (tC (.int 10)) (tC (.int 30))) tNil)))) (tCons (tOp oAdd (tC (.int 1)) (tCall (sp_l_spin K) [] E0 (tCons (tVar 0) (tCons (tOp oPowA (tC (.int 10)) (tC (.int 9))) tNil)))) (tCons (tCB oMax2 (tCons (tC (.int 1)) (tCons (tOp oAdd (tOp oSub (tVar 2) (tC (.int 1))) (tCall (sp_l_spin K) [] E0 (tCons (tVar 0) (tCons (tC (.int 3)) tNil)))) tNil))) tNil)))) (gName 3))
  (tRet (tTup (tCons (tOp (rIxL K) (tVar 3) (tCall (sp_l_spin K) [] E0 (tCons (tVar 0) (tCons (tC (.int 3)) tNil)))) (tCons (tVar 1) tNil)))))))
/-- slots_right: slots 0 l_reel, 1 l_n, 2 l_s, 3 l_r, 4 l_few, 5 l_steps, 6 l_more, 7 l_gains, 8 l_most, 9 l_price, 10 l_slots, 11 l_one, 12 l_other, 13 l_some -/
abbrev n_l_slots_right : List Str := ["_law_reel", "_law_n", "_law_s", "_law_r", "_law_few", "_law_steps", "_law_more", "_law_gains", "_law_most", "_law_price", "_law_slots", "_law_one", "_law_other", "_law_some"]
def t_l_slots_right (K : PySem.W.Frag) : TS :=
  (tSeq (tAsg (tCall (sp_least_rounds K) [] E0 (tCons (tVar 1) (tCons (tVar 2) tNil))) (gName 3))
  (tSeq (tIfS (tTest (tOp oLe (tVar 3) (tC (.int 1000)))) (tSeq (tAsg (tCall (sp_least_slots K) [] E0 (tCons (tVar 1) (tCons (tVar 3) tNil))) (gName 4))
  (tSeq (tIfS (tOr (tTest (tOp oGt (tVar 4) (tVar 2))) (tOr (tTest (tOp oGt (tCall (sp_least_rounds K) [] E0 (tCons (tVar 1) (tCons (tVar 4) tNil))) (tVar 3))) (tAnd (tTest (tOp oGt (tVar 4) (tC (.int 1)))) (tTest (tOp oLe (tCall (sp_least_rounds K) [] E0 (tCons (tVar 1) (tCons (tOp oSub (tVar 4) (tC (.int 1))) tNil))) (tVar 3)))))) (tRet (tC (.bl false))) tNext)
  (tIfS (tOr (tTest (tOp oLt (tCall (sp_reach K) [] E0 (tCons (tVar 2) (tCons (tVar 3) tNil))) (tVar 1))) (tAnd (tTest (tOp oGt (tVar 3) (tC (.int 0)))) (tTest (tOp oGe (tCall (sp_reach K) [] E0 (tCons (tVar 2) (tCons (tOp oSub (tVar 3) (tC (.int 1))) tNil))) (tVar 1))))) (tRet (tC (.bl false))) tNext))) tNext)
  (tSeq (tAsg (tCall (sp_least_steps K) [] E0 (tCons (tVar 1) (tCons (tVar 2) tNil))) (gName 5))
  (tSeq (tAsg (tCall (sp_slots_for K) [] E0 (tCons (tVar 1) (tCons (tVar 5) tNil))) (gName 4))
  (tSeq (tIfS (tOr (tTest (tOp oGt (tVar 4) (tVar 2))) (tOr (tTest (tOp rNe (tCall (sp_least_steps K) [] E0 (tCons (tVar 1) (tCons (tVar 4) tNil))) (tVar 5))) (tAnd (tTest (tOp oGt (tVar 4) (tC (.int 1)))) (tTest (tOp oLe (tCall (sp_least_steps K) [] E0 (tCons (tVar 1) (tCons (tOp oSub (tVar 4) (tC (.int 1))) tNil))) (tVar 5)))))) (tRet (tC (.bl false))) tNext)
  (tSeq (tAsg (tCB oMin2 (tCons (tC (.int 100)) (tCons (tOp oAdd (tOp oAdd (tVar 2) (tC (.int 1))) (tCall (sp_l_spin K) [] E0 (tCons (tVar 0) (tCons (tC (.int 3)) tNil)))) tNil))) (gName 6))
  (tSeq (tAsg (tCB (rSum K) (tCons (tLc (iRng2 (tCons (tVar 2) (tCons (tVar 6) tNil))) (gName 13) tYes (tCall (sp_slot_gain K) [] E0 (tCons (tVar 1) (tCons (tVar 13) tNil))) [13]) tNil)) (gName 7))
  (tSeq (tIfS (tTest (tOp rNe (tVar 7) (tOp oSub (tVar 5) (tCall (sp_least_steps K) [] E0 (tCons (tVar 1) (tCons (tVar 6) tNil)))))) (tRet (tC (.bl false))) tNext)
  (tSeq (tAsg (tOp oMulA (tOp oPowA (tC (.int 10)) (tC (.int 50))) (tOp oPowA (tC (.int 10)) (tC (.int 49)))) (gName 8))
  (tSeq (tAsg (tCall (sp_cheapest_slots K) [] E0 (tCons (tVar 1) (tCons (tC (.int 0)) (tCons (tVar 8) tNil)))) (gTup K 2 (gCons (gName 9) (gCons (gName 10) gNil))))
  (tSeq (tIfS (tOr (tTest (tOp (rNeD K) (tCall (sp_cheapest_slots K) [] E0 (tCons (tVar 1) (tCons (tVar 9) (tCons (tC (.int 0)) tNil)))) (tTup (tCons (tVar 9) (tCons (tC (.int 1)) tNil))))) (tOr (tTest (tOp rNe (tCall (sp_slots_for K) [] E0 (tCons (tVar 1) (tCons (tVar 9) tNil))) (tC (.int 1)))) (tTest (tOp rNe (tVar 9) (tOp oMulA (tVar 8) (tCall (sp_least_steps K) [] E0 (tCons (tVar 1) (tCons (tVar 10) tNil)))))))) (tRet (tC (.bl false))) tNext)
  (tSeq (tPar 11 12 (tCons (tCall (sp_l_spin K) [] E0 (tCons (tVar 0) (tCons (tOp oPowA (tC (.int 10)) (tC (.int 6))) tNil))) (tCons (tCall (sp_l_spin K) [] E0 (tCons (tVar 0) (tCons (tOp oPowA (tC (.int 10)) (tC (.int 6))) tNil))) tNil)))
  (tSeq (tAsg (tCall (sp_cheapest_slots K) [] E0 (tCons (tVar 1) (tCons (tVar 11) (tCons (tVar 12) tNil)))) (gTup K 2 (gCons (gName 9) (gCons (gName 10) gNil))))
  (tRet (tChain rEq oLe (tVar 9) (tOp oAdd (tOp oMulA (tVar 11) (tVar 10)) (tOp oMulA (tVar 12) (tCall (sp_least_steps K) [] E0 (tCons (tVar 1) (tCons (tVar 10) tNil))))) (tOp oAdd (tOp oMulA (tVar 11) (tVar 2)) (tOp oMulA (tVar 12) (tVar 5))))))))))))))))))
/-- splits_right: slots 0 l_reel, 1 l_n, 2 l_s, 3 l_told, 4 l_low, 5 l_high, 6 l_m, 7 l_cuts -/
abbrev n_l_splits_right : List Str := ["_law_reel", "_law_n", "_law_s", "_law_told", "_law_low", "_law_high", "_law_m", "_law_cuts"]
def t_l_splits_right (K : PySem.W.Frag) : TS :=
  (tSeq (tAsg (tCall (sp_best_splits K) [] E0 (tCons (tVar 1) (tCons (tVar 2) tNil))) (gName 3))
  (tSeq (tIfS (tOr (tTest (tOp rEq (tVar 1) (tC (.int 1)))) (tTest (tOp rEq (tVar 2) (tC (.int 1))))) (tRet (tOp oIsN (tVar 3) (tC .non))) tNext)
  (tSeq (tAsg (tVar 3) (gTup K 2 (gCons (gName 4) (gCons (gName 5) gNil))))
  (tSeq (tFor (iTup K (tTup (tCons (tVar 4) (tCons (tVar 5) (tCons (tOp oAdd (tVar 4) (tCall (sp_l_spin K) [] E0 (tCons (tVar 0) (tCons (tOp oAdd (tOp oSub (tVar 5) (tVar 4)) (tC (.int 1))) tNil)))) tNil))))) (gName 6)
  (tIfS (tTest (tOp rNe (tCall (sp_split_loss K) [] E0 (tCons (tVar 1) (tCons (tVar 2) (tCons (tVar 6) tNil)))) (tC (.int 0)))) (tRet (tC (.bl false))) tNext))
  (tSeq (tIfS (tOr (tAnd (tTest (tOp oGt (tVar 4) (tC (.int 1)))) (tTest (tOp oLe (tCall (sp_split_loss K) [] E0 (tCons (tVar 1) (tCons (tVar 2) (tCons (tOp oSub (tVar 4) (tC (.int 1))) tNil)))) (tC (.int 0))))) (tAnd (tTest (tOp oLt (tVar 5) (tOp oSub (tVar 1) (tC (.int 1))))) (tTest (tOp oLe (tCall (sp_split_loss K) [] E0 (tCons (tVar 1) (tCons (tVar 2) (tCons (tOp oAdd (tVar 5) (tC (.int 1))) tNil)))) (tC (.int 0)))))) (tRet (tC (.bl false))) tNext)
  (tSeq (tAsg (tCall (sp_best_cuts K) [] E0 (tCons (tVar 1) (tCons (tVar 2) tNil))) (gName 7))
  (tSeq (tIfS (tOr (tTest (tOp rNe (tCall (sp_sweep_steps K) [] E0 (tCons (tVar 1) (tCons (tVar 2) (tCons (tVar 7) tNil)))) (tCall (sp_least_steps K) [] E0 (tCons (tVar 1) (tCons (tVar 2) tNil))))) (tTest (tOp rNe (tCall (sp_sweep_steps K) [] E0 (tCons (tVar 1) (tCons (tVar 2) (tCons (tLst tNil) tNil)))) (tCall (sp_least_steps K) [] E0 (tCons (tVar 1) (tCons (tVar 2) tNil)))))) (tRet (tC (.bl false))) tNext)
  (tRet (tAndV (tOp (rEqD K) (tVar 7) (tCB (rSortedI K) (tCons (tVar 7) tNil))) (tAndV (tOrV (tOp (rEqD K) (tVar 7) (tLst tNil)) (tOp rEq (tOp (rIxL K) (tVar 7) (tC (.int 0))) (tVar 5))) (tOp oLt (tCB (oLen K) (tCons (tVar 7) tNil)) (tVar 2))))))))))))
/-- law: slots 0 l_script, 1 l_k, 2 l_reel, 3 l_n, 4 l_s -/
abbrev n_law_k43 : List Str := ["_law_script", "_law_k", "_law_reel", "_law_n", "_law_s"]
def t_law_k43 (K : PySem.W.Frag) : TS :=
  (tSeq (tFor (iRng1 (tCons (tCB oMax2 (tCons (tC (.int 1)) (tCons (tCB oMin2 (tCons (tC (.int 2)) (tCons (tCB (oLen K) (tCons (tVar 0) tNil)) tNil))) tNil))) tNil)) (gName 1)
  (tSeq (tAsg (tCall (sp_l_wound K) [] E0 (tCons (tVar 0) (tCons (tVar 1) tNil))) (gName 2))
  (tFor (iTup K (tTup (tCons (tTup (tCons (tOp oAdd (tC (.int 1)) (tCall (sp_l_spin K) [] E0 (tCons (tVar 2) (tCons (tC (.int 99)) tNil)))) (tCons (tOp oAdd (tC (.int 1)) (tCall (sp_l_spin K) [] E0 (tCons (tVar 2) (tCons (tC (.int 9)) tNil)))) tNil))) (tCons (tCall (sp_l_great K) [] E0 (tCons (tVar 2) tNil)) tNil)))) (gTup K 2 (gCons (gName 3) (gCons (gName 4) gNil)))
  (tIfS (tOr (tNot (tB (tCall (sp_l_slots_right K) [] E0 (tCons (tVar 2) (tCons (tVar 3) (tCons (tVar 4) tNil)))))) (tNot (tB (tCall (sp_l_splits_right K) [] E0 (tCons (tVar 2) (tCons (tVar 3) (tCons (tVar 4) tNil))))))) (tRet (tC (.bl false))) tNext))))
  (tRet (tC (.bl true))))

end Bs

namespace Bs
open PySem PySem.Spec L2
open PyProof.Rows hiding St
/-! ### defs that lean on it that no repr is under way (A.guards = some []): repr of lists and tuples -/
structure FnG (P : Program) (w : World) (K : PySem.W.Frag) (mg : Str → Option Value) (base : Heap) (CX : CXT) (k : Nat) (f : Addr) (fd : FuncData) (ps : List Str) (sp : Sp) : Prop where
  size : ∀ vs H Q E, sp vs H Q E → vs.length = ps.length
  runs : ∀ (A : Around) (outer : List Env) (s : Shared) (H : Hp) (args : Args) (us : List Value) (vs : List V) (Q : VK) (E : XK), Room k A → A.guards = some [] → Env0 P w K mg base A outer s H → BindsTo s fd args (ps.zip us) → Vals vs us → sp vs H Q E →
    codeAny (model P w) A (.call (.ref f) args) (CR CX outer P w H s Q E) s
def OkG (P : Program) (w : World) (K : PySem.W.Frag) (mg : Str → Option Value) (base : Heap) (CX : CXT) (k : Nat) (x : Str) (ps : List Str) (sp : Sp) : Prop :=
  mg x = some (.ref (He.ga K x)) ∧ PySem.W.keepIn K (.ref (He.ga K x)) = true ∧ ∃ fd, (∃ oc od osl, K.lookup (He.ga K x) = some ⟨oc, od, .func fd, osl⟩) ∧ Binds K fd ps [] ∧ FnG P w K mg base CX k (He.ga K x) fd ps sp
section
variable {P : Program} {w : World} {K : PySem.W.Frag} {mg : Str → Option Value} {base : Heap} {CX : CXT} {k : Nat}
theorem FnOk.g {f : Addr} {fd : FuncData} {ps : List Str} {sp : Sp} (F : FnOk P w K mg base CX k f fd ps sp) : FnG P w K mg base CX k f fd ps sp := ⟨F.len, fun A outer s H args us vs Q E hr _ => F.run A outer s H args us vs Q E hr⟩
theorem fnG_of {f : Addr} {name qual : Str} {params : Arguments} {body : List Stmt} {scope : Scope} {dV kV doc pm cdv ct oc : Value} {an od : Option Addr} {osl : Array (Option Value)} {N ps : List Str} {sp : Sp}
    (lk : K.lookup f = some ⟨oc, od, .func (PySem.W.fnOf name qual params body scope dV kV doc pm an cdv ct), osl⟩) (hcd : PySem.W.codeIn K cdv qual = true) (S : FnScope N ps scope) (len : ∀ vs H Q E, sp vs H Q E → vs.length = ps.length)
    (go : ∀ (A : Around) (outer : List Env) (s : Shared) (H : Hp) (vs : List V) (Q : VK) (E : XK), Room k (A.deeper (envOfC qual scope s.heap.objs.size f cdv)) → A.guards = some [] → sp vs H Q E →
      ∃ t, PSs (cxOf CX P w K mg base N qual scope f cdv A outer s H E) body t ∧ t { nx := fun _ H' => Q .non H', rt := Q } (start N vs) H) :
    FnG P w K mg base CX (k + 1) f (PySem.W.fnOf name qual params body scope dV kV doc pm an cdv ct) ps sp := by
  refine ⟨len, fun A outer s H args us vs Q E room gd env binds rel promise => ?_⟩
  have kin : K.In s.heap := env.mod.kin.keeps fun b o e => (env.bs b o e).1
  have nolim : s.heap.NoLimit := env.mod.nolimit.keeps fun b o e => (env.bs b o e).1
  have kinds : ∀ y ∈ ps.zip us, scope.names.lookup y.1 = some .local ∨ (scope.names.lookup y.1 = some .cell ∧ ((cellsFrom (s.heap.objs.size + 1) scope.names []).lookup y.1).isSome = true) := by
    rintro ⟨n, v⟩ hy
    exact (S.par n (List.of_mem_zip hy).1).imp id fun q => ⟨q, PySem.W.cellsFrom_some _ _ _ (.inl q)⟩
  refine codeAny_call_function room.depth (kin _ _ lk) rfl S.co S.gen rfl (PySem.W.codeRec_of kin hcd) (binds _ _ _ _ (wpAny_newFunctionEnv_cells S.kind kinds fun en he s1 x => ?_))
  subst he
  obtain ⟨t, ht, hq⟩ := go A outer s H vs Q E (room.deeper _) gd promise
  have I0 : Inv (cxOf CX P w K mg base N qual scope f cdv A outer s H E) [] (start N vs) H s1 := inv_start S room.hd env (len _ _ _ _ promise) rel x
  refine ⟨nolim.keeps x.toInCall.keep, codeAny_func (wpAny_mono (ht.run [] s1 (start N vs) H _ I0 hq) (fun fl s' hs => ?_) fun e s' hs => hs)⟩
  match fl, hs with
  | .ret u, ⟨v, _, H', J, rv, q⟩ => exact ⟨v, H', J.os, J.bare, J.base, J.hok, rv, q⟩
  | .next, ⟨_, H', J, q⟩ => exact ⟨V.non, H', J.os, J.bare, J.base, J.hok, rfl, q⟩
  | .brk, ⟨_, _, _, q⟩ => exact q.elim
  | .cont, ⟨_, _, _, q⟩ => exact q.elim
theorem mk_okG {x : Str} {st : Stmt} {N ps : List Str} {sp : Sp} (F : Df K ⟨(x, none), x, x, defArgs st, defBody st, defScope st, [], []⟩) (g : mg x = some (.ref (He.ga K x)))
    (hb : ∀ (kV doc pm : Value) (an : Option Addr) (cdv ct : Value) (us : List Value), us.length = ps.length → bindArgs (PySem.W.fnOf x x (defArgs st) (defBody st) (defScope st) .none kV doc pm an cdv ct) ⟨us, []⟩ = pure (ps.zip us))
    (S : FnScope N ps (defScope st)) (len : ∀ vs H Q E, sp vs H Q E → vs.length = ps.length)
    (go : ∀ (cdv : Value) (A : Around) (outer : List Env) (s : Shared) (H : Hp) (vs : List V) (Q : VK) (E : XK), Room k (A.deeper (envOfC x (defScope st) s.heap.objs.size (He.ga K x) cdv)) → A.guards = some [] → sp vs H Q E →
      ∃ t, PSs (cxOf CX P w K mg base N x (defScope st) (He.ga K x) cdv A outer s H E) (defBody st) t ∧ t { nx := fun _ H' => Q .non H', rt := Q } (start N vs) H) : OkG P w K mg base CX (k + 1) x ps sp := by
  obtain ⟨fd, F⟩ := F
  have b := F.bindsN hb
  obtain ⟨oc, od, dV, kV, doc, pm, an, cdv, ct, osl, rfl, lk, hcd, _, _⟩ := F.ex
  exact ⟨g, F.kp, _, ⟨oc, od, osl, lk⟩, b, fnG_of lk hcd S len fun A outer s H vs Q E room gd h => go cdv A outer s H vs Q E room gd h⟩
theorem fun_sameG {x : Str} {ps : List Str} {sp : Sp} {d : He.DefD} {fd : FuncData} (F : FunD K d.name d.qual d.params d.body d.scope (d.dvs K) (d.kws K) (He.fAd K d.at_) fd) (e : He.fAd K d.at_ = He.ga K x) (G : OkG P w K mg base CX k x ps sp) :
    FnG P w K mg base CX k (He.ga K x) fd ps sp := by
  obtain ⟨_, _, fd2, ⟨oc, od, osl, l⟩, _, G⟩ := G
  obtain ⟨oc2, od2, _, _, _, _, _, _, _, osl2, _, lk, _⟩ := F.ex
  rw [e, l] at lk
  have e2 := Option.some.inj lk
  injection e2 with _ _ e3 _
  injection e3 with e4
  rw [← e4]
  exact G
end
section
variable {X : Cx} {CX : CXT} {k : Nat} {ps : List Str} {sp : Sp} {E : XK} {x : Str} {p pos : Pos} {e : Expr} {es : List Expr} {t : TA}
theorem run_g {f : Addr} {fd : FuncData} {pins : List (Addr × Obj)} {σ : L2.St} {H : Hp} {s : Shared} {Q : VK} {us : List Value} {vs : List V} (F : FnG X.prog X.w X.K X.mg X.base CX k f fd ps sp) (hr : Room k X.A) (gd : X.A.guards = some []) (hb : Binds X.K fd ps []) (hx : Passes CX X E)
    (I : L2.Inv X pins σ H s) (r : Vals vs us) (h : sp vs H Q E) : wpAny (model X.prog X.w) X.A (call (.ref f) us) (EP X pins σ Q) X.xe s := by
  have hl : us.length = ps.length := by rw [← r.length]; exact F.size _ _ _ _ h
  have b := hb s us I.kIn (by rw [List.append_nil]; exact hl)
  rw [List.append_nil] at b
  refine wpAny_call (codeAny_mono (F.runs X.A X.stack s H ⟨us, []⟩ us vs Q E hr gd I.env0 b r h) fun res s' hq => ?_)
  match res, hq with
  | .error e, hq => exact hx pins σ H s e s' I hq
  | .ok (.ret u), hq => exact I.after hq
theorem pe_callG (F : OkG X.prog X.w X.K X.mg X.base CX k x ps sp) (hr : Room k X.A) (gd : X.A.guards = some []) (hg : Gl X x) (hx : Passes CX X E)
    (ha : PA X (e :: es) t) (hdb : (x == ("__debug__" : Str)) = false := by decide) (he : starEach (e :: es) X.env = (false, eval e X.env) :: starEach es X.env := by rfl) (hpl : (backTo pos (starEach es X.env)).any (·.1) = false := by rfl) :
    PE X (.Call (.Name x p) (e :: es) [] pos) (tCall sp [] E t) := by
  obtain ⟨g, kp, fd, _, b, G⟩ := F
  refine ⟨fun pins s σ H Q I h => wpAny_Call_Name_kw (ld_glob I hg g ?_ hdb)⟩
  refine PySem.W.callWith_K (h₀ := X.base) I.ok.mod.kin kp (thn (ha.run pos pins s σ H _ I h) fun us s1 ⟨vs, H1, I1, r, q⟩ => ⟨I1.kIn, ?_⟩) he hpl
  have q' : sp (vs ++ []) H1 Q E := q
  rw [List.append_nil] at q'
  exact run_g G hr gd b hx I1 r q'
/-! repr of data -/
def oReprD (K : PySem.W.Frag) : List V → Hp → VK → Prop := fun xs H Q => ∃ p d, xs = [V.ref p] ∧ Dp K H (.ref p) d ∧ d.showable = true ∧ d.hasDict = false ∧ d.depth ≤ 50 ∧ d.shown.length ≤ sizeLine ∧ Q (.str d.shown) H
theorem call_reprD (hr : Room k X.A) (gd : X.A.guards = some []) : CallR X (.builtin "repr") (oReprD X.K) := by
  intro pins s σ H xs us Q I r h
  obtain ⟨p, d, rfl, dp, h1, h2, h3, h4, q⟩ := h
  have e := Vals.ref1 r
  subst e
  obtain ⟨as, rd⟩ := Dp.reads I d (.ref p) (.ref p) dp rfl
  have u := hr.units
  exact repr_of_reads' rd h1 (fun z => by rw [h2] at z; cases z) gd (by omega) (fun _ _ e => e) (fun h' u tk kp => ⟨.str d.shown, H, I.kept kp, ⟨u, rfl⟩, q⟩) h4
end
section
variable {H : Hp} {Q : VK} {K : PySem.W.Frag}
theorem r_reprD {p : Addr} {d : PyData} (dp : Dp K H (.ref p) d) (h1 : d.showable = true) (h2 : d.hasDict = false) (h3 : d.depth ≤ 50) (h4 : d.shown.length ≤ sizeLine) (h : Q (.str d.shown) H) : oReprD K [.ref p] H Q := ⟨p, d, rfl, dp, h1, h2, h3, h4, h⟩
end
/-! the head -/
theorem law_callG {P : Program} {w : World} {K : PySem.W.Frag} {mg mb : Str → Option Value} {k : Nat} {fa a : Addr} {fd : FuncData} {x : Str} {sp : Sp} {s₁ : Shared} {vs : List Value} {ns : List Int}
    (KX : K.In s₁.heap) (hns : s₁.heap.Ns mainGlobals mg) (hb : s₁.heap.Ns builtinsNs mb) (hbb : ∀ x : Str, x ≠ "__name__" → mb x = bootBuiltins x) (hlim : s₁.heap.NoLimit) (hg : s₁.gens = #[])
    (ha : s₁.heap.get? a = some { cls := .type "list", data := .seq vs.toArray }) (hi : IntsAre vs ns) (hl : ns.length ≤ sizeLine) (hr : Room k callerA)
    (F : ∀ base : Heap, K.In base → base.Ns mainGlobals mg → FnG P w K mg base CX0 k fa fd [x] sp) (hbind : ∀ (s : Shared) (u : Value), BindsTo s fd ⟨[u], []⟩ [(x, u)])
    (hsp : ∀ H : Hp, SqL K H a (ns.map V.int) → sp [.ref a] H (fun v _ => v = .bl true) fun _ _ _ => False) :
    codeAny (model P w) callerA (.call (.ref fa) ⟨[.ref a], []⟩) (fun r s' => r = .ok (.ret (.bool true)) ∧ OldK s₁.heap s'.heap ∧ s'.os = s₁.os ∧ AllBare s'.gens) s₁ := by
  have rel := vals_ints hi
  have lens := hi.length
  have step : ∀ H : Hp, Only H → SqL K H a (ns.map V.int) → HOk P w H s₁.heap → (∀ b, H b ≠ none → b = a) → (H a ≠ none → K.lookup a = none) →
      codeAny (model P w) callerA (.call (.ref fa) ⟨[.ref a], []⟩) (fun r s' => r = .ok (.ret (.bool true)) ∧ OldK s₁.heap s'.heap ∧ s'.os = s₁.os ∧ AllBare s'.gens) s₁ := by
    intro H only script hok onlyA notK
    have free : ∀ {b : Addr}, b ≠ a → H b = none := fun {b} n => by
      cases q : H b with
      | none => rfl
      | some u => exact absurd (onlyA b (by rw [q]; simp)) n
    have dictFree : ∀ {b : Addr} {o : Obj} {es : Array DictEntry} {ep : Nat}, s₁.heap.get? b = some o → o.data = .dict es ep → H b = none := fun {b o es ep} e d => free fun z => by
      rw [z, ha] at e
      cases e
      exact nomatch d
    have inBase : ∀ {b : Addr} {m : Str → Option Value}, s₁.heap.Ns b m → (hidT s₁.heap H).Ns b m := fun ⟨o, es, ep, e, d, r⟩ => ⟨o, es, ep, hidT_get e (dictFree e d), d, r⟩
    have kBase : K.In (hidT s₁.heap H) := fun b o e => hidT_get (KX b o e) (by
      cases q : H b with
      | none => rfl
      | some u =>
        have z := onlyA b (by rw [q]; simp)
        rw [z] at e q
        rw [notK (by rw [q]; simp)] at e
        cases e)
    have md : Mod K mg (hidT s₁.heap H) := ⟨kBase, inBase hns, ⟨mb, inBase hb, hbb⟩, let ⟨mc, z1, z2⟩ := hlim; ⟨mc, inBase z1, z2⟩⟩
    have en : Env0 P w K mg (hidT s₁.heap H) callerA [] s₁ H := ⟨rfl, md, fun b o e => of_hidT e, Nat.le_of_eq (hidT_size _ _), trivial, fun b z => absurd (show b ∈ ([] : List Addr) from z) (by simp), hok, .of_eq hg⟩
    refine codeAny_mono ((F _ kBase (inBase hns)).runs callerA [] s₁ H ⟨[.ref a], []⟩ [.ref a] [.ref a] _ _ hr rfl en (hbind s₁ (.ref a)) (.cons rfl .nil) (hsp H script)) fun r s' z => ?_
    match r, z with
    | .error e, z => exact z.elim
    | .ok (.ret u), ⟨v, H', os, bare, un, hok', rv, q⟩ =>
      subst q
      obtain rfl : u = Value.bool true := rv
      refine ⟨rfl, OldK.of_keep fun b o e => ?_, os, bare⟩
      cases hb2 : H b with
      | none => exact un.keep b o e hb2 (fun z => nomatch z) (fun z => nomatch z)
      | some u =>
        rcases only b with z | ⟨ob, xs, z⟩
        · rw [hb2] at z; cases z
        · obtain ⟨e1, _⟩ := hok b _ z
          obtain ⟨e2, _⟩ := hok' b _ (un.frzs b ob _ z)
          rw [e] at e1
          cases e1
          exact e2
  cases hk : K.lookup a with
  | some o =>
    have e := KX a o hk
    rw [ha] at e
    cases e
    exact step (fun _ => none) (fun _ => .inl rfl) (.inr ⟨_, vs.toArray, _, hk, rfl, rfl, rfl, by rw [List.size_toArray, lens]; exact hl, by simpa using rel⟩) (fun b u z => nomatch z) (fun b z => absurd rfl z) (fun z => absurd rfl z)
  | none =>
    obtain ⟨Hs, at_a, off⟩ : ∃ Hs : Hp, Hs a = some (.frz { cls := .type "list", data := .seq vs.toArray } (.lst (ns.map V.int))) ∧ ∀ b, b ≠ a → Hs b = none := ⟨fun b => if b = a then some (.frz { cls := .type "list", data := .seq vs.toArray } (.lst (ns.map V.int))) else none, if_pos rfl, fun b n => if_neg n⟩
    refine step Hs (fun b => ?_) (.inl (.inr ⟨_, at_a⟩)) (fun b u z => ?_) (fun b z => ?_) fun _ => hk
    · by_cases n : b = a
      · exact .inr ⟨_, _, by rw [n]; exact at_a⟩
      · exact .inl (off b n)
    · by_cases n : b = a
      · subst n
        have z' := at_a.symm.trans z
        cases z'
        exact ⟨ha, by rw [List.length_map]; exact hl, vs, _, rel, ha⟩
      · have z' := (off b n).symm.trans z
        cases z'
    · exact Decidable.byContradiction fun n => z (off b n)
theorem walk_ofG {l : PySem.W.OpenLaw} {n k : Nat} {q : Program} {loose : List Str} {XP : (Str → Option Value) → Heap → Prop} {YP : World → Heap → Prop} {d : DefRec} {x : Str} (hn : l.most = some n) (hn2 : n ≤ sizeLine) (hdf : d.params.defaults = []) (hr : Room k callerA)
    (F : ∀ (w : World) (mg : Str → Option Value) (fa : Addr) (h : Heap), YP w h → h.Ns mainGlobals mg → mg d.name = some (.ref fa) →
      ∃ (K : PySem.W.Frag) (fd : FuncData) (sp : Sp), K.In h ∧ (∀ (s : Shared) (u : Value), BindsTo s fd ⟨[u], []⟩ [(x, u)]) ∧
        (∀ (H : Hp) (a : Addr) (ns : List Int), ns.length ≤ n → SqL K H a (ns.map V.int) → sp [.ref a] H (fun v _ => v = .bl true) fun _ _ _ => False) ∧ ∀ base : Heap, K.In base → base.Ns mainGlobals mg → FnG l.prog w K mg base CX0 k fa fd [x] sp) :
    PySem.W.WalkO q loose XP YP l.row.toRowW d [] (fun f vs => PySem.call f vs) := by
  refine Att.attach_call hn hdf fun w s₀ s₁ mg mb fa o pm cd doc a vs ns G Y ho hd hcd hmg hobj hints hlen hg => ?_
  obtain ⟨K, fd, sp, KX, bind, ans, fn⟩ := F w mg fa _ Y G.T.g hmg
  exact law_callG KX G.T.g G.T.b G.T.builtins G.T.nolimit hg hobj hints (Nat.le_trans hlen hn2) hr fn bind fun H hS => ans H a ns hlen hS
end Bs

namespace Bs
open PySem PySem.Spec L2 Bm Bl
open PyProof.Rows hiding St
/-! ### promises: lists of operations -/
def enc : Op → List V
  | .go k => [.str "go", .int k]
  | .keep => [.str "keep"]
  | .take x => [.str "take", .int x]
  | .free x => [.str "free", .int x]
  | .back => [.str "back"]
/-- v is the operation o -/
def OpV (H : Hp) (v : V) (o : Op) : Prop := ∃ p, v = .ref p ∧ H p = some (.tup (enc o))
/-- vs are the operations -/
def OpsV (H : Hp) : List V → List Op → Prop
  | [], [] => True
  | v :: vs, o :: os => OpV H v o ∧ OpsV H vs os
  | _, _ => False
/-- tuples stay -/
def Tps (H H' : Hp) : Prop := ∀ p xs, H p = some (.tup xs) → H' p = some (.tup xs)
/-- a list of operations at q -/
def OpsAt (K : PySem.W.Frag) (H : Hp) (q : Addr) (ops : List Op) : Prop := ∃ vs, SqL K H q vs ∧ OpsV H vs ops
/-- the fields of a trace -/
def tf (n s h : Int) (l : Addr) (c b : Int) : List (Str × V) := [("own_length", .int n), ("own_slots", .int s), ("own_hand", .int h), ("own_kept", .ref l), ("own_steps", .int c), ("own_backs", .int b)]
def TrL (K : PySem.W.Frag) (H : Hp) (a l : Addr) (n s : Int) (t : Tr) : Prop := ∃ dx, H a = some (.ins (He.ga K "Trace") dx (tf n s t.hand l t.steps t.backs)) ∧ H l = some (.lst (t.kept.map V.int))
def TrAt (K : PySem.W.Frag) (H : Hp) (a : Addr) (n s : Int) (t : Tr) : Prop := ∃ l, TrL K H a l n s t
/-- all but a and l is as it was -/
def But2 (a l : Addr) (H H' : Hp) : Prop := ∀ b o, b ≠ a → b ≠ l → H b = some o → H' b = some o
def TrsAt (K : PySem.W.Frag) (H : Hp) (n s : Int) (as : List Addr) (ts : List Tr) : Prop := as.length = ts.length ∧ ∀ (i : Nat) (a : Addr) (t : Tr), as[i]? = some a → ts[i]? = some t → TrAt K H a n s t
def sp_is_operation (_ : PySem.W.Frag) : Sp := fun vs H Q _ => ∃ v o, vs = [v] ∧ OpV H v o ∧ okOp o ∧ ∀ H', Same H H' → Q (.bl true) H'
def sp_require_operations (K : PySem.W.Frag) : Sp := fun vs H Q _ => ∃ q ops, vs = [.ref q] ∧ OpsAt K H q ops ∧ ops.length ≤ 400 ∧ (∀ o ∈ ops, okOp o) ∧ ∀ H', Same H H' → Q .non H'
def sp_Trace_init (K : PySem.W.Frag) : Sp := fun vs H Q _ => ∃ x dx n s, vs = [.ref x, .int n, .int s] ∧ H x = some (.ins (He.ga K "Trace") dx []) ∧ ∀ l H', But x H H' → H l = none → TrL K H' x l n s ini → Q .non H'
def sp_Trace_hand (K : PySem.W.Frag) : Sp := fun vs H Q _ => ∃ a n s t, vs = [.ref a] ∧ TrAt K H a n s t ∧ Q (.int t.hand) H
def sp_Trace_steps (K : PySem.W.Frag) : Sp := fun vs H Q _ => ∃ a n s t, vs = [.ref a] ∧ TrAt K H a n s t ∧ Q (.int t.steps) H
def sp_Trace_backs (K : PySem.W.Frag) : Sp := fun vs H Q _ => ∃ a n s t, vs = [.ref a] ∧ TrAt K H a n s t ∧ Q (.int t.backs) H
def sp_Trace_kept (K : PySem.W.Frag) : Sp := fun vs H Q _ => ∃ a n s t, vs = [.ref a] ∧ TrAt K H a n s t ∧ ∀ (p : Addr) (ks : List Int) (H' : Hp), Same H H' → H p = none → H' p = some (.lst (ks.map V.int)) → ks.Perm t.kept → ks.Pairwise (· ≤ ·) → Q (.ref p) H'
def sp_Trace_copied (K : PySem.W.Frag) : Sp := fun vs H Q _ => ∃ a n s t, vs = [.ref a] ∧ TrAt K H a n s t ∧ ∀ x l H', Same H H' → H x = none → H l = none → TrL K H' x l n s t → Q (.ref x) H'
def sp_Trace_can_do (K : PySem.W.Frag) : Sp := fun vs H Q _ => ∃ a v n s t o, vs = [.ref a, v] ∧ TrAt K H a n s t ∧ OpV H v o ∧ Q (.bl (can n s t o)) H
def sp_Trace_do (K : PySem.W.Frag) : Sp := fun vs H Q _ => ∃ a l v n s t o, vs = [.ref a, v] ∧ TrL K H a l n s t ∧ OpV H v o ∧ can n s t o = true ∧ s ≤ 1000 ∧ ∀ H', But2 a l H H' → TrL K H' a l n s (step t o) → Q .non H'
/-- a task and a list of operations -/
def Tsk (K : PySem.W.Frag) (H : Hp) (n s : Int) (q : Addr) (ops : List Op) : Prop := 1 ≤ n ∧ n ≤ 1000000000000000000000000000000 ∧ 1 ≤ s ∧ s ≤ 100 ∧ OpsAt K H q ops ∧ ops.length ≤ 400 ∧ ∀ o ∈ ops, okOp o
def sp_require_list (K : PySem.W.Frag) : Sp := fun vs H Q _ => ∃ n s q ops, vs = [.int n, .int s, .ref q] ∧ Tsk K H n s q ops ∧ ∀ H', Same H H' → Q .non H'
def wV : Option Nat → V
  | none => .non
  | some i => .int (i : Nat)
def sp_wrong_of (K : PySem.W.Frag) : Sp := fun vs H Q _ => ∃ n s q ops, vs = [.int n, .int s, .ref q] ∧ Tsk K H n s q ops ∧ ∀ H', Same H H' → Q (wV (wrong n s ini ops)) H'
def sp_traces_of (K : PySem.W.Frag) : Sp := fun vs H Q _ => ∃ n s q ops, vs = [.int n, .int s, .ref q] ∧ Tsk K H n s q ops ∧ Can n s ini ops ∧ ∀ (p : Addr) (as : List Addr) (H' : Hp), Same H H' → H p = none → H' p = some (.lst (as.map V.ref)) → TrsAt K H' n s as (scan ini ops) → Q (.ref p) H'
def sp_first_wrong (K : PySem.W.Frag) : Sp := fun vs H Q _ => ∃ n s q ops, vs = [.int n, .int s, .ref q] ∧ Tsk K H n s q ops ∧ ∀ H', Same H H' → Q (wV (wrong n s ini ops)) H'
def sp_steps_of (K : PySem.W.Frag) : Sp := fun vs H Q _ => ∃ n s q ops, vs = [.int n, .int s, .ref q] ∧ Tsk K H n s q ops ∧ Can n s ini ops ∧ ∀ H', Same H H' → Q (.int (run ini ops).steps) H'
def sp_backs_of (K : PySem.W.Frag) : Sp := fun vs H Q _ => ∃ n s q ops, vs = [.int n, .int s, .ref q] ∧ Tsk K H n s q ops ∧ Can n s ini ops ∧ ∀ H', Same H H' → Q (.int (run ini ops).backs) H'
def sp_is_complete (K : PySem.W.Frag) : Sp := fun vs H Q _ => ∃ n s q ops, vs = [.int n, .int s, .ref q] ∧ Tsk K H n s q ops ∧ Can n s ini ops ∧ ∀ H', Same H H' → Q (.bl (decide ((run ini ops).backs = n))) H'
def sp_extra_steps (K : PySem.W.Frag) : Sp := fun vs H Q _ => ∃ n s q ops, vs = [.int n, .int s, .ref q] ∧ Tsk K H n s q ops ∧ Can n s ini ops ∧ ∀ H', Same H H' → Q (if (run ini ops).backs = n then .int ((run ini ops).steps - ttI n s) else .non) H'
def sp_most_kept (K : PySem.W.Frag) : Sp := fun vs H Q _ => ∃ n s q ops, vs = [.int n, .int s, .ref q] ∧ Tsk K H n s q ops ∧ Can n s ini ops ∧ ∀ m H', Same H H' → IsMx m (scan ini ops) → Q (.int m) H'
/-- how often a step is done -/
def tms (l : List (Int × Int)) (j : Int) : Nat := l.countP fun p => decide (p.1 ≤ j) && decide (j < p.2)
def sp_times_in (K : PySem.W.Frag) : Sp := fun vs H Q _ => ∃ n s q ops j, vs = [.int n, .int s, .ref q, .int j] ∧ Tsk K H n s q ops ∧ Can n s ini ops ∧ 0 ≤ j ∧ j ≤ n - 2 ∧ ∀ H', Same H H' → Q (.int (tms (gos ini ops) j : Nat)) H'
def sp_kept_behind (K : PySem.W.Frag) : Sp := fun vs H Q _ => ∃ n s q ops, vs = [.int n, .int s, .ref q] ∧ Tsk K H n s q ops ∧ Can n s ini ops ∧
  ∀ (p l : Addr) (ks : List Int) (H' : Hp), Same H H' → H p = none → H l = none → H' p = some (.tup [.int (run ini ops).hand, .ref l]) → H' l = some (.lst (ks.map V.int)) → ks.Perm (run ini ops).kept → ks.Pairwise (· ≤ ·) → Q (.ref p) H'

theorem len_is_operation (K : PySem.W.Frag) {vs : List V} {H : Hp} {Q : VK} {E : XK} (h : sp_is_operation K vs H Q E) : vs.length = 1 := by
  obtain ⟨_, _, rfl, _⟩ := h
  rfl
theorem len_require_operations (K : PySem.W.Frag) {vs : List V} {H : Hp} {Q : VK} {E : XK} (h : sp_require_operations K vs H Q E) : vs.length = 1 := by
  obtain ⟨_, _, rfl, _⟩ := h
  rfl
theorem len_Trace_init (K : PySem.W.Frag) {vs : List V} {H : Hp} {Q : VK} {E : XK} (h : sp_Trace_init K vs H Q E) : vs.length = 3 := by
  obtain ⟨_, _, _, _, rfl, _⟩ := h
  rfl
theorem len_Trace_hand (K : PySem.W.Frag) {vs : List V} {H : Hp} {Q : VK} {E : XK} (h : sp_Trace_hand K vs H Q E) : vs.length = 1 := by
  obtain ⟨_, _, _, _, rfl, _⟩ := h
  rfl
theorem len_Trace_steps (K : PySem.W.Frag) {vs : List V} {H : Hp} {Q : VK} {E : XK} (h : sp_Trace_steps K vs H Q E) : vs.length = 1 := by
  obtain ⟨_, _, _, _, rfl, _⟩ := h
  rfl
theorem len_Trace_backs (K : PySem.W.Frag) {vs : List V} {H : Hp} {Q : VK} {E : XK} (h : sp_Trace_backs K vs H Q E) : vs.length = 1 := by
  obtain ⟨_, _, _, _, rfl, _⟩ := h
  rfl
theorem len_Trace_kept (K : PySem.W.Frag) {vs : List V} {H : Hp} {Q : VK} {E : XK} (h : sp_Trace_kept K vs H Q E) : vs.length = 1 := by
  obtain ⟨_, _, _, _, rfl, _⟩ := h
  rfl
theorem len_Trace_copied (K : PySem.W.Frag) {vs : List V} {H : Hp} {Q : VK} {E : XK} (h : sp_Trace_copied K vs H Q E) : vs.length = 1 := by
  obtain ⟨_, _, _, _, rfl, _⟩ := h
  rfl
theorem len_Trace_can_do (K : PySem.W.Frag) {vs : List V} {H : Hp} {Q : VK} {E : XK} (h : sp_Trace_can_do K vs H Q E) : vs.length = 2 := by
  obtain ⟨_, _, _, _, _, _, rfl, _⟩ := h
  rfl
theorem len_Trace_do (K : PySem.W.Frag) {vs : List V} {H : Hp} {Q : VK} {E : XK} (h : sp_Trace_do K vs H Q E) : vs.length = 2 := by
  obtain ⟨_, _, _, _, _, _, _, rfl, _⟩ := h
  rfl
theorem len_require_list (K : PySem.W.Frag) {vs : List V} {H : Hp} {Q : VK} {E : XK} (h : sp_require_list K vs H Q E) : vs.length = 3 := by
  obtain ⟨_, _, _, _, rfl, _⟩ := h
  rfl
theorem len_wrong_of (K : PySem.W.Frag) {vs : List V} {H : Hp} {Q : VK} {E : XK} (h : sp_wrong_of K vs H Q E) : vs.length = 3 := by
  obtain ⟨_, _, _, _, rfl, _⟩ := h
  rfl
theorem len_traces_of (K : PySem.W.Frag) {vs : List V} {H : Hp} {Q : VK} {E : XK} (h : sp_traces_of K vs H Q E) : vs.length = 3 := by
  obtain ⟨_, _, _, _, rfl, _⟩ := h
  rfl
theorem len_first_wrong (K : PySem.W.Frag) {vs : List V} {H : Hp} {Q : VK} {E : XK} (h : sp_first_wrong K vs H Q E) : vs.length = 3 := by
  obtain ⟨_, _, _, _, rfl, _⟩ := h
  rfl
theorem len_steps_of (K : PySem.W.Frag) {vs : List V} {H : Hp} {Q : VK} {E : XK} (h : sp_steps_of K vs H Q E) : vs.length = 3 := by
  obtain ⟨_, _, _, _, rfl, _⟩ := h
  rfl
theorem len_backs_of (K : PySem.W.Frag) {vs : List V} {H : Hp} {Q : VK} {E : XK} (h : sp_backs_of K vs H Q E) : vs.length = 3 := by
  obtain ⟨_, _, _, _, rfl, _⟩ := h
  rfl
theorem len_is_complete (K : PySem.W.Frag) {vs : List V} {H : Hp} {Q : VK} {E : XK} (h : sp_is_complete K vs H Q E) : vs.length = 3 := by
  obtain ⟨_, _, _, _, rfl, _⟩ := h
  rfl
theorem len_extra_steps (K : PySem.W.Frag) {vs : List V} {H : Hp} {Q : VK} {E : XK} (h : sp_extra_steps K vs H Q E) : vs.length = 3 := by
  obtain ⟨_, _, _, _, rfl, _⟩ := h
  rfl
theorem len_most_kept (K : PySem.W.Frag) {vs : List V} {H : Hp} {Q : VK} {E : XK} (h : sp_most_kept K vs H Q E) : vs.length = 3 := by
  obtain ⟨_, _, _, _, rfl, _⟩ := h
  rfl
theorem len_times_in (K : PySem.W.Frag) {vs : List V} {H : Hp} {Q : VK} {E : XK} (h : sp_times_in K vs H Q E) : vs.length = 4 := by
  obtain ⟨_, _, _, _, _, rfl, _⟩ := h
  rfl
theorem len_kept_behind (K : PySem.W.Frag) {vs : List V} {H : Hp} {Q : VK} {E : XK} (h : sp_kept_behind K vs H Q E) : vs.length = 3 := by
  obtain ⟨_, _, _, _, rfl, _⟩ := h
  rfl

/-- is_operation: slots 0 value -/
abbrev n_is_operation : List Str := ["value"]
def t_is_operation (K : PySem.W.Frag) : TS :=
  (tSeq (tIfS (tOr (tNot (tB (tCB (rIsi K) (tCons (tVar 0) (tCons (tC (.ty "tuple")) tNil))))) (tOr (tTest (tOp (rEqD K) (tVar 0) (tTup tNil))) (tOr (tNot (tB (tCB (rIsi K) (tCons (tOp (rIxT K) (tVar 0) (tC (.int 0))) (tCons (tC (.ty "str")) tNil))))) (tTest (tOp (rWnot K) (tOp (rIxT K) (tVar 0) (tC (.int 0))) (tC (.ref (He.ga K "WORDS")))))))) (tRet (tC (.bl false))) tNext)
  (tSeq (tIfS (tTest (tOp oIsN (tOp (rWget K) (tC (.ref (He.ga K "WORDS"))) (tOp (rIxT K) (tVar 0) (tC (.int 0)))) (tC .non))) (tRet (tOp rEq (tCB (oLen K) (tCons (tVar 0) tNil)) (tC (.int 1)))) tNext)
  (tRet (tAndV (tOp rEq (tCB (oLen K) (tCons (tVar 0) tNil)) (tC (.int 2))) (tCall (sp_is_whole K) [] E0 (tCons (tOp (rIxT K) (tVar 0) (tC (.int 1))) (tCons (tOp (rWget K) (tC (.ref (He.ga K "WORDS"))) (tOp (rIxT K) (tVar 0) (tC (.int 0)))) (tCons (tC (.int 1000000000000000000000000000000)) tNil))))))))
/-- require_operations: slots 0 value, 1 item, 2 operation -/
abbrev n_require_operations : List Str := ["value", "item", "operation"]
def t_require_operations (K : PySem.W.Frag) : TS :=
  (tSeq (tIfS (tOr (tNot (tB (tCB (rIsi K) (tCons (tVar 0) (tCons (tC (.ty "list")) tNil))))) (tTest (tOp oGt (tCB (oLen K) (tCons (tVar 0) tNil)) (tC (.int 400))))) tNever tNext)
  (tFor (iEnum K (tCons (tVar 0) tNil)) (gTup K 2 (gCons (gName 1) (gCons (gName 2) gNil)))
  (tIfS (tNot (tB (tCall (sp_is_operation K) [] E0 (tCons (tVar 2) tNil)))) tNever tNext)))
/-- __init__: slots 0 self, 1 length, 2 slots -/
abbrev n_Trace_init : List Str := ["self", "length", "slots"]
def t_Trace_init (K : PySem.W.Frag) : TS :=
  (tSeq (sFldC (He.ga K "Trace") (tVar 0) (tVar 1) "own_length")
  (tSeq (sFldC (He.ga K "Trace") (tVar 0) (tVar 2) "own_slots")
  (tSeq (sFldC (He.ga K "Trace") (tVar 0) (tC (.int 0)) "own_hand")
  (tSeq (sFldC (He.ga K "Trace") (tVar 0) (tLst (tCons (tC (.int 0)) tNil)) "own_kept")
  (tSeq (sFldC (He.ga K "Trace") (tVar 0) (tC (.int 0)) "own_steps")
  (sFldC (He.ga K "Trace") (tVar 0) (tC (.int 0)) "own_backs"))))))
/-- hand: slots 0 self -/
abbrev n_Trace_hand : List Str := ["self"]
def t_Trace_hand (K : PySem.W.Frag) : TS :=
  (tRet (tFldC (He.ga K "Trace") (tVar 0) "own_hand"))
/-- kept: slots 0 self -/
abbrev n_Trace_kept : List Str := ["self"]
def t_Trace_kept (K : PySem.W.Frag) : TS :=
  (tRet (tCB (rSortedI K) (tCons (tFldC (He.ga K "Trace") (tVar 0) "own_kept") tNil)))
/-- steps: slots 0 self -/
abbrev n_Trace_steps : List Str := ["self"]
def t_Trace_steps (K : PySem.W.Frag) : TS :=
  (tRet (tFldC (He.ga K "Trace") (tVar 0) "own_steps"))
/-- backs: slots 0 self -/
abbrev n_Trace_backs : List Str := ["self"]
def t_Trace_backs (K : PySem.W.Frag) : TS :=
  (tRet (tFldC (He.ga K "Trace") (tVar 0) "own_backs"))
/-- copied: slots 0 self, 1 found -/
abbrev n_Trace_copied : List Str := ["self", "found"]
def t_Trace_copied (K : PySem.W.Frag) : TS :=
  (tSeq (tAsg (tMake (He.ga K "Trace") (sp_Trace_init K) [] E0 (tCons (tFldC (He.ga K "Trace") (tVar 0) "own_length") (tCons (tFldC (He.ga K "Trace") (tVar 0) "own_slots") tNil))) (gName 1))
  (tSeq (sFldC (He.ga K "Trace") (tVar 1) (tFldC (He.ga K "Trace") (tVar 0) "own_hand") "own_hand")
  (tSeq (sFldC (He.ga K "Trace") (tVar 1) (tCB (oList K) (tCons (tFldC (He.ga K "Trace") (tVar 0) "own_kept") tNil)) "own_kept")
  (tSeq (sFldC (He.ga K "Trace") (tVar 1) (tFldC (He.ga K "Trace") (tVar 0) "own_steps") "own_steps")
  (tSeq (sFldC (He.ga K "Trace") (tVar 1) (tFldC (He.ga K "Trace") (tVar 0) "own_backs") "own_backs")
  (tRet (tVar 1)))))))
/-- can_do: slots 0 self, 1 operation -/
abbrev n_Trace_can_do : List Str := ["self", "operation"]
def t_Trace_can_do (K : PySem.W.Frag) : TS :=
  (tMatch (tOp (rIxT K) (tVar 1) (tC (.int 0))) ((some "go", (tRet (tOp oLt (tOp oAdd (tFldC (He.ga K "Trace") (tVar 0) "own_hand") (tOp (rIxT K) (tVar 1) (tC (.int 1)))) (tFldC (He.ga K "Trace") (tVar 0) "own_length")))) :: (some "keep", (tRet (tAndV (tOp (rIn K true) (tFldC (He.ga K "Trace") (tVar 0) "own_hand") (tFldC (He.ga K "Trace") (tVar 0) "own_kept")) (tOp oLt (tCB (oLen K) (tCons (tFldC (He.ga K "Trace") (tVar 0) "own_kept") tNil)) (tFldC (He.ga K "Trace") (tVar 0) "own_slots"))))) :: (some "back", (tRet (tAndV (tOp oLt (tFldC (He.ga K "Trace") (tVar 0) "own_backs") (tFldC (He.ga K "Trace") (tVar 0) "own_length")) (tOp rEq (tFldC (He.ga K "Trace") (tVar 0) "own_hand") (tOp oSub (tOp oSub (tFldC (He.ga K "Trace") (tVar 0) "own_length") (tC (.int 1))) (tFldC (He.ga K "Trace") (tVar 0) "own_backs")))))) :: [(none, (tRet (tOp (rIn K false) (tOp (rIxT K) (tVar 1) (tC (.int 1))) (tFldC (He.ga K "Trace") (tVar 0) "own_kept"))))]))
/-- do: slots 0 self, 1 operation -/
abbrev n_Trace_do : List Str := ["self", "operation"]
def t_Trace_do (K : PySem.W.Frag) : TS :=
  (tMatch (tOp (rIxT K) (tVar 1) (tC (.int 0))) ((some "go", (tSeq (sFldAugC (He.ga K "Trace") (tVar 0) (tOp (rIxT K) (tVar 1) (tC (.int 1))) "own_hand")
  (sFldAugC (He.ga K "Trace") (tVar 0) (tOp (rIxT K) (tVar 1) (tC (.int 1))) "own_steps"))) :: (some "keep", (tDrop (tBM K "list" rAppend (tFldC (He.ga K "Trace") (tVar 0) "own_kept") (tCons (tFldC (He.ga K "Trace") (tVar 0) "own_hand") tNil)))) :: (some "back", (sFldAugC (He.ga K "Trace") (tVar 0) (tC (.int 1)) "own_backs")) :: (some "take", (sFldC (He.ga K "Trace") (tVar 0) (tOp (rIxT K) (tVar 1) (tC (.int 1))) "own_hand")) :: [(none, (tDrop (tBM K "list" rRemI (tFldC (He.ga K "Trace") (tVar 0) "own_kept") (tCons (tOp (rIxT K) (tVar 1) (tC (.int 1))) tNil))))]))
/-- require_list: slots 0 length, 1 slots, 2 operations -/
abbrev n_require_list : List Str := ["length", "slots", "operations"]
def t_require_list (K : PySem.W.Frag) : TS :=
  (tSeq (tDrop (tCall (sp_require_task K) [] E0 (tCons (tVar 0) (tCons (tVar 1) tNil))))
  (tDrop (tCall (sp_require_operations K) [] E0 (tCons (tVar 2) tNil))))
/-- wrong_of: slots 0 length, 1 slots, 2 operations, 3 trace, 4 number, 5 operation -/
abbrev n_wrong_of : List Str := ["length", "slots", "operations", "trace", "number", "operation"]
def t_wrong_of (K : PySem.W.Frag) : TS :=
  (tSeq (tAsg (tMake (He.ga K "Trace") (sp_Trace_init K) [] E0 (tCons (tVar 0) (tCons (tVar 1) tNil))) (gName 3))
  (tSeq (tFor (iEnum K (tCons (tVar 2) tNil)) (gTup K 2 (gCons (gName 4) (gCons (gName 5) gNil)))
  (tSeq (tIfS (tNot (tB (tMeth (He.ga K "Trace") "can_do" (sp_Trace_can_do K) [] E0 (tVar 3) (tCons (tVar 5) tNil)))) (tRet (tVar 4)) tNext)
  (tDrop (tMeth (He.ga K "Trace") "do" (sp_Trace_do K) [] E0 (tVar 3) (tCons (tVar 5) tNil)))))
  (tRet (tC .non))))
/-- traces_of: slots 0 length, 1 slots, 2 operations, 3 wrong, 4 found, 5 operation -/
abbrev n_traces_of : List Str := ["length", "slots", "operations", "wrong", "found", "operation"]
def t_traces_of (K : PySem.W.Frag) : TS :=
  (tSeq (tDrop (tCall (sp_require_list K) [] E0 (tCons (tVar 0) (tCons (tVar 1) (tCons (tVar 2) tNil)))))
  (tSeq (tAsg (tCall (sp_wrong_of K) [] E0 (tCons (tVar 0) (tCons (tVar 1) (tCons (tVar 2) tNil)))) (gName 3))
  (tSeq (tIfS (tTest (tOp oNotN (tVar 3) (tC .non))) tNever tNext)
  (tSeq (tAsg (tLst (tCons (tMake (He.ga K "Trace") (sp_Trace_init K) [] E0 (tCons (tVar 0) (tCons (tVar 1) tNil))) tNil)) (gName 4))
  (tSeq (tFor (iList K (tVar 2)) (gName 5)
  (tSeq (tDrop (tBM K "list" rAppend (tVar 4) (tCons (tMeth (He.ga K "Trace") "copied" (sp_Trace_copied K) [] E0 (tOp (rIxL K) (tVar 4) (tUn uNeg (tC (.int 1)))) tNil) tNil)))
  (tDrop (tMeth (He.ga K "Trace") "do" (sp_Trace_do K) [] E0 (tOp (rIxL K) (tVar 4) (tUn uNeg (tC (.int 1)))) (tCons (tVar 5) tNil)))))
  (tRet (tVar 4)))))))
/-- first_wrong: slots 0 length, 1 slots, 2 operations -/
abbrev n_first_wrong : List Str := ["length", "slots", "operations"]
def t_first_wrong (K : PySem.W.Frag) : TS :=
  (tSeq (tDrop (tCall (sp_require_list K) [] E0 (tCons (tVar 0) (tCons (tVar 1) (tCons (tVar 2) tNil)))))
  (tRet (tCall (sp_wrong_of K) [] E0 (tCons (tVar 0) (tCons (tVar 1) (tCons (tVar 2) tNil))))))
/-- steps_of: slots 0 length, 1 slots, 2 operations -/
abbrev n_steps_of : List Str := ["length", "slots", "operations"]
def t_steps_of (K : PySem.W.Frag) : TS :=
  (tRet (tProp (He.ga K "Trace") (sp_Trace_steps K) [] E0 (tOp (rIxL K) (tCall (sp_traces_of K) [] E0 (tCons (tVar 0) (tCons (tVar 1) (tCons (tVar 2) tNil)))) (tUn uNeg (tC (.int 1))))))
/-- backs_of: slots 0 length, 1 slots, 2 operations -/
abbrev n_backs_of : List Str := ["length", "slots", "operations"]
def t_backs_of (K : PySem.W.Frag) : TS :=
  (tRet (tProp (He.ga K "Trace") (sp_Trace_backs K) [] E0 (tOp (rIxL K) (tCall (sp_traces_of K) [] E0 (tCons (tVar 0) (tCons (tVar 1) (tCons (tVar 2) tNil)))) (tUn uNeg (tC (.int 1))))))
/-- is_complete: slots 0 length, 1 slots, 2 operations -/
abbrev n_is_complete : List Str := ["length", "slots", "operations"]
def t_is_complete (K : PySem.W.Frag) : TS :=
  (tRet (tOp rEq (tProp (He.ga K "Trace") (sp_Trace_backs K) [] E0 (tOp (rIxL K) (tCall (sp_traces_of K) [] E0 (tCons (tVar 0) (tCons (tVar 1) (tCons (tVar 2) tNil)))) (tUn uNeg (tC (.int 1))))) (tVar 0)))
/-- extra_steps: slots 0 length, 1 slots, 2 operations, 3 last -/
abbrev n_extra_steps : List Str := ["length", "slots", "operations", "last"]
def t_extra_steps (K : PySem.W.Frag) : TS :=
  (tSeq (tAsg (tOp (rIxL K) (tCall (sp_traces_of K) [] E0 (tCons (tVar 0) (tCons (tVar 1) (tCons (tVar 2) tNil)))) (tUn uNeg (tC (.int 1)))) (gName 3))
  (tRet (tIf (tTest (tOp rEq (tProp (He.ga K "Trace") (sp_Trace_backs K) [] E0 (tVar 3)) (tVar 0))) (tOp oSub (tProp (He.ga K "Trace") (sp_Trace_steps K) [] E0 (tVar 3)) (tCall (sp_least_of K) [] E0 (tCons (tVar 0) (tCons (tVar 1) tNil)))) (tC .non))))
/-- most_kept: slots 0 length, 1 slots, 2 operations, 3 trace -/
abbrev n_most_kept : List Str := ["length", "slots", "operations", "trace"]
def t_most_kept (K : PySem.W.Frag) : TS :=
  (tRet (tCB (rMax K) (tCons (tLc (iList K (tCall (sp_traces_of K) [] E0 (tCons (tVar 0) (tCons (tVar 1) (tCons (tVar 2) tNil))))) (gName 3) tYes (tCB (oLen K) (tCons (tProp (He.ga K "Trace") (sp_Trace_kept K) [] E0 (tVar 3)) tNil)) [3]) tNil)))
/-- times_in: slots 0 length, 1 slots, 2 operations, 3 step, 4 traces, 5 found, 6 trace, 7 operation -/
abbrev n_times_in : List Str := ["length", "slots", "operations", "step", "traces", "found", "trace", "operation"]
def t_times_in (K : PySem.W.Frag) : TS :=
  (tSeq (tDrop (tCall (sp_require_list K) [] E0 (tCons (tVar 0) (tCons (tVar 1) (tCons (tVar 2) tNil)))))
  (tSeq (tIfS (tNot (tB (tCall (sp_is_whole K) [] E0 (tCons (tVar 3) (tCons (tC (.int 0)) (tCons (tOp oSub (tVar 0) (tC (.int 2))) tNil)))))) tNever tNext)
  (tSeq (tPar 4 5 (tCons (tCall (sp_traces_of K) [] E0 (tCons (tVar 0) (tCons (tVar 1) (tCons (tVar 2) tNil)))) (tCons (tC (.int 0)) tNil)))
  (tSeq (tFor (iZip K (tCons (tVar 4) (tCons (tVar 2) tNil))) (gTup K 2 (gCons (gName 6) (gCons (gName 7) gNil)))
  (tIfS (tAnd (tTest (tOp rEq (tOp (rIxT K) (tVar 7) (tC (.int 0))) (tC (.str "go")))) (tTest (tChain oLe oLt (tProp (He.ga K "Trace") (sp_Trace_hand K) [] E0 (tVar 6)) (tVar 3) (tOp oAdd (tProp (He.ga K "Trace") (sp_Trace_hand K) [] E0 (tVar 6)) (tOp (rIxT K) (tVar 7) (tC (.int 1))))))) (tAug 5 (tC (.int 1)) (ipI fun i j => i + j)) tNext))
  (tRet (tVar 5))))))
/-- kept_behind: slots 0 length, 1 slots, 2 operations, 3 last -/
abbrev n_kept_behind : List Str := ["length", "slots", "operations", "last"]
def t_kept_behind (K : PySem.W.Frag) : TS :=
  (tSeq (tAsg (tOp (rIxL K) (tCall (sp_traces_of K) [] E0 (tCons (tVar 0) (tCons (tVar 1) (tCons (tVar 2) tNil)))) (tUn uNeg (tC (.int 1)))) (gName 3))
  (tRet (tTup (tCons (tProp (He.ga K "Trace") (sp_Trace_hand K) [] E0 (tVar 3)) (tCons (tProp (He.ga K "Trace") (sp_Trace_kept K) [] E0 (tVar 3)) tNil)))))

end Bs

namespace Bs
open PySem PySem.Spec L2 Bm Bl
open PyProof.Rows hiding St
-- one step of a reading; side conditions; what a heap holds
local macro_rules | `(tactic| walk_at "sc") => `(tactic| (first
  | exact mulL ⟨by omega, by omega⟩ | exact mulR ⟨by omega, by omega⟩ | exact divS (by omega) (by omega) | exact (show (0 : Int) < _ by omega) | exact powS (b := 4) (by decide) (by decide) (by decide) (by decide) | assumption | omega))
local macro_rules | `(tactic| walk_at "ne") => `(tactic| (first
  | assumption | (apply Ne.symm; assumption) | exact ne_none (by assumption) (by walk_at "hp") | exact Ne.symm (ne_none (by assumption) (by walk_at "hp"))))
local macro_rules | `(tactic| walk_at "hp") => `(tactic| (first
  | assumption | exact upd_same | (refine (upd_ne ?k1).trans ?k2; (case k1 => walk_at "ne"); (case k2 => walk_at "hp")) | (refine Same.get (by assumption) ?_; walk_at "hp") | (refine But.get (by assumption) ?k1 ?k2; (case k1 => walk_at "hp"); (case k2 => walk_at "ne"))))
local macro_rules | `(tactic| walk_at "sq") => `(tactic| (first | assumption | exact SqL.of (by walk_at "hp") | exact SqT.of (by walk_at "hp")))
local macro_rules | `(tactic| walk_at "rd1") => `(tactic| (first
  | with_reducible refine r_seq ?_ | with_reducible refine r_asg ?_ | with_reducible refine r_asgG ?_ | with_reducible refine r_op ?_ | with_reducible refine r_var (by with_unfolding_all exact rfl) ?_ | with_reducible refine r_c ?_ | with_reducible refine r_I0 ?_ | with_reducible refine r_p30 ?_ | with_reducible refine r_p18 ?_ | with_reducible refine r_p12 ?_ | with_reducible refine r_p15 ?_ | with_reducible refine r_p9 ?_ | with_reducible refine r_p6 ?_ | with_reducible refine r_p64 ?_ | ((with_reducible refine r_I ?k1 ?k2); (case k1 => walk_at "sc")) | with_reducible refine r_U ?_ | with_reducible refine r_un ?_
  | with_reducible refine r_ret ?_ | with_reducible refine r_ifS ?_ | with_reducible refine r_test ?_ | with_reducible refine r_bl ?_ | with_reducible refine r_cb ?_ | with_reducible refine r_cons ?_ | with_reducible refine r_nil ?_ | with_reducible refine r_intI ?_ | with_reducible refine r_intB ?_ | refine r_max2' ?_ | refine r_min2' ?_ | with_reducible refine r_max3 ?_ | with_reducible refine r_min3 ?_
  | with_reducible refine r_call ?_ | with_reducible refine r_par ?_ | with_reducible refine r_and ?_ | with_reducible refine r_or ?_ | with_reducible refine r_not ?_ | with_reducible refine r_B ?_ | with_reducible refine r_andV ?_ | with_reducible refine r_orV ?_ | with_reducible refine r_notV ?_ | with_reducible refine r_ifE ?_ | with_reducible refine r_eqI ?_ | with_reducible refine r_neI ?_ | with_reducible refine r_eqB ?_ | with_reducible refine r_neB ?_ | with_reducible refine r_isN ?_ | with_reducible refine r_notN ?_
  | with_reducible refine r_chain ?_ | with_reducible refine r_chain3 ?_ | with_reducible refine r_drop ?_ | with_reducible refine r_next ?_ | with_reducible refine r_retN ?_ | with_reducible refine r_brk ?_ | with_reducible refine r_cont ?_ | with_reducible refine r_ex ?_
  | with_reducible refine r_tup ?_ | with_reducible refine r_lst ?_ | ((with_reducible refine r_new ?k1 ?k2); (case k1 => first | decide | exact Nat.le_of_ble_eq_true rfl)) | with_reducible refine r_sub ?_ | with_reducible refine r_gname ?_ | with_reducible refine r_gcons ?_ | with_reducible refine r_gnil ?_ | with_reducible refine r_slice ?_ | with_reducible refine r_noPart ?_ | with_reducible refine r_part ?_
  | with_reducible refine r_gtup (by with_unfolding_all walk_at "sq") (by with_unfolding_all exact rfl) ?_
  | with_reducible refine r_rng1 ?_ | with_reducible refine r_rng2 ?_ | ((with_reducible refine r_r1 ?k1 ?k2 ?k3); (case k1 => omega); (case k2 => omega)) | ((with_reducible refine r_r2 ?k1 ?k2); (case k1 => omega)) | with_reducible refine r_nonT ?_ | with_reducible refine r_nonI ?_ | with_reducible refine r_nonR ?_ | with_reducible refine r_notT ?_ | with_reducible refine r_notI ?_ | with_reducible refine r_notR ?_ | with_reducible refine r_for ?_ | with_reducible refine r_lc ?_ | with_reducible refine r_iL ?_ | with_reducible refine r_iT ?_ | with_reducible refine r_yesT ?_ | with_reducible refine r_same (by with_unfolding_all exact rfl) ?_ | with_reducible refine r_neS ?_ | with_reducible refine r_iteT ?_ | with_reducible refine r_iteF ?_ | with_reducible refine r_iteNT ?_ | with_reducible refine r_iteNF ?_))
local macro_rules | `(tactic| walk_at "rd") => `(tactic| repeat walk_at "rd1")
/-! ### reading instances, tables, operations -/
def FL (C : Addr) (f : Str) (x : V) (H : Hp) (Q : VK) : Prop := ∃ a dx fs v, x = .ref a ∧ H a = some (.ins C dx fs) ∧ fs.lookup f = some v ∧ Q v H
def FS (C : Addr) (f : Str) (y x : V) (H : Hp) (N : Hp → Prop) : Prop := ∃ a dx fs, x = .ref a ∧ H a = some (.ins C dx fs) ∧ fs.length < 1000 ∧ N (upd H a (.ins C dx (putF f y fs)))
def PR (C : Addr) (sp : Sp) (E : XK) (x : V) (H : Hp) (Q : VK) : Prop := ∃ a dx fs, x = .ref a ∧ H a = some (.ins C dx fs) ∧ sp [.ref a] H Q E
def DGr (x y : V) (H : Hp) (Q : VK) : Prop := ∃ a v, x = .ref a ∧ DGet H a y (some v) ∧ Q v H
def DPr (x y v : V) (H : Hp) (N : Hp → Prop) : Prop := ∃ a H4, x = .ref a ∧ DPut H a y v H4 ∧ N H4
section
variable {D : Ends} {σ : L2.St} {H : Hp} {Q : VK} {E : XK} {K : PySem.W.Frag} {C : Addr} {f m : Str} {x y v : V} {ta tb tv te : TE} {tA : TA} {sp : Sp} {i j : Int}
theorem r_fldC (h : ta σ H fun x H1 => FL C f x H1 Q) : tFldC C ta f σ H Q := h
theorem r_sfld (h : tv σ H fun y H1 => ta σ H1 fun x H2 => FS C f y x H2 (D.nx σ)) : sFldC C ta tv f D σ H := h
theorem r_saug (h : ta σ H fun x H1 => ∃ a dx fs i, x = .ref a ∧ H1 a = some (.ins C dx fs) ∧ fs.lookup f = some (.int i) ∧
  tv σ H1 fun y H2 => ∃ j dx' fs', y = .int j ∧ H2 a = some (.ins C dx' fs') ∧ fs'.length < 1000 ∧ D.nx σ (upd H2 a (.ins C dx' (putF f (.int (i + j)) fs')))) : sFldAugC C ta tv f D σ H := h
theorem r_prop (h : ta σ H fun x H1 => PR C sp E x H1 Q) : tProp C sp [] E ta σ H Q := h
theorem r_pr {a dx : Addr} {fs : List (Str × V)} (e : H a = some (.ins C dx fs)) (q : sp [.ref a] H Q E) : PR C sp E (.ref a) H Q := ⟨a, dx, fs, rfl, e, q⟩
theorem r_meth (h : ta σ H fun x H1 => ∃ a dx fs, x = .ref a ∧ H1 a = some (.ins C dx fs) ∧ fs.lookup m = none ∧ tA σ H1 fun vs H2 => sp (x :: vs) H2 Q E) : tMeth C m sp [] E ta tA σ H Q := by
  have e : (fun (x : V) (H1 : Hp) => ∃ a dx fs, x = .ref a ∧ H1 a = some (.ins C dx fs) ∧ fs.lookup m = none ∧ tA σ H1 fun vs H2 => sp (x :: (vs ++ [])) H2 Q E) =
      fun x H1 => ∃ a dx fs, x = .ref a ∧ H1 a = some (.ins C dx fs) ∧ fs.lookup m = none ∧ tA σ H1 fun vs H2 => sp (x :: vs) H2 Q E := by
    funext x H1
    simp only [List.append_nil]
  show ta σ H _
  exact (show ta σ H (fun (x : V) (H1 : Hp) => ∃ a dx fs, x = .ref a ∧ H1 a = some (.ins C dx fs) ∧ fs.lookup m = none ∧ tA σ H1 fun vs H2 => sp (x :: (vs ++ [])) H2 Q E) from by rw [e]; exact h)
theorem r_make (h : tA σ H fun vs H1 => ∀ x dx, H1 x = none → H1 dx = none → dx ≠ x → sp (.ref x :: vs) (upd (upd H1 dx (.own x)) x (.ins C dx [])) (fun v H2 => v = .non ∧ Q (.ref x) H2) E) : tMake C sp [] E tA σ H Q := by
  have e : (fun (vs : List V) (H1 : Hp) => ∀ x dx, H1 x = none → H1 dx = none → dx ≠ x → sp (.ref x :: (vs ++ [])) (upd (upd H1 dx (.own x)) x (.ins C dx [])) (fun v H2 => v = .non ∧ Q (.ref x) H2) E) =
      fun vs H1 => ∀ x dx, H1 x = none → H1 dx = none → dx ≠ x → sp (.ref x :: vs) (upd (upd H1 dx (.own x)) x (.ins C dx [])) (fun v H2 => v = .non ∧ Q (.ref x) H2) E := by
    funext vs H1
    rw [List.append_nil]
  show tA σ H _
  exact (show tA σ H (fun (vs : List V) (H1 : Hp) => ∀ x dx, H1 x = none → H1 dx = none → dx ≠ x → sp (.ref x :: (vs ++ [])) (upd (upd H1 dx (.own x)) x (.ins C dx [])) (fun v H2 => v = .non ∧ Q (.ref x) H2) E) from by rw [e]; exact h)
theorem r_eqSY {a : Str} (h : Q (.bl true) H) : rEq (.str a) (.str a) H Q := ⟨rfl, by rw [decide_eq_true rfl]; exact h⟩
theorem r_eqSN {a b : Str} (n : ¬ a = b) (h : Q (.bl false) H) : rEq (.str a) (.str b) H Q := ⟨rfl, by rw [decide_eq_false (fun e => n (V.str.inj e))]; exact h⟩
theorem r_dget {td ty : TE} (h : td σ H fun x H1 => ty σ H1 fun y H2 => DGr x y H2 Q) : tDGet td ty σ H Q := h
theorem r_dput {td ty : TE} (h : tv σ H fun v H1 => td σ H1 fun x H2 => ty σ H2 fun y H3 => DPr x y v H3 (D.nx σ)) : sDPut td ty tv D σ H := h
theorem r_getD {d : Addr} {kvs : List (Key × V)} {k : Str} (h : H d = some (.dK kvs)) (e : valV kvs (Sum.inr k) = some v) (q : Q v H) : DGr (.ref d) (.str k) H Q :=
  ⟨d, v, rfl, by rw [← e]; exact DGet.k (k := Sum.inr k) h, q⟩
theorem r_putD {d : Addr} {kvs kvs' : List (Key × V)} {k : Str} {N : Hp → Prop} (h : H d = some (.dK kvs)) (hl : kvs.length < 100000) (e : putK kvs (Sum.inr k) v = kvs') (q : N (upd H d (.dK kvs'))) : DPr (.ref d) (.str k) v H N :=
  ⟨d, _, rfl, DPut.k (k := Sum.inr k) h (sz_lt hl), by rw [e]; exact q⟩
theorem r_listOf {p : Addr} {ys : List V} (h : SqL K H p ys) (q : ∀ l, H l = none → Q (.ref l) (upd H l (.lst ys))) : oList K [.ref p] H Q := ⟨p, ys, rfl, .inl h, q⟩
theorem inV_ints {i : Int} : ∀ ns : List Int, inV (.int i) (ns.map V.int) = decide (i ∈ ns)
  | [] => by simp [inV]
  | n :: ns => by
    have ih := inV_ints (i := i) ns
    unfold inV at ih ⊢
    rw [List.map_cons, List.any_cons, ih]
    by_cases e : i = n
    · subst e
      rw [show eqV (V.int i) (V.int i) = true from beq_self_eq_true i, decide_eq_true List.mem_cons_self]
      rfl
    · rw [show eqV (V.int n) (V.int i) = false from beq_eq_false_iff_ne.mpr (fun q => e q.symm)]
      exact decide_eq_decide.mpr ⟨fun h => List.mem_cons_of_mem _ h, fun h => (List.mem_cons.mp h).resolve_left e⟩
theorem r_inInts {p : Addr} {ns : List Int} (neg : Bool) (h : H p = some (.lst (ns.map V.int))) (q : Q (.bl (if neg then !decide (i ∈ ns) else decide (i ∈ ns))) H) : rIn K neg (.int i) (.ref p) H Q :=
  ⟨p, _, rfl, .inl (SqL.of h), rfl, by rw [List.all_eq_true]; intro x hx; obtain ⟨z, _, rfl⟩ := List.mem_map.mp hx; rfl, by rw [inV_ints]; exact q⟩
theorem atI_1 {α : Type} {x z : α} {xs : List α} : atI (x :: z :: xs) 1 = some z := atI_i (by decide) rfl
theorem atI_end {α : Type} {x : α} {xs : List α} : atI (xs ++ [x]) (-1) = some x := by
  unfold atI ixN
  rw [if_neg (by decide), List.length_append, if_pos (by rw [List.length_singleton]; omega), show (-1 + ((xs.length + [x].length : Nat) : Int)).toNat = xs.length by rw [List.length_singleton]; omega]
  show (xs ++ [x])[xs.length]? = some x
  rw [List.getElem?_append_right (Nat.le_refl _), Nat.sub_self]
  rfl
end
/-! heaps: tuples stay -/
theorem Tps.of {H H' : Hp} (s : Same H H') : Tps H H' := fun p xs h => s _ _ h
theorem Tps.refl {H : Hp} : Tps H H := fun _ _ h => h
theorem Tps.trans {H H1 H2 : Hp} (x : Tps H H1) (y : Tps H1 H2) : Tps H H2 := fun p xs h => y p xs (x p xs h)
theorem Tps.upd {H : Hp} {a : Addr} {o u : HO} (h : H a = some u) (n : ∀ xs, u ≠ .tup xs) : Tps H (upd H a o) := fun p xs e => by
  have ne : p ≠ a := by
    rintro rfl
    rw [h] at e
    exact n xs (Option.some.inj e)
  exact (upd_ne ne).trans e
theorem Tps.but {H H' : Hp} {a : Addr} {u : HO} (b : But a H H') (h : H a = some u) (n : ∀ xs, u ≠ .tup xs) : Tps H H' := fun p xs e => by
  refine b p _ ?_ e
  rintro rfl
  rw [h] at e
  exact n xs (Option.some.inj e)
theorem Tps.but2 {H H' : Hp} {a l : Addr} {u w : HO} (b : But2 a l H H') (h : H a = some u) (n : ∀ xs, u ≠ .tup xs) (h2 : H l = some w) (n2 : ∀ xs, w ≠ .tup xs) : Tps H H' := fun p xs e => by
  refine b p _ ?_ ?_ e
  · rintro rfl
    rw [h] at e
    exact n xs (Option.some.inj e)
  · rintro rfl
    rw [h2] at e
    exact n2 xs (Option.some.inj e)
theorem OpV.to {H H' : Hp} {v : V} {o : Op} (h : OpV H v o) (t : Tps H H') : OpV H' v o := by
  obtain ⟨p, e, h⟩ := h
  exact ⟨p, e, t _ _ h⟩
theorem OpsV.to {H H' : Hp} (t : Tps H H') : ∀ {vs : List V} {os : List Op}, OpsV H vs os → OpsV H' vs os
  | [], [], h => h
  | v :: vs, o :: os, h => ⟨h.1.to t, OpsV.to t h.2⟩
  | [], _ :: _, h => h
  | _ :: _, [], h => h
theorem OpsV.len {H : Hp} : ∀ {vs : List V} {os : List Op}, OpsV H vs os → vs.length = os.length
  | [], [], _ => rfl
  | v :: vs, o :: os, h => by
    show vs.length + 1 = os.length + 1
    rw [OpsV.len h.2]
  | [], _ :: _, h => h.elim
  | _ :: _, [], h => h.elim
theorem OpsV.at {H : Hp} : ∀ {vs : List V} {os : List Op} {i : Nat} {v : V}, OpsV H vs os → vs[i]? = some v → ∃ o, os[i]? = some o ∧ OpV H v o
  | [], [], i, v, _, e => by simp at e
  | v :: vs, o :: os, 0, w, h, e => ⟨o, rfl, by
    have e : v = w := by simpa using e
    rw [← e]
    exact h.1⟩
  | v :: vs, o :: os, i + 1, w, h, e => OpsV.at (i := i) h.2 (by simpa using e)
  | [], _ :: _, _, _, h, _ => h.elim
  | _ :: _, [], _, _, h, _ => h.elim
theorem OpsV.snoc {H : Hp} {v : V} {o : Op} (hv : OpV H v o) : ∀ {vs : List V} {os : List Op}, OpsV H vs os → OpsV H (vs ++ [v]) (os ++ [o])
  | [], [], _ => ⟨hv, trivial⟩
  | w :: vs, p :: os, h => ⟨h.1, OpsV.snoc hv h.2⟩
  | [], _ :: _, h => h.elim
  | _ :: _, [], h => h.elim
theorem OpsV.take {H : Hp} : ∀ {vs : List V} {os : List Op} (i : Nat), OpsV H vs os → OpsV H (vs.take i) (os.take i)
  | [], [], i, _ => by simp [OpsV]
  | v :: vs, o :: os, 0, h => by simp [OpsV]
  | v :: vs, o :: os, i + 1, h => ⟨h.1, OpsV.take i h.2⟩
  | [], _ :: _, _, h => h.elim
  | _ :: _, [], _, h => h.elim
theorem OpsAt.same {K : PySem.W.Frag} {H H' : Hp} {q : Addr} {ops : List Op} (h : OpsAt K H q ops) (s : Same H H') : OpsAt K H' q ops := by
  obtain ⟨vs, h1, h2⟩ := h
  exact ⟨vs, SqL.seq s h1, h2.to (Tps.of s)⟩
theorem Tsk.same {K : PySem.W.Frag} {H H' : Hp} {n s : Int} {q : Addr} {ops : List Op} (h : Tsk K H n s q ops) (e : Same H H') : Tsk K H' n s q ops := ⟨h.1, h.2.1, h.2.2.1, h.2.2.2.1, h.2.2.2.2.1.same e, h.2.2.2.2.2⟩
/-! the fields of a trace -/
section
variable {H : Hp} {Q : VK} {C a dx l l' : Addr} {n s h c b h' c' b' : Int}
theorem fl_length (e : H a = some (.ins C dx (tf n s h l c b))) (q : Q (.int n) H) : FL C "own_length" (.ref a) H Q := ⟨a, dx, _, _, rfl, e, by kernel_rfl, q⟩
theorem fl_slots (e : H a = some (.ins C dx (tf n s h l c b))) (q : Q (.int s) H) : FL C "own_slots" (.ref a) H Q := ⟨a, dx, _, _, rfl, e, by kernel_rfl, q⟩
theorem fl_hand (e : H a = some (.ins C dx (tf n s h l c b))) (q : Q (.int h) H) : FL C "own_hand" (.ref a) H Q := ⟨a, dx, _, _, rfl, e, by kernel_rfl, q⟩
theorem fl_kept (e : H a = some (.ins C dx (tf n s h l c b))) (q : Q (.ref l) H) : FL C "own_kept" (.ref a) H Q := ⟨a, dx, _, _, rfl, e, by kernel_rfl, q⟩
theorem fl_steps (e : H a = some (.ins C dx (tf n s h l c b))) (q : Q (.int c) H) : FL C "own_steps" (.ref a) H Q := ⟨a, dx, _, _, rfl, e, by kernel_rfl, q⟩
theorem fl_backs (e : H a = some (.ins C dx (tf n s h l c b))) (q : Q (.int b) H) : FL C "own_backs" (.ref a) H Q := ⟨a, dx, _, _, rfl, e, by kernel_rfl, q⟩
theorem pt_hand : putF "own_hand" (.int h') (tf n s h l c b) = tf n s h' l c b := by kernel_rfl
theorem pt_kept : putF "own_kept" (.ref l') (tf n s h l c b) = tf n s h l' c b := by kernel_rfl
theorem pt_steps : putF "own_steps" (.int c') (tf n s h l c b) = tf n s h l c' b := by kernel_rfl
theorem pt_backs : putF "own_backs" (.int b') (tf n s h l c b) = tf n s h l c b' := by kernel_rfl
theorem pt_all : putF "own_backs" (.int b) (putF "own_steps" (.int c) (putF "own_kept" (.ref l) (putF "own_hand" (.int h) (putF "own_slots" (.int s) (putF "own_length" (.int n) []))))) = tf n s h l c b := by kernel_rfl
theorem tf_len : (tf n s h l c b).length < 1000 := by show 6 < 1000; decide
theorem fs_hand {N : Hp → Prop} (e : H a = some (.ins C dx (tf n s h l c b))) (q : N (upd H a (.ins C dx (tf n s h' l c b)))) : FS C "own_hand" (.int h') (.ref a) H N := ⟨a, dx, _, rfl, e, tf_len, by rw [pt_hand]; exact q⟩
theorem fs_kept {N : Hp → Prop} (e : H a = some (.ins C dx (tf n s h l c b))) (q : N (upd H a (.ins C dx (tf n s h l' c b)))) : FS C "own_kept" (.ref l') (.ref a) H N := ⟨a, dx, _, rfl, e, tf_len, by rw [pt_kept]; exact q⟩
theorem fs_steps {N : Hp → Prop} (e : H a = some (.ins C dx (tf n s h l c b))) (q : N (upd H a (.ins C dx (tf n s h l c' b)))) : FS C "own_steps" (.int c') (.ref a) H N := ⟨a, dx, _, rfl, e, tf_len, by rw [pt_steps]; exact q⟩
theorem fs_backs {N : Hp → Prop} (e : H a = some (.ins C dx (tf n s h l c b))) (q : N (upd H a (.ins C dx (tf n s h l c b')))) : FS C "own_backs" (.int b') (.ref a) H N := ⟨a, dx, _, rfl, e, tf_len, by rw [pt_backs]; exact q⟩
end
end Bs

namespace Bs
open PySem PySem.Spec L2 Bm Bl
open PyProof.Rows hiding St
-- one step of a reading; side conditions; what a heap holds
local macro_rules | `(tactic| walk_at "sc") => `(tactic| (first
  | exact mulL ⟨by omega, by omega⟩ | exact mulR ⟨by omega, by omega⟩ | exact divS (by omega) (by omega) | exact (show (0 : Int) < _ by omega) | exact powS (b := 4) (by decide) (by decide) (by decide) (by decide) | assumption | omega))
local macro_rules | `(tactic| walk_at "ne") => `(tactic| (first
  | assumption | (apply Ne.symm; assumption) | exact ne_none (by assumption) (by walk_at "hp") | exact Ne.symm (ne_none (by assumption) (by walk_at "hp"))))
local macro_rules | `(tactic| walk_at "hp") => `(tactic| (first
  | assumption | exact upd_same | (refine (upd_ne ?k1).trans ?k2; (case k1 => walk_at "ne"); (case k2 => walk_at "hp")) | (refine Same.get (by assumption) ?_; walk_at "hp") | (refine But.get (by assumption) ?k1 ?k2; (case k1 => walk_at "hp"); (case k2 => walk_at "ne"))))
local macro_rules | `(tactic| walk_at "sq") => `(tactic| (first | assumption | exact SqL.of (by walk_at "hp") | exact SqT.of (by walk_at "hp")))
local macro_rules | `(tactic| walk_at "rd1") => `(tactic| (first
  | with_reducible refine r_seq ?_ | with_reducible refine r_asg ?_ | with_reducible refine r_asgG ?_ | with_reducible refine r_op ?_ | ((with_reducible show tVar _ _ _ _); with_reducible refine r_var (by with_unfolding_all exact rfl) ?_) | with_reducible refine r_c ?_ | with_reducible refine r_I0 ?_ | with_reducible refine r_p30 ?_
  | with_reducible refine r_p20 ?_ | with_reducible refine r_p27 ?_ | with_reducible refine r_p29 ?_ | with_reducible refine r_p38 ?_ | with_reducible refine r_p40 ?_ | with_reducible refine r_p42 ?_ | with_reducible refine r_p44 ?_ | with_reducible refine r_p49 ?_
  | with_reducible refine r_p50 ?_ | with_reducible refine r_p60 ?_ | with_reducible refine r_p18 ?_ | with_reducible refine r_p12 ?_ | with_reducible refine r_p15 ?_ | with_reducible refine r_p9 ?_ | with_reducible refine r_p6 ?_ | with_reducible refine r_p64 ?_
  | ((with_reducible refine r_I ?k1 ?k2); (case k1 => walk_at "sc")) | with_reducible refine r_U ?_ | with_reducible refine r_un ?_ | with_reducible refine r_ret ?_ | with_reducible refine r_ifS ?_ | with_reducible refine r_test ?_ | with_reducible refine r_bl ?_ | with_reducible refine r_cb ?_
  | with_reducible refine r_cons ?_ | with_reducible refine r_nil ?_ | with_reducible refine r_intI ?_ | with_reducible refine r_intB ?_ | with_reducible refine r_max2' ?_ | with_reducible refine r_min2' ?_ | with_reducible refine r_max3 ?_ | with_reducible refine r_min3 ?_
  | with_reducible refine r_call ?_ | with_reducible refine r_par ?_ | with_reducible refine r_and ?_ | with_reducible refine r_or ?_ | with_reducible refine r_not ?_ | with_reducible refine r_B ?_ | with_reducible refine r_andV ?_ | with_reducible refine r_orV ?_
  | with_reducible refine r_notV ?_ | with_reducible refine r_ifE ?_ | with_reducible refine r_eqI ?_ | with_reducible refine r_neI ?_ | with_reducible refine r_eqB ?_ | with_reducible refine r_neB ?_ | with_reducible refine r_isN ?_ | with_reducible refine r_notN ?_
  | with_reducible refine r_chain ?_ | with_reducible refine r_chain3 ?_ | with_reducible refine r_drop ?_ | with_reducible refine r_next ?_ | with_reducible refine r_retN ?_ | with_reducible refine r_brk ?_ | with_reducible refine r_cont ?_ | with_reducible refine r_ex ?_
  | with_reducible refine r_tup ?_ | with_reducible refine r_lst ?_ | ((with_reducible refine r_new ?k1 ?k2); (case k1 => first | decide | exact Nat.le_of_ble_eq_true rfl)) | with_reducible refine r_sub ?_ | with_reducible refine r_gname ?_ | with_reducible refine r_gcons ?_ | with_reducible refine r_gnil ?_ | with_reducible refine r_slice ?_
  | with_reducible refine r_noPart ?_ | with_reducible refine r_part ?_ | ((with_reducible show gTup _ _ _ _ _ _ _); with_reducible refine r_gtup (by with_unfolding_all walk_at "sq") (by with_unfolding_all exact rfl) ?_) | with_reducible refine r_rng1 ?_ | with_reducible refine r_rng2 ?_ | ((with_reducible refine r_r1 ?k1 ?k2 ?k3); (case k1 => omega); (case k2 => omega)) | ((with_reducible refine r_r2 ?k1 ?k2); (case k1 => omega)) | with_reducible refine r_nonT ?_
  | with_reducible refine r_nonI ?_ | with_reducible refine r_nonR ?_ | with_reducible refine r_notT ?_ | with_reducible refine r_notI ?_ | with_reducible refine r_notR ?_ | with_reducible refine r_for ?_ | with_reducible refine r_lc ?_ | with_reducible refine r_iL ?_
  | with_reducible refine r_iT ?_ | with_reducible refine r_yesT ?_ | ((with_reducible show _ = _ ∧ _); with_reducible refine r_same (by with_unfolding_all exact rfl) ?_) | with_reducible refine r_neS ?_ | with_reducible refine r_iteT ?_ | with_reducible refine r_iteF ?_ | with_reducible refine r_iteNT ?_ | with_reducible refine r_iteNF ?_
  | ((with_reducible show tAug _ _ _ _ _ _); with_reducible refine r_aug (by with_unfolding_all exact rfl) ?_) | with_reducible refine r_ipI ?_ | with_reducible refine r_bm ?_ | ((with_reducible show tyV _ "list" _ _ ∧ _); with_reducible refine r_tyL (by with_unfolding_all walk_at "sq") ?_) | with_reducible refine r_enum ?_ | ((with_reducible show ∃ (a : Addr) (xs : List V), [V.ref _] = [V.ref a] ∧ _); with_reducible refine r_en (by with_unfolding_all walk_at "sq") ?_) | with_reducible refine r_par3' ?_ | with_reducible refine r_fldC ?_
  | with_reducible refine r_sfld ?_ | with_reducible refine r_saug ?_ | with_reducible refine r_prop ?_ | with_reducible refine r_meth ?_ | with_reducible refine r_make ?_ | with_reducible refine r_eqSY ?_ | ((with_reducible refine r_eqSN ?k1 ?k2); (case k1 => decide +kernel)) | with_reducible refine r_dget ?_
  | with_reducible refine r_dput ?_ | with_reducible refine r_match ?_ | with_reducible refine r_str ?_ | with_reducible refine r_caseY ?_ | ((with_reducible refine r_caseN ?k1 ?k2); (case k1 => decide +kernel)) | with_reducible refine r_caseA ?_ | ((with_reducible show PR _ _ _ _ _ _); with_reducible refine r_pr (by with_unfolding_all walk_at "hp") ?_) | ((with_reducible show FL _ _ _ _ _); (first | ((with_reducible show FL _ "own_hand" _ _ _); with_reducible refine fl_hand (by with_unfolding_all walk_at "hp") ?_) | ((with_reducible show FL _ "own_kept" _ _ _); with_reducible refine fl_kept (by with_unfolding_all walk_at "hp") ?_) | ((with_reducible show FL _ "own_steps" _ _ _); with_reducible refine fl_steps (by with_unfolding_all walk_at "hp") ?_) | ((with_reducible show FL _ "own_backs" _ _ _); with_reducible refine fl_backs (by with_unfolding_all walk_at "hp") ?_) | ((with_reducible show FL _ "own_length" _ _ _); with_reducible refine fl_length (by with_unfolding_all walk_at "hp") ?_) | ((with_reducible show FL _ "own_slots" _ _ _); with_reducible refine fl_slots (by with_unfolding_all walk_at "hp") ?_)))
  | ((with_reducible show FS _ _ _ _ _ _); (first | ((with_reducible show FS _ "own_hand" _ _ _ _); with_reducible refine fs_hand (by with_unfolding_all walk_at "hp") ?_) | ((with_reducible show FS _ "own_kept" _ _ _ _); with_reducible refine fs_kept (by with_unfolding_all walk_at "hp") ?_) | ((with_reducible show FS _ "own_steps" _ _ _ _); with_reducible refine fs_steps (by with_unfolding_all walk_at "hp") ?_) | ((with_reducible show FS _ "own_backs" _ _ _ _); with_reducible refine fs_backs (by with_unfolding_all walk_at "hp") ?_)))))
local macro_rules | `(tactic| walk_at "rd") => `(tactic| repeat walk_at "rd1")
section
variable (K : PySem.W.Frag) {vs : List V} {H : Hp} {Q : VK} {E : XK}
theorem pure_Trace_hand (h : sp_Trace_hand K vs H Q E) : t_Trace_hand K { nx := fun _ H' => Q .non H', rt := Q } (start n_Trace_hand vs) H := by
  obtain ⟨a, n, s, t, rfl, ⟨l, dx, h1, h2⟩, q⟩ := h
  show t_Trace_hand K _ [some (.ref a)] H
  unfold t_Trace_hand
  walk_at "rd"
  exact q
theorem pure_Trace_steps (h : sp_Trace_steps K vs H Q E) : t_Trace_steps K { nx := fun _ H' => Q .non H', rt := Q } (start n_Trace_steps vs) H := by
  obtain ⟨a, n, s, t, rfl, ⟨l, dx, h1, h2⟩, q⟩ := h
  show t_Trace_steps K _ [some (.ref a)] H
  unfold t_Trace_steps
  walk_at "rd"
  exact q
theorem pure_Trace_backs (h : sp_Trace_backs K vs H Q E) : t_Trace_backs K { nx := fun _ H' => Q .non H', rt := Q } (start n_Trace_backs vs) H := by
  obtain ⟨a, n, s, t, rfl, ⟨l, dx, h1, h2⟩, q⟩ := h
  show t_Trace_backs K _ [some (.ref a)] H
  unfold t_Trace_backs
  walk_at "rd"
  exact q
theorem pure_Trace_kept (h : sp_Trace_kept K vs H Q E) : t_Trace_kept K { nx := fun _ H' => Q .non H', rt := Q } (start n_Trace_kept vs) H := by
  obtain ⟨a, n, s, t, rfl, ⟨l, dx, h1, h2⟩, q⟩ := h
  show t_Trace_kept K _ [some (.ref a)] H
  unfold t_Trace_kept
  walk_at "rd"
  exact ⟨l, t.kept, rfl, SqL.of h2, fun ks p hp hs hn => q p ks _ (Same.new hn) hn upd_same hp hs⟩
theorem pure_Trace_can_do (h : sp_Trace_can_do K vs H Q E) : t_Trace_can_do K { nx := fun _ H' => Q .non H', rt := Q } (start n_Trace_can_do vs) H := by
  obtain ⟨a, v, n, s, t, o, rfl, ⟨l, dx, h1, h2⟩, ⟨p, rfl, hp⟩, q⟩ := h
  show t_Trace_can_do K _ [some (.ref a), some (.ref p)] H
  unfold t_Trace_can_do
  walk_at "rd"
  cases o with
  | go k =>
    refine r_ixT (SqT.of hp) atI_0 ?_
    walk_at "rd"
    refine r_ixT (SqT.of hp) atI_1 ?_
    walk_at "rd"
    exact q
  | keep =>
    refine r_ixT (SqT.of hp) atI_0 ?_
    walk_at "rd"
    refine r_inInts true h2 ?_
    walk_at "rd"
    refine r_iteB (fun e => ?_) fun e => ?_
    · walk_at "rd"
      refine r_lenL (SqL.of h2) ?_
      walk_at "rd"
      have e2 : decide (((t.kept.map V.int).length : Int) < s) = can n s t .keep := by
        show _ = (!decide (t.hand ∈ t.kept) && decide ((t.kept.length : Int) < s))
        rw [show (!decide (t.hand ∈ t.kept)) = true from e, List.length_map]
        rfl
      rw [e2]
      exact q
    · have e2 : false = can n s t .keep := by
        show _ = (!decide (t.hand ∈ t.kept) && decide ((t.kept.length : Int) < s))
        rw [show (!decide (t.hand ∈ t.kept)) = false from e]
        rfl
      rw [e2]
      exact q
  | back =>
    refine r_ixT (SqT.of hp) atI_0 ?_
    walk_at "rd"
    refine r_ite (fun e => ?_) fun e => ?_
    · walk_at "rd"
      have e2 : decide (t.hand = n - 1 - t.backs) = can n s t .back := by
        show _ = (decide (t.backs < n) && decide (t.hand = n - 1 - t.backs))
        rw [decide_eq_true e]
        rfl
      rw [e2]
      exact q
    · have e2 : false = can n s t .back := by
        show _ = (decide (t.backs < n) && decide (t.hand = n - 1 - t.backs))
        rw [decide_eq_false e]
        rfl
      rw [e2]
      exact q
  | take x =>
    refine r_ixT (SqT.of hp) atI_0 ?_
    walk_at "rd"
    refine r_ixT (SqT.of hp) atI_1 ?_
    walk_at "rd"
    exact r_inInts false h2 q
  | free x =>
    refine r_ixT (SqT.of hp) atI_0 ?_
    walk_at "rd"
    refine r_ixT (SqT.of hp) atI_1 ?_
    walk_at "rd"
    exact r_inInts false h2 q
end
end Bs

namespace Bs
open PySem PySem.Spec L2 Bm Bl
open PyProof.Rows hiding St
-- one step of a reading; side conditions; what a heap holds
local macro_rules | `(tactic| walk_at "sc") => `(tactic| (first
  | exact mulL ⟨by omega, by omega⟩ | exact mulR ⟨by omega, by omega⟩ | exact divS (by omega) (by omega) | exact (show (0 : Int) < _ by omega) | exact powS (b := 4) (by decide) (by decide) (by decide) (by decide) | assumption | omega))
local macro_rules | `(tactic| walk_at "ne") => `(tactic| (first
  | assumption | (apply Ne.symm; assumption) | exact ne_none (by assumption) (by walk_at "hp") | exact Ne.symm (ne_none (by assumption) (by walk_at "hp"))))
local macro_rules | `(tactic| walk_at "hp") => `(tactic| (first
  | assumption | exact upd_same | (refine (upd_ne ?k1).trans ?k2; (case k1 => walk_at "ne"); (case k2 => walk_at "hp")) | (refine Same.get (by assumption) ?_; walk_at "hp") | (refine But.get (by assumption) ?k1 ?k2; (case k1 => walk_at "hp"); (case k2 => walk_at "ne"))))
local macro_rules | `(tactic| walk_at "sq") => `(tactic| (first | assumption | exact SqL.of (by walk_at "hp") | exact SqT.of (by walk_at "hp")))
local macro_rules | `(tactic| walk_at "rd1") => `(tactic| (first
  | with_reducible refine r_seq ?_ | with_reducible refine r_asg ?_ | with_reducible refine r_asgG ?_ | with_reducible refine r_op ?_ | ((with_reducible show tVar _ _ _ _); with_reducible refine r_var (by with_unfolding_all exact rfl) ?_) | with_reducible refine r_c ?_ | with_reducible refine r_I0 ?_ | with_reducible refine r_p30 ?_
  | with_reducible refine r_p20 ?_ | with_reducible refine r_p27 ?_ | with_reducible refine r_p29 ?_ | with_reducible refine r_p38 ?_ | with_reducible refine r_p40 ?_ | with_reducible refine r_p42 ?_ | with_reducible refine r_p44 ?_ | with_reducible refine r_p49 ?_
  | with_reducible refine r_p50 ?_ | with_reducible refine r_p60 ?_ | with_reducible refine r_p18 ?_ | with_reducible refine r_p12 ?_ | with_reducible refine r_p15 ?_ | with_reducible refine r_p9 ?_ | with_reducible refine r_p6 ?_ | with_reducible refine r_p64 ?_
  | ((with_reducible refine r_I ?k1 ?k2); (case k1 => walk_at "sc")) | with_reducible refine r_U ?_ | with_reducible refine r_un ?_ | with_reducible refine r_ret ?_ | with_reducible refine r_ifS ?_ | with_reducible refine r_test ?_ | with_reducible refine r_bl ?_ | with_reducible refine r_cb ?_
  | with_reducible refine r_cons ?_ | with_reducible refine r_nil ?_ | with_reducible refine r_intI ?_ | with_reducible refine r_intB ?_ | with_reducible refine r_max2' ?_ | with_reducible refine r_min2' ?_ | with_reducible refine r_max3 ?_ | with_reducible refine r_min3 ?_
  | with_reducible refine r_call ?_ | with_reducible refine r_par ?_ | with_reducible refine r_and ?_ | with_reducible refine r_or ?_ | with_reducible refine r_not ?_ | with_reducible refine r_B ?_ | with_reducible refine r_andV ?_ | with_reducible refine r_orV ?_
  | with_reducible refine r_notV ?_ | with_reducible refine r_ifE ?_ | with_reducible refine r_eqI ?_ | with_reducible refine r_neI ?_ | with_reducible refine r_eqB ?_ | with_reducible refine r_neB ?_ | with_reducible refine r_isN ?_ | with_reducible refine r_notN ?_
  | with_reducible refine r_chain ?_ | with_reducible refine r_chain3 ?_ | with_reducible refine r_drop ?_ | with_reducible refine r_next ?_ | with_reducible refine r_retN ?_ | with_reducible refine r_brk ?_ | with_reducible refine r_cont ?_ | with_reducible refine r_ex ?_
  | with_reducible refine r_tup ?_ | with_reducible refine r_lst ?_ | ((with_reducible refine r_new ?k1 ?k2); (case k1 => first | decide | exact Nat.le_of_ble_eq_true rfl)) | with_reducible refine r_sub ?_ | with_reducible refine r_gname ?_ | with_reducible refine r_gcons ?_ | with_reducible refine r_gnil ?_ | with_reducible refine r_slice ?_
  | with_reducible refine r_noPart ?_ | with_reducible refine r_part ?_ | ((with_reducible show gTup _ _ _ _ _ _ _); with_reducible refine r_gtup (by with_unfolding_all walk_at "sq") (by with_unfolding_all exact rfl) ?_) | with_reducible refine r_rng1 ?_ | with_reducible refine r_rng2 ?_ | ((with_reducible refine r_r1 ?k1 ?k2 ?k3); (case k1 => omega); (case k2 => omega)) | ((with_reducible refine r_r2 ?k1 ?k2); (case k1 => omega)) | with_reducible refine r_nonT ?_
  | with_reducible refine r_nonI ?_ | with_reducible refine r_nonR ?_ | with_reducible refine r_notT ?_ | with_reducible refine r_notI ?_ | with_reducible refine r_notR ?_ | with_reducible refine r_for ?_ | with_reducible refine r_lc ?_ | with_reducible refine r_iL ?_
  | with_reducible refine r_iT ?_ | with_reducible refine r_yesT ?_ | ((with_reducible show _ = _ ∧ _); with_reducible refine r_same (by with_unfolding_all exact rfl) ?_) | with_reducible refine r_neS ?_ | with_reducible refine r_iteT ?_ | with_reducible refine r_iteF ?_ | with_reducible refine r_iteNT ?_ | with_reducible refine r_iteNF ?_
  | ((with_reducible show tAug _ _ _ _ _ _); with_reducible refine r_aug (by with_unfolding_all exact rfl) ?_) | with_reducible refine r_ipI ?_ | with_reducible refine r_bm ?_ | ((with_reducible show tyV _ "list" _ _ ∧ _); with_reducible refine r_tyL (by with_unfolding_all walk_at "sq") ?_) | with_reducible refine r_enum ?_ | ((with_reducible show ∃ (a : Addr) (xs : List V), [V.ref _] = [V.ref a] ∧ _); with_reducible refine r_en (by with_unfolding_all walk_at "sq") ?_) | with_reducible refine r_par3' ?_ | with_reducible refine r_fldC ?_
  | with_reducible refine r_sfld ?_ | with_reducible refine r_saug ?_ | with_reducible refine r_prop ?_ | with_reducible refine r_meth ?_ | with_reducible refine r_make ?_ | with_reducible refine r_eqSY ?_ | ((with_reducible refine r_eqSN ?k1 ?k2); (case k1 => decide +kernel)) | with_reducible refine r_dget ?_
  | with_reducible refine r_dput ?_ | with_reducible refine r_match ?_ | with_reducible refine r_str ?_ | with_reducible refine r_caseY ?_ | ((with_reducible refine r_caseN ?k1 ?k2); (case k1 => decide +kernel)) | with_reducible refine r_caseA ?_ | ((with_reducible show PR _ _ _ _ _ _); with_reducible refine r_pr (by with_unfolding_all walk_at "hp") ?_) | ((with_reducible show FL _ _ _ _ _); (first | ((with_reducible show FL _ "own_hand" _ _ _); with_reducible refine fl_hand (by with_unfolding_all walk_at "hp") ?_) | ((with_reducible show FL _ "own_kept" _ _ _); with_reducible refine fl_kept (by with_unfolding_all walk_at "hp") ?_) | ((with_reducible show FL _ "own_steps" _ _ _); with_reducible refine fl_steps (by with_unfolding_all walk_at "hp") ?_) | ((with_reducible show FL _ "own_backs" _ _ _); with_reducible refine fl_backs (by with_unfolding_all walk_at "hp") ?_) | ((with_reducible show FL _ "own_length" _ _ _); with_reducible refine fl_length (by with_unfolding_all walk_at "hp") ?_) | ((with_reducible show FL _ "own_slots" _ _ _); with_reducible refine fl_slots (by with_unfolding_all walk_at "hp") ?_)))
  | ((with_reducible show FS _ _ _ _ _ _); (first | ((with_reducible show FS _ "own_hand" _ _ _ _); with_reducible refine fs_hand (by with_unfolding_all walk_at "hp") ?_) | ((with_reducible show FS _ "own_kept" _ _ _ _); with_reducible refine fs_kept (by with_unfolding_all walk_at "hp") ?_) | ((with_reducible show FS _ "own_steps" _ _ _ _); with_reducible refine fs_steps (by with_unfolding_all walk_at "hp") ?_) | ((with_reducible show FS _ "own_backs" _ _ _ _); with_reducible refine fs_backs (by with_unfolding_all walk_at "hp") ?_)))))
local macro_rules | `(tactic| walk_at "rd") => `(tactic| repeat walk_at "rd1")
/-! ### data of operations -/
def encD : Op → PyData
  | .go k => .tuple [.str "go", .int k]
  | .keep => .tuple [.str "keep"]
  | .take x => .tuple [.str "take", .int x]
  | .free x => .tuple [.str "free", .int x]
  | .back => .tuple [.str "back"]
theorem dp_op {K : PySem.W.Frag} {H : Hp} {v : V} {o : Op} (h : OpV H v o) : Dp K H v (encD o) := by
  obtain ⟨p, rfl, h⟩ := h
  cases o with
  | go k => exact .tup (SqT.of h) (.cons (.str _) (.cons (.int _) .nil))
  | keep => exact .tup (SqT.of h) (.cons (.str _) .nil)
  | take x => exact .tup (SqT.of h) (.cons (.str _) (.cons (.int _) .nil))
  | free x => exact .tup (SqT.of h) (.cons (.str _) (.cons (.int _) .nil))
  | back => exact .tup (SqT.of h) (.cons (.str _) .nil)
theorem shaped_op (o : Op) : SeqAt.shaped (encD o) = true := by cases o <;> kernel_rfl
theorem putF_len {f : Str} {v : V} : ∀ fs : List (Str × V), (putF f v fs).length ≤ fs.length + 1
  | [] => Nat.le_refl _
  | p :: fs => by
    show (if p.1 = f then (p.1, v) :: fs else p :: putF f v fs).length ≤ fs.length + 1 + 1
    have := putF_len (f := f) (v := v) fs
    split
    · show fs.length + 1 ≤ _
      omega
    · show (putF f v fs).length + 1 ≤ _
      omega
theorem putF_few {f : Str} {v : V} {fs : List (Str × V)} {n : Nat} (h : fs.length ≤ n) : (putF f v fs).length ≤ n + 1 := Nat.le_trans (putF_len fs) (by omega)
theorem few {n m : Nat} (h : n ≤ m) (hm : m < 1000) : n < 1000 := by omega
theorem tyx_list {K : PySem.W.Frag} {H : Hp} {q : Addr} {xs : List V} (h : SqL K H q xs) : TyX K H (.ref q) (.type "list") := by
  rcases h with (h | ⟨o, h⟩) | ⟨o, its, m, e, c, _⟩
  · exact .base (.lst h)
  · exact .base (.frz h)
  · exact .kList e c
section
variable (K : PySem.W.Frag) {vs : List V} {H : Hp} {Q : VK} {E : XK}
theorem pure_is_operation (h : sp_is_operation K vs H Q E) : t_is_operation K { nx := fun _ H' => Q .non H', rt := Q } (start n_is_operation vs) H := by
  obtain ⟨v, o, rfl, ⟨p, rfl, hp⟩, ok, q⟩ := h
  show t_is_operation K _ [some (.ref p)] H
  unfold t_is_operation
  walk_at "rd"
  refine ⟨.ref p, .ty "tuple", .type "tuple", .type "tuple", true, rfl, .ty _, .base (.tup hp), kit_ty (by decide +kernel), ?_⟩
  walk_at "rd"
  intro z hz
  have hp' : (upd H z (.tup [])) p = some (.tup (enc o)) := (upd_ne (ne_of_none hp hz)).trans hp
  refine ⟨encD o, .tuple [], dp_op ⟨p, rfl, hp'⟩, .tup (SqT.of upd_same) .nil, shaped_op o, rfl, ?_⟩
  rw [show PyData.eqv (encD o) (.tuple []) = false by cases o <;> rfl]
  walk_at "rd"
  have key : ∃ w, atI (enc o) 0 = some (V.str w) ∧ ∃ u, (w, u) ∈ wordV := by
    cases o
    · exact ⟨_, atI_0, _, List.mem_cons_self⟩
    · exact ⟨_, atI_0, _, List.mem_cons_of_mem _ List.mem_cons_self⟩
    · exact ⟨_, atI_0, _, List.mem_cons_of_mem _ (List.mem_cons_of_mem _ List.mem_cons_self)⟩
    · exact ⟨_, atI_0, _, List.mem_cons_of_mem _ (List.mem_cons_of_mem _ (List.mem_cons_of_mem _ List.mem_cons_self))⟩
    · exact ⟨_, atI_0, _, List.mem_cons_of_mem _ (List.mem_cons_of_mem _ (List.mem_cons_of_mem _ (List.mem_cons_of_mem _ List.mem_cons_self)))⟩
  obtain ⟨w, hw, u, hu⟩ := key
  refine r_ixT (SqT.of hp') hw ?_
  walk_at "rd"
  refine ⟨.str w, .ty "str", .type "str", .type "str", true, rfl, .ty _, .base (.str w), kit_ty (by decide +kernel), ?_⟩
  walk_at "rd"
  refine r_ixT (SqT.of hp') hw ?_
  walk_at "rd"
  refine ⟨w, u, rfl, rfl, hu, ?_⟩
  walk_at "rd"
  refine r_ixT (SqT.of hp') hw ?_
  have s1 : Same H (upd H z (.tup [])) := Same.new hz
  have one : ∀ (g : Op), (g = .keep ∨ g = .back) → enc g = enc o → ((enc o).length : Int) = 1 := fun g hg e => by
    rcases hg with rfl | rfl <;> rw [← e] <;> rfl
  cases o with
  | go k =>
    cases (show w = "go" from (V.str.inj (Option.some.inj (atI_0.symm.trans hw))).symm)
    refine ⟨"go", .int 1, rfl, rfl, List.mem_cons_self, ?_⟩
    walk_at "rd"
    refine r_lenT (SqT.of hp') ?_
    walk_at "rd"
    refine r_yes rfl ?_
    walk_at "rd"
    refine r_ixT (SqT.of hp') atI_1 ?_
    walk_at "rd"
    refine r_ixT (SqT.of hp') atI_0 ?_
    refine ⟨"go", .int 1, rfl, rfl, List.mem_cons_self, ?_⟩
    walk_at "rd"
    refine ⟨k, 1, _, rfl, ?_⟩
    rw [decide_eq_true (show 1 ≤ k ∧ k ≤ 1000000000000000000000000000000 from ok)]
    exact q _ s1
  | keep =>
    cases (show w = "keep" from (V.str.inj (Option.some.inj (atI_0.symm.trans hw))).symm)
    refine ⟨"keep", .non, rfl, rfl, List.mem_cons_of_mem _ List.mem_cons_self, ?_⟩
    walk_at "rd"
    refine r_lenT (SqT.of hp') ?_
    walk_at "rd"
    exact q _ s1
  | take x =>
    cases (show w = "take" from (V.str.inj (Option.some.inj (atI_0.symm.trans hw))).symm)
    have m : (("take" : Str), V.int 0) ∈ wordV := List.mem_cons_of_mem _ (List.mem_cons_of_mem _ List.mem_cons_self)
    refine ⟨"take", .int 0, rfl, rfl, m, ?_⟩
    walk_at "rd"
    refine r_lenT (SqT.of hp') ?_
    walk_at "rd"
    refine r_yes rfl ?_
    walk_at "rd"
    refine r_ixT (SqT.of hp') atI_1 ?_
    walk_at "rd"
    refine r_ixT (SqT.of hp') atI_0 ?_
    refine ⟨"take", .int 0, rfl, rfl, m, ?_⟩
    walk_at "rd"
    refine ⟨x, 0, _, rfl, ?_⟩
    rw [decide_eq_true (show 0 ≤ x ∧ x ≤ 1000000000000000000000000000000 from ok)]
    exact q _ s1
  | free x =>
    cases (show w = "free" from (V.str.inj (Option.some.inj (atI_0.symm.trans hw))).symm)
    have m : (("free" : Str), V.int 0) ∈ wordV := List.mem_cons_of_mem _ (List.mem_cons_of_mem _ (List.mem_cons_of_mem _ List.mem_cons_self))
    refine ⟨"free", .int 0, rfl, rfl, m, ?_⟩
    walk_at "rd"
    refine r_lenT (SqT.of hp') ?_
    walk_at "rd"
    refine r_yes rfl ?_
    walk_at "rd"
    refine r_ixT (SqT.of hp') atI_1 ?_
    walk_at "rd"
    refine r_ixT (SqT.of hp') atI_0 ?_
    refine ⟨"free", .int 0, rfl, rfl, m, ?_⟩
    walk_at "rd"
    refine ⟨x, 0, _, rfl, ?_⟩
    rw [decide_eq_true (show 0 ≤ x ∧ x ≤ 1000000000000000000000000000000 from ok)]
    exact q _ s1
  | back =>
    cases (show w = "back" from (V.str.inj (Option.some.inj (atI_0.symm.trans hw))).symm)
    refine ⟨"back", .non, rfl, rfl, List.mem_cons_of_mem _ (List.mem_cons_of_mem _ (List.mem_cons_of_mem _ (List.mem_cons_of_mem _ List.mem_cons_self))), ?_⟩
    walk_at "rd"
    refine r_lenT (SqT.of hp') ?_
    walk_at "rd"
    exact q _ s1
end
end Bs

namespace Bs
open PySem PySem.Spec L2 Bm Bl
open PyProof.Rows hiding St
-- one step of a reading; side conditions; what a heap holds
local macro_rules | `(tactic| walk_at "sc") => `(tactic| (first
  | exact mulL ⟨by omega, by omega⟩ | exact mulR ⟨by omega, by omega⟩ | exact divS (by omega) (by omega) | exact (show (0 : Int) < _ by omega) | exact powS (b := 4) (by decide) (by decide) (by decide) (by decide) | assumption | omega))
local macro_rules | `(tactic| walk_at "ne") => `(tactic| (first
  | assumption | (apply Ne.symm; assumption) | exact ne_none (by assumption) (by walk_at "hp") | exact Ne.symm (ne_none (by assumption) (by walk_at "hp"))))
local macro_rules | `(tactic| walk_at "hp") => `(tactic| (first
  | assumption | exact upd_same | (refine (upd_ne ?k1).trans ?k2; (case k1 => walk_at "ne"); (case k2 => walk_at "hp")) | (refine Same.get (by assumption) ?_; walk_at "hp") | (refine But.get (by assumption) ?k1 ?k2; (case k1 => walk_at "hp"); (case k2 => walk_at "ne"))))
local macro_rules | `(tactic| walk_at "sq") => `(tactic| (first | assumption | exact SqL.of (by walk_at "hp") | exact SqT.of (by walk_at "hp")))
local macro_rules | `(tactic| walk_at "rd1") => `(tactic| (first
  | with_reducible refine r_seq ?_ | with_reducible refine r_asg ?_ | with_reducible refine r_asgG ?_ | with_reducible refine r_op ?_ | ((with_reducible show tVar _ _ _ _); with_reducible refine r_var (by with_unfolding_all exact rfl) ?_) | with_reducible refine r_c ?_ | with_reducible refine r_I0 ?_ | with_reducible refine r_p30 ?_
  | with_reducible refine r_p20 ?_ | with_reducible refine r_p27 ?_ | with_reducible refine r_p29 ?_ | with_reducible refine r_p38 ?_ | with_reducible refine r_p40 ?_ | with_reducible refine r_p42 ?_ | with_reducible refine r_p44 ?_ | with_reducible refine r_p49 ?_
  | with_reducible refine r_p50 ?_ | with_reducible refine r_p60 ?_ | with_reducible refine r_p18 ?_ | with_reducible refine r_p12 ?_ | with_reducible refine r_p15 ?_ | with_reducible refine r_p9 ?_ | with_reducible refine r_p6 ?_ | with_reducible refine r_p64 ?_
  | ((with_reducible refine r_I ?k1 ?k2); (case k1 => walk_at "sc")) | with_reducible refine r_U ?_ | with_reducible refine r_un ?_ | with_reducible refine r_ret ?_ | with_reducible refine r_ifS ?_ | with_reducible refine r_test ?_ | with_reducible refine r_bl ?_ | with_reducible refine r_cb ?_
  | with_reducible refine r_cons ?_ | with_reducible refine r_nil ?_ | with_reducible refine r_intI ?_ | with_reducible refine r_intB ?_ | with_reducible refine r_max2' ?_ | with_reducible refine r_min2' ?_ | with_reducible refine r_max3 ?_ | with_reducible refine r_min3 ?_
  | with_reducible refine r_call ?_ | with_reducible refine r_par ?_ | with_reducible refine r_and ?_ | with_reducible refine r_or ?_ | with_reducible refine r_not ?_ | with_reducible refine r_B ?_ | with_reducible refine r_andV ?_ | with_reducible refine r_orV ?_
  | with_reducible refine r_notV ?_ | with_reducible refine r_ifE ?_ | with_reducible refine r_eqI ?_ | with_reducible refine r_neI ?_ | with_reducible refine r_eqB ?_ | with_reducible refine r_neB ?_ | with_reducible refine r_isN ?_ | with_reducible refine r_notN ?_
  | with_reducible refine r_chain ?_ | with_reducible refine r_chain3 ?_ | with_reducible refine r_drop ?_ | with_reducible refine r_next ?_ | with_reducible refine r_retN ?_ | with_reducible refine r_brk ?_ | with_reducible refine r_cont ?_ | with_reducible refine r_ex ?_
  | with_reducible refine r_tup ?_ | with_reducible refine r_lst ?_ | ((with_reducible refine r_new ?k1 ?k2); (case k1 => first | decide | exact Nat.le_of_ble_eq_true rfl)) | with_reducible refine r_sub ?_ | with_reducible refine r_gname ?_ | with_reducible refine r_gcons ?_ | with_reducible refine r_gnil ?_ | with_reducible refine r_slice ?_
  | with_reducible refine r_noPart ?_ | with_reducible refine r_part ?_ | ((with_reducible show gTup _ _ _ _ _ _ _); with_reducible refine r_gtup (by with_unfolding_all walk_at "sq") (by with_unfolding_all exact rfl) ?_) | with_reducible refine r_rng1 ?_ | with_reducible refine r_rng2 ?_ | ((with_reducible refine r_r1 ?k1 ?k2 ?k3); (case k1 => omega); (case k2 => omega)) | ((with_reducible refine r_r2 ?k1 ?k2); (case k1 => omega)) | with_reducible refine r_nonT ?_
  | with_reducible refine r_nonI ?_ | with_reducible refine r_nonR ?_ | with_reducible refine r_notT ?_ | with_reducible refine r_notI ?_ | with_reducible refine r_notR ?_ | with_reducible refine r_for ?_ | with_reducible refine r_lc ?_ | with_reducible refine r_iL ?_
  | with_reducible refine r_iT ?_ | with_reducible refine r_yesT ?_ | ((with_reducible show _ = _ ∧ _); with_reducible refine r_same (by with_unfolding_all exact rfl) ?_) | with_reducible refine r_neS ?_ | with_reducible refine r_iteT ?_ | with_reducible refine r_iteF ?_ | with_reducible refine r_iteNT ?_ | with_reducible refine r_iteNF ?_
  | ((with_reducible show tAug _ _ _ _ _ _); with_reducible refine r_aug (by with_unfolding_all exact rfl) ?_) | with_reducible refine r_ipI ?_ | with_reducible refine r_bm ?_ | ((with_reducible show tyV _ "list" _ _ ∧ _); with_reducible refine r_tyL (by with_unfolding_all walk_at "sq") ?_) | with_reducible refine r_enum ?_ | ((with_reducible show ∃ (a : Addr) (xs : List V), [V.ref _] = [V.ref a] ∧ _); with_reducible refine r_en (by with_unfolding_all walk_at "sq") ?_) | with_reducible refine r_par3' ?_ | with_reducible refine r_fldC ?_
  | with_reducible refine r_sfld ?_ | with_reducible refine r_saug ?_ | with_reducible refine r_prop ?_ | with_reducible refine r_meth ?_ | with_reducible refine r_make ?_ | with_reducible refine r_eqSY ?_ | ((with_reducible refine r_eqSN ?k1 ?k2); (case k1 => decide +kernel)) | with_reducible refine r_dget ?_
  | with_reducible refine r_dput ?_ | with_reducible refine r_match ?_ | with_reducible refine r_str ?_ | with_reducible refine r_caseY ?_ | ((with_reducible refine r_caseN ?k1 ?k2); (case k1 => decide +kernel)) | with_reducible refine r_caseA ?_ | ((with_reducible show PR _ _ _ _ _ _); with_reducible refine r_pr (by with_unfolding_all walk_at "hp") ?_) | ((with_reducible show FL _ _ _ _ _); (first | ((with_reducible show FL _ "own_hand" _ _ _); with_reducible refine fl_hand (by with_unfolding_all walk_at "hp") ?_) | ((with_reducible show FL _ "own_kept" _ _ _); with_reducible refine fl_kept (by with_unfolding_all walk_at "hp") ?_) | ((with_reducible show FL _ "own_steps" _ _ _); with_reducible refine fl_steps (by with_unfolding_all walk_at "hp") ?_) | ((with_reducible show FL _ "own_backs" _ _ _); with_reducible refine fl_backs (by with_unfolding_all walk_at "hp") ?_) | ((with_reducible show FL _ "own_length" _ _ _); with_reducible refine fl_length (by with_unfolding_all walk_at "hp") ?_) | ((with_reducible show FL _ "own_slots" _ _ _); with_reducible refine fl_slots (by with_unfolding_all walk_at "hp") ?_)))
  | ((with_reducible show FS _ _ _ _ _ _); (first | ((with_reducible show FS _ "own_hand" _ _ _ _); with_reducible refine fs_hand (by with_unfolding_all walk_at "hp") ?_) | ((with_reducible show FS _ "own_kept" _ _ _ _); with_reducible refine fs_kept (by with_unfolding_all walk_at "hp") ?_) | ((with_reducible show FS _ "own_steps" _ _ _ _); with_reducible refine fs_steps (by with_unfolding_all walk_at "hp") ?_) | ((with_reducible show FS _ "own_backs" _ _ _ _); with_reducible refine fs_backs (by with_unfolding_all walk_at "hp") ?_)))))
local macro_rules | `(tactic| walk_at "rd") => `(tactic| repeat walk_at "rd1")
section
variable (K : PySem.W.Frag) {vs : List V} {H : Hp} {Q : VK} {E : XK}
theorem pure_Trace_init (h : sp_Trace_init K vs H Q E) : t_Trace_init K { nx := fun _ H' => Q .non H', rt := Q } (start n_Trace_init vs) H := by
  obtain ⟨x, dx, n, s, rfl, hx, q⟩ := h
  show t_Trace_init K _ [some (.ref x), some (.int n), some (.int s)] H
  unfold t_Trace_init
  walk_at "rd"
  refine ⟨x, dx, [], rfl, hx, by decide, ?_⟩
  walk_at "rd"
  refine ⟨x, dx, _, rfl, upd_same, few (putF_few (Nat.le_refl _)) (by decide), ?_⟩
  walk_at "rd"
  refine ⟨x, dx, _, rfl, upd_same, few (putF_few (putF_few (Nat.le_refl _))) (by decide), ?_⟩
  walk_at "rd"
  intro l hl
  walk_at "rd"
  have hxl : x ≠ l := ne_of_none upd_same hl
  refine ⟨x, dx, _, rfl, (upd_ne hxl).trans upd_same, few (putF_few (putF_few (putF_few (Nat.le_refl _)))) (by decide), ?_⟩
  walk_at "rd"
  refine ⟨x, dx, _, rfl, upd_same, few (putF_few (putF_few (putF_few (putF_few (Nat.le_refl _))))) (by decide), ?_⟩
  walk_at "rd"
  refine ⟨x, dx, _, rfl, upd_same, few (putF_few (putF_few (putF_few (putF_few (putF_few (Nat.le_refl _)))))) (by decide), ?_⟩
  have hl0 : H l = none := by
    rw [upd_ne hxl.symm, upd_ne hxl.symm, upd_ne hxl.symm] at hl
    exact hl
  refine q l _ ?_ hl0 ⟨dx, ?_, ?_⟩
  · exact But.upd (But.upd (But.upd (But.mut (But.upd (But.upd (But.upd (But.refl _ _)))) hl0)))
  · rw [pt_all]
    exact upd_same
  · rw [upd_ne hxl.symm, upd_ne hxl.symm, upd_ne hxl.symm]
    exact upd_same
end
end Bs

namespace Bs
open PySem PySem.Spec L2 Bm Bl
open PyProof.Rows hiding St
-- one step of a reading; side conditions; what a heap holds
local macro_rules | `(tactic| walk_at "sc") => `(tactic| (first
  | exact mulL ⟨by omega, by omega⟩ | exact mulR ⟨by omega, by omega⟩ | exact divS (by omega) (by omega) | exact (show (0 : Int) < _ by omega) | exact powS (b := 4) (by decide) (by decide) (by decide) (by decide) | assumption | omega))
local macro_rules | `(tactic| walk_at "ne") => `(tactic| (first
  | assumption | (apply Ne.symm; assumption) | exact ne_none (by assumption) (by walk_at "hp") | exact Ne.symm (ne_none (by assumption) (by walk_at "hp"))))
local macro_rules | `(tactic| walk_at "hp") => `(tactic| (first
  | assumption | exact upd_same | (refine (upd_ne ?k1).trans ?k2; (case k1 => walk_at "ne"); (case k2 => walk_at "hp")) | (refine Same.get (by assumption) ?_; walk_at "hp") | (refine But.get (by assumption) ?k1 ?k2; (case k1 => walk_at "hp"); (case k2 => walk_at "ne"))))
local macro_rules | `(tactic| walk_at "sq") => `(tactic| (first | assumption | exact SqL.of (by walk_at "hp") | exact SqT.of (by walk_at "hp")))
local macro_rules | `(tactic| walk_at "rd1") => `(tactic| (first
  | with_reducible refine r_seq ?_ | with_reducible refine r_asg ?_ | with_reducible refine r_asgG ?_ | with_reducible refine r_op ?_ | ((with_reducible show tVar _ _ _ _); with_reducible refine r_var (by with_unfolding_all exact rfl) ?_) | with_reducible refine r_c ?_ | with_reducible refine r_I0 ?_ | with_reducible refine r_p30 ?_
  | with_reducible refine r_p20 ?_ | with_reducible refine r_p27 ?_ | with_reducible refine r_p29 ?_ | with_reducible refine r_p38 ?_ | with_reducible refine r_p40 ?_ | with_reducible refine r_p42 ?_ | with_reducible refine r_p44 ?_ | with_reducible refine r_p49 ?_
  | with_reducible refine r_p50 ?_ | with_reducible refine r_p60 ?_ | with_reducible refine r_p18 ?_ | with_reducible refine r_p12 ?_ | with_reducible refine r_p15 ?_ | with_reducible refine r_p9 ?_ | with_reducible refine r_p6 ?_ | with_reducible refine r_p64 ?_
  | ((with_reducible refine r_I ?k1 ?k2); (case k1 => walk_at "sc")) | with_reducible refine r_U ?_ | with_reducible refine r_un ?_ | with_reducible refine r_ret ?_ | with_reducible refine r_ifS ?_ | with_reducible refine r_test ?_ | with_reducible refine r_bl ?_ | with_reducible refine r_cb ?_
  | with_reducible refine r_cons ?_ | with_reducible refine r_nil ?_ | with_reducible refine r_intI ?_ | with_reducible refine r_intB ?_ | with_reducible refine r_max2' ?_ | with_reducible refine r_min2' ?_ | with_reducible refine r_max3 ?_ | with_reducible refine r_min3 ?_
  | with_reducible refine r_call ?_ | with_reducible refine r_par ?_ | with_reducible refine r_and ?_ | with_reducible refine r_or ?_ | with_reducible refine r_not ?_ | with_reducible refine r_B ?_ | with_reducible refine r_andV ?_ | with_reducible refine r_orV ?_
  | with_reducible refine r_notV ?_ | with_reducible refine r_ifE ?_ | with_reducible refine r_eqI ?_ | with_reducible refine r_neI ?_ | with_reducible refine r_eqB ?_ | with_reducible refine r_neB ?_ | with_reducible refine r_isN ?_ | with_reducible refine r_notN ?_
  | with_reducible refine r_chain ?_ | with_reducible refine r_chain3 ?_ | with_reducible refine r_drop ?_ | with_reducible refine r_next ?_ | with_reducible refine r_retN ?_ | with_reducible refine r_brk ?_ | with_reducible refine r_cont ?_ | with_reducible refine r_ex ?_
  | with_reducible refine r_tup ?_ | with_reducible refine r_lst ?_ | ((with_reducible refine r_new ?k1 ?k2); (case k1 => first | decide | exact Nat.le_of_ble_eq_true rfl)) | with_reducible refine r_sub ?_ | with_reducible refine r_gname ?_ | with_reducible refine r_gcons ?_ | with_reducible refine r_gnil ?_ | with_reducible refine r_slice ?_
  | with_reducible refine r_noPart ?_ | with_reducible refine r_part ?_ | ((with_reducible show gTup _ _ _ _ _ _ _); with_reducible refine r_gtup (by with_unfolding_all walk_at "sq") (by with_unfolding_all exact rfl) ?_) | with_reducible refine r_rng1 ?_ | with_reducible refine r_rng2 ?_ | ((with_reducible refine r_r1 ?k1 ?k2 ?k3); (case k1 => omega); (case k2 => omega)) | ((with_reducible refine r_r2 ?k1 ?k2); (case k1 => omega)) | with_reducible refine r_nonT ?_
  | with_reducible refine r_nonI ?_ | with_reducible refine r_nonR ?_ | with_reducible refine r_notT ?_ | with_reducible refine r_notI ?_ | with_reducible refine r_notR ?_ | with_reducible refine r_for ?_ | with_reducible refine r_lc ?_ | with_reducible refine r_iL ?_
  | with_reducible refine r_iT ?_ | with_reducible refine r_yesT ?_ | ((with_reducible show _ = _ ∧ _); with_reducible refine r_same (by with_unfolding_all exact rfl) ?_) | with_reducible refine r_neS ?_ | with_reducible refine r_iteT ?_ | with_reducible refine r_iteF ?_ | with_reducible refine r_iteNT ?_ | with_reducible refine r_iteNF ?_
  | ((with_reducible show tAug _ _ _ _ _ _); with_reducible refine r_aug (by with_unfolding_all exact rfl) ?_) | with_reducible refine r_ipI ?_ | with_reducible refine r_bm ?_ | ((with_reducible show tyV _ "list" _ _ ∧ _); with_reducible refine r_tyL (by with_unfolding_all walk_at "sq") ?_) | with_reducible refine r_enum ?_ | ((with_reducible show ∃ (a : Addr) (xs : List V), [V.ref _] = [V.ref a] ∧ _); with_reducible refine r_en (by with_unfolding_all walk_at "sq") ?_) | with_reducible refine r_par3' ?_ | with_reducible refine r_fldC ?_
  | with_reducible refine r_sfld ?_ | with_reducible refine r_saug ?_ | with_reducible refine r_prop ?_ | with_reducible refine r_meth ?_ | with_reducible refine r_make ?_ | with_reducible refine r_eqSY ?_ | ((with_reducible refine r_eqSN ?k1 ?k2); (case k1 => decide +kernel)) | with_reducible refine r_dget ?_
  | with_reducible refine r_dput ?_ | with_reducible refine r_match ?_ | with_reducible refine r_str ?_ | with_reducible refine r_caseY ?_ | ((with_reducible refine r_caseN ?k1 ?k2); (case k1 => decide +kernel)) | with_reducible refine r_caseA ?_ | ((with_reducible show PR _ _ _ _ _ _); with_reducible refine r_pr (by with_unfolding_all walk_at "hp") ?_) | ((with_reducible show FL _ _ _ _ _); (first | ((with_reducible show FL _ "own_hand" _ _ _); with_reducible refine fl_hand (by with_unfolding_all walk_at "hp") ?_) | ((with_reducible show FL _ "own_kept" _ _ _); with_reducible refine fl_kept (by with_unfolding_all walk_at "hp") ?_) | ((with_reducible show FL _ "own_steps" _ _ _); with_reducible refine fl_steps (by with_unfolding_all walk_at "hp") ?_) | ((with_reducible show FL _ "own_backs" _ _ _); with_reducible refine fl_backs (by with_unfolding_all walk_at "hp") ?_) | ((with_reducible show FL _ "own_length" _ _ _); with_reducible refine fl_length (by with_unfolding_all walk_at "hp") ?_) | ((with_reducible show FL _ "own_slots" _ _ _); with_reducible refine fl_slots (by with_unfolding_all walk_at "hp") ?_)))
  | ((with_reducible show FS _ _ _ _ _ _); (first | ((with_reducible show FS _ "own_hand" _ _ _ _); with_reducible refine fs_hand (by with_unfolding_all walk_at "hp") ?_) | ((with_reducible show FS _ "own_kept" _ _ _ _); with_reducible refine fs_kept (by with_unfolding_all walk_at "hp") ?_) | ((with_reducible show FS _ "own_steps" _ _ _ _); with_reducible refine fs_steps (by with_unfolding_all walk_at "hp") ?_) | ((with_reducible show FS _ "own_backs" _ _ _ _); with_reducible refine fs_backs (by with_unfolding_all walk_at "hp") ?_)))))
local macro_rules | `(tactic| walk_at "rd") => `(tactic| repeat walk_at "rd1")
/-! ### traces: what reading them asks -/
theorem upd_none {H : Hp} {a b : Addr} {o : HO} (h : upd H a o b = none) : b ≠ a ∧ H b = none := by
  have n : b ≠ a := by
    rintro rfl
    rw [upd_same] at h
    cases h
  exact ⟨n, by rw [upd_ne n] at h; exact h⟩
/-- Trace(n, s) -/
theorem mkTr {K : PySem.W.Frag} {H : Hp} {n s : Int} {N : Addr → Hp → Prop} (h : ∀ a l H', Same H H' → H a = none → H l = none → a ≠ l → TrL K H' a l n s ini → N a H') :
    ∀ a dx, H a = none → H dx = none → dx ≠ a → sp_Trace_init K [.ref a, .int n, .int s] (upd (upd H dx (.own a)) a (.ins (He.ga K "Trace") dx [])) (fun v H2 => v = .non ∧ N a H2) E0 := by
  intro a dx ha hd hne
  refine ⟨a, dx, n, s, rfl, upd_same, fun l H' hb hl ht => ⟨rfl, h a l H' (fun b o e => ?_) ha ?_ ?_ ht⟩⟩
  · exact hb b o (ne_of_none e ha) ((upd_ne (ne_of_none e ha)).trans ((upd_ne (ne_of_none e hd)).trans e))
  · exact (upd_none (upd_none hl).2).2
  · exact (upd_none hl).1.symm
theorem TrL.same {K : PySem.W.Frag} {H H' : Hp} {a l : Addr} {n s : Int} {t : Tr} (h : TrL K H a l n s t) (e : Same H H') : TrL K H' a l n s t := by
  obtain ⟨dx, h1, h2⟩ := h
  exact ⟨dx, e _ _ h1, e _ _ h2⟩
theorem TrAt.same {K : PySem.W.Frag} {H H' : Hp} {a : Addr} {n s : Int} {t : Tr} (h : TrAt K H a n s t) (e : Same H H') : TrAt K H' a n s t := by
  obtain ⟨l, h⟩ := h
  exact ⟨l, h.same e⟩
theorem TrL.ne {K : PySem.W.Frag} {H : Hp} {a l : Addr} {n s : Int} {t : Tr} (h : TrL K H a l n s t) : a ≠ l := by
  obtain ⟨dx, h1, h2⟩ := h
  exact ne_of h1 h2 (by intro z; cases z)
/-- a trace that an older heap knows stays where a new one changes -/
theorem TrAt.but2 {K : PySem.W.Frag} {H0 H H' : Hp} {x y a : Addr} {n s : Int} {t : Tr} (h : TrAt K H0 a n s t) (e : Same H0 H) (b : But2 x y H H') (hx : H0 x = none) (hy : H0 y = none) : TrAt K H' a n s t := by
  obtain ⟨l, dx, h1, h2⟩ := h
  exact ⟨l, dx, b _ _ (ne_of_none h1 hx) (ne_of_none h1 hy) (e _ _ h1), b _ _ (ne_of_none h2 hx) (ne_of_none h2 hy) (e _ _ h2)⟩
theorem But2.same {H0 H H' : Hp} {x y : Addr} (e : Same H0 H) (b : But2 x y H H') (hx : H0 x = none) (hy : H0 y = none) : Same H0 H' := fun p o h => b _ _ (ne_of_none h hx) (ne_of_none h hy) (e _ _ h)
section
variable (K : PySem.W.Frag) {vs : List V} {H : Hp} {Q : VK} {E : XK}
theorem pure_Trace_copied (h : sp_Trace_copied K vs H Q E) : t_Trace_copied K { nx := fun _ H' => Q .non H', rt := Q } (start n_Trace_copied vs) H := by
  obtain ⟨a, n, s, t, rfl, ⟨l, dx, h1, h2⟩, q⟩ := h
  show t_Trace_copied K _ [some (.ref a), none] H
  unfold t_Trace_copied
  walk_at "rd"
  refine mkTr fun x l' H1 s1 hx hl' nx ⟨dx', h3, h4⟩ => ?_
  have h5 := s1 _ _ h1
  have h6 := s1 _ _ h2
  have nax : a ≠ x := ne_of_none h1 hx
  have nlx : l ≠ x := ne_of_none h2 hx
  walk_at "rd"
  refine r_listOf (SqL.of ((upd_ne nlx).trans h6)) fun p hp => ?_
  have np := upd_none hp
  have nap : a ≠ p := ne_of_none h5 np.2
  have nxp : x ≠ p := np.1.symm
  walk_at "rd"
  have hp0 : H p = none := s1.free np.2
  refine q x p _ (fun b o e => ?_) hx hp0 ⟨dx', upd_same, ?_⟩
  · have nb : b ≠ x := ne_of_none e hx
    have nbp : b ≠ p := ne_of_none e hp0
    rw [upd_ne nb, upd_ne nb, upd_ne nb, upd_ne nbp, upd_ne nb]
    exact s1 _ _ e
  · rw [upd_ne np.1, upd_ne np.1, upd_ne np.1]
    exact upd_same
theorem pure_Trace_do (h : sp_Trace_do K vs H Q E) : t_Trace_do K { nx := fun _ H' => Q .non H', rt := Q } (start n_Trace_do vs) H := by
  obtain ⟨a, l, v, n, s, t, o, rfl, ⟨dx, h1, h2⟩, ⟨p, rfl, hp⟩, hc, hs, q⟩ := h
  show t_Trace_do K _ [some (.ref a), some (.ref p)] H
  unfold t_Trace_do
  have nal : a ≠ l := ne_of h1 h2 (by intro z; cases z)
  have npa : p ≠ a := ne_of hp h1 (by intro z; cases z)
  have one : ∀ u, But2 a l H (upd H a u) := fun u b o n _ e => (upd_ne n).trans e
  walk_at "rd"
  cases o with
  | go k =>
    refine r_ixT (SqT.of hp) atI_0 ?_
    walk_at "rd"
    refine ⟨a, dx, _, t.hand, rfl, h1, by kernel_rfl, ?_⟩
    walk_at "rd"
    refine r_ixT (SqT.of hp) atI_1 ?_
    refine ⟨k, dx, _, rfl, h1, tf_len, ?_⟩
    rw [pt_hand]
    walk_at "rd"
    refine ⟨a, dx, _, t.steps, rfl, upd_same, by kernel_rfl, ?_⟩
    walk_at "rd"
    refine r_ixT (SqT.of ((upd_ne npa).trans hp)) atI_1 ?_
    refine ⟨k, dx, _, rfl, upd_same, tf_len, ?_⟩
    rw [pt_steps]
    refine q _ (fun b o n _ e => ?_) ⟨dx, upd_same, ?_⟩
    · rw [upd_ne n, upd_ne n]
      exact e
    · rw [upd_ne nal.symm, upd_ne nal.symm]
      exact h2
  | keep =>
    refine r_ixT (SqT.of hp) atI_0 ?_
    walk_at "rd"
    have c0 : (!decide (t.hand ∈ t.kept) && decide ((t.kept.length : Int) < s)) = true := hc
    rw [Bool.and_eq_true] at c0
    have c2 : (t.kept.length : Int) < s := of_decide_eq_true c0.2
    refine r_app h2 (by rw [List.length_map]; omega) ?_
    refine q _ (fun b o _ n e => (upd_ne n).trans e) ⟨dx, (upd_ne nal).trans h1, ?_⟩
    have e : t.kept.map V.int ++ [V.int t.hand] = (t.kept ++ [t.hand]).map V.int := by rw [List.map_append]; rfl
    rw [e]
    exact upd_same
  | back =>
    refine r_ixT (SqT.of hp) atI_0 ?_
    walk_at "rd"
    refine ⟨a, dx, _, t.backs, rfl, h1, by kernel_rfl, ?_⟩
    walk_at "rd"
    refine ⟨1, dx, _, rfl, h1, tf_len, ?_⟩
    rw [pt_backs]
    exact q _ (one _) ⟨dx, upd_same, (upd_ne nal.symm).trans h2⟩
  | take x =>
    refine r_ixT (SqT.of hp) atI_0 ?_
    walk_at "rd"
    refine r_ixT (SqT.of hp) atI_1 ?_
    walk_at "rd"
    exact q _ (one _) ⟨dx, upd_same, (upd_ne nal.symm).trans h2⟩
  | free x =>
    refine r_ixT (SqT.of hp) atI_0 ?_
    walk_at "rd"
    refine r_ixT (SqT.of hp) atI_1 ?_
    walk_at "rd"
    have hx : x ∈ t.kept := of_decide_eq_true hc
    obtain ⟨j, _, j2, j3, j4⟩ := first_at hx
    refine ⟨l, t.kept, x, j, rfl, rfl, h2, j2, j3, ?_⟩
    rw [j4]
    exact q _ (fun b o _ n e => (upd_ne n).trans e) ⟨dx, (upd_ne nal).trans h1, upd_same⟩
end
end Bs

namespace Bs
open PySem PySem.Spec L2 Bm Bl
open PyProof.Rows hiding St
-- one step of a reading; side conditions; what a heap holds
local macro_rules | `(tactic| walk_at "sc") => `(tactic| (first
  | exact mulL ⟨by omega, by omega⟩ | exact mulR ⟨by omega, by omega⟩ | exact divS (by omega) (by omega) | exact (show (0 : Int) < _ by omega) | exact powS (b := 4) (by decide) (by decide) (by decide) (by decide) | assumption | omega))
local macro_rules | `(tactic| walk_at "ne") => `(tactic| (first
  | assumption | (apply Ne.symm; assumption) | exact ne_none (by assumption) (by walk_at "hp") | exact Ne.symm (ne_none (by assumption) (by walk_at "hp"))))
local macro_rules | `(tactic| walk_at "hp") => `(tactic| (first
  | assumption | exact upd_same | (refine (upd_ne ?k1).trans ?k2; (case k1 => walk_at "ne"); (case k2 => walk_at "hp")) | (refine Same.get (by assumption) ?_; walk_at "hp") | (refine But.get (by assumption) ?k1 ?k2; (case k1 => walk_at "hp"); (case k2 => walk_at "ne"))))
local macro_rules | `(tactic| walk_at "sq") => `(tactic| (first | assumption | exact SqL.of (by walk_at "hp") | exact SqT.of (by walk_at "hp")))
local macro_rules | `(tactic| walk_at "rd1") => `(tactic| (first
  | with_reducible refine r_seq ?_ | with_reducible refine r_asg ?_ | with_reducible refine r_asgG ?_ | with_reducible refine r_op ?_ | ((with_reducible show tVar _ _ _ _); with_reducible refine r_var (by with_unfolding_all exact rfl) ?_) | with_reducible refine r_c ?_ | with_reducible refine r_I0 ?_ | with_reducible refine r_p30 ?_
  | with_reducible refine r_p20 ?_ | with_reducible refine r_p27 ?_ | with_reducible refine r_p29 ?_ | with_reducible refine r_p38 ?_ | with_reducible refine r_p40 ?_ | with_reducible refine r_p42 ?_ | with_reducible refine r_p44 ?_ | with_reducible refine r_p49 ?_
  | with_reducible refine r_p50 ?_ | with_reducible refine r_p60 ?_ | with_reducible refine r_p18 ?_ | with_reducible refine r_p12 ?_ | with_reducible refine r_p15 ?_ | with_reducible refine r_p9 ?_ | with_reducible refine r_p6 ?_ | with_reducible refine r_p64 ?_
  | ((with_reducible refine r_I ?k1 ?k2); (case k1 => walk_at "sc")) | with_reducible refine r_U ?_ | with_reducible refine r_un ?_ | with_reducible refine r_ret ?_ | with_reducible refine r_ifS ?_ | with_reducible refine r_test ?_ | with_reducible refine r_bl ?_ | with_reducible refine r_cb ?_
  | with_reducible refine r_cons ?_ | with_reducible refine r_nil ?_ | with_reducible refine r_intI ?_ | with_reducible refine r_intB ?_ | with_reducible refine r_max2' ?_ | with_reducible refine r_min2' ?_ | with_reducible refine r_max3 ?_ | with_reducible refine r_min3 ?_
  | with_reducible refine r_call ?_ | with_reducible refine r_par ?_ | with_reducible refine r_and ?_ | with_reducible refine r_or ?_ | with_reducible refine r_not ?_ | with_reducible refine r_B ?_ | with_reducible refine r_andV ?_ | with_reducible refine r_orV ?_
  | with_reducible refine r_notV ?_ | with_reducible refine r_ifE ?_ | with_reducible refine r_eqI ?_ | with_reducible refine r_neI ?_ | with_reducible refine r_eqB ?_ | with_reducible refine r_neB ?_ | with_reducible refine r_isN ?_ | with_reducible refine r_notN ?_
  | with_reducible refine r_chain ?_ | with_reducible refine r_chain3 ?_ | with_reducible refine r_drop ?_ | with_reducible refine r_next ?_ | with_reducible refine r_retN ?_ | with_reducible refine r_brk ?_ | with_reducible refine r_cont ?_ | with_reducible refine r_ex ?_
  | with_reducible refine r_tup ?_ | with_reducible refine r_lst ?_ | ((with_reducible refine r_new ?k1 ?k2); (case k1 => first | decide | exact Nat.le_of_ble_eq_true rfl)) | with_reducible refine r_sub ?_ | with_reducible refine r_gname ?_ | with_reducible refine r_gcons ?_ | with_reducible refine r_gnil ?_ | with_reducible refine r_slice ?_
  | with_reducible refine r_noPart ?_ | with_reducible refine r_part ?_ | ((with_reducible show gTup _ _ _ _ _ _ _); with_reducible refine r_gtup (by with_unfolding_all walk_at "sq") (by with_unfolding_all exact rfl) ?_) | with_reducible refine r_rng1 ?_ | with_reducible refine r_rng2 ?_ | ((with_reducible refine r_r1 ?k1 ?k2 ?k3); (case k1 => omega); (case k2 => omega)) | ((with_reducible refine r_r2 ?k1 ?k2); (case k1 => omega)) | with_reducible refine r_nonT ?_
  | with_reducible refine r_nonI ?_ | with_reducible refine r_nonR ?_ | with_reducible refine r_notT ?_ | with_reducible refine r_notI ?_ | with_reducible refine r_notR ?_ | with_reducible refine r_for ?_ | with_reducible refine r_lc ?_ | with_reducible refine r_iL ?_
  | with_reducible refine r_iT ?_ | with_reducible refine r_yesT ?_ | ((with_reducible show _ = _ ∧ _); with_reducible refine r_same (by with_unfolding_all exact rfl) ?_) | with_reducible refine r_neS ?_ | with_reducible refine r_iteT ?_ | with_reducible refine r_iteF ?_ | with_reducible refine r_iteNT ?_ | with_reducible refine r_iteNF ?_
  | ((with_reducible show tAug _ _ _ _ _ _); with_reducible refine r_aug (by with_unfolding_all exact rfl) ?_) | with_reducible refine r_ipI ?_ | with_reducible refine r_bm ?_ | ((with_reducible show tyV _ "list" _ _ ∧ _); with_reducible refine r_tyL (by with_unfolding_all walk_at "sq") ?_) | with_reducible refine r_enum ?_ | ((with_reducible show ∃ (a : Addr) (xs : List V), [V.ref _] = [V.ref a] ∧ _); with_reducible refine r_en (by with_unfolding_all walk_at "sq") ?_) | with_reducible refine r_par3' ?_ | with_reducible refine r_fldC ?_
  | with_reducible refine r_sfld ?_ | with_reducible refine r_saug ?_ | with_reducible refine r_prop ?_ | with_reducible refine r_meth ?_ | with_reducible refine r_make ?_ | with_reducible refine r_eqSY ?_ | ((with_reducible refine r_eqSN ?k1 ?k2); (case k1 => decide +kernel)) | with_reducible refine r_dget ?_
  | with_reducible refine r_dput ?_ | with_reducible refine r_match ?_ | with_reducible refine r_str ?_ | with_reducible refine r_caseY ?_ | ((with_reducible refine r_caseN ?k1 ?k2); (case k1 => decide +kernel)) | with_reducible refine r_caseA ?_ | ((with_reducible show PR _ _ _ _ _ _); with_reducible refine r_pr (by with_unfolding_all walk_at "hp") ?_) | ((with_reducible show FL _ _ _ _ _); (first | ((with_reducible show FL _ "own_hand" _ _ _); with_reducible refine fl_hand (by with_unfolding_all walk_at "hp") ?_) | ((with_reducible show FL _ "own_kept" _ _ _); with_reducible refine fl_kept (by with_unfolding_all walk_at "hp") ?_) | ((with_reducible show FL _ "own_steps" _ _ _); with_reducible refine fl_steps (by with_unfolding_all walk_at "hp") ?_) | ((with_reducible show FL _ "own_backs" _ _ _); with_reducible refine fl_backs (by with_unfolding_all walk_at "hp") ?_) | ((with_reducible show FL _ "own_length" _ _ _); with_reducible refine fl_length (by with_unfolding_all walk_at "hp") ?_) | ((with_reducible show FL _ "own_slots" _ _ _); with_reducible refine fl_slots (by with_unfolding_all walk_at "hp") ?_)))
  | ((with_reducible show FS _ _ _ _ _ _); (first | ((with_reducible show FS _ "own_hand" _ _ _ _); with_reducible refine fs_hand (by with_unfolding_all walk_at "hp") ?_) | ((with_reducible show FS _ "own_kept" _ _ _ _); with_reducible refine fs_kept (by with_unfolding_all walk_at "hp") ?_) | ((with_reducible show FS _ "own_steps" _ _ _ _); with_reducible refine fs_steps (by with_unfolding_all walk_at "hp") ?_) | ((with_reducible show FS _ "own_backs" _ _ _ _); with_reducible refine fs_backs (by with_unfolding_all walk_at "hp") ?_)))))
local macro_rules | `(tactic| walk_at "rd") => `(tactic| repeat walk_at "rd1")
theorem SqL.len {K : PySem.W.Frag} {H : Hp} {q : Addr} {xs : List V} {ops : List Op} (_ : SqL K H q xs) (h : OpsV H xs ops) : xs.length = ops.length := OpsV.len h
section
variable (K : PySem.W.Frag) {vs : List V} {H : Hp} {Q : VK} {E : XK}
theorem pure_require_operations (h : sp_require_operations K vs H Q E) : t_require_operations K { nx := fun _ H' => Q .non H', rt := Q } (start n_require_operations vs) H := by
  obtain ⟨qa, ops, rfl, ⟨xs, hq, hv⟩, hl, hk, q⟩ := h
  show t_require_operations K _ [some (.ref qa), none, none] H
  unfold t_require_operations
  have hlen := hv.len
  walk_at "rd"
  refine ⟨.ref qa, .ty "list", .type "list", .type "list", true, rfl, .ty _, tyx_list hq, kit_ty (by decide +kernel), ?_⟩
  walk_at "rd"
  refine r_lenL hq ?_
  walk_at "rd"
  refine r_no (by omega) ?_
  walk_at "rd"
  refine for_it (walk_enum (xs := xs)) (fun i σ H' => Same H H' ∧ ∃ v4 v5, σ = [some (.ref qa), v4, v5]) ?_ ?_ ?_ ?_
  · exact ⟨Same.refl _, none, none, rfl⟩
  · rintro i σ H1 _ ⟨s1, _⟩
    exact SqL.seq s1 hq
  · rintro i x σ H1 H2 hi ⟨s1, v4, v5, rfl⟩ ⟨T, x1, x2, rfl, hT, rfl, y1, y2⟩
    cases y1
    have y2 : xs[i]? = some x2 := y2
    obtain ⟨o, ho, hov⟩ := hv.at y2
    refine r_gtup (SqT.of upd_same) rfl ?_
    walk_at "rd"
    have s2 : Same H (upd H1 T (.tup [V.int ((i : Nat) : Int), x2])) := Same.newT s1 hT
    refine ⟨x2, o, rfl, hov.to (Tps.of s2), hk o (List.mem_of_getElem? ho), fun H3 s3 => ?_⟩
    walk_at "rd"
    exact ⟨Same.trans s2 s3, _, _, rfl⟩
  · rintro σ H1 ⟨s1, v4, v5, rfl⟩
    exact q _ s1
theorem pure_require_list (h : sp_require_list K vs H Q E) : t_require_list K { nx := fun _ H' => Q .non H', rt := Q } (start n_require_list vs) H := by
  obtain ⟨n, s, qa, ops, rfl, ⟨h1, h2, h3, h4, h5, h6, h7⟩, q⟩ := h
  show t_require_list K _ [some (.int n), some (.int s), some (.ref qa)] H
  unfold t_require_list
  walk_at "rd"
  refine ⟨n, s, rfl, h1, h2, h3, h4, ?_⟩
  walk_at "rd"
  exact ⟨qa, ops, rfl, h5, h6, h7, q⟩
theorem pure_wrong_of (h : sp_wrong_of K vs H Q E) : t_wrong_of K { nx := fun _ H' => Q .non H', rt := Q } (start n_wrong_of vs) H := by
  obtain ⟨n, s, qa, ops, rfl, ⟨h1, h2, h3, h4, ⟨xs, hq, hv⟩, h6, h7⟩, q⟩ := h
  show t_wrong_of K _ [some (.int n), some (.int s), some (.ref qa), none, none, none] H
  unfold t_wrong_of
  have hlen := hv.len
  walk_at "rd"
  refine mkTr fun a l H1 s1 ha hl nal ht => ?_
  walk_at "rd"
  refine r_en (SqL.seq s1 hq) ?_
  refine for_it (walk_enum (xs := xs)) (fun i σ H' => Same H H' ∧ Can n s ini (ops.take i) ∧ TrL K H' a l n s (run ini (ops.take i)) ∧ ∃ v4 v5, σ = [some (.int n), some (.int s), some (.ref qa), some (.ref a), v4, v5]) ?_ ?_ ?_ ?_
  · exact ⟨s1, trivial, ht, none, none, rfl⟩
  · rintro i σ H2 _ ⟨s2, _⟩
    exact SqL.seq s2 hq
  · rintro i x σ H2 H3 hi ⟨s2, hc, ht2, v4, v5, rfl⟩ ⟨T, x1, x2, rfl, hT, rfl, y1, y2⟩
    cases y1
    have y2 : xs[i]? = some x2 := y2
    obtain ⟨o, ho, hov⟩ := hv.at y2
    refine r_gtup (SqT.of upd_same) rfl ?_
    walk_at "rd"
    have s3 : Same H (upd H2 T (.tup [V.int ((i : Nat) : Int), x2])) := Same.newT s2 hT
    have ht3 := ht2.same (Same.new (o := .tup [V.int ((i : Nat) : Int), x2]) hT)
    obtain ⟨dx, e1, e2⟩ := id ht3
    refine ⟨a, dx, _, rfl, e1, by kernel_rfl, ?_⟩
    walk_at "rd"
    refine ⟨a, x2, n, s, _, o, rfl, ⟨l, ht3⟩, hov.to (Tps.of s3), ?_⟩
    walk_at "rd"
    cases hcan : can n s (run ini (ops.take i)) o with
    | true =>
      walk_at "rd"
      refine ⟨a, dx, _, rfl, e1, by kernel_rfl, ?_⟩
      walk_at "rd"
      refine ⟨a, l, x2, n, s, _, o, rfl, ht3, hov.to (Tps.of s3), hcan, by omega, fun H4 b4 ht4 => ?_⟩
      have ts : ops.take (i + 1) = ops.take i ++ [o] := take_snoc ho
      refine ⟨But2.same s3 b4 ha hl, ?_, ?_, _, _, rfl⟩
      · rw [ts]
        exact Can_snoc hc hcan
      · rw [ts, run_app]
        exact ht4
    | false =>
      walk_at "rd"
      have e := wrong_at hc ho hcan
      have q' := q _ s3
      rw [e] at q'
      exact q'
  · rintro σ H2 ⟨s2, hc, ht2, v4, v5, rfl⟩
    walk_at "rd"
    rw [hlen, List.take_length] at hc
    have q' := q _ s2
    rw [wrong_none hc] at q'
    exact q'
theorem pure_first_wrong (h : sp_first_wrong K vs H Q E) : t_first_wrong K { nx := fun _ H' => Q .non H', rt := Q } (start n_first_wrong vs) H := by
  obtain ⟨n, s, qa, ops, rfl, ht, q⟩ := h
  show t_first_wrong K _ [some (.int n), some (.int s), some (.ref qa)] H
  unfold t_first_wrong
  walk_at "rd"
  refine ⟨n, s, qa, ops, rfl, ht, fun H1 s1 => ?_⟩
  walk_at "rd"
  exact ⟨n, s, qa, ops, rfl, ht.same s1, fun H2 s2 => q _ (Same.trans s1 s2)⟩
theorem pure_traces_of (h : sp_traces_of K vs H Q E) : t_traces_of K { nx := fun _ H' => Q .non H', rt := Q } (start n_traces_of vs) H := by
  obtain ⟨n, s, qa, ops, rfl, ht, hc, q⟩ := h
  show t_traces_of K _ [some (.int n), some (.int s), some (.ref qa), none, none, none] H
  unfold t_traces_of
  walk_at "rd"
  refine ⟨n, s, qa, ops, rfl, ht, fun H1 s1 => ?_⟩
  walk_at "rd"
  refine ⟨n, s, qa, ops, rfl, ht.same s1, fun H2 s2 => ?_⟩
  rw [wrong_none hc]
  have s12 := Same.trans s1 s2
  walk_at "rd"
  refine r_notT ?_
  walk_at "rd"
  refine mkTr fun a l H3 s3 ha hl nal ht3 => ?_
  walk_at "rd"
  intro p hp
  walk_at "rd"
  obtain ⟨h1, h2, h3, h4, ⟨xs, hq, hv⟩, h6, h7⟩ := ht
  have hlen := hv.len
  have s03 : Same H H3 := Same.trans s12 s3
  have hp0 : H p = none := s03.free hp
  refine r_refL (SqL.seq (Same.newT s03 hp) hq) ?_
  refine for_it (walk_list (xs := xs)) (fun i σ H' => Same H H' ∧ (∃ as : List Addr, H' p = some (.lst (as.map V.ref)) ∧ TrsAt K H' n s as (scan ini (ops.take i))) ∧ ∃ v5, σ = [some (.int n), some (.int s), some (.ref qa), some .non, some (.ref p), v5]) ?_ ?_ ?_ ?_
  · refine ⟨Same.newT s03 hp, ⟨[a], upd_same, rfl, fun i a' t h8 h9 => ?_⟩, none, rfl⟩
    cases i with
    | zero =>
      cases h8
      cases h9
      exact ⟨l, ht3.same (Same.new hp)⟩
    | succ i => cases h8
  · rintro i σ H4 _ ⟨s4, _⟩
    exact SqL.seq s4 hq
  · rintro i x σ H4 H5 hi ⟨s4, ⟨as, hpa, hl4, ha4⟩, v5, rfl⟩ ⟨rfl, y2⟩
    obtain ⟨o, ho, hov⟩ := hv.at y2
    have hio : i < ops.length := by omega
    have hcan := Can_at hc ho
    have ts : ops.take (i + 1) = ops.take i ++ [o] := take_snoc ho
    have htl : (ops.take i).length = i := by rw [List.length_take]; omega
    have hlas : as.length = i + 1 := by rw [hl4, Bl.scan_len, htl]
    obtain ⟨a0, as', e0⟩ : ∃ a0 as', as = as' ++ [a0] := ⟨as[i], as.take i, by
      have := List.take_append_drop i as
      rw [List.drop_eq_getElem_cons (by omega), List.drop_eq_nil_of_le (by omega)] at this
      exact this.symm⟩
    have hlast : as[i]? = some a0 := by
      rw [e0] at hlas ⊢
      rw [List.length_append, List.length_singleton] at hlas
      rw [List.getElem?_append_right (by omega), show i - as'.length = 0 by omega]
      rfl
    have htr : TrAt K H5 a0 n s (run ini (ops.take i)) := ha4 i a0 _ hlast (by
      have h := scan_at (t := ini) (xs := ops.take i) (i := i) (Nat.le_of_eq htl.symm)
      rw [List.take_take, Nat.min_self] at h
      exact h)
    obtain ⟨l0, dx0, e1, e2⟩ := id htr
    walk_at "rd"
    refine r_ixL (SqL.of hpa) (by rw [e0, List.map_append]; exact atI_end) ?_
    refine ⟨a0, dx0, _, rfl, e1, by kernel_rfl, ?_⟩
    walk_at "rd"
    refine ⟨a0, n, s, _, rfl, htr, fun x' l' H6 s6 hx hl' ht6 => ?_⟩
    have hpa6 := s6 _ _ hpa
    walk_at "rd"
    refine r_app hpa6 (by rw [List.length_map]; omega) ?_
    have nxp : x' ≠ p := by
      rintro rfl
      rw [hpa] at hx
      cases hx
    have nlp : l' ≠ p := by
      rintro rfl
      rw [hpa] at hl'
      cases hl'
    have eas : as.map V.ref ++ [V.ref x'] = (as ++ [x']).map V.ref := by rw [List.map_append]; rfl
    rw [eas]
    obtain ⟨dx1, e3, e4⟩ := id ht6
    have ht7 : TrL K (upd H6 p (.lst ((as ++ [x']).map V.ref))) x' l' n s (run ini (ops.take i)) := ⟨dx1, (upd_ne nxp).trans e3, (upd_ne nlp).trans e4⟩
    walk_at "rd"
    refine r_ixL (SqL.of upd_same) (by rw [List.map_append]; exact atI_end) ?_
    refine ⟨x', dx1, _, rfl, (upd_ne nxp).trans e3, by kernel_rfl, ?_⟩
    walk_at "rd"
    have s7 : Same H (upd H6 p (.lst ((as ++ [x']).map V.ref))) := Same.mut (Same.trans s4 s6) hp0
    refine ⟨x', l', x, n, s, _, o, rfl, ht7, hov.to (Tps.of s7), hcan, by omega, fun H8 b8 ht8 => ?_⟩
    have s8 : Same H H8 := But2.same s7 b8 (s4.free hx) (s4.free hl')
    refine ⟨s8, ⟨as ++ [x'], b8 _ _ nxp.symm nlp.symm upd_same, ?_, ?_⟩, _, rfl⟩
    · rw [ts, scan_snoc, List.length_append, List.length_append, hl4]
      rfl
    · intro j a' t' h8 h9
      rw [ts, scan_snoc] at h9
      by_cases hj : j < as.length
      · rw [List.getElem?_append_left hj] at h8
        rw [List.getElem?_append_left (by rw [← hl4]; exact hj)] at h9
        obtain ⟨l2, dx2, g1, g2⟩ := ha4 j a' t' h8 h9
        have n1 : a' ≠ p := ne_of g1 hpa (by intro z; cases z)
        have n3 : a' ≠ x' := ne_of_none g1 hx
        have n4 : a' ≠ l' := ne_of_none g1 hl'
        have n5 : l2 ≠ x' := ne_of_none g2 hx
        have n6 : l2 ≠ l' := ne_of_none g2 hl'
        have n2 : l2 ≠ p := by
          rintro rfl
          rw [hpa] at g2
          have e5 : as.map V.ref = t'.kept.map V.int := by
            injection g2 with g2
            injection g2
          have m5 : V.ref a0 ∈ as.map V.ref := by
            rw [e0, List.map_append]
            exact List.mem_append_right _ List.mem_cons_self
          rw [e5] at m5
          obtain ⟨z, _, e6⟩ := List.mem_map.mp m5
          cases e6
        exact ⟨l2, dx2, b8 _ _ n3 n4 ((upd_ne n1).trans (s6 _ _ g1)), b8 _ _ n5 n6 ((upd_ne n2).trans (s6 _ _ g2))⟩
      · have hj2 : j = as.length := by
          have := (List.getElem?_eq_some_iff.mp h8).1
          rw [List.length_append, List.length_singleton] at this
          omega
        subst hj2
        rw [List.getElem?_append_right (Nat.le_refl _), Nat.sub_self] at h8
        rw [List.getElem?_append_right (by omega), hl4, Nat.sub_self] at h9
        cases h8
        cases h9
        rw [run_app]
        exact ⟨l', ht8⟩
  · rintro σ H4 ⟨s4, ⟨as, hpa, hta⟩, v5, rfl⟩
    walk_at "rd"
    rw [hlen, List.take_length] at hta
    exact q p as _ s4 hp0 hpa hta
end
end Bs

namespace Bs
open PySem PySem.Spec L2 Bm Bl
open PyProof.Rows hiding St
-- one step of a reading; side conditions; what a heap holds
local macro_rules | `(tactic| walk_at "sc") => `(tactic| (first
  | exact mulL ⟨by omega, by omega⟩ | exact mulR ⟨by omega, by omega⟩ | exact divS (by omega) (by omega) | exact (show (0 : Int) < _ by omega) | exact powS (b := 4) (by decide) (by decide) (by decide) (by decide) | assumption | omega))
local macro_rules | `(tactic| walk_at "ne") => `(tactic| (first
  | assumption | (apply Ne.symm; assumption) | exact ne_none (by assumption) (by walk_at "hp") | exact Ne.symm (ne_none (by assumption) (by walk_at "hp"))))
local macro_rules | `(tactic| walk_at "hp") => `(tactic| (first
  | assumption | exact upd_same | (refine (upd_ne ?k1).trans ?k2; (case k1 => walk_at "ne"); (case k2 => walk_at "hp")) | (refine Same.get (by assumption) ?_; walk_at "hp") | (refine But.get (by assumption) ?k1 ?k2; (case k1 => walk_at "hp"); (case k2 => walk_at "ne"))))
local macro_rules | `(tactic| walk_at "sq") => `(tactic| (first | assumption | exact SqL.of (by walk_at "hp") | exact SqT.of (by walk_at "hp")))
local macro_rules | `(tactic| walk_at "rd1") => `(tactic| (first
  | with_reducible refine r_seq ?_ | with_reducible refine r_asg ?_ | with_reducible refine r_asgG ?_ | with_reducible refine r_op ?_ | ((with_reducible show tVar _ _ _ _); with_reducible refine r_var (by with_unfolding_all exact rfl) ?_) | with_reducible refine r_c ?_ | with_reducible refine r_I0 ?_ | with_reducible refine r_p30 ?_
  | with_reducible refine r_p20 ?_ | with_reducible refine r_p27 ?_ | with_reducible refine r_p29 ?_ | with_reducible refine r_p38 ?_ | with_reducible refine r_p40 ?_ | with_reducible refine r_p42 ?_ | with_reducible refine r_p44 ?_ | with_reducible refine r_p49 ?_
  | with_reducible refine r_p50 ?_ | with_reducible refine r_p60 ?_ | with_reducible refine r_p18 ?_ | with_reducible refine r_p12 ?_ | with_reducible refine r_p15 ?_ | with_reducible refine r_p9 ?_ | with_reducible refine r_p6 ?_ | with_reducible refine r_p64 ?_
  | ((with_reducible refine r_I ?k1 ?k2); (case k1 => walk_at "sc")) | with_reducible refine r_U ?_ | with_reducible refine r_un ?_ | with_reducible refine r_ret ?_ | with_reducible refine r_ifS ?_ | with_reducible refine r_test ?_ | with_reducible refine r_bl ?_ | with_reducible refine r_cb ?_
  | with_reducible refine r_cons ?_ | with_reducible refine r_nil ?_ | with_reducible refine r_intI ?_ | with_reducible refine r_intB ?_ | with_reducible refine r_max2' ?_ | with_reducible refine r_min2' ?_ | with_reducible refine r_max3 ?_ | with_reducible refine r_min3 ?_
  | with_reducible refine r_call ?_ | with_reducible refine r_par ?_ | with_reducible refine r_and ?_ | with_reducible refine r_or ?_ | with_reducible refine r_not ?_ | with_reducible refine r_B ?_ | with_reducible refine r_andV ?_ | with_reducible refine r_orV ?_
  | with_reducible refine r_notV ?_ | with_reducible refine r_ifE ?_ | with_reducible refine r_eqI ?_ | with_reducible refine r_neI ?_ | with_reducible refine r_eqB ?_ | with_reducible refine r_neB ?_ | with_reducible refine r_isN ?_ | with_reducible refine r_notN ?_
  | with_reducible refine r_chain ?_ | with_reducible refine r_chain3 ?_ | with_reducible refine r_drop ?_ | with_reducible refine r_next ?_ | with_reducible refine r_retN ?_ | with_reducible refine r_brk ?_ | with_reducible refine r_cont ?_ | with_reducible refine r_ex ?_
  | with_reducible refine r_tup ?_ | with_reducible refine r_lst ?_ | ((with_reducible refine r_new ?k1 ?k2); (case k1 => first | decide | exact Nat.le_of_ble_eq_true rfl)) | with_reducible refine r_sub ?_ | with_reducible refine r_gname ?_ | with_reducible refine r_gcons ?_ | with_reducible refine r_gnil ?_ | with_reducible refine r_slice ?_
  | with_reducible refine r_noPart ?_ | with_reducible refine r_part ?_ | ((with_reducible show gTup _ _ _ _ _ _ _); with_reducible refine r_gtup (by with_unfolding_all walk_at "sq") (by with_unfolding_all exact rfl) ?_) | with_reducible refine r_rng1 ?_ | with_reducible refine r_rng2 ?_ | ((with_reducible refine r_r1 ?k1 ?k2 ?k3); (case k1 => omega); (case k2 => omega)) | ((with_reducible refine r_r2 ?k1 ?k2); (case k1 => omega)) | with_reducible refine r_nonT ?_
  | with_reducible refine r_nonI ?_ | with_reducible refine r_nonR ?_ | with_reducible refine r_notT ?_ | with_reducible refine r_notI ?_ | with_reducible refine r_notR ?_ | with_reducible refine r_for ?_ | with_reducible refine r_lc ?_ | with_reducible refine r_iL ?_
  | with_reducible refine r_iT ?_ | with_reducible refine r_yesT ?_ | ((with_reducible show _ = _ ∧ _); with_reducible refine r_same (by with_unfolding_all exact rfl) ?_) | with_reducible refine r_neS ?_ | with_reducible refine r_iteT ?_ | with_reducible refine r_iteF ?_ | with_reducible refine r_iteNT ?_ | with_reducible refine r_iteNF ?_
  | ((with_reducible show tAug _ _ _ _ _ _); with_reducible refine r_aug (by with_unfolding_all exact rfl) ?_) | with_reducible refine r_ipI ?_ | with_reducible refine r_bm ?_ | ((with_reducible show tyV _ "list" _ _ ∧ _); with_reducible refine r_tyL (by with_unfolding_all walk_at "sq") ?_) | with_reducible refine r_enum ?_ | ((with_reducible show ∃ (a : Addr) (xs : List V), [V.ref _] = [V.ref a] ∧ _); with_reducible refine r_en (by with_unfolding_all walk_at "sq") ?_) | with_reducible refine r_par3' ?_ | with_reducible refine r_fldC ?_
  | with_reducible refine r_sfld ?_ | with_reducible refine r_saug ?_ | with_reducible refine r_prop ?_ | with_reducible refine r_meth ?_ | with_reducible refine r_make ?_ | with_reducible refine r_eqSY ?_ | ((with_reducible refine r_eqSN ?k1 ?k2); (case k1 => decide +kernel)) | with_reducible refine r_dget ?_
  | with_reducible refine r_dput ?_ | with_reducible refine r_match ?_ | with_reducible refine r_str ?_ | with_reducible refine r_caseY ?_ | ((with_reducible refine r_caseN ?k1 ?k2); (case k1 => decide +kernel)) | with_reducible refine r_caseA ?_ | ((with_reducible show PR _ _ _ _ _ _); with_reducible refine r_pr (by with_unfolding_all walk_at "hp") ?_) | ((with_reducible show FL _ _ _ _ _); (first | ((with_reducible show FL _ "own_hand" _ _ _); with_reducible refine fl_hand (by with_unfolding_all walk_at "hp") ?_) | ((with_reducible show FL _ "own_kept" _ _ _); with_reducible refine fl_kept (by with_unfolding_all walk_at "hp") ?_) | ((with_reducible show FL _ "own_steps" _ _ _); with_reducible refine fl_steps (by with_unfolding_all walk_at "hp") ?_) | ((with_reducible show FL _ "own_backs" _ _ _); with_reducible refine fl_backs (by with_unfolding_all walk_at "hp") ?_) | ((with_reducible show FL _ "own_length" _ _ _); with_reducible refine fl_length (by with_unfolding_all walk_at "hp") ?_) | ((with_reducible show FL _ "own_slots" _ _ _); with_reducible refine fl_slots (by with_unfolding_all walk_at "hp") ?_)))
  | ((with_reducible show FS _ _ _ _ _ _); (first | ((with_reducible show FS _ "own_hand" _ _ _ _); with_reducible refine fs_hand (by with_unfolding_all walk_at "hp") ?_) | ((with_reducible show FS _ "own_kept" _ _ _ _); with_reducible refine fs_kept (by with_unfolding_all walk_at "hp") ?_) | ((with_reducible show FS _ "own_steps" _ _ _ _); with_reducible refine fs_steps (by with_unfolding_all walk_at "hp") ?_) | ((with_reducible show FS _ "own_backs" _ _ _ _); with_reducible refine fs_backs (by with_unfolding_all walk_at "hp") ?_)))))
local macro_rules | `(tactic| walk_at "rd") => `(tactic| repeat walk_at "rd1")
theorem TrsAt.last {K : PySem.W.Frag} {H : Hp} {n s : Int} {as : List Addr} {ops : List Op} (h : TrsAt K H n s as (scan ini ops)) : ∃ as' a0, as = as' ++ [a0] ∧ TrAt K H a0 n s (run ini ops) := by
  obtain ⟨h1, h2⟩ := h
  rw [Bl.scan_len] at h1
  have e := (List.take_append_drop ops.length as).symm
  rw [List.drop_eq_getElem_cons (by omega), List.drop_eq_nil_of_le (by omega)] at e
  refine ⟨_, _, e, h2 ops.length _ _ (List.getElem?_eq_getElem (by omega)) ?_⟩
  have := scan_at (t := ini) (xs := ops) (i := ops.length) (Nat.le_refl _)
  rw [List.take_length] at this
  exact this
theorem TrsAt.same {K : PySem.W.Frag} {H H' : Hp} {n s : Int} {as : List Addr} {ts : List Tr} (h : TrsAt K H n s as ts) (e : Same H H') : TrsAt K H' n s as ts := ⟨h.1, fun i a t h1 h2 => (h.2 i a t h1 h2).same e⟩
theorem at_end {as' : List Addr} {a0 : Addr} : atI ((as' ++ [a0]).map V.ref) (-1) = some (.ref a0) := by
  rw [List.map_append]
  exact atI_end
section
variable (K : PySem.W.Frag) {vs : List V} {H : Hp} {Q : VK} {E : XK}
theorem pure_steps_of (h : sp_steps_of K vs H Q E) : t_steps_of K { nx := fun _ H' => Q .non H', rt := Q } (start n_steps_of vs) H := by
  obtain ⟨n, s, qa, ops, rfl, ht, hc, q⟩ := h
  show t_steps_of K _ [some (.int n), some (.int s), some (.ref qa)] H
  unfold t_steps_of
  walk_at "rd"
  refine ⟨n, s, qa, ops, rfl, ht, hc, fun p as H1 s1 hp hp1 hta => ?_⟩
  obtain ⟨as', a0, rfl, l, dx, e1, e2⟩ := hta.last
  walk_at "rd"
  refine r_ixL (SqL.of hp1) at_end ?_
  walk_at "rd"
  exact ⟨a0, n, s, _, rfl, ⟨l, dx, e1, e2⟩, q _ s1⟩
theorem pure_backs_of (h : sp_backs_of K vs H Q E) : t_backs_of K { nx := fun _ H' => Q .non H', rt := Q } (start n_backs_of vs) H := by
  obtain ⟨n, s, qa, ops, rfl, ht, hc, q⟩ := h
  show t_backs_of K _ [some (.int n), some (.int s), some (.ref qa)] H
  unfold t_backs_of
  walk_at "rd"
  refine ⟨n, s, qa, ops, rfl, ht, hc, fun p as H1 s1 hp hp1 hta => ?_⟩
  obtain ⟨as', a0, rfl, l, dx, e1, e2⟩ := hta.last
  walk_at "rd"
  refine r_ixL (SqL.of hp1) at_end ?_
  walk_at "rd"
  exact ⟨a0, n, s, _, rfl, ⟨l, dx, e1, e2⟩, q _ s1⟩
theorem pure_is_complete (h : sp_is_complete K vs H Q E) : t_is_complete K { nx := fun _ H' => Q .non H', rt := Q } (start n_is_complete vs) H := by
  obtain ⟨n, s, qa, ops, rfl, ht, hc, q⟩ := h
  show t_is_complete K _ [some (.int n), some (.int s), some (.ref qa)] H
  unfold t_is_complete
  walk_at "rd"
  refine ⟨n, s, qa, ops, rfl, ht, hc, fun p as H1 s1 hp hp1 hta => ?_⟩
  obtain ⟨as', a0, rfl, l, dx, e1, e2⟩ := hta.last
  walk_at "rd"
  refine r_ixL (SqL.of hp1) at_end ?_
  walk_at "rd"
  refine ⟨a0, n, s, _, rfl, ⟨l, dx, e1, e2⟩, ?_⟩
  walk_at "rd"
  exact q _ s1
theorem pure_extra_steps (h : sp_extra_steps K vs H Q E) : t_extra_steps K { nx := fun _ H' => Q .non H', rt := Q } (start n_extra_steps vs) H := by
  obtain ⟨n, s, qa, ops, rfl, ht, hc, q⟩ := h
  show t_extra_steps K _ [some (.int n), some (.int s), some (.ref qa), none] H
  unfold t_extra_steps
  walk_at "rd"
  refine ⟨n, s, qa, ops, rfl, ht, hc, fun p as H1 s1 hp hp1 hta => ?_⟩
  obtain ⟨as', a0, rfl, l, dx, e1, e2⟩ := hta.last
  walk_at "rd"
  refine r_ixL (SqL.of hp1) at_end ?_
  walk_at "rd"
  refine ⟨a0, n, s, _, rfl, ⟨l, dx, e1, e2⟩, ?_⟩
  walk_at "rd"
  refine r_ite (fun c => ?_) fun c => ?_
  · walk_at "rd"
    refine ⟨a0, n, s, _, rfl, ⟨l, dx, e1, e2⟩, ?_⟩
    walk_at "rd"
    obtain ⟨h1, h2, h3, h4, _⟩ := ht
    refine ⟨n, s, rfl, h1, by omega, h3, by omega, fun H2 s2 => ?_⟩
    walk_at "rd"
    have q' := q _ (Same.trans s1 s2)
    rw [if_pos c] at q'
    exact q'
  · walk_at "rd"
    have q' := q _ s1
    rw [if_neg c] at q'
    exact q'
theorem pure_kept_behind (h : sp_kept_behind K vs H Q E) : t_kept_behind K { nx := fun _ H' => Q .non H', rt := Q } (start n_kept_behind vs) H := by
  obtain ⟨n, s, qa, ops, rfl, ht, hc, q⟩ := h
  show t_kept_behind K _ [some (.int n), some (.int s), some (.ref qa), none] H
  unfold t_kept_behind
  walk_at "rd"
  refine ⟨n, s, qa, ops, rfl, ht, hc, fun p as H1 s1 hp hp1 hta => ?_⟩
  obtain ⟨as', a0, rfl, l, dx, e1, e2⟩ := hta.last
  walk_at "rd"
  refine r_ixL (SqL.of hp1) at_end ?_
  walk_at "rd"
  refine ⟨a0, n, s, _, rfl, ⟨l, dx, e1, e2⟩, ?_⟩
  walk_at "rd"
  refine ⟨a0, n, s, _, rfl, ⟨l, dx, e1, e2⟩, fun k ks H2 s2 hk hk2 hpm hso => ?_⟩
  walk_at "rd"
  intro z hz
  have nkz : k ≠ z := ne_of_none hk2 hz
  exact q z k ks _ (Same.newT (Same.trans s1 s2) hz) (Same.free (Same.trans s1 s2) hz) (s1.free hk) upd_same ((upd_ne nkz).trans hk2) hpm hso
/-- the numbers of kept states -/
def kls (ts : List Tr) : List Int := ts.map fun t => (t.kept.length : Int)
theorem pure_most_kept (h : sp_most_kept K vs H Q E) : t_most_kept K { nx := fun _ H' => Q .non H', rt := Q } (start n_most_kept vs) H := by
  obtain ⟨n, s, qa, ops, rfl, ht, hc, q⟩ := h
  show t_most_kept K _ [some (.int n), some (.int s), some (.ref qa), none] H
  unfold t_most_kept
  walk_at "rd"
  refine ⟨n, s, qa, ops, rfl, ht, hc, fun p as H1 s1 hp hp1 hta => ?_⟩
  walk_at "rd"
  refine r_refL (SqL.of hp1) ?_
  walk_at "rd"
  intro d hd
  have hlen : as.length = (scan ini ops).length := hta.1
  have ndp : p ≠ d := ne_of_none hp1 hd
  have l400 : (scan ini ops).length ≤ 401 := by
    rw [Bl.scan_len]
    have := ht.2.2.2.2.2.1
    omega
  refine lc_it (walk_list (xs := as.map V.ref)) (fun i H' => Same H1 H' ∧ H' d = some (.lst ((kls ((scan ini ops).take i)).map V.int))) ?_ ?_ ?_ ?_
  · exact ⟨Same.new hd, upd_same⟩
  · rintro i H2 _ ⟨s2, _⟩
    exact SqL.of (s2 _ _ hp1)
  · rintro i x H2 H3 hi ⟨s2, hd2⟩ ⟨rfl, y2⟩
    rw [List.length_map] at hi
    rw [List.getElem?_map, List.getElem?_eq_getElem hi] at y2
    have y3 : V.ref as[i] = x := Option.some.inj y2
    subst y3
    obtain ⟨t, ht2⟩ : ∃ t, (scan ini ops)[i]? = some t := ⟨_, List.getElem?_eq_getElem (by omega)⟩
    have htr := (hta.same s2).2 i _ t (List.getElem?_eq_getElem hi) ht2
    obtain ⟨l, dx, e1, e2⟩ := id htr
    walk_at "rd"
    refine ⟨as[i], n, s, t, rfl, htr, fun k ks H4 s4 hk hk4 hpm hso => ?_⟩
    walk_at "rd"
    refine r_lenL (SqL.of hk4) ?_
    walk_at "rd"
    have hd4 := s4 _ _ hd2
    refine ⟨_, hd4, sz_lt (by rw [List.length_map]; unfold kls; rw [List.length_map, List.length_take]; omega), ?_, ?_⟩
    · intro b o e
      have nb : b ≠ d := ne_of_none e hd
      exact (upd_ne nb).trans (s4 _ _ (s2 _ _ e))
    · have e5 : (scan ini ops).take (i + 1) = (scan ini ops).take i ++ [t] := take_snoc ht2
      rw [e5]
      unfold kls
      rw [List.map_append, List.map_append, List.length_map, hpm.length_eq]
      exact upd_same
  · rintro H2 ⟨s2, hd2⟩
    walk_at "rd"
    rw [List.length_map, hlen, List.take_length] at hd2
    refine ⟨d, kls (scan ini ops), rfl, SqL.of hd2, ?_, fun m hm hmx => ?_⟩
    · unfold kls
      rw [List.length_map, Bl.scan_len]
      omega
    · refine q m _ (Same.trans s1 s2) ⟨?_, fun t ht2 => ?_⟩
      · obtain ⟨t, h1, h2⟩ := List.mem_map.mp hm
        exact ⟨t, h1, h2⟩
      · exact hmx _ (List.mem_map.mpr ⟨t, ht2, rfl⟩)
theorem r_zip {σ : L2.St} {H : Hp} {K : PySem.W.Frag} {tA : TA} {R : It → Hp → Prop} (h : tA σ H fun vs H1 => ∃ a b xs ys, vs = [.ref a, .ref b] ∧ SqL K H1 a xs ∧ SqL K H1 b ys ∧ R (Itz K a b) H1) : iZip K tA σ H R := h
theorem tms_snoc {l : List (Int × Int)} {p : Int × Int} {j : Int} : tms (l ++ [p]) j = tms l j + (if decide (p.1 ≤ j) && decide (j < p.2) then 1 else 0) := by
  unfold tms
  rw [List.countP_append, List.countP_cons, List.countP_nil, Nat.zero_add]
theorem pure_times_in (h : sp_times_in K vs H Q E) : t_times_in K { nx := fun _ H' => Q .non H', rt := Q } (start n_times_in vs) H := by
  obtain ⟨n, s, qa, ops, j, rfl, ht, hc, j0, j1, q⟩ := h
  show t_times_in K _ [some (.int n), some (.int s), some (.ref qa), some (.int j), none, none, none, none] H
  unfold t_times_in
  walk_at "rd"
  refine ⟨n, s, qa, ops, rfl, ht, fun H1 s1 => ?_⟩
  walk_at "rd"
  refine ⟨j, 0, n - 2, rfl, ?_⟩
  rw [decide_eq_true ⟨j0, j1⟩]
  walk_at "rd"
  refine ⟨n, s, qa, ops, rfl, ht.same s1, hc, fun p as H2 s2 hp hp2 hta => ?_⟩
  walk_at "rd"
  have s02 := Same.trans s1 s2
  obtain ⟨h1, h2, h3, h4, ⟨xs, hq, hv⟩, h6, h7⟩ := ht
  have hlen := hv.len
  have hlen2 : as.length = ops.length + 1 := by rw [hta.1, Bl.scan_len]
  refine r_zip ?_
  walk_at "rd"
  refine ⟨p, qa, as.map V.ref, xs, rfl, SqL.of hp2, SqL.seq s02 hq, ?_⟩
  refine for_it (walk_zip (xs := as.map V.ref) (ys := xs) (n := ops.length) (by rw [List.length_map]; omega)) (fun i σ H' => Same H2 H' ∧ ∃ v6 v7, σ = [some (.int n), some (.int s), some (.ref qa), some (.int j), some (.ref p), some (.int (tms (gos ini (ops.take i)) j : Nat)), v6, v7]) ?_ ?_ ?_ ?_
  · exact ⟨Same.refl _, none, none, rfl⟩
  · rintro i σ H3 _ ⟨s3, _⟩
    exact ⟨SqL.of (s3 _ _ hp2), SqL.seq (Same.trans s02 s3) hq⟩
  · rintro i x σ H3 H4 hi ⟨s3, v6, v7, rfl⟩ ⟨T, x1, x2, rfl, hT, rfl, y1, y2⟩
    have y1 : (as.map V.ref)[i]? = some x1 := y1
    have y2 : xs[i]? = some x2 := y2
    rw [List.getElem?_map, List.getElem?_eq_getElem (by omega)] at y1
    have y3 := (Option.some.inj y1).symm
    subst y3
    obtain ⟨o, ho, hov⟩ := hv.at y2
    obtain ⟨pp, rfl, hpp⟩ := hov
    have s4 : Same H2 (upd H3 T (.tup [V.ref as[i], V.ref pp])) := Same.newT s3 hT
    have hpp4 := s4 _ _ (s02 _ _ hpp)
    have htr : TrAt K (upd H3 T (.tup [V.ref as[i], V.ref pp])) as[i] n s (run ini (ops.take i)) := (hta.same s4).2 i _ _ (List.getElem?_eq_getElem (by omega)) (scan_at (by omega))
    obtain ⟨l, dx, e1, e2⟩ := id htr
    have ts : ops.take (i + 1) = ops.take i ++ [o] := take_snoc ho
    refine r_gtup (SqT.of upd_same) rfl ?_
    walk_at "rd"
    have skip : (∀ k, o ≠ .go k) → gos ini (ops.take (i + 1)) = gos ini (ops.take i) := fun ne => by
      rw [ts, gos_app]
      cases o with
      | go k => exact absurd rfl (ne k)
      | _ => exact List.append_nil _
    cases o with
    | go k =>
      have eg : gos ini (ops.take (i + 1)) = gos ini (ops.take i) ++ [((run ini (ops.take i)).hand, (run ini (ops.take i)).hand + k)] := by
        rw [ts, gos_app]
        rfl
      refine r_ixT (SqT.of hpp4) atI_0 ?_
      walk_at "rd"
      refine ⟨as[i], n, s, _, rfl, htr, ?_⟩
      walk_at "rd"
      refine r_ite (fun c1 => ?_) fun c1 => ?_
      · walk_at "rd"
        refine ⟨as[i], n, s, _, rfl, htr, ?_⟩
        walk_at "rd"
        refine r_ixT (SqT.of hpp4) atI_1 ?_
        walk_at "rd"
        refine r_ite (fun c2 => ?_) fun c2 => ?_
        · walk_at "rd"
          refine ⟨s4, some (.ref as[i]), some (.ref pp), ?_⟩
          rw [eg, tms_snoc]
          rw [show (decide ((run ini (ops.take i)).hand ≤ j) && decide (j < (run ini (ops.take i)).hand + k)) = true by rw [decide_eq_true c1, decide_eq_true c2]; rfl]
          rfl
        · walk_at "rd"
          refine ⟨s4, some (.ref as[i]), some (.ref pp), ?_⟩
          rw [eg, tms_snoc]
          rw [show (decide ((run ini (ops.take i)).hand ≤ j) && decide (j < (run ini (ops.take i)).hand + k)) = false by rw [decide_eq_true c1, decide_eq_false c2]; rfl]
          rfl
      · walk_at "rd"
        refine ⟨s4, some (.ref as[i]), some (.ref pp), ?_⟩
        rw [eg, tms_snoc]
        rw [show (decide ((run ini (ops.take i)).hand ≤ j) && decide (j < (run ini (ops.take i)).hand + k)) = false by rw [decide_eq_false c1]; rfl]
        rfl
    | keep =>
      refine r_ixT (SqT.of hpp4) atI_0 ?_
      walk_at "rd"
      refine ⟨s4, some (.ref as[i]), some (.ref pp), ?_⟩
      rw [skip (fun _ z => nomatch z)]
      rfl
    | take x =>
      refine r_ixT (SqT.of hpp4) atI_0 ?_
      walk_at "rd"
      refine ⟨s4, some (.ref as[i]), some (.ref pp), ?_⟩
      rw [skip (fun _ z => nomatch z)]
      rfl
    | free x =>
      refine r_ixT (SqT.of hpp4) atI_0 ?_
      walk_at "rd"
      refine ⟨s4, some (.ref as[i]), some (.ref pp), ?_⟩
      rw [skip (fun _ z => nomatch z)]
      rfl
    | back =>
      refine r_ixT (SqT.of hpp4) atI_0 ?_
      walk_at "rd"
      refine ⟨s4, some (.ref as[i]), some (.ref pp), ?_⟩
      rw [skip (fun _ z => nomatch z)]
      rfl
  · rintro σ H3 ⟨s3, v6, v7, rfl⟩
    walk_at "rd"
    rw [List.take_length]
    exact q _ (Same.trans s02 s3)
end
end Bs

namespace Bs
open PySem PySem.Spec L2 Bm Bl
open PyProof.Rows hiding St
/-! ### promises: the law over lists walked -/
def bx (n h : Int) (l : Addr) (c g m : Int) (gl : Addr) : List (Key × V) := [(.inr "size", .int n), (.inr "hand", .int h), (.inr "held", .ref l), (.inr "spent", .int c), (.inr "gone", .int g), (.inr "most", .int m), (.inr "goes", .ref gl)]
/-- the goes -/
def GoV (H : Hp) : List V → List (Int × Int) → Prop
  | [], [] => True
  | v :: vs, g :: gs => (∃ p, v = .ref p ∧ H p = some (.tup [.int g.1, .int g.2])) ∧ GoV H vs gs
  | _, _ => False
def BoxL (H : Hp) (d l gl : Addr) (n : Int) (b : Bx) : Prop := H d = some (.dK (bx n b.hand l b.spent b.gone b.most gl)) ∧ H l = some (.lst (b.held.map V.int)) ∧ ∃ gv, H gl = some (.lst gv) ∧ GoV H gv b.goes
/-- a box at d; its lists are none of X -/
def BoxA (H : Hp) (X : Addr → Prop) (d : Addr) (n : Int) (b : Bx) : Prop := ∃ l gl, ¬ X l ∧ ¬ X gl ∧ BoxL H d l gl n b
def eq1 (a : Addr) : Addr → Prop := fun x => x = a
def eq2 (a w : Addr) : Addr → Prop := fun x => x = a ∨ x = w
/-- a list of operations that may grow -/
def OpsM (H : Hp) (q : Addr) (ops : List Op) : Prop := ∃ vs, H q = some (.lst vs) ∧ OpsV H vs ops
def Is (H : Hp) (a : Addr) : Prop := ∃ u, H a = some u
def sp_l_box (_ : PySem.W.Frag) : Sp := fun vs H Q _ => ∃ n, vs = [.int n] ∧ ∀ d H', Same H H' → H d = none → (∀ X : Addr → Prop, (∀ x, X x → Is H x) → BoxA H' X d n bini) → Q (.ref d) H'
def sp_l_can (_ : PySem.W.Frag) : Sp := fun vs H Q _ => ∃ d v X n s b o, vs = [.ref d, .int s, v] ∧ BoxA H X d n b ∧ OpV H v o ∧ Q (.bl (can n s b.tr o)) H
def sp_l_do (_ : PySem.W.Frag) : Sp := fun vs H Q _ => ∃ d v X n b o, vs = [.ref d, v] ∧ BoxA H X d n b ∧ OpV H v o ∧ (∀ x, X x → Is H x) ∧ b.held.length ≤ 1000 ∧ b.goes.length ≤ 10000 ∧ ∀ b' H', But d H H' → BoxA H' X d n b' → bst b o b' → Q .non H'
def sp_l_item (_ : PySem.W.Frag) : Sp := fun vs H Q _ => ∃ a d X n b far, vs = [.ref a, .ref d, .int far] ∧ Bag H a ∧ BoxA H X d n b ∧ X a ∧ 0 ≤ b.hand ∧ b.hand < n ∧ n ≤ 1000000 ∧ (∀ x ∈ b.held, 0 ≤ x ∧ x < n) ∧ b.held.length ≤ 1000 ∧ 1 ≤ far ∧ far ≤ 1000000 ∧
  ∀ v o H', But a H H' → Bag H' a → OpV H' v o → okOp o → Q v H'
def sp_l_listed (_ : PySem.W.Frag) : Sp := fun vs H Q _ => ∃ a n s m, vs = [.ref a, .int n, .int s, .int m] ∧ Bag H a ∧ 1 ≤ n ∧ n ≤ 1000 ∧ 1 ≤ s ∧ s ≤ 100 ∧ 0 ≤ m ∧ m ≤ 100 ∧
  ∀ p q d ops b H', But a H H' → Bag H' a → H p = none → H' p = some (.tup [.ref q, .ref d]) → OpsM H' q ops → BoxA H' (eq1 a) d n b → Rel n s b ops → ops.length ≤ 400 → Q (.ref p) H'
def sp_l_whole_list (_ : PySem.W.Frag) : Sp := fun vs H Q _ => ∃ a n s, vs = [.ref a, .int n, .int s] ∧ Bag H a ∧ 1 ≤ n ∧ n ≤ 50 ∧ 1 ≤ s ∧ s ≤ 50 ∧
  ∀ p q d ops b H', But a H H' → Bag H' a → H p = none → H' p = some (.tup [.ref q, .ref d]) → OpsM H' q ops → BoxA H' (eq1 a) d n b → Rel n s b ops → ops.length ≤ 100000 → Q (.ref p) H'
def sp_l_least_k14 (_ : PySem.W.Frag) : Sp := fun vs H Q _ => ∃ n s, vs = [.int n, .int s] ∧ 1 ≤ n ∧ n ≤ 1000 ∧ 1 ≤ s ∧ s ≤ 100 ∧ ∀ H', Same H H' → Q (.int (ttI n s)) H'
def sp_l_told_right (K : PySem.W.Frag) : Sp := fun vs H Q _ => ∃ X n s q d ops b, vs = [.int n, .int s, .ref q, .ref d] ∧ Tsk K H n s q ops ∧ n ≤ 1000 ∧ BoxA H X d n b ∧ Rel n s b ops ∧ ∀ H', Same H H' → Q (.bl true) H'
def sp_l_right_k14 (_ : PySem.W.Frag) : Sp := fun vs H Q _ => ∃ a, vs = [.ref a] ∧ Bag H a ∧ ∀ H', But a H H' → Bag H' a → Q (.bl true) H'
def sp_law_k14 (K : PySem.W.Frag) : Sp := fun vs H Q _ => ∃ (a : Addr) (ns : List Int), vs = [.ref a] ∧ SqL K H a (ns.map V.int) ∧ ns.length ≤ 63 ∧ ∀ H', Q (.bl true) H'

theorem len_l_box (K : PySem.W.Frag) {vs : List V} {H : Hp} {Q : VK} {E : XK} (h : sp_l_box K vs H Q E) : vs.length = 1 := by
  obtain ⟨_, rfl, _⟩ := h
  rfl
theorem len_l_can (K : PySem.W.Frag) {vs : List V} {H : Hp} {Q : VK} {E : XK} (h : sp_l_can K vs H Q E) : vs.length = 3 := by
  obtain ⟨_, _, _, _, _, _, _, rfl, _⟩ := h
  rfl
theorem len_l_do (K : PySem.W.Frag) {vs : List V} {H : Hp} {Q : VK} {E : XK} (h : sp_l_do K vs H Q E) : vs.length = 2 := by
  obtain ⟨_, _, _, _, _, _, rfl, _⟩ := h
  rfl
theorem len_l_item (K : PySem.W.Frag) {vs : List V} {H : Hp} {Q : VK} {E : XK} (h : sp_l_item K vs H Q E) : vs.length = 3 := by
  obtain ⟨_, _, _, _, _, _, rfl, _⟩ := h
  rfl
theorem len_l_listed (K : PySem.W.Frag) {vs : List V} {H : Hp} {Q : VK} {E : XK} (h : sp_l_listed K vs H Q E) : vs.length = 4 := by
  obtain ⟨_, _, _, _, rfl, _⟩ := h
  rfl
theorem len_l_whole_list (K : PySem.W.Frag) {vs : List V} {H : Hp} {Q : VK} {E : XK} (h : sp_l_whole_list K vs H Q E) : vs.length = 3 := by
  obtain ⟨_, _, _, rfl, _⟩ := h
  rfl
theorem len_l_least_k14 (K : PySem.W.Frag) {vs : List V} {H : Hp} {Q : VK} {E : XK} (h : sp_l_least_k14 K vs H Q E) : vs.length = 2 := by
  obtain ⟨_, _, rfl, _⟩ := h
  rfl
theorem len_l_told_right (K : PySem.W.Frag) {vs : List V} {H : Hp} {Q : VK} {E : XK} (h : sp_l_told_right K vs H Q E) : vs.length = 4 := by
  obtain ⟨_, _, _, _, _, _, _, rfl, _⟩ := h
  rfl
theorem len_l_right_k14 (K : PySem.W.Frag) {vs : List V} {H : Hp} {Q : VK} {E : XK} (h : sp_l_right_k14 K vs H Q E) : vs.length = 1 := by
  obtain ⟨_, rfl, _⟩ := h
  rfl
theorem len_law_k14 (K : PySem.W.Frag) {vs : List V} {H : Hp} {Q : VK} {E : XK} (h : sp_law_k14 K vs H Q E) : vs.length = 1 := by
  obtain ⟨_, _, rfl, _⟩ := h
  rfl

/-- box: slots 0 l_size -/
abbrev n_l_box : List Str := ["_law_size"]
def t_l_box (K : PySem.W.Frag) : TS :=
  (tRet (tDisp (((tC (.str "size")), (tVar 0)) :: ((tC (.str "hand")), (tC (.int 0))) :: ((tC (.str "held")), (tLst (tCons (tC (.int 0)) tNil))) :: ((tC (.str "spent")), (tC (.int 0))) :: ((tC (.str "gone")), (tC (.int 0))) :: ((tC (.str "most")), (tC (.int 1))) :: ((tC (.str "goes")), (tLst tNil)) :: [])))
/-- can: slots 0 l_box_here, 1 l_room, 2 l_item_here -/
abbrev n_l_can : List Str := ["_law_box_here", "_law_room", "_law_item_here"]
def t_l_can (K : PySem.W.Frag) : TS :=
  (tSeq (tIfS (tTest (tOp rEq (tOp (rIxT K) (tVar 2) (tC (.int 0))) (tC (.str "go")))) (tRet (tOp oLt (tOp oAdd (tDGet (tVar 0) (tC (.str "hand"))) (tOp (rIxT K) (tVar 2) (tC (.int 1)))) (tDGet (tVar 0) (tC (.str "size"))))) tNext)
  (tSeq (tIfS (tTest (tOp rEq (tOp (rIxT K) (tVar 2) (tC (.int 0))) (tC (.str "keep")))) (tRet (tAndV (tOp (rIn K true) (tDGet (tVar 0) (tC (.str "hand"))) (tDGet (tVar 0) (tC (.str "held")))) (tOp oLt (tCB (oLen K) (tCons (tDGet (tVar 0) (tC (.str "held"))) tNil)) (tVar 1)))) tNext)
  (tSeq (tIfS (tTest (tOp rEq (tOp (rIxT K) (tVar 2) (tC (.int 0))) (tC (.str "back")))) (tRet (tAndV (tOp oLt (tDGet (tVar 0) (tC (.str "gone"))) (tDGet (tVar 0) (tC (.str "size")))) (tOp rEq (tDGet (tVar 0) (tC (.str "hand"))) (tOp oSub (tOp oSub (tDGet (tVar 0) (tC (.str "size"))) (tC (.int 1))) (tDGet (tVar 0) (tC (.str "gone"))))))) tNext)
  (tRet (tOp (rIn K false) (tOp (rIxT K) (tVar 2) (tC (.int 1))) (tDGet (tVar 0) (tC (.str "held"))))))))
/-- do: slots 0 l_box_here, 1 l_item_here, 2 l_some -/
abbrev n_l_do : List Str := ["_law_box_here", "_law_item_here", "_law_some"]
def t_l_do (K : PySem.W.Frag) : TS :=
  (tIfS (tTest (tOp rEq (tOp (rIxT K) (tVar 1) (tC (.int 0))) (tC (.str "go")))) (tSeq (sDPut (tVar 0) (tC (.str "goes")) (tOp rCat (tDGet (tVar 0) (tC (.str "goes"))) (tLst (tCons (tTup (tCons (tDGet (tVar 0) (tC (.str "hand"))) (tCons (tOp oAdd (tDGet (tVar 0) (tC (.str "hand"))) (tOp (rIxT K) (tVar 1) (tC (.int 1)))) tNil))) tNil))))
  (tSeq (sDPut (tVar 0) (tC (.str "hand")) (tOp oAdd (tDGet (tVar 0) (tC (.str "hand"))) (tOp (rIxT K) (tVar 1) (tC (.int 1)))))
  (sDPut (tVar 0) (tC (.str "spent")) (tOp oAdd (tDGet (tVar 0) (tC (.str "spent"))) (tOp (rIxT K) (tVar 1) (tC (.int 1))))))) (tIfS (tTest (tOp rEq (tOp (rIxT K) (tVar 1) (tC (.int 0))) (tC (.str "keep")))) (tSeq (sDPut (tVar 0) (tC (.str "held")) (tCB (rSortedI K) (tCons (tOp rCat (tDGet (tVar 0) (tC (.str "held"))) (tLst (tCons (tDGet (tVar 0) (tC (.str "hand"))) tNil))) tNil)))
  (sDPut (tVar 0) (tC (.str "most")) (tCB oMax2 (tCons (tDGet (tVar 0) (tC (.str "most"))) (tCons (tCB (oLen K) (tCons (tDGet (tVar 0) (tC (.str "held"))) tNil)) tNil))))) (tIfS (tTest (tOp rEq (tOp (rIxT K) (tVar 1) (tC (.int 0))) (tC (.str "take")))) (sDPut (tVar 0) (tC (.str "hand")) (tOp (rIxT K) (tVar 1) (tC (.int 1)))) (tIfS (tTest (tOp rEq (tOp (rIxT K) (tVar 1) (tC (.int 0))) (tC (.str "free")))) (sDPut (tVar 0) (tC (.str "held")) (tLc (iList K (tDGet (tVar 0) (tC (.str "held")))) (gName 2) (tTest (tOp rNe (tVar 2) (tOp (rIxT K) (tVar 1) (tC (.int 1))))) (tVar 2) [2])) (sDPut (tVar 0) (tC (.str "gone")) (tOp oAdd (tDGet (tVar 0) (tC (.str "gone"))) (tC (.int 1))))))))
/-- item: slots 0 l_bag_here, 1 l_box_here, 2 l_far, 3 l_way, 4 l_left, 5 l_held -/
abbrev n_l_item : List Str := ["_law_bag_here", "_law_box_here", "_law_far", "_law_way", "_law_left", "_law_held"]
def t_l_item (K : PySem.W.Frag) : TS :=
  (tSeq (tPar 3 4 (tCons (tCall (sp_l_pick K) [] E0 (tCons (tVar 0) (tCons (tC (.int 6)) tNil))) (tCons (tCB oMax2 (tCons (tC (.int 1)) (tCons (tOp oSub (tOp oSub (tDGet (tVar 1) (tC (.str "size"))) (tC (.int 1))) (tDGet (tVar 1) (tC (.str "hand")))) tNil))) tNil)))
  (tSeq (tAsg (tOp rCat (tDGet (tVar 1) (tC (.str "held"))) (tLst (tCons (tDGet (tVar 1) (tC (.str "hand"))) tNil))) (gName 5))
  (tSeq (tIfS (tTest (tOp oLt (tVar 3) (tC (.int 2)))) (tRet (tTup (tCons (tC (.str "go")) (tCons (tOp oAdd (tC (.int 1)) (tCall (sp_l_pick K) [] E0 (tCons (tVar 0) (tCons (tOp (rIxL K) (tLst (tCons (tCB oMin2 (tCons (tVar 4) (tCons (tC (.int 3)) tNil))) (tCons (tVar 4) tNil))) (tCall (sp_l_pick K) [] E0 (tCons (tVar 0) (tCons (tC (.int 2)) tNil)))) tNil)))) tNil)))) tNext)
  (tSeq (tIfS (tTest (tOp rEq (tVar 3) (tC (.int 2)))) (tRet (tTup (tCons (tC (.str "keep")) tNil))) tNext)
  (tSeq (tIfS (tTest (tOp rEq (tVar 3) (tC (.int 3)))) (tRet (tTup (tCons (tC (.str "take")) (tCons (tOp (rIxL K) (tVar 5) (tCall (sp_l_pick K) [] E0 (tCons (tVar 0) (tCons (tCB (oLen K) (tCons (tVar 5) tNil)) tNil)))) tNil)))) tNext)
  (tSeq (tIfS (tAnd (tTest (tOp rEq (tVar 3) (tC (.int 4)))) (tTest (tOp rEq (tCall (sp_l_pick K) [] E0 (tCons (tVar 0) (tCons (tC (.int 3)) tNil))) (tC (.int 0))))) (tRet (tTup (tCons (tC (.str "free")) (tCons (tOp (rIxL K) (tVar 5) (tCall (sp_l_pick K) [] E0 (tCons (tVar 0) (tCons (tCB (oLen K) (tCons (tVar 5) tNil)) tNil)))) tNil)))) tNext)
  (tSeq (tIfS (tTest (tOp rEq (tVar 3) (tC (.int 4)))) (tRet (tTup (tCons (tC (.str "go")) (tCons (tCB oMin2 (tCons (tVar 4) (tCons (tVar 2) tNil))) tNil)))) tNext)
  (tRet (tTup (tCons (tC (.str "back")) tNil))))))))))
/-- listed: slots 0 l_bag_here, 1 l_size, 2 l_room, 3 l_many, 4 l_box_here, 5 l_found, 6 l_turn, 7 l_item_here -/
abbrev n_l_listed : List Str := ["_law_bag_here", "_law_size", "_law_room", "_law_many", "_law_box_here", "_law_found", "_law_turn", "_law_item_here"]
def t_l_listed (K : PySem.W.Frag) : TS :=
  (tSeq (tPar 4 5 (tCons (tCall (sp_l_box K) [] E0 (tCons (tVar 1) tNil)) (tCons (tLst tNil) tNil)))
  (tSeq (tFor (iRng1 (tCons (tVar 3) tNil)) (gName 6)
  (tSeq (tAsg (tCall (sp_l_item K) [] E0 (tCons (tVar 0) (tCons (tVar 4) (tCons (tVar 1) tNil)))) (gName 7))
  (tIfS (tB (tCall (sp_l_can K) [] E0 (tCons (tVar 4) (tCons (tVar 2) (tCons (tVar 7) tNil))))) (tSeq (tDrop (tBM K "list" rAppend (tVar 5) (tCons (tVar 7) tNil)))
  (tDrop (tCall (sp_l_do K) [] E0 (tCons (tVar 4) (tCons (tVar 7) tNil))))) tNext)))
  (tRet (tTup (tCons (tVar 5) (tCons (tVar 4) tNil))))))
/-- whole_list: slots 0 l_bag_here, 1 l_size, 2 l_room, 3 l_box_here, 4 l_found, 5 l_aim, 6 l_item_here, 7 l_below, 8 l_above, 9 l_some -/
abbrev n_l_whole_list : List Str := ["_law_bag_here", "_law_size", "_law_room", "_law_box_here", "_law_found", "_law_aim", "_law_item_here", "_law_below", "_law_above", "_law_some"]
def t_l_whole_list (K : PySem.W.Frag) : TS :=
  (tSeq (tPar 3 4 (tCons (tCall (sp_l_box K) [] E0 (tCons (tVar 1) tNil)) (tCons (tLst tNil) tNil)))
  (tSeq (tWhile (tTest (tOp oLt (tDGet (tVar 3) (tC (.str "gone"))) (tVar 1)))
  (tSeq (tAsg (tOp oSub (tOp oSub (tVar 1) (tC (.int 1))) (tDGet (tVar 3) (tC (.str "gone")))) (gName 5))
  (tSeq (tIfS (tTest (tOp rEq (tDGet (tVar 3) (tC (.str "hand"))) (tVar 5))) (tAsg (tTup (tCons (tC (.str "back")) tNil)) (gName 6)) (tIfS (tTest (tOp oGt (tDGet (tVar 3) (tC (.str "hand"))) (tVar 5))) (tSeq (tAsg (tLc (iList K (tDGet (tVar 3) (tC (.str "held")))) (gName 9) (tTest (tOp oLe (tVar 9) (tVar 5))) (tVar 9) [9]) (gName 7))
  (tSeq (tAsg (tLc (iList K (tDGet (tVar 3) (tC (.str "held")))) (gName 9) (tTest (tOp oGt (tVar 9) (tVar 5))) (tVar 9) [9]) (gName 8))
  (tSeq (tAsg (tTup (tCons (tC (.str "take")) (tCons (tOp (rIxL K) (tVar 7) (tOp oSub (tUn uNeg (tC (.int 1))) (tCB oMin2 (tCons (tOp oDivP (tCall (sp_l_pick K) [] E0 (tCons (tVar 0) (tCons (tC (.int 4)) tNil))) (tC (.int 3))) (tCons (tOp oSub (tCB (oLen K) (tCons (tVar 7) tNil)) (tC (.int 1))) tNil))))) tNil))) (gName 6))
  (tIfS (tAnd (tTest (tOp (rNeD K) (tVar 8) (tLst tNil))) (tTest (tOp rEq (tCall (sp_l_pick K) [] E0 (tCons (tVar 0) (tCons (tC (.int 2)) tNil))) (tC (.int 0))))) (tAsg (tTup (tCons (tC (.str "free")) (tCons (tOp (rIxL K) (tVar 8) (tUn uNeg (tC (.int 1)))) tNil))) (gName 6)) tNext)))) (tSeq (tAsg (tTup (tCons (tC (.str "go")) (tCons (tOp oAdd (tC (.int 1)) (tCall (sp_l_pick K) [] E0 (tCons (tVar 0) (tCons (tOp oSub (tVar 5) (tDGet (tVar 3) (tC (.str "hand")))) tNil)))) tNil))) (gName 6))
  (tSeq (tIfS (tTest (tOp rEq (tCall (sp_l_pick K) [] E0 (tCons (tVar 0) (tCons (tC (.int 2)) tNil))) (tC (.int 0)))) (tAsg (tTup (tCons (tC (.str "go")) (tCons (tOp oSub (tVar 5) (tDGet (tVar 3) (tC (.str "hand")))) tNil))) (gName 6)) tNext)
  (tIfS (tAnd (tB (tCall (sp_l_can K) [] E0 (tCons (tVar 3) (tCons (tVar 2) (tCons (tTup (tCons (tC (.str "keep")) tNil)) tNil))))) (tTest (tOp oGt (tCall (sp_l_pick K) [] E0 (tCons (tVar 0) (tCons (tC (.int 3)) tNil))) (tC (.int 0))))) (tAsg (tTup (tCons (tC (.str "keep")) tNil)) (gName 6)) tNext)))))
  (tSeq (tDrop (tBM K "list" rAppend (tVar 4) (tCons (tVar 6) tNil)))
  (tDrop (tCall (sp_l_do K) [] E0 (tCons (tVar 3) (tCons (tVar 6) tNil))))))))
  (tRet (tTup (tCons (tVar 4) (tCons (tVar 3) tNil))))))
/-- least: slots 0 l_size, 1 l_room, 2 l_row, 3 l_turn, 4 l_later, 5 l_many, 6 l_part -/
abbrev n_l_least_k14 : List Str := ["_law_size", "_law_room", "_law_row", "_law_turn", "_law_later", "_law_many", "_law_part"]
def t_l_least_k14 (K : PySem.W.Frag) : TS :=
  (tSeq (tAsg (tLc (iRng1 (tCons (tOp oAdd (tVar 0) (tC (.int 1))) tNil)) (gName 5) tYes (tOp oDivP (tOp oMulA (tVar 5) (tOp oSub (tVar 5) (tC (.int 1)))) (tC (.int 2))) [5]) (gName 2))
  (tSeq (tFor (iRng1 (tCons (tOp oSub (tVar 1) (tC (.int 1))) tNil)) (gName 3)
  (tSeq (tAsg (tLst (tCons (tC (.int 0)) (tCons (tC (.int 0)) tNil))) (gName 4))
  (tSeq (tFor (iRng2 (tCons (tC (.int 2)) (tCons (tOp oAdd (tVar 0) (tC (.int 1))) tNil))) (gName 5)
  (tDrop (tBM K "list" rAppend (tVar 4) (tCons (tCB (rMin K) (tCons (tLc (iRng2 (tCons (tC (.int 1)) (tCons (tVar 5) tNil))) (gName 6) tYes (tOp oAdd (tOp oAdd (tVar 6) (tOp (rIxL K) (tVar 2) (tOp oSub (tVar 5) (tVar 6)))) (tOp (rIxL K) (tVar 4) (tVar 6))) [6]) tNil)) tNil))))
  (tAsg (tSl (rSlL K) (tVar 4) tNoPart (tPart (tOp oAdd (tVar 0) (tC (.int 1))))) (gName 2)))))
  (tRet (tOp (rIxL K) (tVar 2) (tVar 0)))))
/-- told_right: slots 0 l_size, 1 l_room, 2 l_items, 3 l_box_here, 4 l_passed, 5 l_is_all, 6 l_told, 7 l_extra, 8 l_behind, 9 l_number, 10 l_due, 11 l_low, 12 l_high -/
abbrev n_l_told_right : List Str := ["_law_size", "_law_room", "_law_items", "_law_box_here", "_law_passed", "_law_is_all", "_law_told", "_law_extra", "_law_behind", "_law_number", "_law_due", "_law_low", "_law_high"]
def t_l_told_right (K : PySem.W.Frag) : TS :=
  (tSeq (tPar 4 5 (tCons (tCB (oList K) (tCons (tVar 2) tNil)) (tCons (tOp rEq (tDGet (tVar 3) (tC (.str "gone"))) (tVar 0)) tNil)))
  (tSeq (tAsg (tLst (tCons (tCall (sp_first_wrong K) [] E0 (tCons (tVar 0) (tCons (tVar 1) (tCons (tVar 4) tNil)))) (tCons (tCall (sp_steps_of K) [] E0 (tCons (tVar 0) (tCons (tVar 1) (tCons (tVar 4) tNil)))) (tCons (tCall (sp_backs_of K) [] E0 (tCons (tVar 0) (tCons (tVar 1) (tCons (tVar 4) tNil)))) tNil)))) (gName 6))
  (tSeq (tIfS (tTest (tOp rNe (tCB (oReprD K) (tCons (tVar 6) tNil)) (tCB (oReprD K) (tCons (tLst (tCons (tC .non) (tCons (tDGet (tVar 3) (tC (.str "spent"))) (tCons (tDGet (tVar 3) (tC (.str "gone"))) tNil)))) tNil)))) (tRet (tC (.bl false))) tNext)
  (tSeq (tAsg (tIf (tB (tVar 5)) (tOp oSub (tDGet (tVar 3) (tC (.str "spent"))) (tCall (sp_l_least_k14 K) [] E0 (tCons (tVar 0) (tCons (tVar 1) tNil)))) (tC .non)) (gName 7))
  (tSeq (tAsg (tLst (tCons (tCall (sp_is_complete K) [] E0 (tCons (tVar 0) (tCons (tVar 1) (tCons (tVar 4) tNil)))) (tCons (tCall (sp_extra_steps K) [] E0 (tCons (tVar 0) (tCons (tVar 1) (tCons (tVar 4) tNil)))) (tCons (tCall (sp_most_kept K) [] E0 (tCons (tVar 0) (tCons (tVar 1) (tCons (tVar 4) tNil)))) tNil)))) (gName 6))
  (tSeq (tIfS (tTest (tOp rNe (tCB (oReprD K) (tCons (tVar 6) tNil)) (tCB (oReprD K) (tCons (tLst (tCons (tVar 5) (tCons (tVar 7) (tCons (tDGet (tVar 3) (tC (.str "most"))) tNil)))) tNil)))) (tRet (tC (.bl false))) tNext)
  (tSeq (tAsg (tCall (sp_kept_behind K) [] E0 (tCons (tVar 0) (tCons (tVar 1) (tCons (tVar 4) tNil)))) (gName 8))
  (tSeq (tIfS (tTest (tOp rNe (tCB (oReprD K) (tCons (tVar 8) tNil)) (tCB (oReprD K) (tCons (tTup (tCons (tDGet (tVar 3) (tC (.str "hand"))) (tCons (tDGet (tVar 3) (tC (.str "held"))) tNil))) tNil)))) (tRet (tC (.bl false))) tNext)
  (tSeq (tDrop (tBM K "list" rAppend (tOp (rIxT K) (tVar 8) (tC (.int 1))) (tCons (tC .non) tNil)))
  (tSeq (tFor (iRng1 (tCons (tOp oSub (tVar 0) (tC (.int 1))) tNil)) (gName 9)
  (tSeq (tAsg (tCB (oLen K) (tCons (tLc (iList K (tDGet (tVar 3) (tC (.str "goes")))) (gTup K 2 (gCons (gName 11) (gCons (gName 12) gNil))) (tTest (tChain oLe oLt (tVar 11) (tVar 9) (tVar 12))) (tC (.int 1)) [11, 12]) tNil)) (gName 10))
  (tIfS (tTest (tOp rNe (tCB oRepr (tCons (tCall (sp_times_in K) [] E0 (tCons (tVar 0) (tCons (tVar 1) (tCons (tVar 4) (tCons (tVar 9) tNil))))) tNil)) (tCB oRepr (tCons (tVar 10) tNil)))) (tRet (tC (.bl false))) tNext)))
  (tRet (tAndV (tOp (rEqD K) (tVar 4) (tVar 2)) (tOp (rEqD K) (tCall (sp_kept_behind K) [] E0 (tCons (tVar 0) (tCons (tVar 1) (tCons (tVar 2) tNil)))) (tTup (tCons (tDGet (tVar 3) (tC (.str "hand"))) (tCons (tDGet (tVar 3) (tC (.str "held"))) tNil))))))))))))))))
/-- right: slots 0 l_bag_here, 1 l_size, 2 l_room, 3 l_items, 4 l_box_here, 5 l_part, 6 l_item_here -/
abbrev n_l_right_k14 : List Str := ["_law_bag_here", "_law_size", "_law_room", "_law_items", "_law_box_here", "_law_part", "_law_item_here"]
def t_l_right_k14 (K : PySem.W.Frag) : TS :=
  (tSeq (tPar 1 2 (tCons (tOp oAdd (tC (.int 1)) (tCall (sp_l_pick K) [] E0 (tCons (tVar 0) (tCons (tC (.int 12)) tNil)))) (tCons (tOp oAdd (tC (.int 1)) (tCall (sp_l_pick K) [] E0 (tCons (tVar 0) (tCons (tC (.int 5)) tNil)))) tNil)))
  (tSeq (tAsg (tCall (sp_l_listed K) [] E0 (tCons (tVar 0) (tCons (tVar 1) (tCons (tVar 2) (tCons (tCall (sp_l_pick K) [] E0 (tCons (tVar 0) (tCons (tC (.int 61)) tNil))) tNil))))) (gTup K 2 (gCons (gName 3) (gCons (gName 4) gNil))))
  (tSeq (tIfS (tNot (tB (tCall (sp_l_told_right K) [] E0 (tCons (tVar 1) (tCons (tVar 2) (tCons (tVar 3) (tCons (tVar 4) tNil))))))) (tRet (tC (.bl false))) tNext)
  (tSeq (tAsg (tCall (sp_l_whole_list K) [] E0 (tCons (tVar 0) (tCons (tVar 1) (tCons (tVar 2) tNil)))) (gTup K 2 (gCons (gName 3) (gCons (gName 4) gNil))))
  (tSeq (tIfS (tTest (tOp oGt (tCB (oLen K) (tCons (tVar 3) tNil)) (tC (.int 400)))) (tRet (tC (.bl true))) tNext)
  (tSeq (tIfS (tNot (tB (tCall (sp_l_told_right K) [] E0 (tCons (tVar 1) (tCons (tVar 2) (tCons (tVar 3) (tCons (tVar 4) tNil))))))) (tRet (tC (.bl false))) tNext)
  (tSeq (tPar 4 5 (tCons (tCall (sp_l_box K) [] E0 (tCons (tVar 1) tNil)) (tCons (tSl (rSlL K) (tVar 3) tNoPart (tPart (tCall (sp_l_pick K) [] E0 (tCons (tVar 0) (tCons (tOp oAdd (tCB (oLen K) (tCons (tVar 3) tNil)) (tC (.int 1))) tNil))))) tNil)))
  (tSeq (tFor (iList K (tVar 5)) (gName 6)
  (tDrop (tCall (sp_l_do K) [] E0 (tCons (tVar 4) (tCons (tVar 6) tNil)))))
  (tRet (tCall (sp_l_told_right K) [] E0 (tCons (tVar 1) (tCons (tVar 2) (tCons (tVar 5) (tCons (tVar 4) tNil))))))))))))))
/-- law: slots 0 l_script, 1 l_cell, 2 l_bag_here, 3 l_turn, 4 l_some, 5 l_begun -/
abbrev n_law_k14 : List Str := ["_law_script", "_law_cell", "_law_bag_here", "_law_turn", "_law_some", "_law_begun"]
def t_law_k14 (K : PySem.W.Frag) : TS :=
  (tSeq (tFor (iList K (tOp rCat (tSl (rSlL K) (tVar 0) tNoPart (tPart (tC (.int 6)))) (tLst (tCons (tC (.int 0)) tNil)))) (gName 1)
  (tSeq (tAsg (tCall (sp_l_bag K) [] E0 (tCons (tVar 1) tNil)) (gName 2))
  (tFor (iRng1 (tCons (tC (.int 4)) tNil)) (gName 3)
  (tIfS (tNot (tB (tCall (sp_l_right_k14 K) [] E0 (tCons (tVar 2) tNil)))) (tRet (tC (.bl false))) tNext))))
  (tSeq (tAsg (tLst (tCons (tTup (tCons (tC (.str "go")) (tCons (tC (.int 1)) tNil))) (tCons (tTup (tCons (tC (.str "back")) tNil)) (tCons (tTup (tCons (tC (.str "take")) (tCons (tC (.int 0)) tNil))) (tCons (tTup (tCons (tC (.str "back")) tNil)) tNil))))) (gName 4))
  (tSeq (tIfS (tOr (tNot (tB (tCall (sp_is_complete K) [] E0 (tCons (tC (.int 2)) (tCons (tC (.int 1)) (tCons (tVar 4) tNil)))))) (tOr (tTest (tOp rNe (tCall (sp_extra_steps K) [] E0 (tCons (tC (.int 2)) (tCons (tC (.int 1)) (tCons (tVar 4) tNil)))) (tC (.int 0)))) (tNot (tB (tCall (sp_is_complete K) [] E0 (tCons (tC (.int 1)) (tCons (tC (.int 1)) (tCons (tLst (tCons (tTup (tCons (tC (.str "back")) tNil)) tNil)) tNil)))))))) (tRet (tC (.bl false))) tNext)
  (tSeq (tAsg (tLst (tCons (tTup (tCons (tC (.str "go")) (tCons (tC (.int 4)) tNil))) (tCons (tTup (tCons (tC (.str "keep")) tNil)) (tCons (tTup (tCons (tC (.str "go")) (tCons (tC (.int 4)) tNil))) (tCons (tTup (tCons (tC (.str "back")) tNil)) (tCons (tTup (tCons (tC (.str "take")) (tCons (tC (.int 4)) tNil))) (tCons (tTup (tCons (tC (.str "free")) (tCons (tC (.int 4)) tNil))) (tCons (tTup (tCons (tC (.str "go")) (tCons (tC (.int 3)) tNil))) tNil)))))))) (gName 5))
  (tRet (tAndV (tOp (rEqD K) (tCall (sp_kept_behind K) [] E0 (tCons (tC (.int 9)) (tCons (tC (.int 2)) (tCons (tVar 5) tNil)))) (tTup (tCons (tC (.int 7)) (tCons (tLst (tCons (tC (.int 0)) tNil)) tNil)))) (tAndV (tOp rEq (tCall (sp_times_in K) [] E0 (tCons (tC (.int 9)) (tCons (tC (.int 2)) (tCons (tVar 5) (tCons (tC (.int 5)) tNil))))) (tC (.int 2))) (tOp rEq (tCall (sp_steps_of K) [] E0 (tCons (tC (.int 9)) (tCons (tC (.int 2)) (tCons (tLst tNil) tNil)))) (tC (.int 0))))))))))

end Bs

namespace Bs
open PySem PySem.Spec L2 Bm Bl
open PyProof.Rows hiding St
/-! ### the box, read and stored -/
section
variable {H : Hp} {Q : VK} {N : Hp → Prop} {σ : L2.St} {d l gl l' gl' : Addr} {n h c g m h' c' g' m' : Int} {tk tv : TE} {trs : List (TE × TE)}
theorem bx_len : (bx n h l c g m gl).length < 100000 := by show 7 < 100000; decide
theorem dg_size (e : H d = some (.dK (bx n h l c g m gl))) (q : Q (.int n) H) : DGr (.ref d) (.str "size") H Q := r_getD (k := "size") e (by kernel_rfl) q
theorem dg_hand (e : H d = some (.dK (bx n h l c g m gl))) (q : Q (.int h) H) : DGr (.ref d) (.str "hand") H Q := r_getD (k := "hand") e (by kernel_rfl) q
theorem dp_hand (e : H d = some (.dK (bx n h l c g m gl))) (q : N (upd H d (.dK (bx n h' l c g m gl)))) : DPr (.ref d) (.str "hand") (.int h') H N := r_putD (k := "hand") e bx_len (by kernel_rfl) q
theorem dg_held (e : H d = some (.dK (bx n h l c g m gl))) (q : Q (.ref l) H) : DGr (.ref d) (.str "held") H Q := r_getD (k := "held") e (by kernel_rfl) q
theorem dp_held (e : H d = some (.dK (bx n h l c g m gl))) (q : N (upd H d (.dK (bx n h l' c g m gl)))) : DPr (.ref d) (.str "held") (.ref l') H N := r_putD (k := "held") e bx_len (by kernel_rfl) q
theorem dg_spent (e : H d = some (.dK (bx n h l c g m gl))) (q : Q (.int c) H) : DGr (.ref d) (.str "spent") H Q := r_getD (k := "spent") e (by kernel_rfl) q
theorem dp_spent (e : H d = some (.dK (bx n h l c g m gl))) (q : N (upd H d (.dK (bx n h l c' g m gl)))) : DPr (.ref d) (.str "spent") (.int c') H N := r_putD (k := "spent") e bx_len (by kernel_rfl) q
theorem dg_gone (e : H d = some (.dK (bx n h l c g m gl))) (q : Q (.int g) H) : DGr (.ref d) (.str "gone") H Q := r_getD (k := "gone") e (by kernel_rfl) q
theorem dp_gone (e : H d = some (.dK (bx n h l c g m gl))) (q : N (upd H d (.dK (bx n h l c g' m gl)))) : DPr (.ref d) (.str "gone") (.int g') H N := r_putD (k := "gone") e bx_len (by kernel_rfl) q
theorem dg_most (e : H d = some (.dK (bx n h l c g m gl))) (q : Q (.int m) H) : DGr (.ref d) (.str "most") H Q := r_getD (k := "most") e (by kernel_rfl) q
theorem dp_most (e : H d = some (.dK (bx n h l c g m gl))) (q : N (upd H d (.dK (bx n h l c g m' gl)))) : DPr (.ref d) (.str "most") (.int m') H N := r_putD (k := "most") e bx_len (by kernel_rfl) q
theorem dg_goes (e : H d = some (.dK (bx n h l c g m gl))) (q : Q (.ref gl) H) : DGr (.ref d) (.str "goes") H Q := r_getD (k := "goes") e (by kernel_rfl) q
theorem dp_goes (e : H d = some (.dK (bx n h l c g m gl))) (q : N (upd H d (.dK (bx n h l c g m gl')))) : DPr (.ref d) (.str "goes") (.ref gl') H N := r_putD (k := "goes") e bx_len (by kernel_rfl) q
theorem r_disp (h : ∀ p, H p = none → tPairs trs σ (upd H p (.dK [])) fun ps H2 => H2 p = some (.dK []) ∧ ∃ kvs : List (Key × V), ps = kvs.map (fun kv => (kV kv.1, kv.2)) ∧ kvs.length ≤ 15 ∧ Q (.ref p) (upd H2 p (.dK (mergeK [] kvs)))) : tDisp trs σ H Q := h
theorem r_pnil {R : List (V × V) → Hp → Prop} (h : R [] H) : tPairs [] σ H R := h
theorem r_pcons {R : List (V × V) → Hp → Prop} (h : tk σ H fun x H1 => tv σ H1 fun y H2 => tPairs trs σ H2 fun ps H3 => R ((x, y) :: ps) H3) : tPairs ((tk, tv) :: trs) σ H R := h
end
end Bs

namespace Bs
open PySem PySem.Spec L2
open PyProof.Rows hiding St
/-- a statement by itself: what comes after it is held by J, its ends are any -/
theorem r_cut {D : Ends} {σ : L2.St} {H : Hp} {t u : TS} (J : L2.St → Hp → Prop) (h : ∀ D' : Ends, (∀ σ' H', J σ' H' → D'.nx σ' H') → t D' σ H) (rest : ∀ σ' H', J σ' H' → u D σ' H') : tSeq t u D σ H := h { D with nx := u D } rest
/-- the last statement by itself -/
theorem r_cut1 {D : Ends} {σ : L2.St} {H : Hp} {t : TS} (J : L2.St → Hp → Prop) (h : ∀ D' : Ends, (∀ σ' H', J σ' H' → D'.nx σ' H') → t D' σ H) (rest : ∀ σ' H', J σ' H' → D.nx σ' H') : t D σ H := h D rest
end Bs

namespace Bs
open PySem PySem.Spec L2 Bm Bl
open PyProof.Rows hiding St
/-! ### repr of small data; == of lists of operations -/
theorem r_reprB {K : PySem.W.Frag} {H : Hp} {Q : VK} {p : Addr} {d : PyData} (dp : Dp K H (.ref p) d) (h1 : d.showable = true) (h2 : d.hasDict = false) (h3 : d.depth ≤ 50) (h4 : d.leavesShort 1921 = true) (h5 : d.bulk ≤ 8000) (q : Q (.str d.shown) H) : oReprD K [.ref p] H Q := by
  refine r_reprD dp h1 h2 h3 ?_ q
  have := PyData.shown_le_bulk 1921 (by decide) d h4
  rw [sizeLine_eq]
  omega
structure Flat (v : V) (d : PyData) : Prop where
  dp : ∀ (K : PySem.W.Frag) (H : Hp), Dp K H v d
  sh : d.showable = true
  hd : d.hasDict = false
  de : d.depth = 0
  ls : d.leavesShort 1921 = true
  bu : d.bulk = 0
theorem small_log {i : Int} (h : i.natAbs < 2 ^ 200) : i.natAbs.log2 < 1920 := Nat.lt_of_lt_of_le (PySem.Flt.log2_lt_of (k := 200) (by decide) h) (by decide)
theorem Flat.int {i : Int} (h : i.natAbs < 2 ^ 200) : Flat (.int i) (.int i) := ⟨fun _ _ => .int i, decide_eq_true (small_log h), rfl, rfl, decide_eq_true (int_text_len_1921 (small_log h)), rfl⟩
theorem Flat.non : Flat .non .none := ⟨fun _ _ => .non, rfl, rfl, rfl, rfl, rfl⟩
theorem Flat.bl (b : Bool) : Flat (.bl b) (.bool b) := ⟨fun _ _ => .bl b, rfl, rfl, rfl, rfl, rfl⟩
theorem r_repr3 {K : PySem.W.Frag} {H : Hp} {Q : VK} {p : Addr} {x y z : V} {dx dy dz : PyData} (h : H p = some (.lst [x, y, z])) (fx : Flat x dx) (fy : Flat y dy) (fz : Flat z dz) (q : Q (.str (PyData.shown (.list [dx, dy, dz]))) H) : oReprD K [.ref p] H Q := by
  refine r_reprB (d := .list [dx, dy, dz]) (.lst (SqL.of h) (.cons (fx.dp K H) (.cons (fy.dp K H) (.cons (fz.dp K H) .nil)))) ?_ ?_ ?_ ?_ ?_ q
  · show (dx.showable && (dy.showable && (dz.showable && true))) = true
    rw [fx.sh, fy.sh, fz.sh]
    rfl
  · show (dx.hasDict || (dy.hasDict || (dz.hasDict || false))) = false
    rw [fx.hd, fy.hd, fz.hd]
    rfl
  · show max dx.depth (max dy.depth (max dz.depth 0)) + 1 ≤ 50
    rw [fx.de, fy.de, fz.de]
    decide
  · show (dx.leavesShort 1921 && (dy.leavesShort 1921 && (dz.leavesShort 1921 && true))) = true
    rw [fx.ls, fy.ls, fz.ls]
    rfl
  · show dx.bulk + 1 + (dy.bulk + 1 + (dz.bulk + 1 + 0)) ≤ 8000
    rw [fx.bu, fy.bu, fz.bu]
    decide
theorem all_ints {ns : List Int} (h : ∀ x ∈ ns, x.natAbs < 2 ^ 200) : PyData.showableAll (ns.map PyData.int) = true ∧ PyData.hasDictAll (ns.map PyData.int) = false ∧ PyData.leavesShortAll 1921 (ns.map PyData.int) = true ∧ PyData.bulkAll (ns.map PyData.int) = ns.length := by
  induction ns with
  | nil => exact ⟨rfl, rfl, rfl, rfl⟩
  | cons n ns ih =>
    obtain ⟨a, b, c, d⟩ := ih (fun x hx => h x (List.mem_cons_of_mem _ hx))
    have f := Flat.int (h n List.mem_cons_self)
    refine ⟨?_, ?_, ?_, ?_⟩
    · show (PyData.showable (.int n) && PyData.showableAll (ns.map PyData.int)) = true
      rw [a, f.sh]
      rfl
    · show (PyData.hasDict (.int n) || PyData.hasDictAll (ns.map PyData.int)) = false
      rw [b]
      rfl
    · show (PyData.leavesShort 1921 (.int n) && PyData.leavesShortAll 1921 (ns.map PyData.int)) = true
      rw [c, f.ls]
      rfl
    · show PyData.bulk (.int n) + 1 + PyData.bulkAll (ns.map PyData.int) = ns.length + 1
      rw [d]
      show 0 + 1 + ns.length = ns.length + 1
      omega
/-- a state and a list of states -/
theorem r_reprHL {K : PySem.W.Frag} {H : Hp} {Q : VK} {p l : Addr} {h : Int} {ns : List Int} (e : H p = some (.tup [.int h, .ref l])) (e2 : H l = some (.lst (ns.map V.int))) (h1 : h.natAbs < 2 ^ 200) (h2 : ∀ x ∈ ns, x.natAbs < 2 ^ 200) (h3 : ns.length ≤ 1000)
    (q : Q (.str (PyData.shown (.tuple [.int h, .list (ns.map PyData.int)]))) H) : oReprD K [.ref p] H Q := by
  obtain ⟨a, b, c, d⟩ := all_ints h2
  have f := Flat.int h1
  refine r_reprB (d := .tuple [.int h, .list (ns.map PyData.int)]) (.tup (SqT.of e) (.cons (.int h) (.cons (dp_ints (SqL.of e2)) .nil))) ?_ ?_ ?_ ?_ ?_ q
  · show (PyData.showable (.int h) && (PyData.showableAll (ns.map PyData.int) && true)) = true
    rw [a, f.sh]
    rfl
  · show (PyData.hasDict (.int h) || (PyData.hasDictAll (ns.map PyData.int) || false)) = false
    rw [b]
    rfl
  · show max 0 (max (PyData.depthAll (ns.map PyData.int) + 1) 0) + 1 ≤ 50
    rw [depthAll_ints]
    decide
  · show (PyData.leavesShort 1921 (.int h) && (PyData.leavesShortAll 1921 (ns.map PyData.int) && true)) = true
    rw [c, f.ls]
    rfl
  · show 0 + 1 + (PyData.bulkAll (ns.map PyData.int) + 1 + 0) ≤ 8000
    rw [d]
    omega
theorem r_eqHL {K : PySem.W.Frag} {H : Hp} {Q : VK} {p l p' l' : Addr} {h : Int} {ns : List Int} (e : H p = some (.tup [.int h, .ref l])) (e2 : H l = some (.lst (ns.map V.int))) (e' : H p' = some (.tup [.int h, .ref l'])) (e2' : H l' = some (.lst (ns.map V.int))) (q : Q (.bl true) H) : rEqD K (.ref p) (.ref p') H Q := by
  have sh : SeqAt.shaped (.tuple [.int h, .list (ns.map PyData.int)]) = true := by
    unfold SeqAt.shaped
    rw [Bool.and_eq_true]
    refine ⟨?_, decide_eq_true ?_⟩
    · show (true && (PyData.canLayAll0 (ns.map PyData.int) && true)) = true
      rw [canAll_ints]
      rfl
    · show max 0 (max (PyData.depthAll (ns.map PyData.int) + 1) 0) + 1 ≤ 64
      rw [depthAll_ints]
      decide
  refine ⟨_, _, .tup (SqT.of e) (.cons (.int h) (.cons (dp_ints (SqL.of e2)) .nil)), .tup (SqT.of e') (.cons (.int h) (.cons (dp_ints (SqL.of e2')) .nil)), sh, sh, ?_⟩
  show Q (.bl ((h == h) && (PyData.eqvAll (ns.map PyData.int) (ns.map PyData.int) && true))) H
  rw [eqvAll_ints, decide_eq_true rfl, beq_self_eq_true]
  exact q
theorem eqv_op (o : Op) : PyData.eqv (encD o) (encD o) = true := by
  cases o with
  | go k => show ((("go" : Str) == "go") && ((k == k) && true)) = true; rw [beq_self_eq_true, beq_self_eq_true]; rfl
  | keep => show ((("keep" : Str) == "keep") && true) = true; rw [beq_self_eq_true]; rfl
  | take x => show ((("take" : Str) == "take") && ((x == x) && true)) = true; rw [beq_self_eq_true, beq_self_eq_true]; rfl
  | free x => show ((("free" : Str) == "free") && ((x == x) && true)) = true; rw [beq_self_eq_true, beq_self_eq_true]; rfl
  | back => show ((("back" : Str) == "back") && true) = true; rw [beq_self_eq_true]; rfl
theorem ops_data : ∀ ops : List Op, PyData.eqvAll (ops.map encD) (ops.map encD) = true ∧ PyData.canLayAll0 (ops.map encD) = true ∧ PyData.depthAll (ops.map encD) ≤ 1
  | [] => ⟨rfl, rfl, Nat.zero_le _⟩
  | o :: ops => by
    obtain ⟨a, b, c⟩ := ops_data ops
    refine ⟨?_, ?_, ?_⟩
    · show (PyData.eqv (encD o) (encD o) && PyData.eqvAll (ops.map encD) (ops.map encD)) = true
      rw [eqv_op, a]
      rfl
    · show (PyData.canLay0 (encD o) && PyData.canLayAll0 (ops.map encD)) = true
      rw [b]
      cases o <;> kernel_rfl
    · show max (PyData.depth (encD o)) (PyData.depthAll (ops.map encD)) ≤ 1
      have : PyData.depth (encD o) = 1 := by cases o <;> rfl
      omega
theorem dpa_ops {K : PySem.W.Frag} {H : Hp} : ∀ {vs : List V} {ops : List Op}, OpsV H vs ops → DpAll K H vs (ops.map encD)
  | [], [], _ => .nil
  | v :: vs, o :: ops, h => .cons (dp_op h.1) (dpa_ops h.2)
  | [], _ :: _, h => h.elim
  | _ :: _, [], h => h.elim
theorem r_eqOps {K : PySem.W.Frag} {H : Hp} {Q : VK} {p p' : Addr} {ops : List Op} (h : OpsAt K H p ops) (h' : OpsAt K H p' ops) (q : Q (.bl true) H) : rEqD K (.ref p) (.ref p') H Q := by
  obtain ⟨vs, h1, h2⟩ := h
  obtain ⟨vs', h1', h2'⟩ := h'
  obtain ⟨a, b, c⟩ := ops_data ops
  have sh : SeqAt.shaped (.list (ops.map encD)) = true := by
    unfold SeqAt.shaped
    rw [Bool.and_eq_true]
    refine ⟨b, decide_eq_true ?_⟩
    show PyData.depthAll (ops.map encD) + 1 ≤ 64
    omega
  refine ⟨_, _, .lst h1 (dpa_ops h2), .lst h1' (dpa_ops h2'), sh, sh, ?_⟩
  show Q (.bl (PyData.eqvAll (ops.map encD) (ops.map encD))) H
  rw [a]
  exact q
end Bs

namespace Bs
open PySem PySem.Spec L2 Bm Bl
open PyProof.Rows hiding St
-- one step of a reading; side conditions; what a heap holds
local macro_rules | `(tactic| walk_at "sc") => `(tactic| (first
  | exact mulL ⟨by omega, by omega⟩ | exact mulR ⟨by omega, by omega⟩ | exact divS (by omega) (by omega) | exact (show (0 : Int) < _ by omega) | exact powS (b := 4) (by decide) (by decide) (by decide) (by decide) | assumption | omega))
local macro_rules | `(tactic| walk_at "ne") => `(tactic| (first
  | assumption | (apply Ne.symm; assumption) | exact ne_none (by assumption) (by walk_at "hp") | exact Ne.symm (ne_none (by assumption) (by walk_at "hp"))))
local macro_rules | `(tactic| walk_at "hp") => `(tactic| (first
  | assumption | exact upd_same | (refine (upd_ne ?k1).trans ?k2; (case k1 => walk_at "ne"); (case k2 => walk_at "hp")) | (refine Same.get (by assumption) ?_; walk_at "hp") | (refine But.get (by assumption) ?k1 ?k2; (case k1 => walk_at "hp"); (case k2 => walk_at "ne"))))
local macro_rules | `(tactic| walk_at "sq") => `(tactic| (first | assumption | exact SqL.of (by walk_at "hp") | exact SqT.of (by walk_at "hp")))
local macro_rules | `(tactic| walk_at "rd1") => `(tactic| (first
  | with_reducible refine r_seq ?_ | with_reducible refine r_asg ?_ | with_reducible refine r_asgG ?_ | with_reducible refine r_op ?_ | ((with_reducible show tVar _ _ _ _); with_reducible refine r_var (by with_unfolding_all exact rfl) ?_) | with_reducible refine r_c ?_ | with_reducible refine r_I0 ?_ | with_reducible refine r_p30 ?_
  | with_reducible refine r_p20 ?_ | with_reducible refine r_p27 ?_ | with_reducible refine r_p29 ?_ | with_reducible refine r_p38 ?_ | with_reducible refine r_p40 ?_ | with_reducible refine r_p42 ?_ | with_reducible refine r_p44 ?_ | with_reducible refine r_p49 ?_
  | with_reducible refine r_p50 ?_ | with_reducible refine r_p60 ?_ | with_reducible refine r_p18 ?_ | with_reducible refine r_p12 ?_ | with_reducible refine r_p15 ?_ | with_reducible refine r_p9 ?_ | with_reducible refine r_p6 ?_ | with_reducible refine r_p64 ?_
  | ((with_reducible refine r_I ?k1 ?k2); (case k1 => walk_at "sc")) | with_reducible refine r_U ?_ | with_reducible refine r_un ?_ | with_reducible refine r_ret ?_ | with_reducible refine r_ifS ?_ | with_reducible refine r_test ?_ | with_reducible refine r_bl ?_ | with_reducible refine r_cb ?_
  | with_reducible refine r_cons ?_ | with_reducible refine r_nil ?_ | with_reducible refine r_intI ?_ | with_reducible refine r_intB ?_ | with_reducible refine r_max2' ?_ | with_reducible refine r_min2' ?_ | with_reducible refine r_max3 ?_ | with_reducible refine r_min3 ?_
  | with_reducible refine r_call ?_ | with_reducible refine r_par ?_ | with_reducible refine r_and ?_ | with_reducible refine r_or ?_ | with_reducible refine r_not ?_ | with_reducible refine r_B ?_ | with_reducible refine r_andV ?_ | with_reducible refine r_orV ?_
  | with_reducible refine r_notV ?_ | with_reducible refine r_ifE ?_ | with_reducible refine r_eqI ?_ | with_reducible refine r_neI ?_ | with_reducible refine r_eqB ?_ | with_reducible refine r_neB ?_ | with_reducible refine r_isN ?_ | with_reducible refine r_notN ?_
  | with_reducible refine r_chain ?_ | with_reducible refine r_chain3 ?_ | with_reducible refine r_drop ?_ | with_reducible refine r_next ?_ | with_reducible refine r_retN ?_ | with_reducible refine r_brk ?_ | with_reducible refine r_cont ?_ | with_reducible refine r_ex ?_
  | with_reducible refine r_tup ?_ | with_reducible refine r_lst ?_ | ((with_reducible refine r_new ?k1 ?k2); (case k1 => first | decide | exact Nat.le_of_ble_eq_true rfl)) | with_reducible refine r_sub ?_ | with_reducible refine r_gname ?_ | with_reducible refine r_gcons ?_ | with_reducible refine r_gnil ?_ | with_reducible refine r_slice ?_
  | with_reducible refine r_noPart ?_ | with_reducible refine r_part ?_ | ((with_reducible show gTup _ _ _ _ _ _ _); with_reducible refine r_gtup (by with_unfolding_all walk_at "sq") (by with_unfolding_all exact rfl) ?_) | with_reducible refine r_rng1 ?_ | with_reducible refine r_rng2 ?_ | ((with_reducible refine r_r1 ?k1 ?k2 ?k3); (case k1 => omega); (case k2 => omega)) | ((with_reducible refine r_r2 ?k1 ?k2); (case k1 => omega)) | with_reducible refine r_nonT ?_
  | with_reducible refine r_nonI ?_ | with_reducible refine r_nonR ?_ | with_reducible refine r_notT ?_ | with_reducible refine r_notI ?_ | with_reducible refine r_notR ?_ | with_reducible refine r_for ?_ | with_reducible refine r_lc ?_ | with_reducible refine r_iL ?_
  | with_reducible refine r_iT ?_ | with_reducible refine r_yesT ?_ | ((with_reducible show _ = _ ∧ _); with_reducible refine r_same (by with_unfolding_all exact rfl) ?_) | with_reducible refine r_neS ?_ | with_reducible refine r_iteT ?_ | with_reducible refine r_iteF ?_ | with_reducible refine r_iteNT ?_ | with_reducible refine r_iteNF ?_
  | ((with_reducible show tAug _ _ _ _ _ _); with_reducible refine r_aug (by with_unfolding_all exact rfl) ?_) | with_reducible refine r_ipI ?_ | with_reducible refine r_bm ?_ | ((with_reducible show tyV _ "list" _ _ ∧ _); with_reducible refine r_tyL (by with_unfolding_all walk_at "sq") ?_) | with_reducible refine r_enum ?_ | ((with_reducible show ∃ (a : Addr) (xs : List V), [V.ref _] = [V.ref a] ∧ _); with_reducible refine r_en (by with_unfolding_all walk_at "sq") ?_) | with_reducible refine r_par3' ?_ | with_reducible refine r_fldC ?_
  | with_reducible refine r_sfld ?_ | with_reducible refine r_saug ?_ | with_reducible refine r_prop ?_ | with_reducible refine r_meth ?_ | with_reducible refine r_make ?_ | with_reducible refine r_eqSY ?_ | ((with_reducible refine r_eqSN ?k1 ?k2); (case k1 => decide +kernel)) | with_reducible refine r_dget ?_
  | with_reducible refine r_dput ?_ | with_reducible refine r_match ?_ | with_reducible refine r_str ?_ | with_reducible refine r_caseY ?_ | ((with_reducible refine r_caseN ?k1 ?k2); (case k1 => decide +kernel)) | with_reducible refine r_caseA ?_ | ((with_reducible show PR _ _ _ _ _ _); with_reducible refine r_pr (by with_unfolding_all walk_at "hp") ?_) | with_reducible refine r_disp ?_
  | with_reducible refine r_pnil ?_ | with_reducible refine r_pcons ?_ | ((with_reducible show FL _ _ _ _ _); (first | ((with_reducible show FL _ "own_hand" _ _ _); with_reducible refine fl_hand (by with_unfolding_all walk_at "hp") ?_) | ((with_reducible show FL _ "own_kept" _ _ _); with_reducible refine fl_kept (by with_unfolding_all walk_at "hp") ?_) | ((with_reducible show FL _ "own_steps" _ _ _); with_reducible refine fl_steps (by with_unfolding_all walk_at "hp") ?_) | ((with_reducible show FL _ "own_backs" _ _ _); with_reducible refine fl_backs (by with_unfolding_all walk_at "hp") ?_) | ((with_reducible show FL _ "own_length" _ _ _); with_reducible refine fl_length (by with_unfolding_all walk_at "hp") ?_) | ((with_reducible show FL _ "own_slots" _ _ _); with_reducible refine fl_slots (by with_unfolding_all walk_at "hp") ?_))) | ((with_reducible show FS _ _ _ _ _ _); (first | ((with_reducible show FS _ "own_hand" _ _ _ _); with_reducible refine fs_hand (by with_unfolding_all walk_at "hp") ?_) | ((with_reducible show FS _ "own_kept" _ _ _ _); with_reducible refine fs_kept (by with_unfolding_all walk_at "hp") ?_) | ((with_reducible show FS _ "own_steps" _ _ _ _); with_reducible refine fs_steps (by with_unfolding_all walk_at "hp") ?_) | ((with_reducible show FS _ "own_backs" _ _ _ _); with_reducible refine fs_backs (by with_unfolding_all walk_at "hp") ?_))) | ((with_reducible show DGr _ _ _ _); (first | ((with_reducible show DGr _ (V.str "size") _ _); with_reducible refine dg_size (by with_unfolding_all walk_at "hp") ?_) | ((with_reducible show DGr _ (V.str "hand") _ _); with_reducible refine dg_hand (by with_unfolding_all walk_at "hp") ?_) | ((with_reducible show DGr _ (V.str "held") _ _); with_reducible refine dg_held (by with_unfolding_all walk_at "hp") ?_) | ((with_reducible show DGr _ (V.str "spent") _ _); with_reducible refine dg_spent (by with_unfolding_all walk_at "hp") ?_) | ((with_reducible show DGr _ (V.str "gone") _ _); with_reducible refine dg_gone (by with_unfolding_all walk_at "hp") ?_) | ((with_reducible show DGr _ (V.str "most") _ _); with_reducible refine dg_most (by with_unfolding_all walk_at "hp") ?_) | ((with_reducible show DGr _ (V.str "goes") _ _); with_reducible refine dg_goes (by with_unfolding_all walk_at "hp") ?_))) | ((with_reducible show DPr _ _ _ _ _); (first | ((with_reducible show DPr _ (V.str "hand") _ _ _); with_reducible refine dp_hand (by with_unfolding_all walk_at "hp") ?_) | ((with_reducible show DPr _ (V.str "held") _ _ _); with_reducible refine dp_held (by with_unfolding_all walk_at "hp") ?_) | ((with_reducible show DPr _ (V.str "spent") _ _ _); with_reducible refine dp_spent (by with_unfolding_all walk_at "hp") ?_) | ((with_reducible show DPr _ (V.str "gone") _ _ _); with_reducible refine dp_gone (by with_unfolding_all walk_at "hp") ?_) | ((with_reducible show DPr _ (V.str "most") _ _ _); with_reducible refine dp_most (by with_unfolding_all walk_at "hp") ?_) | ((with_reducible show DPr _ (V.str "goes") _ _ _); with_reducible refine dp_goes (by with_unfolding_all walk_at "hp") ?_)))))
local macro_rules | `(tactic| walk_at "rd") => `(tactic| repeat walk_at "rd1")
theorem GoV.to {H H' : Hp} (t : Tps H H') : ∀ {vs : List V} {gs : List (Int × Int)}, GoV H vs gs → GoV H' vs gs
  | [], [], h => h
  | v :: vs, g :: gs, ⟨⟨p, e, h⟩, r⟩ => ⟨⟨p, e, t _ _ h⟩, GoV.to t r⟩
  | [], _ :: _, h => h
  | _ :: _, [], h => h
theorem GoV.len {H : Hp} : ∀ {vs : List V} {gs : List (Int × Int)}, GoV H vs gs → vs.length = gs.length
  | [], [], _ => rfl
  | v :: vs, g :: gs, h => by
    show vs.length + 1 = gs.length + 1
    rw [GoV.len h.2]
  | [], _ :: _, h => h.elim
  | _ :: _, [], h => h.elim
theorem GoV.snoc {H : Hp} {p : Addr} {g : Int × Int} (hp : H p = some (.tup [.int g.1, .int g.2])) : ∀ {vs : List V} {gs : List (Int × Int)}, GoV H vs gs → GoV H (vs ++ [.ref p]) (gs ++ [g])
  | [], [], _ => ⟨⟨p, rfl, hp⟩, trivial⟩
  | v :: vs, g' :: gs, h => ⟨h.1, GoV.snoc hp h.2⟩
  | [], _ :: _, h => h.elim
  | _ :: _, [], h => h.elim
theorem GoV.at {H : Hp} : ∀ {vs : List V} {gs : List (Int × Int)} {i : Nat} {v : V}, GoV H vs gs → vs[i]? = some v → ∃ g p, gs[i]? = some g ∧ v = .ref p ∧ H p = some (.tup [.int g.1, .int g.2])
  | [], [], i, v, _, e => by simp at e
  | v :: vs, g :: gs, 0, w, h, e => by
    have e : v = w := by simpa using e
    obtain ⟨⟨p, h1, h2⟩, _⟩ := h
    exact ⟨g, p, rfl, e ▸ h1, h2⟩
  | v :: vs, g :: gs, i + 1, w, h, e => GoV.at (i := i) h.2 (by simpa using e)
  | [], _ :: _, _, _, h, _ => h.elim
  | _ :: _, [], _, _, h, _ => h.elim
theorem Is.to {H H' : Hp} {a : Addr} (h : Is H a) (s : Same H H') : Is H' a := by
  obtain ⟨u, h⟩ := h
  exact ⟨u, s _ _ h⟩
theorem Is.ne {H : Hp} {a p : Addr} (h : Is H a) (n : H p = none) : p ≠ a := by
  obtain ⟨u, h⟩ := h
  exact (ne_of_none h n).symm
theorem Xn {H : Hp} {X : Addr → Prop} {p : Addr} (h : ∀ x, X x → Is H x) (n : H p = none) : ¬ X p := fun hx => by
  obtain ⟨u, e⟩ := h p hx
  rw [n] at e
  cases e
theorem BoxL.to {H H' : Hp} {d l gl a : Addr} {n : Int} {b : Bx} (h : BoxL H d l gl n b) (e : But a H H') (t : Tps H H') (hd : d ≠ a) (hl : l ≠ a) (hg : gl ≠ a) : BoxL H' d l gl n b := by
  obtain ⟨h1, h2, gv, h3, h4⟩ := h
  exact ⟨e _ _ hd h1, e _ _ hl h2, gv, e _ _ hg h3, h4.to t⟩
theorem BoxL.same {H H' : Hp} {d l gl : Addr} {n : Int} {b : Bx} (h : BoxL H d l gl n b) (s : Same H H') : BoxL H' d l gl n b := by
  obtain ⟨h3, h4, gv, h5, h6⟩ := h
  exact ⟨s _ _ h3, s _ _ h4, gv, s _ _ h5, h6.to (Tps.of s)⟩
theorem BoxA.same {H H' : Hp} {X : Addr → Prop} {d : Addr} {n : Int} {b : Bx} (h : BoxA H X d n b) (s : Same H H') : BoxA H' X d n b := by
  obtain ⟨l, gl, h1, h2, h3, h4, gv, h5, h6⟩ := h
  exact ⟨l, gl, h1, h2, s _ _ h3, s _ _ h4, gv, s _ _ h5, h6.to (Tps.of s)⟩
theorem BoxA.but {H H' : Hp} {X : Addr → Prop} {d a : Addr} {n : Int} {b : Bx} (h : BoxA H X d n b) (xa : X a) (e : But a H H') (g : Bag H a) : BoxA H' X d n b := by
  obtain ⟨l, gl, h1, h2, h3⟩ := h
  obtain ⟨x, y, z, hb⟩ := g
  exact ⟨l, gl, h1, h2, h3.to e (Tps.but e hb (fun _ z => nomatch z)) (ne_of h3.1 hb (by intro z; cases z)) (fun q => h1 (q ▸ xa)) (fun q => h2 (q ▸ xa))⟩
theorem BoxA.mono {H : Hp} {X Y : Addr → Prop} {d : Addr} {n : Int} {b : Bx} (h : BoxA H X d n b) (m : ∀ x, Y x → X x) : BoxA H Y d n b := by
  obtain ⟨l, gl, h1, h2, h3⟩ := h
  exact ⟨l, gl, fun y => h1 (m _ y), fun y => h2 (m _ y), h3⟩
/-- a list of X may change -/
theorem BoxA.set {H : Hp} {X : Addr → Prop} {d w : Addr} {n : Int} {b : Bx} {ws : List V} {o : HO} (h : BoxA H X d n b) (xw : X w) (hw : H w = some (.lst ws)) : BoxA (upd H w o) X d n b := by
  obtain ⟨l, gl, h1, h2, h3⟩ := h
  exact ⟨l, gl, h1, h2, h3.to (But.upd (But.refl _ _)) (Tps.upd hw (fun _ z => nomatch z)) (ne_of h3.1 hw (by intro z; cases z)) (fun q => h1 (q ▸ xw)) (fun q => h2 (q ▸ xw))⟩
section
variable (K : PySem.W.Frag) {vs : List V} {H : Hp} {Q : VK} {E : XK}
theorem pure_l_box (h : sp_l_box K vs H Q E) : t_l_box K { nx := fun _ H' => Q .non H', rt := Q } (start n_l_box vs) H := by
  obtain ⟨n, rfl, q⟩ := h
  show t_l_box K _ [some (.int n)] H
  unfold t_l_box
  walk_at "rd"
  intro d hd
  walk_at "rd"
  intro l hl
  walk_at "rd"
  intro gl hgl
  walk_at "rd"
  have n1 := upd_none hl
  have n2 := upd_none hgl
  have n3 := upd_none n2.2
  refine ⟨(upd_ne n3.1.symm).trans ((upd_ne n1.1.symm).trans upd_same), bx n 0 l 0 0 1 gl, rfl, by show 7 ≤ 15; decide, ?_⟩
  rw [show mergeK [] (bx n 0 l 0 0 1 gl) = bx n 0 l 0 0 1 gl by kernel_rfl]
  refine q d _ (fun b o e => ?_) hd fun X hX => ⟨l, gl, Xn hX n1.2, Xn hX n3.2, upd_same, ?_, [], ?_, trivial⟩
  · have c1 := ne_of_none e hd
    rw [upd_ne c1, upd_ne (ne_of_none e n3.2), upd_ne (ne_of_none e n1.2), upd_ne c1]
    exact e
  · rw [upd_ne n1.1, upd_ne n2.1.symm]
    exact upd_same
  · rw [upd_ne n3.1]
    exact upd_same
theorem pure_l_can (h : sp_l_can K vs H Q E) : t_l_can K { nx := fun _ H' => Q .non H', rt := Q } (start n_l_can vs) H := by
  obtain ⟨d, v, X, n, s, b, o, rfl, ⟨l, gl, _, _, e1, e2, gv, e3, e4⟩, ⟨p, rfl, hp⟩, q⟩ := h
  show t_l_can K _ [some (.ref d), some (.int s), some (.ref p)] H
  unfold t_l_can
  walk_at "rd"
  cases o with
  | go k =>
    refine r_ixT (SqT.of hp) atI_0 ?_
    walk_at "rd"
    refine r_ixT (SqT.of hp) atI_1 ?_
    walk_at "rd"
    exact q
  | keep =>
    refine r_ixT (SqT.of hp) atI_0 ?_
    walk_at "rd"
    refine r_ixT (SqT.of hp) atI_0 ?_
    walk_at "rd"
    refine r_inInts true e2 ?_
    walk_at "rd"
    refine r_iteB (fun e => ?_) fun e => ?_
    · walk_at "rd"
      refine r_lenL (SqL.of e2) ?_
      walk_at "rd"
      have e5 : decide (((b.held.map V.int).length : Int) < s) = can n s b.tr .keep := by
        show _ = (!decide (b.hand ∈ b.held) && decide ((b.held.length : Int) < s))
        rw [show (!decide (b.hand ∈ b.held)) = true from e, List.length_map]
        rfl
      rw [e5]
      exact q
    · have e5 : false = can n s b.tr .keep := by
        show _ = (!decide (b.hand ∈ b.held) && decide ((b.held.length : Int) < s))
        rw [show (!decide (b.hand ∈ b.held)) = false from e]
        rfl
      rw [e5]
      exact q
  | back =>
    refine r_ixT (SqT.of hp) atI_0 ?_
    walk_at "rd"
    refine r_ixT (SqT.of hp) atI_0 ?_
    walk_at "rd"
    refine r_ixT (SqT.of hp) atI_0 ?_
    walk_at "rd"
    refine r_ite (fun e => ?_) fun e => ?_
    · walk_at "rd"
      have e5 : decide (b.hand = n - 1 - b.gone) = can n s b.tr .back := by
        show _ = (decide (b.gone < n) && decide (b.hand = n - 1 - b.gone))
        rw [decide_eq_true e]
        rfl
      rw [e5]
      exact q
    · have e5 : false = can n s b.tr .back := by
        show _ = (decide (b.gone < n) && decide (b.hand = n - 1 - b.gone))
        rw [decide_eq_false e]
        rfl
      rw [e5]
      exact q
  | take x =>
    refine r_ixT (SqT.of hp) atI_0 ?_
    walk_at "rd"
    refine r_ixT (SqT.of hp) atI_0 ?_
    walk_at "rd"
    refine r_ixT (SqT.of hp) atI_0 ?_
    walk_at "rd"
    refine r_ixT (SqT.of hp) atI_1 ?_
    walk_at "rd"
    exact r_inInts false e2 q
  | free x =>
    refine r_ixT (SqT.of hp) atI_0 ?_
    walk_at "rd"
    refine r_ixT (SqT.of hp) atI_0 ?_
    walk_at "rd"
    refine r_ixT (SqT.of hp) atI_0 ?_
    walk_at "rd"
    refine r_ixT (SqT.of hp) atI_1 ?_
    walk_at "rd"
    exact r_inInts false e2 q
end
end Bs

namespace Bs
open PySem PySem.Spec L2 Bm Bl
open PyProof.Rows hiding St
-- one step of a reading; side conditions; what a heap holds
local macro_rules | `(tactic| walk_at "sc") => `(tactic| (first
  | exact mulL ⟨by omega, by omega⟩ | exact mulR ⟨by omega, by omega⟩ | exact divS (by omega) (by omega) | exact (show (0 : Int) < _ by omega) | exact powS (b := 4) (by decide) (by decide) (by decide) (by decide) | assumption | omega))
local macro_rules | `(tactic| walk_at "ne") => `(tactic| (first
  | assumption | (apply Ne.symm; assumption) | exact ne_none (by assumption) (by walk_at "hp") | exact Ne.symm (ne_none (by assumption) (by walk_at "hp"))))
local macro_rules | `(tactic| walk_at "hp") => `(tactic| (first
  | assumption | exact upd_same | (refine (upd_ne ?k1).trans ?k2; (case k1 => walk_at "ne"); (case k2 => walk_at "hp")) | (refine Same.get (by assumption) ?_; walk_at "hp") | (refine But.get (by assumption) ?k1 ?k2; (case k1 => walk_at "hp"); (case k2 => walk_at "ne"))))
local macro_rules | `(tactic| walk_at "sq") => `(tactic| (first | assumption | exact SqL.of (by walk_at "hp") | exact SqT.of (by walk_at "hp")))
local macro_rules | `(tactic| walk_at "rd1") => `(tactic| (first
  | with_reducible refine r_seq ?_ | with_reducible refine r_asg ?_ | with_reducible refine r_asgG ?_ | with_reducible refine r_op ?_ | ((with_reducible show tVar _ _ _ _); with_reducible refine r_var (by with_unfolding_all exact rfl) ?_) | with_reducible refine r_c ?_ | with_reducible refine r_I0 ?_ | with_reducible refine r_p30 ?_
  | with_reducible refine r_p20 ?_ | with_reducible refine r_p27 ?_ | with_reducible refine r_p29 ?_ | with_reducible refine r_p38 ?_ | with_reducible refine r_p40 ?_ | with_reducible refine r_p42 ?_ | with_reducible refine r_p44 ?_ | with_reducible refine r_p49 ?_
  | with_reducible refine r_p50 ?_ | with_reducible refine r_p60 ?_ | with_reducible refine r_p18 ?_ | with_reducible refine r_p12 ?_ | with_reducible refine r_p15 ?_ | with_reducible refine r_p9 ?_ | with_reducible refine r_p6 ?_ | with_reducible refine r_p64 ?_
  | ((with_reducible refine r_I ?k1 ?k2); (case k1 => walk_at "sc")) | with_reducible refine r_U ?_ | with_reducible refine r_un ?_ | with_reducible refine r_ret ?_ | with_reducible refine r_ifS ?_ | with_reducible refine r_test ?_ | with_reducible refine r_bl ?_ | with_reducible refine r_cb ?_
  | with_reducible refine r_cons ?_ | with_reducible refine r_nil ?_ | with_reducible refine r_intI ?_ | with_reducible refine r_intB ?_ | with_reducible refine r_max2' ?_ | with_reducible refine r_min2' ?_ | with_reducible refine r_max3 ?_ | with_reducible refine r_min3 ?_
  | with_reducible refine r_call ?_ | with_reducible refine r_par ?_ | with_reducible refine r_and ?_ | with_reducible refine r_or ?_ | with_reducible refine r_not ?_ | with_reducible refine r_B ?_ | with_reducible refine r_andV ?_ | with_reducible refine r_orV ?_
  | with_reducible refine r_notV ?_ | with_reducible refine r_ifE ?_ | with_reducible refine r_eqI ?_ | with_reducible refine r_neI ?_ | with_reducible refine r_eqB ?_ | with_reducible refine r_neB ?_ | with_reducible refine r_isN ?_ | with_reducible refine r_notN ?_
  | with_reducible refine r_chain ?_ | with_reducible refine r_chain3 ?_ | with_reducible refine r_drop ?_ | with_reducible refine r_next ?_ | with_reducible refine r_retN ?_ | with_reducible refine r_brk ?_ | with_reducible refine r_cont ?_ | with_reducible refine r_ex ?_
  | with_reducible refine r_tup ?_ | with_reducible refine r_lst ?_ | ((with_reducible refine r_new ?k1 ?k2); (case k1 => first | decide | exact Nat.le_of_ble_eq_true rfl)) | with_reducible refine r_sub ?_ | with_reducible refine r_gname ?_ | with_reducible refine r_gcons ?_ | with_reducible refine r_gnil ?_ | with_reducible refine r_slice ?_
  | with_reducible refine r_noPart ?_ | with_reducible refine r_part ?_ | ((with_reducible show gTup _ _ _ _ _ _ _); with_reducible refine r_gtup (by with_unfolding_all walk_at "sq") (by with_unfolding_all exact rfl) ?_) | with_reducible refine r_rng1 ?_ | with_reducible refine r_rng2 ?_ | ((with_reducible refine r_r1 ?k1 ?k2 ?k3); (case k1 => omega); (case k2 => omega)) | ((with_reducible refine r_r2 ?k1 ?k2); (case k1 => omega)) | with_reducible refine r_nonT ?_
  | with_reducible refine r_nonI ?_ | with_reducible refine r_nonR ?_ | with_reducible refine r_notT ?_ | with_reducible refine r_notI ?_ | with_reducible refine r_notR ?_ | with_reducible refine r_for ?_ | with_reducible refine r_lc ?_ | with_reducible refine r_iL ?_
  | with_reducible refine r_iT ?_ | with_reducible refine r_yesT ?_ | ((with_reducible show _ = _ ∧ _); with_reducible refine r_same (by with_unfolding_all exact rfl) ?_) | with_reducible refine r_neS ?_ | with_reducible refine r_iteT ?_ | with_reducible refine r_iteF ?_ | with_reducible refine r_iteNT ?_ | with_reducible refine r_iteNF ?_
  | ((with_reducible show tAug _ _ _ _ _ _); with_reducible refine r_aug (by with_unfolding_all exact rfl) ?_) | with_reducible refine r_ipI ?_ | with_reducible refine r_bm ?_ | ((with_reducible show tyV _ "list" _ _ ∧ _); with_reducible refine r_tyL (by with_unfolding_all walk_at "sq") ?_) | with_reducible refine r_enum ?_ | ((with_reducible show ∃ (a : Addr) (xs : List V), [V.ref _] = [V.ref a] ∧ _); with_reducible refine r_en (by with_unfolding_all walk_at "sq") ?_) | with_reducible refine r_par3' ?_ | with_reducible refine r_fldC ?_
  | with_reducible refine r_sfld ?_ | with_reducible refine r_saug ?_ | with_reducible refine r_prop ?_ | with_reducible refine r_meth ?_ | with_reducible refine r_make ?_ | with_reducible refine r_eqSY ?_ | ((with_reducible refine r_eqSN ?k1 ?k2); (case k1 => decide +kernel)) | with_reducible refine r_dget ?_
  | with_reducible refine r_dput ?_ | with_reducible refine r_match ?_ | with_reducible refine r_str ?_ | with_reducible refine r_caseY ?_ | ((with_reducible refine r_caseN ?k1 ?k2); (case k1 => decide +kernel)) | with_reducible refine r_caseA ?_ | ((with_reducible show PR _ _ _ _ _ _); with_reducible refine r_pr (by with_unfolding_all walk_at "hp") ?_) | with_reducible refine r_disp ?_
  | with_reducible refine r_pnil ?_ | with_reducible refine r_pcons ?_ | ((with_reducible show FL _ _ _ _ _); (first | ((with_reducible show FL _ "own_hand" _ _ _); with_reducible refine fl_hand (by with_unfolding_all walk_at "hp") ?_) | ((with_reducible show FL _ "own_kept" _ _ _); with_reducible refine fl_kept (by with_unfolding_all walk_at "hp") ?_) | ((with_reducible show FL _ "own_steps" _ _ _); with_reducible refine fl_steps (by with_unfolding_all walk_at "hp") ?_) | ((with_reducible show FL _ "own_backs" _ _ _); with_reducible refine fl_backs (by with_unfolding_all walk_at "hp") ?_) | ((with_reducible show FL _ "own_length" _ _ _); with_reducible refine fl_length (by with_unfolding_all walk_at "hp") ?_) | ((with_reducible show FL _ "own_slots" _ _ _); with_reducible refine fl_slots (by with_unfolding_all walk_at "hp") ?_))) | ((with_reducible show FS _ _ _ _ _ _); (first | ((with_reducible show FS _ "own_hand" _ _ _ _); with_reducible refine fs_hand (by with_unfolding_all walk_at "hp") ?_) | ((with_reducible show FS _ "own_kept" _ _ _ _); with_reducible refine fs_kept (by with_unfolding_all walk_at "hp") ?_) | ((with_reducible show FS _ "own_steps" _ _ _ _); with_reducible refine fs_steps (by with_unfolding_all walk_at "hp") ?_) | ((with_reducible show FS _ "own_backs" _ _ _ _); with_reducible refine fs_backs (by with_unfolding_all walk_at "hp") ?_))) | ((with_reducible show DGr _ _ _ _); (first | ((with_reducible show DGr _ (V.str "size") _ _); with_reducible refine dg_size (by with_unfolding_all walk_at "hp") ?_) | ((with_reducible show DGr _ (V.str "hand") _ _); with_reducible refine dg_hand (by with_unfolding_all walk_at "hp") ?_) | ((with_reducible show DGr _ (V.str "held") _ _); with_reducible refine dg_held (by with_unfolding_all walk_at "hp") ?_) | ((with_reducible show DGr _ (V.str "spent") _ _); with_reducible refine dg_spent (by with_unfolding_all walk_at "hp") ?_) | ((with_reducible show DGr _ (V.str "gone") _ _); with_reducible refine dg_gone (by with_unfolding_all walk_at "hp") ?_) | ((with_reducible show DGr _ (V.str "most") _ _); with_reducible refine dg_most (by with_unfolding_all walk_at "hp") ?_) | ((with_reducible show DGr _ (V.str "goes") _ _); with_reducible refine dg_goes (by with_unfolding_all walk_at "hp") ?_))) | ((with_reducible show DPr _ _ _ _ _); (first | ((with_reducible show DPr _ (V.str "hand") _ _ _); with_reducible refine dp_hand (by with_unfolding_all walk_at "hp") ?_) | ((with_reducible show DPr _ (V.str "held") _ _ _); with_reducible refine dp_held (by with_unfolding_all walk_at "hp") ?_) | ((with_reducible show DPr _ (V.str "spent") _ _ _); with_reducible refine dp_spent (by with_unfolding_all walk_at "hp") ?_) | ((with_reducible show DPr _ (V.str "gone") _ _ _); with_reducible refine dp_gone (by with_unfolding_all walk_at "hp") ?_) | ((with_reducible show DPr _ (V.str "most") _ _ _); with_reducible refine dp_most (by with_unfolding_all walk_at "hp") ?_) | ((with_reducible show DPr _ (V.str "goes") _ _ _); with_reducible refine dp_goes (by with_unfolding_all walk_at "hp") ?_)))))
local macro_rules | `(tactic| walk_at "rd") => `(tactic| repeat walk_at "rd1")
theorem tps_box {H : Hp} {d : Addr} {kvs : List (Key × V)} {o : HO} (h : H d = some (.dK kvs)) : Tps H (upd H d o) := Tps.upd h (fun _ z => nomatch z)
/-- a box whose dict was stored again -/
theorem BoxL.put {H H' : Hp} {d l gl l' gl' : Addr} {n : Int} {b b' : Bx} {gv : List V} (_ : BoxL H d l gl n b) (hd : H' d = some (.dK (bx n b'.hand l' b'.spent b'.gone b'.most gl'))) (hl : H' l' = some (.lst (b'.held.map V.int))) (hg : H' gl' = some (.lst gv)) (gg : GoV H' gv b'.goes) : BoxL H' d l' gl' n b' := ⟨hd, hl, gv, hg, gg⟩
section
variable (K : PySem.W.Frag) {vs : List V} {H : Hp} {Q : VK} {E : XK}
theorem pure_l_do (h : sp_l_do K vs H Q E) : t_l_do K { nx := fun _ H' => Q .non H', rt := Q } (start n_l_do vs) H := by
  obtain ⟨d, v, X, n, b, o, rfl, ⟨l, gl, na1, na2, hb⟩, ⟨p, rfl, hp⟩, ha, l1, l2, q⟩ := h
  obtain ⟨e1, e2, gv, e3, e4⟩ := id hb
  show t_l_do K _ [some (.ref d), some (.ref p), none] H
  unfold t_l_do
  have ndl : d ≠ l := ne_of e1 e2 (by intro z; cases z)
  have ndg : d ≠ gl := ne_of e1 e3 (by intro z; cases z)
  have ndp : d ≠ p := ne_of e1 hp (by intro z; cases z)
  have npd : p ≠ d := ndp.symm
  walk_at "rd"
  cases o with
  | go k =>
    refine r_ixT (SqT.of hp) atI_0 ?_
    walk_at "rd"
    refine r_ixT (SqT.of hp) atI_1 ?_
    walk_at "rd"
    intro t ht
    walk_at "rd"
    intro z hz
    have nz := upd_none hz
    walk_at "rd"
    have g1 : (upd (upd H t (.tup [V.int b.hand, V.int (b.hand + k)])) z (.lst [V.ref t])) gl = some (.lst gv) := (upd_ne (ne_of_none e3 nz.2)).trans ((upd_ne (ne_of_none e3 ht)).trans e3)
    refine r_cat g1 upd_same (by rw [e4.len]; show b.goes.length + 1 ≤ 100000; omega) fun w hw => ?_
    have nw := upd_none hw
    have nw2 := upd_none nw.2
    walk_at "rd"
    have ndt : d ≠ t := ne_of_none e1 ht
    have ndz : d ≠ z := ne_of_none e1 nz.2
    have ndw : d ≠ w := ne_of_none e1 nw2.2
    have npt : p ≠ t := ne_of_none hp ht
    have npz : p ≠ z := ne_of_none hp nz.2
    have npw : p ≠ w := ne_of_none hp nw2.2
    refine r_ixT (SqT.of ((upd_ne npd).trans ((upd_ne npw).trans ((upd_ne npz).trans ((upd_ne npt).trans hp))))) atI_1 ?_
    walk_at "rd"
    refine r_ixT (SqT.of ((upd_ne npd).trans ((upd_ne npd).trans ((upd_ne npw).trans ((upd_ne npz).trans ((upd_ne npt).trans hp)))))) atI_1 ?_
    walk_at "rd"
    refine q ⟨b.hand + k, b.held, b.spent + k, b.gone, b.most, b.goes ++ [(b.hand, b.hand + k)]⟩ _ (fun x o n e => ?_) ⟨l, w, na1, Xn ha nw2.2, upd_same, ?_, gv ++ [.ref t], ?_, ?_⟩ rfl
    · rw [upd_ne n, upd_ne n, upd_ne n, upd_ne (ne_of_none e nw2.2), upd_ne (ne_of_none e nz.2), upd_ne (ne_of_none e ht)]
      exact e
    · rw [upd_ne ndl.symm, upd_ne ndl.symm, upd_ne ndl.symm, upd_ne (ne_of_none e2 nw2.2), upd_ne (ne_of_none e2 nz.2), upd_ne (ne_of_none e2 ht)]
      exact e2
    · rw [upd_ne ndw.symm, upd_ne ndw.symm, upd_ne ndw.symm]
      exact upd_same
    · have s1 : Same H (upd (upd (upd H t (.tup [V.int b.hand, V.int (b.hand + k)])) z (.lst [V.ref t])) w (.lst (gv ++ [V.ref t]))) := Same.newT (Same.newT (Same.new ht) hz) hw
      have gw : (upd (upd (upd H t (.tup [V.int b.hand, V.int (b.hand + k)])) z (.lst [V.ref t])) w (.lst (gv ++ [V.ref t]))) t = some (.tup [.int b.hand, .int (b.hand + k)]) := by
        rw [upd_ne (ne_of_none (H := upd H t (.tup [V.int b.hand, V.int (b.hand + k)])) upd_same nw.2), upd_ne nz.1.symm]
        exact upd_same
      have g5 := GoV.snoc (g := (b.hand, b.hand + k)) gw (e4.to (Tps.of s1))
      have d1 := s1 _ _ e1
      exact ((g5.to (tps_box d1)).to (tps_box upd_same)).to (tps_box upd_same)
  | keep =>
    refine r_ixT (SqT.of hp) atI_0 ?_
    walk_at "rd"
    refine r_ixT (SqT.of hp) atI_0 ?_
    walk_at "rd"
    intro z hz
    walk_at "rd"
    refine r_cat ((upd_ne (ne_of_none e2 hz)).trans e2) upd_same (by rw [List.length_map]; show b.held.length + 1 ≤ 100000; omega) fun w hw => ?_
    have nw := upd_none hw
    walk_at "rd"
    have ew : b.held.map V.int ++ [V.int b.hand] = (b.held ++ [b.hand]).map V.int := by rw [List.map_append]; rfl
    rw [ew]
    refine ⟨w, b.held ++ [b.hand], rfl, SqL.of upd_same, fun ks k hpm hso hk => ?_⟩
    have nk := upd_none hk
    have nk2 := upd_none nk.2
    walk_at "rd"
    have ndz : d ≠ z := ne_of_none e1 hz
    have ndw : d ≠ w := ne_of_none e1 nw.2
    have ndk : d ≠ k := ne_of_none e1 nk2.2
    refine r_lenL (SqL.of ((upd_ne ndk.symm).trans upd_same)) ?_
    walk_at "rd"
    rw [List.length_map]
    refine q ⟨b.hand, ks, b.spent, b.gone, max b.most ks.length, b.goes⟩ _ (fun x o n e => ?_) ⟨k, gl, Xn ha nk2.2, na2, upd_same, ?_, gv, ?_, ?_⟩ ⟨ks, hpm, hso, rfl⟩
    · rw [upd_ne n, upd_ne n, upd_ne (ne_of_none e nk2.2), upd_ne (ne_of_none e nw.2), upd_ne (ne_of_none e hz)]
      exact e
    · rw [upd_ne ndk.symm, upd_ne ndk.symm]
      exact upd_same
    · rw [upd_ne ndg.symm, upd_ne ndg.symm, upd_ne (ne_of_none e3 nk2.2), upd_ne (ne_of_none e3 nw.2), upd_ne (ne_of_none e3 hz)]
      exact e3
    · have s1 : Same H (upd (upd (upd H z (.lst [V.int b.hand])) w (.lst ((b.held ++ [b.hand]).map V.int))) k (.lst (ks.map V.int))) := Same.newT (Same.newT (Same.new hz) hw) hk
      exact ((e4.to (Tps.of s1)).to (tps_box (s1 _ _ e1))).to (tps_box upd_same)
  | take x =>
    refine r_ixT (SqT.of hp) atI_0 ?_
    walk_at "rd"
    refine r_ixT (SqT.of hp) atI_0 ?_
    walk_at "rd"
    refine r_ixT (SqT.of hp) atI_0 ?_
    walk_at "rd"
    refine r_ixT (SqT.of hp) atI_1 ?_
    walk_at "rd"
    refine q ⟨x, b.held, b.spent, b.gone, b.most, b.goes⟩ _ (fun x o n e => (upd_ne n).trans e) ⟨l, gl, na1, na2, upd_same, (upd_ne ndl.symm).trans e2, gv, (upd_ne ndg.symm).trans e3, e4.to (tps_box e1)⟩ rfl
  | free x =>
    refine r_ixT (SqT.of hp) atI_0 ?_
    walk_at "rd"
    refine r_ixT (SqT.of hp) atI_0 ?_
    walk_at "rd"
    refine r_ixT (SqT.of hp) atI_0 ?_
    walk_at "rd"
    refine r_ixT (SqT.of hp) atI_0 ?_
    walk_at "rd"
    refine r_refL (SqL.of e2) ?_
    intro w hw
    have ndw : d ≠ w := ne_of_none e1 hw
    refine lc_it (walk_list (xs := b.held.map V.int)) (fun i H' => But w H H' ∧ H' w = some (.lst (((b.held.take i).filter fun y => !decide (y = x)).map V.int))) ?_ ?_ ?_ ?_
    · exact ⟨But.upd (But.refl _ _), upd_same⟩
    · rintro i H2 _ ⟨s2, _⟩
      exact SqL.of (s2 _ _ (ne_of_none e2 hw) e2)
    · rintro i u H2 H3 hi ⟨s2, hw2⟩ ⟨rfl, y2⟩
      rw [List.length_map] at hi
      rw [List.getElem?_map, List.getElem?_eq_getElem hi] at y2
      have y3 : V.int b.held[i] = u := Option.some.inj y2
      subst y3
      have e5 : b.held.take (i + 1) = b.held.take i ++ [b.held[i]] := take_snoc (List.getElem?_eq_getElem hi)
      walk_at "rd"
      refine r_ixT (SqT.of (s2 _ _ (ne_of_none hp hw) hp)) atI_1 ?_
      walk_at "rd"
      refine r_iteN (fun c => ?_) fun c => ?_
      · walk_at "rd"
        refine ⟨_, hw2, sz_lt ?_, But.upd s2, ?_⟩
        · rw [List.length_map]
          have := List.length_filter_le (fun y => !decide (y = x)) (b.held.take i)
          have := List.length_take_le i b.held
          omega
        · rw [e5, List.filter_append, List.map_append, List.filter_cons, if_pos (by rw [decide_eq_false c]; rfl)]
          exact upd_same
      · refine ⟨s2, ?_⟩
        rw [e5, List.filter_append, List.filter_cons, if_neg (by rw [decide_eq_true c]; exact Bool.false_ne_true), List.filter_nil, List.append_nil]
        exact hw2
    · rintro H2 ⟨s2, hw2⟩
      rw [List.length_map, List.take_length] at hw2
      walk_at "rd"
      refine q ⟨b.hand, b.held.filter (fun y => !decide (y = x)), b.spent, b.gone, b.most, b.goes⟩ _ (fun x o n e => (upd_ne n).trans (s2 _ _ (ne_of_none e hw) e)) ⟨w, gl, Xn ha hw, na2, upd_same, (upd_ne ndw.symm).trans hw2, gv, (upd_ne ndg.symm).trans (s2 _ _ (ne_of_none e3 hw) e3), ?_⟩ rfl
      have s3 : Same H H2 := fun y o e => s2 _ _ (ne_of_none e hw) e
      exact (e4.to (Tps.of s3)).to (tps_box (s3 _ _ e1))
  | back =>
    refine r_ixT (SqT.of hp) atI_0 ?_
    walk_at "rd"
    refine r_ixT (SqT.of hp) atI_0 ?_
    walk_at "rd"
    refine r_ixT (SqT.of hp) atI_0 ?_
    walk_at "rd"
    refine r_ixT (SqT.of hp) atI_0 ?_
    walk_at "rd"
    refine q ⟨b.hand, b.held, b.spent, b.gone + 1, b.most, b.goes⟩ _ (fun x o n e => (upd_ne n).trans e) ⟨l, gl, na1, na2, upd_same, (upd_ne ndl.symm).trans e2, gv, (upd_ne ndg.symm).trans e3, e4.to (tps_box e1)⟩ rfl
end
end Bs

namespace Bs
open PySem PySem.Spec L2 Bm Bl
open PyProof.Rows hiding St
-- one step of a reading; side conditions; what a heap holds
local macro_rules | `(tactic| walk_at "sc") => `(tactic| (first
  | exact mulL ⟨by omega, by omega⟩ | exact mulR ⟨by omega, by omega⟩ | exact divS (by omega) (by omega) | exact (show (0 : Int) < _ by omega) | exact powS (b := 4) (by decide) (by decide) (by decide) (by decide) | assumption | omega))
local macro_rules | `(tactic| walk_at "ne") => `(tactic| (first
  | assumption | (apply Ne.symm; assumption) | exact ne_none (by assumption) (by walk_at "hp") | exact Ne.symm (ne_none (by assumption) (by walk_at "hp"))))
local macro_rules | `(tactic| walk_at "hp") => `(tactic| (first
  | assumption | exact upd_same | (refine (upd_ne ?k1).trans ?k2; (case k1 => walk_at "ne"); (case k2 => walk_at "hp")) | (refine Same.get (by assumption) ?_; walk_at "hp") | (refine But.get (by assumption) ?k1 ?k2; (case k1 => walk_at "hp"); (case k2 => walk_at "ne"))))
local macro_rules | `(tactic| walk_at "sq") => `(tactic| (first | assumption | exact SqL.of (by walk_at "hp") | exact SqT.of (by walk_at "hp")))
local macro_rules | `(tactic| walk_at "rd1") => `(tactic| (first
  | with_reducible refine r_seq ?_ | with_reducible refine r_asg ?_ | with_reducible refine r_asgG ?_ | with_reducible refine r_op ?_ | ((with_reducible show tVar _ _ _ _); with_reducible refine r_var (by with_unfolding_all exact rfl) ?_) | with_reducible refine r_c ?_ | with_reducible refine r_I0 ?_ | with_reducible refine r_p30 ?_
  | with_reducible refine r_p20 ?_ | with_reducible refine r_p27 ?_ | with_reducible refine r_p29 ?_ | with_reducible refine r_p38 ?_ | with_reducible refine r_p40 ?_ | with_reducible refine r_p42 ?_ | with_reducible refine r_p44 ?_ | with_reducible refine r_p49 ?_
  | with_reducible refine r_p50 ?_ | with_reducible refine r_p60 ?_ | with_reducible refine r_p18 ?_ | with_reducible refine r_p12 ?_ | with_reducible refine r_p15 ?_ | with_reducible refine r_p9 ?_ | with_reducible refine r_p6 ?_ | with_reducible refine r_p64 ?_
  | ((with_reducible refine r_I ?k1 ?k2); (case k1 => walk_at "sc")) | with_reducible refine r_U ?_ | with_reducible refine r_un ?_ | with_reducible refine r_ret ?_ | with_reducible refine r_ifS ?_ | with_reducible refine r_test ?_ | with_reducible refine r_bl ?_ | with_reducible refine r_cb ?_
  | with_reducible refine r_cons ?_ | with_reducible refine r_nil ?_ | with_reducible refine r_intI ?_ | with_reducible refine r_intB ?_ | with_reducible refine r_max2' ?_ | with_reducible refine r_min2' ?_ | with_reducible refine r_max3 ?_ | with_reducible refine r_min3 ?_
  | with_reducible refine r_call ?_ | with_reducible refine r_par ?_ | with_reducible refine r_and ?_ | with_reducible refine r_or ?_ | with_reducible refine r_not ?_ | with_reducible refine r_B ?_ | with_reducible refine r_andV ?_ | with_reducible refine r_orV ?_
  | with_reducible refine r_notV ?_ | with_reducible refine r_ifE ?_ | with_reducible refine r_eqI ?_ | with_reducible refine r_neI ?_ | with_reducible refine r_eqB ?_ | with_reducible refine r_neB ?_ | with_reducible refine r_isN ?_ | with_reducible refine r_notN ?_
  | with_reducible refine r_chain ?_ | with_reducible refine r_chain3 ?_ | with_reducible refine r_drop ?_ | with_reducible refine r_next ?_ | with_reducible refine r_retN ?_ | with_reducible refine r_brk ?_ | with_reducible refine r_cont ?_ | with_reducible refine r_ex ?_
  | with_reducible refine r_tup ?_ | with_reducible refine r_lst ?_ | ((with_reducible refine r_new ?k1 ?k2); (case k1 => first | decide | exact Nat.le_of_ble_eq_true rfl)) | with_reducible refine r_sub ?_ | with_reducible refine r_gname ?_ | with_reducible refine r_gcons ?_ | with_reducible refine r_gnil ?_ | with_reducible refine r_slice ?_
  | with_reducible refine r_noPart ?_ | with_reducible refine r_part ?_ | ((with_reducible show gTup _ _ _ _ _ _ _); with_reducible refine r_gtup (by with_unfolding_all walk_at "sq") (by with_unfolding_all exact rfl) ?_) | with_reducible refine r_rng1 ?_ | with_reducible refine r_rng2 ?_ | ((with_reducible refine r_r1 ?k1 ?k2 ?k3); (case k1 => omega); (case k2 => omega)) | ((with_reducible refine r_r2 ?k1 ?k2); (case k1 => omega)) | with_reducible refine r_nonT ?_
  | with_reducible refine r_nonI ?_ | with_reducible refine r_nonR ?_ | with_reducible refine r_notT ?_ | with_reducible refine r_notI ?_ | with_reducible refine r_notR ?_ | with_reducible refine r_for ?_ | with_reducible refine r_lc ?_ | with_reducible refine r_iL ?_
  | with_reducible refine r_iT ?_ | with_reducible refine r_yesT ?_ | ((with_reducible show _ = _ ∧ _); with_reducible refine r_same (by with_unfolding_all exact rfl) ?_) | with_reducible refine r_neS ?_ | with_reducible refine r_iteT ?_ | with_reducible refine r_iteF ?_ | with_reducible refine r_iteNT ?_ | with_reducible refine r_iteNF ?_
  | ((with_reducible show tAug _ _ _ _ _ _); with_reducible refine r_aug (by with_unfolding_all exact rfl) ?_) | with_reducible refine r_ipI ?_ | with_reducible refine r_bm ?_ | ((with_reducible show tyV _ "list" _ _ ∧ _); with_reducible refine r_tyL (by with_unfolding_all walk_at "sq") ?_) | with_reducible refine r_enum ?_ | ((with_reducible show ∃ (a : Addr) (xs : List V), [V.ref _] = [V.ref a] ∧ _); with_reducible refine r_en (by with_unfolding_all walk_at "sq") ?_) | with_reducible refine r_par3' ?_ | with_reducible refine r_fldC ?_
  | with_reducible refine r_sfld ?_ | with_reducible refine r_saug ?_ | with_reducible refine r_prop ?_ | with_reducible refine r_meth ?_ | with_reducible refine r_make ?_ | with_reducible refine r_eqSY ?_ | ((with_reducible refine r_eqSN ?k1 ?k2); (case k1 => decide +kernel)) | with_reducible refine r_dget ?_
  | with_reducible refine r_dput ?_ | with_reducible refine r_match ?_ | with_reducible refine r_str ?_ | with_reducible refine r_caseY ?_ | ((with_reducible refine r_caseN ?k1 ?k2); (case k1 => decide +kernel)) | with_reducible refine r_caseA ?_ | ((with_reducible show PR _ _ _ _ _ _); with_reducible refine r_pr (by with_unfolding_all walk_at "hp") ?_) | with_reducible refine r_disp ?_
  | with_reducible refine r_pnil ?_ | with_reducible refine r_pcons ?_ | ((with_reducible show FL _ _ _ _ _); (first | ((with_reducible show FL _ "own_hand" _ _ _); with_reducible refine fl_hand (by with_unfolding_all walk_at "hp") ?_) | ((with_reducible show FL _ "own_kept" _ _ _); with_reducible refine fl_kept (by with_unfolding_all walk_at "hp") ?_) | ((with_reducible show FL _ "own_steps" _ _ _); with_reducible refine fl_steps (by with_unfolding_all walk_at "hp") ?_) | ((with_reducible show FL _ "own_backs" _ _ _); with_reducible refine fl_backs (by with_unfolding_all walk_at "hp") ?_) | ((with_reducible show FL _ "own_length" _ _ _); with_reducible refine fl_length (by with_unfolding_all walk_at "hp") ?_) | ((with_reducible show FL _ "own_slots" _ _ _); with_reducible refine fl_slots (by with_unfolding_all walk_at "hp") ?_))) | ((with_reducible show FS _ _ _ _ _ _); (first | ((with_reducible show FS _ "own_hand" _ _ _ _); with_reducible refine fs_hand (by with_unfolding_all walk_at "hp") ?_) | ((with_reducible show FS _ "own_kept" _ _ _ _); with_reducible refine fs_kept (by with_unfolding_all walk_at "hp") ?_) | ((with_reducible show FS _ "own_steps" _ _ _ _); with_reducible refine fs_steps (by with_unfolding_all walk_at "hp") ?_) | ((with_reducible show FS _ "own_backs" _ _ _ _); with_reducible refine fs_backs (by with_unfolding_all walk_at "hp") ?_))) | ((with_reducible show DGr _ _ _ _); (first | ((with_reducible show DGr _ (V.str "size") _ _); with_reducible refine dg_size (by with_unfolding_all walk_at "hp") ?_) | ((with_reducible show DGr _ (V.str "hand") _ _); with_reducible refine dg_hand (by with_unfolding_all walk_at "hp") ?_) | ((with_reducible show DGr _ (V.str "held") _ _); with_reducible refine dg_held (by with_unfolding_all walk_at "hp") ?_) | ((with_reducible show DGr _ (V.str "spent") _ _); with_reducible refine dg_spent (by with_unfolding_all walk_at "hp") ?_) | ((with_reducible show DGr _ (V.str "gone") _ _); with_reducible refine dg_gone (by with_unfolding_all walk_at "hp") ?_) | ((with_reducible show DGr _ (V.str "most") _ _); with_reducible refine dg_most (by with_unfolding_all walk_at "hp") ?_) | ((with_reducible show DGr _ (V.str "goes") _ _); with_reducible refine dg_goes (by with_unfolding_all walk_at "hp") ?_))) | ((with_reducible show DPr _ _ _ _ _); (first | ((with_reducible show DPr _ (V.str "hand") _ _ _); with_reducible refine dp_hand (by with_unfolding_all walk_at "hp") ?_) | ((with_reducible show DPr _ (V.str "held") _ _ _); with_reducible refine dp_held (by with_unfolding_all walk_at "hp") ?_) | ((with_reducible show DPr _ (V.str "spent") _ _ _); with_reducible refine dp_spent (by with_unfolding_all walk_at "hp") ?_) | ((with_reducible show DPr _ (V.str "gone") _ _ _); with_reducible refine dp_gone (by with_unfolding_all walk_at "hp") ?_) | ((with_reducible show DPr _ (V.str "most") _ _ _); with_reducible refine dp_most (by with_unfolding_all walk_at "hp") ?_) | ((with_reducible show DPr _ (V.str "goes") _ _ _); with_reducible refine dp_goes (by with_unfolding_all walk_at "hp") ?_)))))
local macro_rules | `(tactic| walk_at "rd") => `(tactic| repeat walk_at "rd1")
section
variable (K : PySem.W.Frag) {vs : List V} {H : Hp} {Q : VK} {E : XK}
theorem pure_l_item (h : sp_l_item K vs H Q E) : t_l_item K { nx := fun _ H' => Q .non H', rt := Q } (start n_l_item vs) H := by
  obtain ⟨a, d, X, n, b, far, rfl, g, hb, xa, h1, h2, h3, h4, h5, h6, h7, q⟩ := h
  show t_l_item K _ [some (.ref a), some (.ref d), some (.int far), none, none, none] H
  unfold t_l_item
  walk_at "rd"
  refine ⟨a, 6, rfl, by decide, by decide, g, fun r H1 r0 r1 b1 g1 => ?_⟩
  obtain ⟨l, gl, na1, na2, e1, e2, gv, e3, e4⟩ := hb.but xa b1 g
  walk_at "rd"
  intro z hz
  walk_at "rd"
  refine r_cat ((upd_ne (ne_of_none e2 hz)).trans e2) upd_same (by rw [List.length_map]; show b.held.length + 1 ≤ 100000; omega) fun w hw => ?_
  have ew : b.held.map V.int ++ [V.int b.hand] = (b.held ++ [b.hand]).map V.int := by rw [List.map_append]; rfl
  rw [ew]
  have hl1 : (b.held ++ [b.hand]).length = b.held.length + 1 := by rw [List.length_append]; rfl
  have hin : ∀ x ∈ b.held ++ [b.hand], 0 ≤ x ∧ x < n := fun x hx => by
    rcases List.mem_append.mp hx with y | y
    · exact h4 x y
    · have e : x = b.hand := by simpa using y
      rw [e]
      exact ⟨h1, h2⟩
  generalize hG : upd (upd H1 z (.lst [V.int b.hand])) w (.lst ((b.held ++ [b.hand]).map V.int)) = G
  have nwa : w ≠ a := by
    have nw := upd_none hw
    exact g1.ne nw.2
  have gG : Bag G a := by
    rw [← hG]
    exact (g1.new hz).new hw
  have bG : But a H G := by
    rw [← hG]
    exact (b1.new hz).new hw
  have wG : G w = some (.lst ((b.held ++ [b.hand]).map V.int)) := by
    rw [← hG]
    exact upd_same
  clear hG hw hz e1 e2 e3 e4
  generalize hleft : max 1 (n - 1 - b.hand) = left
  have hlt : 1 ≤ left ∧ left ≤ 1000000 := by omega
  -- a tuple of such an operation
  have give : ∀ (o : Op) (H' : Hp) (p : Addr), But a H H' → Bag H' a → okOp o → H' p = none → Q (.ref p) (upd H' p (.tup (enc o))) := fun o H' p bb gg ok hp =>
    q _ o _ (bb.new hp) (gg.new hp) ⟨p, rfl, upd_same⟩ ok
  walk_at "rd"
  refine r_ite (fun c => ?_) fun c => ?_
  · walk_at "rd"
    intro y hy
    walk_at "rd"
    refine ⟨a, 2, rfl, by decide, by decide, gG.new hy, fun r2 H2 r20 r21 b2 g2 => ?_⟩
    have nya : y ≠ a := gG.ne hy
    have ey := b2 _ _ nya upd_same
    have key : ∃ m : Int, 1 ≤ m ∧ m ≤ 1000000 ∧ atI [V.int (min left 3), V.int left] r2 = some (.int m) := by
      by_cases z : r2 = 0
      · subst z
        exact ⟨min left 3, by omega, by omega, atI_0⟩
      · have : r2 = 1 := by omega
        subst this
        exact ⟨left, hlt.1, hlt.2, atI_1⟩
    obtain ⟨m, m1, m2, hm⟩ := key
    walk_at "rd"
    refine r_ixL (SqL.of ey) hm ?_
    walk_at "rd"
    refine ⟨a, m, rfl, m1, by omega, g2, fun r3 H3 r30 r31 b3 g3 => ?_⟩
    walk_at "rd"
    exact fun p hp => give (.go (1 + r3)) H3 p (((bG.new hy).trans b2).trans b3) g3 ⟨by omega, by omega⟩ hp
  walk_at "rd"
  refine r_ite (fun c2 => ?_) fun c2 => ?_
  · walk_at "rd"
    exact fun p hp => give .keep G p bG gG trivial hp
  walk_at "rd"
  refine r_ite (fun c3 => ?_) fun c3 => ?_
  · walk_at "rd"
    refine r_lenL (SqL.of wG) ?_
    walk_at "rd"
    rw [List.length_map]
    refine ⟨a, _, rfl, by omega, by omega, gG, fun r3 H3 r30 r31 b3 g3 => ?_⟩
    have w3 := b3 _ _ nwa wG
    obtain ⟨v, hv, ev⟩ := atI_ints r30 r31
    walk_at "rd"
    refine r_ixL (SqL.of w3) ev ?_
    walk_at "rd"
    exact fun p hp => give (.take v) H3 p (bG.trans b3) g3 ⟨(hin v hv).1, by have := (hin v hv).2; omega⟩ hp
  walk_at "rd"
  have last : ∀ H', But a H H' → Bag H' a → tSeq (tIfS (tTest (tOp rEq (tVar 3) (tC (.int 4)))) (tRet (tTup (tCons (tC (.str "go")) (tCons (tCB oMin2 (tCons (tVar 4) (tCons (tVar 2) tNil))) tNil)))) tNext)
      (tRet (tTup (tCons (tC (.str "back")) tNil))) { nx := fun _ H' => Q .non H', rt := Q } [some (.ref a), some (.ref d), some (.int far), some (.int r), some (.int left), some (.ref w)] H' := fun H' bb gg => by
    walk_at "rd"
    refine r_ite (fun c4 => ?_) fun c4 => ?_
    · walk_at "rd"
      exact fun p hp => give (.go (min left far)) H' p bb gg ⟨by omega, by omega⟩ hp
    · walk_at "rd"
      exact fun p hp => give .back H' p bb gg trivial hp
  refine r_ite (fun c4 => ?_) fun c4 => ?_
  · walk_at "rd"
    refine ⟨a, 3, rfl, by decide, by decide, gG, fun r2 H2 r20 r21 b2 g2 => ?_⟩
    walk_at "rd"
    refine r_ite (fun c5 => ?_) fun c5 => ?_
    · walk_at "rd"
      have w2 := b2 _ _ nwa wG
      refine r_lenL (SqL.of w2) ?_
      walk_at "rd"
      rw [List.length_map]
      refine ⟨a, _, rfl, by omega, by omega, g2, fun r3 H3 r30 r31 b3 g3 => ?_⟩
      have w3 := b3 _ _ nwa w2
      obtain ⟨v, hv, ev⟩ := atI_ints r30 r31
      walk_at "rd"
      refine r_ixL (SqL.of w3) ev ?_
      walk_at "rd"
      exact fun p hp => give (.free v) H3 p ((bG.trans b2).trans b3) g3 ⟨(hin v hv).1, by have := (hin v hv).2; omega⟩ hp
    · exact last _ (bG.trans b2) g2
  · exact last _ bG gG
theorem OpsM.to {H H' : Hp} {q : Addr} {ops : List Op} (h : OpsM H q ops) (e : ∀ vs, H q = some (.lst vs) → H' q = some (.lst vs)) (t : Tps H H') : OpsM H' q ops := by
  obtain ⟨vs, h1, h2⟩ := h
  exact ⟨vs, e _ h1, h2.to t⟩
theorem tps_bag {H H' : Hp} {a : Addr} (b : But a H H') (g : Bag H a) : Tps H H' := by
  obtain ⟨x, y, z, e⟩ := g
  exact Tps.but b e (fun _ z => nomatch z)
theorem BoxA.nd {H : Hp} {X : Addr → Prop} {a d : Addr} {n : Int} {b : Bx} (h : BoxA H X d n b) (g : Bag H a) : d ≠ a := by
  obtain ⟨l, gl, _, _, e, _⟩ := h
  obtain ⟨x, y, z, e2⟩ := g
  exact ne_of e e2 (by intro z; cases z)
theorem BoxA.isd {H : Hp} {X : Addr → Prop} {d : Addr} {n : Int} {b : Bx} (h : BoxA H X d n b) : ∃ kvs, H d = some (.dK kvs) := by
  obtain ⟨l, gl, _, _, e, _⟩ := h
  exact ⟨_, e⟩
theorem Rel.heldlen {n s : Int} {b : Bx} {ops : List Op} (h : Rel n s b ops) (hn : 1 ≤ n) (hs : 1 ≤ s) : (b.held.length : Int) ≤ s := by
  rw [h.perm.length_eq]
  exact (h.inB hn hs).kl
theorem Rel.held {n s : Int} {b : Bx} {ops : List Op} (h : Rel n s b ops) (hn : 1 ≤ n) (hs : 1 ≤ s) : ∀ x ∈ b.held, 0 ≤ x ∧ x < n := fun x hx => (h.inB hn hs).kb x (h.perm.mem_iff.mp hx)
theorem Rel.golen {n s : Int} {b : Bx} {ops : List Op} (h : Rel n s b ops) : b.goes.length ≤ ops.length := by
  rw [h.goes]
  exact gos_len
theorem pure_l_listed (h : sp_l_listed K vs H Q E) : t_l_listed K { nx := fun _ H' => Q .non H', rt := Q } (start n_l_listed vs) H := by
  obtain ⟨a, n, s, m, rfl, g, h1, h2, h3, h4, h5, h6, q⟩ := h
  show t_l_listed K _ [some (.ref a), some (.int n), some (.int s), some (.int m), none, none, none, none] H
  unfold t_l_listed
  have ia : Is H a := by
    obtain ⟨x, y, z, e⟩ := g
    exact ⟨_, e⟩
  walk_at "rd"
  refine ⟨n, rfl, fun d H1 s1 hd hb => ?_⟩
  have hb1 := hb (eq1 a) (fun x e => by rw [show x = a from e]; exact ia)
  walk_at "rd"
  intro w hw
  walk_at "rd"
  have g1 := g.at s1
  have s2 := Same.newT (o := .lst []) s1 hw
  have hw0 := s1.free hw
  have hb : BoxA (upd H1 w (.lst [])) (eq2 a w) d n bini := by
    obtain ⟨l, gl, c1, c2, c3⟩ := hb1
    obtain ⟨gv, c4, _⟩ := c3.2.2
    exact ⟨l, gl, fun z => z.elim c1 (ne_of_none c3.2.1 hw), fun z => z.elim c2 (ne_of_none c4 hw), c3.same (Same.new hw)⟩
  have nwd : w ≠ d := by
    obtain ⟨kvs, e⟩ := hb1.isd
    exact (ne_of_none e hw).symm
  refine for_it walk_range (fun i σ H' => But a H H' ∧ Bag H' a ∧ (∃ ops b, OpsM H' w ops ∧ BoxA H' (eq2 a w) d n b ∧ Rel n s b ops ∧ ops.length ≤ i) ∧ ∃ v6 v7, σ = [some (.ref a), some (.int n), some (.int s), some (.int m), some (.ref d), some (.ref w), v6, v7]) ?_ ?_ ?_ ?_
  · exact ⟨But.of s2, g.at s2, ⟨[], bini, ⟨[], upd_same, trivial⟩, hb, Rel.ini, Nat.le_refl _⟩, none, none, rfl⟩
  · intros
    trivial
  · rintro i x σ H2 H3 hi ⟨b2, g2, ⟨ops, b, ho, hbx, hr, hl⟩, v6, v7, rfl⟩ ⟨rfl, rfl⟩
    have hl3 := Rel.heldlen hr h1 h3
    have inb := hr.inB h1 h3
    walk_at "rd"
    refine ⟨a, d, _, n, b, n, rfl, g2, hbx, .inl rfl, by rw [hr.hand]; exact inb.h0, by rw [hr.hand]; exact inb.h1, by omega, Rel.held hr h1 h3, by omega, h1, by omega, fun v o H4 b4 g4 hov hok => ?_⟩
    have hbx4 := hbx.but (.inl rfl) b4 g2
    have nwa : w ≠ a := g.ne hw0
    have ho4 : OpsM H4 w ops := ho.to (fun vs e => b4 _ _ nwa e) (tps_bag b4 g2)
    walk_at "rd"
    refine ⟨d, v, _, n, s, b, o, rfl, hbx4, hov, ?_⟩
    rw [can_perm hr o]
    walk_at "rd"
    refine r_iteB (fun c => ?_) fun c => ?_
    · obtain ⟨ws, hws, hop⟩ := ho4
      have hlw := hop.len
      walk_at "rd"
      refine r_app hws (by omega) ?_
      walk_at "rd"
      have nda : d ≠ a := hbx4.nd g4
      have tw : Tps H4 (upd H4 w (.lst (ws ++ [v]))) := Tps.upd hws (fun _ z => nomatch z)
      have g5 : Bag (upd H4 w (.lst (ws ++ [v]))) a := g4.upd nwa.symm
      have hbx5 : BoxA (upd H4 w (.lst (ws ++ [v]))) (eq2 a w) d n b := hbx4.set (.inr rfl) hws
      refine ⟨d, v, _, n, b, o, rfl, hbx5, hov.to tw, ?_, by omega, by have := Rel.golen hr; omega, fun b' H6 b6 hbx6 hst => ?_⟩
      · rintro x' (rfl | rfl)
        · obtain ⟨x, y, z, e⟩ := g5
          exact ⟨_, e⟩
        · exact ⟨_, upd_same⟩
      obtain ⟨kvs, ed⟩ := hbx5.isd
      have t6 : Tps (upd H4 w (.lst (ws ++ [v]))) H6 := Tps.but b6 ed (fun _ z => nomatch z)
      have g6 : Bag H6 a := by
        obtain ⟨x, y, z, e⟩ := g5
        exact ⟨x, y, z, b6 _ _ nda.symm e⟩
      refine ⟨?_, g6, ⟨ops ++ [o], b', ⟨ws ++ [v], b6 _ _ nwd upd_same, OpsV.snoc ((hov.to tw).to t6) ((hop.to tw).to t6)⟩, hbx6, hr.step inb.nd hok c hst, ?_⟩, _, _, rfl⟩
      · intro y u n1 e
        have n2 : y ≠ w := ne_of_none e hw0
        have n3 : y ≠ d := ne_of_none e hd
        exact b6 _ _ n3 ((upd_ne n2).trans (b4 _ _ n1 (b2 _ _ n1 e)))
      · rw [List.length_append]
        show ops.length + 1 ≤ i + 1
        omega
    · walk_at "rd"
      exact ⟨b2.trans b4, g4, ⟨ops, b, ho4, hbx4, hr, by omega⟩, _, _, rfl⟩
  · rintro σ H2 ⟨b2, g2, ⟨ops, b, ho, hbx, hr, hl⟩, v6, v7, rfl⟩
    walk_at "rd"
    intro p hp
    have hp0 : H p = none := b2.freeB hp g2
    refine q p w d ops b _ (b2.new hp) (g2.new hp) hp0 upd_same (ho.to (fun vs e => (upd_ne (ne_of_none e hp)).trans e) (Tps.of (Same.new hp))) ((hbx.same (Same.new hp)).mono (fun x e => .inl e)) hr (by omega)
end
end Bs

namespace Bs
open PySem PySem.Spec L2 Bm Bl
open PyProof.Rows hiding St
-- one step of a reading; side conditions; what a heap holds
local macro_rules | `(tactic| walk_at "sc") => `(tactic| (first
  | exact mulL ⟨by omega, by omega⟩ | exact mulR ⟨by omega, by omega⟩ | exact divS (by omega) (by omega) | exact (show (0 : Int) < _ by omega) | exact powS (b := 4) (by decide) (by decide) (by decide) (by decide) | assumption | omega))
local macro_rules | `(tactic| walk_at "ne") => `(tactic| (first
  | assumption | (apply Ne.symm; assumption) | exact ne_none (by assumption) (by walk_at "hp") | exact Ne.symm (ne_none (by assumption) (by walk_at "hp"))))
local macro_rules | `(tactic| walk_at "hp") => `(tactic| (first
  | assumption | exact upd_same | (refine (upd_ne ?k1).trans ?k2; (case k1 => walk_at "ne"); (case k2 => walk_at "hp")) | (refine Same.get (by assumption) ?_; walk_at "hp") | (refine But.get (by assumption) ?k1 ?k2; (case k1 => walk_at "hp"); (case k2 => walk_at "ne"))))
local macro_rules | `(tactic| walk_at "sq") => `(tactic| (first | assumption | exact SqL.of (by walk_at "hp") | exact SqT.of (by walk_at "hp")))
local macro_rules | `(tactic| walk_at "rd1") => `(tactic| (first
  | with_reducible refine r_seq ?_ | with_reducible refine r_asg ?_ | with_reducible refine r_asgG ?_ | with_reducible refine r_op ?_ | ((with_reducible show tVar _ _ _ _); with_reducible refine r_var (by with_unfolding_all exact rfl) ?_) | with_reducible refine r_c ?_ | with_reducible refine r_I0 ?_ | with_reducible refine r_p30 ?_
  | with_reducible refine r_p20 ?_ | with_reducible refine r_p27 ?_ | with_reducible refine r_p29 ?_ | with_reducible refine r_p38 ?_ | with_reducible refine r_p40 ?_ | with_reducible refine r_p42 ?_ | with_reducible refine r_p44 ?_ | with_reducible refine r_p49 ?_
  | with_reducible refine r_p50 ?_ | with_reducible refine r_p60 ?_ | with_reducible refine r_p18 ?_ | with_reducible refine r_p12 ?_ | with_reducible refine r_p15 ?_ | with_reducible refine r_p9 ?_ | with_reducible refine r_p6 ?_ | with_reducible refine r_p64 ?_
  | ((with_reducible refine r_I ?k1 ?k2); (case k1 => walk_at "sc")) | with_reducible refine r_U ?_ | with_reducible refine r_un ?_ | with_reducible refine r_ret ?_ | with_reducible refine r_ifS ?_ | with_reducible refine r_test ?_ | with_reducible refine r_bl ?_ | with_reducible refine r_cb ?_
  | with_reducible refine r_cons ?_ | with_reducible refine r_nil ?_ | with_reducible refine r_intI ?_ | with_reducible refine r_intB ?_ | with_reducible refine r_max2' ?_ | with_reducible refine r_min2' ?_ | with_reducible refine r_max3 ?_ | with_reducible refine r_min3 ?_
  | with_reducible refine r_call ?_ | with_reducible refine r_par ?_ | with_reducible refine r_and ?_ | with_reducible refine r_or ?_ | with_reducible refine r_not ?_ | with_reducible refine r_B ?_ | with_reducible refine r_andV ?_ | with_reducible refine r_orV ?_
  | with_reducible refine r_notV ?_ | with_reducible refine r_ifE ?_ | with_reducible refine r_eqI ?_ | with_reducible refine r_neI ?_ | with_reducible refine r_eqB ?_ | with_reducible refine r_neB ?_ | with_reducible refine r_isN ?_ | with_reducible refine r_notN ?_
  | with_reducible refine r_chain ?_ | with_reducible refine r_chain3 ?_ | with_reducible refine r_drop ?_ | with_reducible refine r_next ?_ | with_reducible refine r_retN ?_ | with_reducible refine r_brk ?_ | with_reducible refine r_cont ?_ | with_reducible refine r_ex ?_
  | with_reducible refine r_tup ?_ | with_reducible refine r_lst ?_ | ((with_reducible refine r_new ?k1 ?k2); (case k1 => first | decide | exact Nat.le_of_ble_eq_true rfl)) | with_reducible refine r_sub ?_ | with_reducible refine r_gname ?_ | with_reducible refine r_gcons ?_ | with_reducible refine r_gnil ?_ | with_reducible refine r_slice ?_
  | with_reducible refine r_noPart ?_ | with_reducible refine r_part ?_ | ((with_reducible show gTup _ _ _ _ _ _ _); with_reducible refine r_gtup (by with_unfolding_all walk_at "sq") (by with_unfolding_all exact rfl) ?_) | with_reducible refine r_rng1 ?_ | with_reducible refine r_rng2 ?_ | ((with_reducible refine r_r1 ?k1 ?k2 ?k3); (case k1 => omega); (case k2 => omega)) | ((with_reducible refine r_r2 ?k1 ?k2); (case k1 => omega)) | with_reducible refine r_nonT ?_
  | with_reducible refine r_nonI ?_ | with_reducible refine r_nonR ?_ | with_reducible refine r_notT ?_ | with_reducible refine r_notI ?_ | with_reducible refine r_notR ?_ | with_reducible refine r_for ?_ | with_reducible refine r_lc ?_ | with_reducible refine r_iL ?_
  | with_reducible refine r_iT ?_ | with_reducible refine r_yesT ?_ | ((with_reducible show _ = _ ∧ _); with_reducible refine r_same (by with_unfolding_all exact rfl) ?_) | with_reducible refine r_neS ?_ | with_reducible refine r_iteT ?_ | with_reducible refine r_iteF ?_ | with_reducible refine r_iteNT ?_ | with_reducible refine r_iteNF ?_
  | ((with_reducible show tAug _ _ _ _ _ _); with_reducible refine r_aug (by with_unfolding_all exact rfl) ?_) | with_reducible refine r_ipI ?_ | with_reducible refine r_bm ?_ | ((with_reducible show tyV _ "list" _ _ ∧ _); with_reducible refine r_tyL (by with_unfolding_all walk_at "sq") ?_) | with_reducible refine r_enum ?_ | ((with_reducible show ∃ (a : Addr) (xs : List V), [V.ref _] = [V.ref a] ∧ _); with_reducible refine r_en (by with_unfolding_all walk_at "sq") ?_) | with_reducible refine r_par3' ?_ | with_reducible refine r_fldC ?_
  | with_reducible refine r_sfld ?_ | with_reducible refine r_saug ?_ | with_reducible refine r_prop ?_ | with_reducible refine r_meth ?_ | with_reducible refine r_make ?_ | with_reducible refine r_eqSY ?_ | ((with_reducible refine r_eqSN ?k1 ?k2); (case k1 => decide +kernel)) | with_reducible refine r_dget ?_
  | with_reducible refine r_dput ?_ | with_reducible refine r_match ?_ | with_reducible refine r_str ?_ | with_reducible refine r_caseY ?_ | ((with_reducible refine r_caseN ?k1 ?k2); (case k1 => decide +kernel)) | with_reducible refine r_caseA ?_ | ((with_reducible show PR _ _ _ _ _ _); with_reducible refine r_pr (by with_unfolding_all walk_at "hp") ?_) | with_reducible refine r_disp ?_
  | with_reducible refine r_pnil ?_ | with_reducible refine r_pcons ?_ | ((with_reducible show FL _ _ _ _ _); (first | ((with_reducible show FL _ "own_hand" _ _ _); with_reducible refine fl_hand (by with_unfolding_all walk_at "hp") ?_) | ((with_reducible show FL _ "own_kept" _ _ _); with_reducible refine fl_kept (by with_unfolding_all walk_at "hp") ?_) | ((with_reducible show FL _ "own_steps" _ _ _); with_reducible refine fl_steps (by with_unfolding_all walk_at "hp") ?_) | ((with_reducible show FL _ "own_backs" _ _ _); with_reducible refine fl_backs (by with_unfolding_all walk_at "hp") ?_) | ((with_reducible show FL _ "own_length" _ _ _); with_reducible refine fl_length (by with_unfolding_all walk_at "hp") ?_) | ((with_reducible show FL _ "own_slots" _ _ _); with_reducible refine fl_slots (by with_unfolding_all walk_at "hp") ?_))) | ((with_reducible show FS _ _ _ _ _ _); (first | ((with_reducible show FS _ "own_hand" _ _ _ _); with_reducible refine fs_hand (by with_unfolding_all walk_at "hp") ?_) | ((with_reducible show FS _ "own_kept" _ _ _ _); with_reducible refine fs_kept (by with_unfolding_all walk_at "hp") ?_) | ((with_reducible show FS _ "own_steps" _ _ _ _); with_reducible refine fs_steps (by with_unfolding_all walk_at "hp") ?_) | ((with_reducible show FS _ "own_backs" _ _ _ _); with_reducible refine fs_backs (by with_unfolding_all walk_at "hp") ?_))) | ((with_reducible show DGr _ _ _ _); (first | ((with_reducible show DGr _ (V.str "size") _ _); with_reducible refine dg_size (by with_unfolding_all walk_at "hp") ?_) | ((with_reducible show DGr _ (V.str "hand") _ _); with_reducible refine dg_hand (by with_unfolding_all walk_at "hp") ?_) | ((with_reducible show DGr _ (V.str "held") _ _); with_reducible refine dg_held (by with_unfolding_all walk_at "hp") ?_) | ((with_reducible show DGr _ (V.str "spent") _ _); with_reducible refine dg_spent (by with_unfolding_all walk_at "hp") ?_) | ((with_reducible show DGr _ (V.str "gone") _ _); with_reducible refine dg_gone (by with_unfolding_all walk_at "hp") ?_) | ((with_reducible show DGr _ (V.str "most") _ _); with_reducible refine dg_most (by with_unfolding_all walk_at "hp") ?_) | ((with_reducible show DGr _ (V.str "goes") _ _); with_reducible refine dg_goes (by with_unfolding_all walk_at "hp") ?_))) | ((with_reducible show DPr _ _ _ _ _); (first | ((with_reducible show DPr _ (V.str "hand") _ _ _); with_reducible refine dp_hand (by with_unfolding_all walk_at "hp") ?_) | ((with_reducible show DPr _ (V.str "held") _ _ _); with_reducible refine dp_held (by with_unfolding_all walk_at "hp") ?_) | ((with_reducible show DPr _ (V.str "spent") _ _ _); with_reducible refine dp_spent (by with_unfolding_all walk_at "hp") ?_) | ((with_reducible show DPr _ (V.str "gone") _ _ _); with_reducible refine dp_gone (by with_unfolding_all walk_at "hp") ?_) | ((with_reducible show DPr _ (V.str "most") _ _ _); with_reducible refine dp_most (by with_unfolding_all walk_at "hp") ?_) | ((with_reducible show DPr _ (V.str "goes") _ _ _); with_reducible refine dp_goes (by with_unfolding_all walk_at "hp") ?_)))))
local macro_rules | `(tactic| walk_at "rd") => `(tactic| repeat walk_at "rd1")
theorem cut_take {xs : List V} {k : Nat} : cutV xs none (some (k : Int)) = xs.take k := by
  unfold cutV
  rw [HT.sIx_nat, HT.sIx_none, Nat.sub_zero, List.drop_zero]
  by_cases h : k ≤ xs.length
  · rw [Nat.min_eq_left h]
  · rw [Nat.min_eq_right (by omega), List.take_of_length_le (Nat.le_refl _), List.take_of_length_le (by omega)]
theorem is_bag {H : Hp} {a : Addr} (g : Bag H a) : ∀ x, eq1 a x → Is H x := fun x e => by
  obtain ⟨u, v, z, h⟩ := g
  rw [show x = a from e]
  exact ⟨_, h⟩
theorem OpsM.at {K : PySem.W.Frag} {H : Hp} {q : Addr} {ops : List Op} (h : OpsM H q ops) : OpsAt K H q ops := by
  obtain ⟨vs, h1, h2⟩ := h
  exact ⟨vs, SqL.of h1, h2⟩
section
variable (K : PySem.W.Frag) {vs : List V} {H : Hp} {Q : VK} {E : XK}
theorem pure_l_right_k14 (h : sp_l_right_k14 K vs H Q E) : t_l_right_k14 K { nx := fun _ H' => Q .non H', rt := Q } (start n_l_right_k14 vs) H := by
  obtain ⟨a, rfl, g, q⟩ := h
  show t_l_right_k14 K _ [some (.ref a), none, none, none, none, none, none] H
  unfold t_l_right_k14
  refine r_cut (fun σ' H' => ∃ n s, 1 ≤ n ∧ n ≤ 12 ∧ 1 ≤ s ∧ s ≤ 5 ∧ But a H H' ∧ Bag H' a ∧ σ' = [some (.ref a), some (.int n), some (.int s), none, none, none, none]) (fun D hD => ?_) ?_
  · walk_at "rd"
    refine ⟨a, 12, rfl, by decide, by decide, g, fun r1 H1 r10 r11 b1 g1 => ?_⟩
    walk_at "rd"
    refine ⟨a, 5, rfl, by decide, by decide, g1, fun r2 H2 r20 r21 b2 g2 => ?_⟩
    walk_at "rd"
    exact hD _ _ ⟨1 + r1, 1 + r2, by omega, by omega, by omega, by omega, b1.trans b2, g2, rfl⟩
  rintro σ1 H1 ⟨n, s, n0, n1, s0, s1, b1, g1, rfl⟩
  refine r_cut (fun σ' H' => ∃ q d ops b, But a H H' ∧ Bag H' a ∧ OpsM H' q ops ∧ BoxA H' (eq1 a) d n b ∧ Rel n s b ops ∧ ops.length ≤ 400 ∧ σ' = [some (.ref a), some (.int n), some (.int s), some (.ref q), some (.ref d), none, none]) (fun D hD => ?_) ?_
  · walk_at "rd"
    refine ⟨a, 61, rfl, by decide, by decide, g1, fun r1 H2 r10 r11 b2 g2 => ?_⟩
    walk_at "rd"
    refine ⟨a, n, s, r1, rfl, g2, n0, by omega, s0, by omega, r10, by omega, fun p q d ops b H3 b3 g3 hp0 hp ho hbx hr hl => ?_⟩
    refine r_gtup (SqT.of hp) rfl ?_
    walk_at "rd"
    exact hD _ _ ⟨q, d, ops, b, (b1.trans b2).trans b3, g3, ho, hbx, hr, hl, rfl⟩
  rintro σ2 H2 ⟨q1, d1, ops1, bb1, b2, g2, ho, hbx, hr, hl, rfl⟩
  clear b1 g1
  refine r_cut (fun σ' H' => ∃ v3 v4, But a H H' ∧ Bag H' a ∧ σ' = [some (.ref a), some (.int n), some (.int s), v3, v4, none, none]) (fun D hD => ?_) ?_
  · walk_at "rd"
    refine ⟨_, n, s, q1, d1, ops1, bb1, rfl, ⟨n0, by omega, s0, by omega, ho.at, hl, hr.ok⟩, by omega, hbx, hr, fun H3 s3 => ?_⟩
    walk_at "rd"
    exact hD _ _ ⟨_, _, b2.trans (But.of s3), g2.at s3, rfl⟩
  rintro σ3 H3 ⟨v3, v4, b3, g3, rfl⟩
  clear b2 g2 ho hbx hr hl
  refine r_cut (fun σ' H' => ∃ q d ops b, But a H H' ∧ Bag H' a ∧ OpsM H' q ops ∧ BoxA H' (eq1 a) d n b ∧ Rel n s b ops ∧ ops.length ≤ 100000 ∧ σ' = [some (.ref a), some (.int n), some (.int s), some (.ref q), some (.ref d), none, none]) (fun D hD => ?_) ?_
  · walk_at "rd"
    refine ⟨a, n, s, rfl, g3, n0, by omega, s0, by omega, fun p q d ops b H4 b4 g4 hp0 hp ho hbx hr hl => ?_⟩
    refine r_gtup (SqT.of hp) rfl ?_
    walk_at "rd"
    exact hD _ _ ⟨q, d, ops, b, b3.trans b4, g4, ho, hbx, hr, hl, rfl⟩
  rintro σ4 H4 ⟨q2, d2, ops, b, b4, g4, ho, hbx, hr, hl, rfl⟩
  clear b3 g3
  obtain ⟨xs, hxs, hops⟩ := id ho
  have hlen := hops.len
  refine r_seq ?_
  refine r_ifS (r_test (r_op (r_cb (r_cons (r_var rfl (r_nil (r_lenL (SqL.of hxs) (r_c (r_I0 (r_bl ?_)))))))))) 
  refine r_ite (fun c => ?_) fun c => ?_
  · walk_at "rd"
    exact q _ b4 g4
  have hl4 : ops.length ≤ 400 := by omega
  refine r_next ?_
  have tsk : ∀ H', Same H4 H' → Tsk K H' n s q2 ops := fun H' s' => ⟨n0, by omega, s0, by omega, (OpsM.at (K := K) ho).same s', hl4, hr.ok⟩
  with_reducible refine r_cut (fun σ' H' => Same H4 H' ∧ σ' = [some (.ref a), some (.int n), some (.int s), some (.ref q2), some (.ref d2), none, none]) (fun D hD => ?_) ?_
  · walk_at "rd"
    refine ⟨_, n, s, q2, d2, ops, b, rfl, tsk _ (Same.refl _), by omega, hbx, hr, fun H5 s5 => ?_⟩
    walk_at "rd"
    exact hD _ _ ⟨s5, rfl⟩
  rintro σ5 H5 ⟨s5, rfl⟩
  have b5 := b4.trans (But.of s5)
  have g5 := g4.at s5
  refine r_cut (fun σ' H' => ∃ k d p, But a H H' ∧ Bag H' a ∧ p ≠ d ∧ p ≠ a ∧ H p = none ∧ H d = none ∧ H' p = some (.lst (xs.take k)) ∧ OpsV H' (xs.take k) (ops.take k) ∧ BoxA H' (eq1 a) d n bini ∧ σ' = [some (.ref a), some (.int n), some (.int s), some (.ref q2), some (.ref d), some (.ref p), none]) (fun D hD => ?_) ?_
  · walk_at "rd"
    refine ⟨n, rfl, fun d H6 s6 hd hb6 => ?_⟩
    have hx6 := s6 _ _ (s5 _ _ hxs)
    walk_at "rd"
    refine r_lenL (SqL.of hx6) ?_
    walk_at "rd"
    refine ⟨a, _, rfl, by omega, by omega, g5.at s6, fun r H7 r0 r1 b7 g7 => ?_⟩
    have nq : q2 ≠ a := by
      rintro rfl
      obtain ⟨u, v, z, e⟩ := g4
      rw [hxs] at e
      have e : xs = [.int u, .int v, .int z] := by
        injection e with e
        injection e
      rw [e] at hops
      match ops, hops with
      | o :: os, hh => obtain ⟨⟨p, e2, _⟩, _⟩ := hh; cases e2
    have hx7 := b7 _ _ nq hx6
    have bx6 := hb6 (eq1 a) (is_bag g5)
    have bx7 := bx6.but rfl b7 (g5.at s6)
    walk_at "rd"
    obtain ⟨k, rfl⟩ : ∃ k : Nat, r = k := ⟨r.toNat, by omega⟩
    refine r_slL (SqL.of hx7) fun p hp => ?_
    rw [cut_take]
    walk_at "rd"
    have t7 : Tps H4 H7 := ((Tps.of s5).trans (Tps.of s6)).trans (tps_bag b7 (g5.at s6))
    obtain ⟨kvs, ed⟩ := bx7.isd
    refine hD _ _ ⟨k, d, p, ((b5.trans (But.of s6)).trans b7).new hp, g7.new hp, (ne_of_none ed hp).symm, g7.ne hp, ((b5.trans (But.of s6)).trans b7).freeB hp g7, b5.freeB hd g5, upd_same, ((hops.to t7).to (Tps.of (Same.new hp))).take k, bx7.same (Same.new hp), rfl⟩
  rintro σ6 H6 ⟨k, d, p, b6, g6, npd, npa, p0, d0, e6, o6, bx6, rfl⟩
  have hck := Can_take hr.can k
  have hlk := o6.len
  refine r_cut (fun σ' H' => ∃ b' v6, But a H H' ∧ Bag H' a ∧ OpsAt K H' p (ops.take k) ∧ BoxA H' (eq1 a) d n b' ∧ Rel n s b' (ops.take k) ∧ σ' = [some (.ref a), some (.int n), some (.int s), some (.ref q2), some (.ref d), some (.ref p), v6]) (fun D hD => ?_) ?_
  · walk_at "rd"
    refine r_refL (SqL.of e6) ?_
    refine for_it (walk_list (xs := xs.take k)) (fun i σ H' => But a H H' ∧ Bag H' a ∧ H' p = some (.lst (xs.take k)) ∧ Tps H6 H' ∧ (∃ b', BoxA H' (eq1 a) d n b' ∧ Rel n s b' ((ops.take k).take i)) ∧ ∃ v6, σ = [some (.ref a), some (.int n), some (.int s), some (.ref q2), some (.ref d), some (.ref p), v6]) ?_ ?_ ?_ ?_
    · exact ⟨b6, g6, e6, Tps.refl, ⟨bini, bx6, Rel.ini⟩, none, rfl⟩
    · rintro i σ H7 _ ⟨_, _, e7, _⟩
      exact SqL.of e7
    · rintro i x σ H7 H8 hi ⟨b7, g7, e7, t7, ⟨b', bx7, hr7⟩, v6, rfl⟩ ⟨rfl, y2⟩
      obtain ⟨o, ho2, hov⟩ := o6.at y2
      have hcan := Can_at hck ho2
      have inb := hr7.inB n0 s0
      have ok := hr.ok o (List.mem_of_mem_take (List.mem_of_getElem? ho2))
      have hkl := Rel.heldlen hr7 n0 s0
      have hgl := Rel.golen hr7
      have hll : ((ops.take k).take i).length ≤ 400 := by
        rw [List.length_take, List.length_take]
        omega
      obtain ⟨kvs, ed⟩ := bx7.isd
      walk_at "rd"
      refine ⟨d, x, _, n, b', o, rfl, bx7, hov.to t7, is_bag g7, by omega, by omega, fun b2 H9 b9 bx9 hst => ?_⟩
      have nda : d ≠ a := bx7.nd g7
      have t9 : Tps H8 H9 := Tps.but b9 ed (fun _ z => nomatch z)
      refine ⟨fun y u n1 e => b9 _ _ (ne_of_none e d0) (b7 _ _ n1 e), ?_, b9 _ _ npd e7, t7.trans t9, ⟨b2, bx9, ?_⟩, _, rfl⟩
      · obtain ⟨u, v, z, e⟩ := g7
        exact ⟨u, v, z, b9 _ _ nda.symm e⟩
      · rw [take_snoc ho2]
        exact hr7.step inb.nd ok hcan hst
    · rintro σ H7 ⟨b7, g7, e7, t7, ⟨b', bx7, hr7⟩, v6, rfl⟩
      rw [hlk, List.take_length] at hr7
      exact hD _ _ ⟨b', v6, b7, g7, ⟨_, SqL.of e7, o6.to t7⟩, bx7, hr7, rfl⟩
  rintro σ7 H7 ⟨b', v6, b7, g7, o7, bx7, hr7, rfl⟩
  walk_at "rd"
  refine ⟨_, n, s, p, d, ops.take k, b', rfl, ⟨n0, by omega, s0, by omega, o7, by rw [List.length_take]; omega, hr7.ok⟩, by omega, bx7, hr7, fun H8 s8 => q _ (b7.trans (But.of s8)) (g7.at s8)⟩
end
end Bs

namespace Bs
open PySem PySem.Spec L2 Bm Bl
open PyProof.Rows hiding St
/-! ### promises: sessions -/
def sf (n s : Int) (t c : Addr) : List (Str × V) := [("own_budget", .non), ("own_length", .int n), ("own_slots", .int s), ("own_trace", .ref t), ("own_calls", .ref c)]
/-- a session at a: its trace at t with the list l, its calls at c -/
def SesAt (K : PySem.W.Frag) (H : Hp) (a t l c : Addr) (n s : Int) (ops : List Op) : Prop := l ≠ c ∧ Can n s ini ops ∧ ∃ dx, H a = some (.ins (He.ga K "Session") dx (sf n s t c)) ∧ TrL K H t l n s (run ini ops) ∧ OpsM H c ops
/-- all but t, l, c is as it was -/
def But3 (t l c : Addr) (H H' : Hp) : Prop := ∀ b o, b ≠ t → b ≠ l → b ≠ c → H b = some o → H' b = some o
/-- what doing o brings: the session with o, or CannotDo(0) -/
def PerfQ (K : PySem.W.Frag) (H : Hp) (a t l c : Addr) (n s : Int) (ops : List Op) (o : Op) (Q : VK) (E : XK) : Prop :=
  (can n s (run ini ops) o = true → ∀ H', But3 t l c H H' → SesAt K H' a t l c n s (ops ++ [o]) → Q .non H') ∧
  (can n s (run ini ops) o = false → ∀ H' d, Same H H' → H' d = some (.xd [("operation", .int 0)]) → E (.ref (He.ga K "CannotDo")) (some d) H')
/-- a session that takes an operation more -/
def SesIn (K : PySem.W.Frag) (H : Hp) (a t l c : Addr) (n s : Int) (ops : List Op) : Prop := SesAt K H a t l c n s ops ∧ s ≤ 1000 ∧ ops.length ≤ 1000
def sp_CannotDo_init (K : PySem.W.Frag) : Sp := fun vs H Q _ => ∃ a v, vs = [.ref a, v] ∧ H a = some (exo a (He.ga K "CannotDo") none) ∧ ∀ dx, H dx = none → dx ≠ a → Q .non (upd (upd H dx (exd dx [("operation", v)])) a (exo a (He.ga K "CannotDo") (some dx)))
def sp_Session_init (K : PySem.W.Frag) : Sp := fun vs H Q _ => ∃ a dx n s, vs = [.ref a, .int n, .int s] ∧ H a = some (.ins (He.ga K "Session") dx []) ∧ 1 ≤ n ∧ n ≤ 1000000000000000000000000000000 ∧ 1 ≤ s ∧ s ≤ 100 ∧ ∀ t l c H', But a H H' → H t = none → H l = none → H c = none → SesAt K H' a t l c n s [] → Q .non H'
def sp_Session_hand (K : PySem.W.Frag) : Sp := fun vs H Q _ => ∃ a t l c n s ops, vs = [.ref a] ∧ SesAt K H a t l c n s ops ∧ Q (.int (run ini ops).hand) H
def sp_Session_steps (K : PySem.W.Frag) : Sp := fun vs H Q _ => ∃ a t l c n s ops, vs = [.ref a] ∧ SesAt K H a t l c n s ops ∧ Q (.int (run ini ops).steps) H
def sp_Session_kept (K : PySem.W.Frag) : Sp := fun vs H Q _ => ∃ a t l c n s ops, vs = [.ref a] ∧ SesAt K H a t l c n s ops ∧ ∀ (p : Addr) (ks : List Int) (H' : Hp), Same H H' → H p = none → H' p = some (.lst (ks.map V.int)) → ks.Perm (run ini ops).kept → ks.Pairwise (· ≤ ·) → Q (.ref p) H'
/-- the state that is wanted -/
def wantV (n : Int) (t : Tr) : V := if 0 ≤ n - 1 - t.backs then .int (n - 1 - t.backs) else .non
def sp_Session_wanted (K : PySem.W.Frag) : Sp := fun vs H Q _ => ∃ a t l c n s ops, vs = [.ref a] ∧ SesAt K H a t l c n s ops ∧ Q (wantV n (run ini ops)) H
def sp_Session_log (K : PySem.W.Frag) : Sp := fun vs H Q _ => ∃ a t l c n s ops, vs = [.ref a] ∧ SesAt K H a t l c n s ops ∧ ∀ p H', Same H H' → H p = none → OpsM H' p ops → Q (.ref p) H'
def RSes (K : PySem.W.Frag) : Addr → Addr → Hp → Prop := fun a b H => ∃ t l c t' l' c' n s ops, SesAt K H a t l c n s ops ∧ SesAt K H b t' l' c' n s ops
def sp_Session_eq (K : PySem.W.Frag) : Sp := fun vs H Q _ => ∃ a b, vs = [.ref a, .ref b] ∧ RSes K a b H ∧ ∀ H', Ext H H' → Q (.bl true) H'
def sp_Session_require_fit (K : PySem.W.Frag) : Sp := fun vs H Q _ => ∃ a t l c n s ops v, vs = [.ref a, .ref t, v] ∧ SesAt K H a t l c n s ops ∧ Q .non H
def sp_Session_perform (K : PySem.W.Frag) : Sp := fun vs H Q E => ∃ a t l c n s ops v o, vs = [.ref a, v] ∧ SesIn K H a t l c n s ops ∧ OpV H v o ∧ PerfQ K H a t l c n s ops o Q E
def sp_Session_go (K : PySem.W.Frag) : Sp := fun vs H Q E => ∃ a t l c n s ops k, vs = [.ref a, .int k] ∧ SesIn K H a t l c n s ops ∧ okOp (.go k) ∧ PerfQ K H a t l c n s ops (.go k) Q E
def sp_Session_keep (K : PySem.W.Frag) : Sp := fun vs H Q E => ∃ a t l c n s ops, vs = [.ref a] ∧ SesIn K H a t l c n s ops ∧ PerfQ K H a t l c n s ops .keep Q E
def sp_Session_take (K : PySem.W.Frag) : Sp := fun vs H Q E => ∃ a t l c n s ops k, vs = [.ref a, .int k] ∧ SesIn K H a t l c n s ops ∧ okOp (.take k) ∧ PerfQ K H a t l c n s ops (.take k) Q E
def sp_Session_free (K : PySem.W.Frag) : Sp := fun vs H Q E => ∃ a t l c n s ops k, vs = [.ref a, .int k] ∧ SesIn K H a t l c n s ops ∧ okOp (.free k) ∧ PerfQ K H a t l c n s ops (.free k) Q E
def sp_Session_back (K : PySem.W.Frag) : Sp := fun vs H Q E => ∃ a t l c n s ops, vs = [.ref a] ∧ SesIn K H a t l c n s ops ∧ PerfQ K H a t l c n s ops .back Q E
def sp_l_called (K : PySem.W.Frag) : Sp := fun vs H Q E => ∃ a t l c n s ops v o, vs = [.ref a, v] ∧ SesIn K H a t l c n s ops ∧ OpV H v o ∧ okOp o ∧ PerfQ K H a t l c n s ops o Q E

theorem len_CannotDo_init (K : PySem.W.Frag) {vs : List V} {H : Hp} {Q : VK} {E : XK} (h : sp_CannotDo_init K vs H Q E) : vs.length = 2 := by
  obtain ⟨_, _, rfl, _⟩ := h
  rfl
theorem len_Session_init (K : PySem.W.Frag) {vs : List V} {H : Hp} {Q : VK} {E : XK} (h : sp_Session_init K vs H Q E) : vs.length = 3 := by
  obtain ⟨_, _, _, _, rfl, _⟩ := h
  rfl
theorem len_Session_hand (K : PySem.W.Frag) {vs : List V} {H : Hp} {Q : VK} {E : XK} (h : sp_Session_hand K vs H Q E) : vs.length = 1 := by
  obtain ⟨_, _, _, _, _, _, _, rfl, _⟩ := h
  rfl
theorem len_Session_steps (K : PySem.W.Frag) {vs : List V} {H : Hp} {Q : VK} {E : XK} (h : sp_Session_steps K vs H Q E) : vs.length = 1 := by
  obtain ⟨_, _, _, _, _, _, _, rfl, _⟩ := h
  rfl
theorem len_Session_kept (K : PySem.W.Frag) {vs : List V} {H : Hp} {Q : VK} {E : XK} (h : sp_Session_kept K vs H Q E) : vs.length = 1 := by
  obtain ⟨_, _, _, _, _, _, _, rfl, _⟩ := h
  rfl
theorem len_Session_wanted (K : PySem.W.Frag) {vs : List V} {H : Hp} {Q : VK} {E : XK} (h : sp_Session_wanted K vs H Q E) : vs.length = 1 := by
  obtain ⟨_, _, _, _, _, _, _, rfl, _⟩ := h
  rfl
theorem len_Session_log (K : PySem.W.Frag) {vs : List V} {H : Hp} {Q : VK} {E : XK} (h : sp_Session_log K vs H Q E) : vs.length = 1 := by
  obtain ⟨_, _, _, _, _, _, _, rfl, _⟩ := h
  rfl
theorem len_Session_eq (K : PySem.W.Frag) {vs : List V} {H : Hp} {Q : VK} {E : XK} (h : sp_Session_eq K vs H Q E) : vs.length = 2 := by
  obtain ⟨_, _, rfl, _⟩ := h
  rfl
theorem len_Session_require_fit (K : PySem.W.Frag) {vs : List V} {H : Hp} {Q : VK} {E : XK} (h : sp_Session_require_fit K vs H Q E) : vs.length = 3 := by
  obtain ⟨_, _, _, _, _, _, _, _, rfl, _⟩ := h
  rfl
theorem len_Session_perform (K : PySem.W.Frag) {vs : List V} {H : Hp} {Q : VK} {E : XK} (h : sp_Session_perform K vs H Q E) : vs.length = 2 := by
  obtain ⟨_, _, _, _, _, _, _, _, _, rfl, _⟩ := h
  rfl
theorem len_Session_go (K : PySem.W.Frag) {vs : List V} {H : Hp} {Q : VK} {E : XK} (h : sp_Session_go K vs H Q E) : vs.length = 2 := by
  obtain ⟨_, _, _, _, _, _, _, _, rfl, _⟩ := h
  rfl
theorem len_Session_keep (K : PySem.W.Frag) {vs : List V} {H : Hp} {Q : VK} {E : XK} (h : sp_Session_keep K vs H Q E) : vs.length = 1 := by
  obtain ⟨_, _, _, _, _, _, _, rfl, _⟩ := h
  rfl
theorem len_Session_take (K : PySem.W.Frag) {vs : List V} {H : Hp} {Q : VK} {E : XK} (h : sp_Session_take K vs H Q E) : vs.length = 2 := by
  obtain ⟨_, _, _, _, _, _, _, _, rfl, _⟩ := h
  rfl
theorem len_Session_free (K : PySem.W.Frag) {vs : List V} {H : Hp} {Q : VK} {E : XK} (h : sp_Session_free K vs H Q E) : vs.length = 2 := by
  obtain ⟨_, _, _, _, _, _, _, _, rfl, _⟩ := h
  rfl
theorem len_Session_back (K : PySem.W.Frag) {vs : List V} {H : Hp} {Q : VK} {E : XK} (h : sp_Session_back K vs H Q E) : vs.length = 1 := by
  obtain ⟨_, _, _, _, _, _, _, rfl, _⟩ := h
  rfl
theorem len_l_called (K : PySem.W.Frag) {vs : List V} {H : Hp} {Q : VK} {E : XK} (h : sp_l_called K vs H Q E) : vs.length = 2 := by
  obtain ⟨_, _, _, _, _, _, _, _, _, rfl, _⟩ := h
  rfl

/-- __init__: slots 0 self, 1 operation -/
abbrev n_CannotDo_init : List Str := ["self", "operation"]
def t_CannotDo_init (K : PySem.W.Frag) : TS :=
  (tOstC (He.ga K "CannotDo") "operation" (tVar 0) (tVar 1))
/-- __init__: slots 0 self, 1 length, 2 slots -/
abbrev n_Session_init : List Str := ["self", "length", "slots"]
def t_Session_init (K : PySem.W.Frag) : TS :=
  (tSeq (tDrop (tCall (sp_require_length K) [] E0 (tCons (tVar 1) tNil)))
  (tSeq (tDrop (tCall (sp_require_slots K) [] E0 (tCons (tVar 2) tNil)))
  (tSeq (sFldC (He.ga K "Session") (tVar 0) (tC .non) "own_budget")
  (tSeq (sFldC (He.ga K "Session") (tVar 0) (tVar 1) "own_length")
  (tSeq (sFldC (He.ga K "Session") (tVar 0) (tVar 2) "own_slots")
  (tSeq (sFldC (He.ga K "Session") (tVar 0) (tMake (He.ga K "Trace") (sp_Trace_init K) [] E0 (tCons (tVar 1) (tCons (tVar 2) tNil))) "own_trace")
  (sFldC (He.ga K "Session") (tVar 0) (tLst tNil) "own_calls")))))))
/-- hand: slots 0 self -/
abbrev n_Session_hand : List Str := ["self"]
def t_Session_hand (K : PySem.W.Frag) : TS :=
  (tRet (tFldC (He.ga K "Trace") (tFldC (He.ga K "Session") (tVar 0) "own_trace") "own_hand"))
/-- kept: slots 0 self -/
abbrev n_Session_kept : List Str := ["self"]
def t_Session_kept (K : PySem.W.Frag) : TS :=
  (tRet (tCB (rSortedI K) (tCons (tFldC (He.ga K "Trace") (tFldC (He.ga K "Session") (tVar 0) "own_trace") "own_kept") tNil)))
/-- steps: slots 0 self -/
abbrev n_Session_steps : List Str := ["self"]
def t_Session_steps (K : PySem.W.Frag) : TS :=
  (tRet (tFldC (He.ga K "Trace") (tFldC (He.ga K "Session") (tVar 0) "own_trace") "own_steps"))
/-- wanted: slots 0 self, 1 left -/
abbrev n_Session_wanted : List Str := ["self", "left"]
def t_Session_wanted (K : PySem.W.Frag) : TS :=
  (tSeq (tAsg (tOp oSub (tOp oSub (tFldC (He.ga K "Session") (tVar 0) "own_length") (tC (.int 1))) (tFldC (He.ga K "Trace") (tFldC (He.ga K "Session") (tVar 0) "own_trace") "own_backs")) (gName 1))
  (tRet (tIf (tTest (tOp oGe (tVar 1) (tC (.int 0)))) (tVar 1) (tC .non))))
/-- __eq__: slots 0 self, 1 other -/
abbrev n_Session_eq : List Str := ["self", "other"]
def t_Session_eq (K : PySem.W.Frag) : TS :=
  (tSeq (tIfS (tOr (tNot (tB (tCB (rIsC (He.ga K "Session")) (tCons (tVar 1) (tCons (tC (.ref (He.ga K "Session"))) tNil))))) (tTest (tOp rNe (tFldC (He.ga K "Session") (tVar 0) "own_budget") (tFldC (He.ga K "Session") (tVar 1) "own_budget")))) (tRet (tC (.bl false))) tNext)
  (tSeq (tIfS (tOr (tTest (tOp rNe (tFldC (He.ga K "Session") (tVar 0) "own_length") (tFldC (He.ga K "Session") (tVar 1) "own_length"))) (tTest (tOp rNe (tFldC (He.ga K "Session") (tVar 0) "own_slots") (tFldC (He.ga K "Session") (tVar 1) "own_slots")))) (tRet (tC (.bl false))) tNext)
  (tRet (tOp (rEqD K) (tFldC (He.ga K "Session") (tVar 0) "own_calls") (tFldC (He.ga K "Session") (tVar 1) "own_calls")))))
/-- require_fit: slots 0 self, 1 trace, 2 operation -/
abbrev n_Session_require_fit : List Str := ["self", "trace", "operation"]
def t_Session_require_fit (K : PySem.W.Frag) : TS :=
  (tIfS (tAnd (tTest (tOp oNotN (tFldC (He.ga K "Session") (tVar 0) "own_budget") (tC .non))) (tAnd (tTest (tOp rEq (tOp (rIxT K) (tVar 2) (tC (.int 0))) (tC (.str "go")))) (tTest (tOp oGt (tOp oAdd (tFldC (He.ga K "Trace") (tVar 1) "own_steps") (tOp (rIxT K) (tVar 2) (tC (.int 1)))) (tFldC (He.ga K "Session") (tVar 0) "own_budget"))))) tNever tNext)
/-- perform: slots 0 self, 1 operation -/
abbrev n_Session_perform : List Str := ["self", "operation"]
def t_Session_perform (K : PySem.W.Frag) (E : XK) : TS :=
  (tSeq (tIfS (tNot (tB (tMeth (He.ga K "Trace") "can_do" (sp_Trace_can_do K) [] E0 (tFldC (He.ga K "Session") (tVar 0) "own_trace") (tCons (tVar 1) tNil)))) (tRaiseX (He.ga K "CannotDo") (sp_CannotDo_init K) (tCons (tC (.int 0)) tNil) E) tNext)
  (tSeq (tDrop (tMeth (He.ga K "Session") "require_fit" (sp_Session_require_fit K) [] E0 (tVar 0) (tCons (tFldC (He.ga K "Session") (tVar 0) "own_trace") (tCons (tVar 1) tNil))))
  (tSeq (tDrop (tMeth (He.ga K "Trace") "do" (sp_Trace_do K) [] E0 (tFldC (He.ga K "Session") (tVar 0) "own_trace") (tCons (tVar 1) tNil)))
  (tDrop (tBM K "list" rAppend (tFldC (He.ga K "Session") (tVar 0) "own_calls") (tCons (tVar 1) tNil))))))
/-- go: slots 0 self, 1 number -/
abbrev n_Session_go : List Str := ["self", "number"]
def t_Session_go (K : PySem.W.Frag) (E : XK) : TS :=
  (tSeq (tIfS (tNot (tB (tCall (sp_is_whole K) [] E0 (tCons (tVar 1) (tCons (tC (.int 1)) (tCons (tC (.int 1000000000000000000000000000000)) tNil)))))) tNever tNext)
  (tDrop (tMeth (He.ga K "Session") "perform" (sp_Session_perform K) [] E (tVar 0) (tCons (tTup (tCons (tC (.str "go")) (tCons (tVar 1) tNil))) tNil))))
/-- keep: slots 0 self -/
abbrev n_Session_keep : List Str := ["self"]
def t_Session_keep (K : PySem.W.Frag) (E : XK) : TS :=
  (tDrop (tMeth (He.ga K "Session") "perform" (sp_Session_perform K) [] E (tVar 0) (tCons (tTup (tCons (tC (.str "keep")) tNil)) tNil)))
/-- take: slots 0 self, 1 state -/
abbrev n_Session_take : List Str := ["self", "state"]
def t_Session_take (K : PySem.W.Frag) (E : XK) : TS :=
  (tSeq (tIfS (tNot (tB (tCall (sp_is_whole K) [] E0 (tCons (tVar 1) (tCons (tC (.int 0)) (tCons (tC (.int 1000000000000000000000000000000)) tNil)))))) tNever tNext)
  (tDrop (tMeth (He.ga K "Session") "perform" (sp_Session_perform K) [] E (tVar 0) (tCons (tTup (tCons (tC (.str "take")) (tCons (tVar 1) tNil))) tNil))))
/-- free: slots 0 self, 1 state -/
abbrev n_Session_free : List Str := ["self", "state"]
def t_Session_free (K : PySem.W.Frag) (E : XK) : TS :=
  (tSeq (tIfS (tNot (tB (tCall (sp_is_whole K) [] E0 (tCons (tVar 1) (tCons (tC (.int 0)) (tCons (tC (.int 1000000000000000000000000000000)) tNil)))))) tNever tNext)
  (tDrop (tMeth (He.ga K "Session") "perform" (sp_Session_perform K) [] E (tVar 0) (tCons (tTup (tCons (tC (.str "free")) (tCons (tVar 1) tNil))) tNil))))
/-- back: slots 0 self -/
abbrev n_Session_back : List Str := ["self"]
def t_Session_back (K : PySem.W.Frag) (E : XK) : TS :=
  (tDrop (tMeth (He.ga K "Session") "perform" (sp_Session_perform K) [] E (tVar 0) (tCons (tTup (tCons (tC (.str "back")) tNil)) tNil)))
/-- log: slots 0 self -/
abbrev n_Session_log : List Str := ["self"]
def t_Session_log (K : PySem.W.Frag) : TS :=
  (tRet (tCB (oList K) (tCons (tFldC (He.ga K "Session") (tVar 0) "own_calls") tNil)))

end Bs

namespace Bs
open PySem PySem.Spec L2 Bm Bl
open PyProof.Rows hiding St
section
variable {H : Hp} {Q : VK} {C a dx t c : Addr} {n s : Int}
theorem gl_budget (e : H a = some (.ins C dx (sf n s t c))) (q : Q .non H) : FL C "own_budget" (.ref a) H Q := ⟨a, dx, _, _, rfl, e, by kernel_rfl, q⟩
theorem gl_length (e : H a = some (.ins C dx (sf n s t c))) (q : Q (.int n) H) : FL C "own_length" (.ref a) H Q := ⟨a, dx, _, _, rfl, e, by kernel_rfl, q⟩
theorem gl_slots (e : H a = some (.ins C dx (sf n s t c))) (q : Q (.int s) H) : FL C "own_slots" (.ref a) H Q := ⟨a, dx, _, _, rfl, e, by kernel_rfl, q⟩
theorem gl_trace (e : H a = some (.ins C dx (sf n s t c))) (q : Q (.ref t) H) : FL C "own_trace" (.ref a) H Q := ⟨a, dx, _, _, rfl, e, by kernel_rfl, q⟩
theorem gl_calls (e : H a = some (.ins C dx (sf n s t c))) (q : Q (.ref c) H) : FL C "own_calls" (.ref a) H Q := ⟨a, dx, _, _, rfl, e, by kernel_rfl, q⟩
end
-- one step of a reading; side conditions; what a heap holds
local macro_rules | `(tactic| walk_at "sc") => `(tactic| (first
  | exact mulL ⟨by omega, by omega⟩ | exact mulR ⟨by omega, by omega⟩ | exact divS (by omega) (by omega) | exact (show (0 : Int) < _ by omega) | exact powS (b := 4) (by decide) (by decide) (by decide) (by decide) | assumption | omega))
local macro_rules | `(tactic| walk_at "ne") => `(tactic| (first
  | assumption | (apply Ne.symm; assumption) | exact ne_none (by assumption) (by walk_at "hp") | exact Ne.symm (ne_none (by assumption) (by walk_at "hp"))))
local macro_rules | `(tactic| walk_at "hp") => `(tactic| (first
  | assumption | exact upd_same | (refine (upd_ne ?k1).trans ?k2; (case k1 => walk_at "ne"); (case k2 => walk_at "hp")) | (refine Same.get (by assumption) ?_; walk_at "hp") | (refine But.get (by assumption) ?k1 ?k2; (case k1 => walk_at "hp"); (case k2 => walk_at "ne"))))
local macro_rules | `(tactic| walk_at "sq") => `(tactic| (first | assumption | exact SqL.of (by walk_at "hp") | exact SqT.of (by walk_at "hp")))
local macro_rules | `(tactic| walk_at "rd1") => `(tactic| (first
  | with_reducible refine r_seq ?_ | with_reducible refine r_asg ?_ | with_reducible refine r_asgG ?_ | with_reducible refine r_op ?_ | ((with_reducible show tVar _ _ _ _); with_reducible refine r_var (by with_unfolding_all exact rfl) ?_) | with_reducible refine r_c ?_ | with_reducible refine r_I0 ?_ | with_reducible refine r_p30 ?_
  | with_reducible refine r_p20 ?_ | with_reducible refine r_p27 ?_ | with_reducible refine r_p29 ?_ | with_reducible refine r_p38 ?_ | with_reducible refine r_p40 ?_ | with_reducible refine r_p42 ?_ | with_reducible refine r_p44 ?_ | with_reducible refine r_p49 ?_
  | with_reducible refine r_p50 ?_ | with_reducible refine r_p60 ?_ | with_reducible refine r_p18 ?_ | with_reducible refine r_p12 ?_ | with_reducible refine r_p15 ?_ | with_reducible refine r_p9 ?_ | with_reducible refine r_p6 ?_ | with_reducible refine r_p64 ?_
  | ((with_reducible refine r_I ?k1 ?k2); (case k1 => walk_at "sc")) | with_reducible refine r_U ?_ | with_reducible refine r_un ?_ | with_reducible refine r_ret ?_ | with_reducible refine r_ifS ?_ | with_reducible refine r_test ?_ | with_reducible refine r_bl ?_ | with_reducible refine r_cb ?_
  | with_reducible refine r_cons ?_ | with_reducible refine r_nil ?_ | with_reducible refine r_intI ?_ | with_reducible refine r_intB ?_ | with_reducible refine r_max2' ?_ | with_reducible refine r_min2' ?_ | with_reducible refine r_max3 ?_ | with_reducible refine r_min3 ?_
  | with_reducible refine r_call ?_ | with_reducible refine r_par ?_ | with_reducible refine r_and ?_ | with_reducible refine r_or ?_ | with_reducible refine r_not ?_ | with_reducible refine r_B ?_ | with_reducible refine r_andV ?_ | with_reducible refine r_orV ?_
  | with_reducible refine r_notV ?_ | with_reducible refine r_ifE ?_ | with_reducible refine r_eqI ?_ | with_reducible refine r_neI ?_ | with_reducible refine r_eqB ?_ | with_reducible refine r_neB ?_ | with_reducible refine r_isN ?_ | with_reducible refine r_notN ?_
  | with_reducible refine r_chain ?_ | with_reducible refine r_chain3 ?_ | with_reducible refine r_drop ?_ | with_reducible refine r_next ?_ | with_reducible refine r_retN ?_ | with_reducible refine r_brk ?_ | with_reducible refine r_cont ?_ | with_reducible refine r_ex ?_
  | with_reducible refine r_tup ?_ | with_reducible refine r_lst ?_ | ((with_reducible refine r_new ?k1 ?k2); (case k1 => first | decide | exact Nat.le_of_ble_eq_true rfl)) | with_reducible refine r_sub ?_ | with_reducible refine r_gname ?_ | with_reducible refine r_gcons ?_ | with_reducible refine r_gnil ?_ | with_reducible refine r_slice ?_
  | with_reducible refine r_noPart ?_ | with_reducible refine r_part ?_ | ((with_reducible show gTup _ _ _ _ _ _ _); with_reducible refine r_gtup (by with_unfolding_all walk_at "sq") (by with_unfolding_all exact rfl) ?_) | with_reducible refine r_rng1 ?_ | with_reducible refine r_rng2 ?_ | ((with_reducible refine r_r1 ?k1 ?k2 ?k3); (case k1 => omega); (case k2 => omega)) | ((with_reducible refine r_r2 ?k1 ?k2); (case k1 => omega)) | with_reducible refine r_nonT ?_
  | with_reducible refine r_nonI ?_ | with_reducible refine r_nonR ?_ | with_reducible refine r_notT ?_ | with_reducible refine r_notI ?_ | with_reducible refine r_notR ?_ | with_reducible refine r_for ?_ | with_reducible refine r_lc ?_ | with_reducible refine r_iL ?_
  | with_reducible refine r_iT ?_ | with_reducible refine r_yesT ?_ | ((with_reducible show _ = _ ∧ _); with_reducible refine r_same (by with_unfolding_all exact rfl) ?_) | with_reducible refine r_neS ?_ | with_reducible refine r_iteT ?_ | with_reducible refine r_iteF ?_ | with_reducible refine r_iteNT ?_ | with_reducible refine r_iteNF ?_
  | ((with_reducible show tAug _ _ _ _ _ _); with_reducible refine r_aug (by with_unfolding_all exact rfl) ?_) | with_reducible refine r_ipI ?_ | with_reducible refine r_bm ?_ | ((with_reducible show tyV _ "list" _ _ ∧ _); with_reducible refine r_tyL (by with_unfolding_all walk_at "sq") ?_) | with_reducible refine r_enum ?_ | ((with_reducible show ∃ (a : Addr) (xs : List V), [V.ref _] = [V.ref a] ∧ _); with_reducible refine r_en (by with_unfolding_all walk_at "sq") ?_) | with_reducible refine r_par3' ?_ | with_reducible refine r_fldC ?_
  | with_reducible refine r_sfld ?_ | with_reducible refine r_saug ?_ | with_reducible refine r_prop ?_ | with_reducible refine r_meth ?_ | with_reducible refine r_make ?_ | with_reducible refine r_eqSY ?_ | ((with_reducible refine r_eqSN ?k1 ?k2); (case k1 => decide +kernel)) | with_reducible refine r_dget ?_
  | with_reducible refine r_dput ?_ | with_reducible refine r_match ?_ | with_reducible refine r_str ?_ | with_reducible refine r_caseY ?_ | ((with_reducible refine r_caseN ?k1 ?k2); (case k1 => decide +kernel)) | with_reducible refine r_caseA ?_ | ((with_reducible show PR _ _ _ _ _ _); with_reducible refine r_pr (by with_unfolding_all walk_at "hp") ?_) | with_reducible refine r_disp ?_
  | with_reducible refine r_pnil ?_ | with_reducible refine r_pcons ?_ | ((with_reducible show FL _ _ _ _ _); (first | ((with_reducible show FL _ "own_budget" _ _ _); with_reducible refine gl_budget (by with_unfolding_all walk_at "hp") ?_) | ((with_reducible show FL _ "own_trace" _ _ _); with_reducible refine gl_trace (by with_unfolding_all walk_at "hp") ?_) | ((with_reducible show FL _ "own_calls" _ _ _); with_reducible refine gl_calls (by with_unfolding_all walk_at "hp") ?_) | ((with_reducible show FL _ "own_length" _ _ _); with_reducible refine gl_length (by with_unfolding_all walk_at "hp") ?_) | ((with_reducible show FL _ "own_slots" _ _ _); with_reducible refine gl_slots (by with_unfolding_all walk_at "hp") ?_) | ((with_reducible show FL _ "own_hand" _ _ _); with_reducible refine fl_hand (by with_unfolding_all walk_at "hp") ?_) | ((with_reducible show FL _ "own_kept" _ _ _); with_reducible refine fl_kept (by with_unfolding_all walk_at "hp") ?_) | ((with_reducible show FL _ "own_steps" _ _ _); with_reducible refine fl_steps (by with_unfolding_all walk_at "hp") ?_) | ((with_reducible show FL _ "own_backs" _ _ _); with_reducible refine fl_backs (by with_unfolding_all walk_at "hp") ?_) | ((with_reducible show FL _ "own_length" _ _ _); with_reducible refine fl_length (by with_unfolding_all walk_at "hp") ?_) | ((with_reducible show FL _ "own_slots" _ _ _); with_reducible refine fl_slots (by with_unfolding_all walk_at "hp") ?_))) | ((with_reducible show FS _ _ _ _ _ _); (first | ((with_reducible show FS _ "own_hand" _ _ _ _); with_reducible refine fs_hand (by with_unfolding_all walk_at "hp") ?_) | ((with_reducible show FS _ "own_kept" _ _ _ _); with_reducible refine fs_kept (by with_unfolding_all walk_at "hp") ?_) | ((with_reducible show FS _ "own_steps" _ _ _ _); with_reducible refine fs_steps (by with_unfolding_all walk_at "hp") ?_) | ((with_reducible show FS _ "own_backs" _ _ _ _); with_reducible refine fs_backs (by with_unfolding_all walk_at "hp") ?_))) | ((with_reducible show DGr _ _ _ _); (first | ((with_reducible show DGr _ (V.str "size") _ _); with_reducible refine dg_size (by with_unfolding_all walk_at "hp") ?_) | ((with_reducible show DGr _ (V.str "hand") _ _); with_reducible refine dg_hand (by with_unfolding_all walk_at "hp") ?_) | ((with_reducible show DGr _ (V.str "held") _ _); with_reducible refine dg_held (by with_unfolding_all walk_at "hp") ?_) | ((with_reducible show DGr _ (V.str "spent") _ _); with_reducible refine dg_spent (by with_unfolding_all walk_at "hp") ?_) | ((with_reducible show DGr _ (V.str "gone") _ _); with_reducible refine dg_gone (by with_unfolding_all walk_at "hp") ?_) | ((with_reducible show DGr _ (V.str "most") _ _); with_reducible refine dg_most (by with_unfolding_all walk_at "hp") ?_) | ((with_reducible show DGr _ (V.str "goes") _ _); with_reducible refine dg_goes (by with_unfolding_all walk_at "hp") ?_))) | ((with_reducible show DPr _ _ _ _ _); (first | ((with_reducible show DPr _ (V.str "hand") _ _ _); with_reducible refine dp_hand (by with_unfolding_all walk_at "hp") ?_) | ((with_reducible show DPr _ (V.str "held") _ _ _); with_reducible refine dp_held (by with_unfolding_all walk_at "hp") ?_) | ((with_reducible show DPr _ (V.str "spent") _ _ _); with_reducible refine dp_spent (by with_unfolding_all walk_at "hp") ?_) | ((with_reducible show DPr _ (V.str "gone") _ _ _); with_reducible refine dp_gone (by with_unfolding_all walk_at "hp") ?_) | ((with_reducible show DPr _ (V.str "most") _ _ _); with_reducible refine dp_most (by with_unfolding_all walk_at "hp") ?_) | ((with_reducible show DPr _ (V.str "goes") _ _ _); with_reducible refine dp_goes (by with_unfolding_all walk_at "hp") ?_)))))
local macro_rules | `(tactic| walk_at "rd") => `(tactic| repeat walk_at "rd1")
theorem r_dead (h : False) {P : Prop} : P := h.elim
section
variable (K : PySem.W.Frag) {vs : List V} {H : Hp} {Q : VK} {E : XK}
theorem pure_CannotDo_init (h : sp_CannotDo_init K vs H Q E) : t_CannotDo_init K { nx := fun _ H' => Q .non H', rt := Q } (start n_CannotDo_init vs) H := by
  obtain ⟨a, v, rfl, ha, q⟩ := h
  show t_CannotDo_init K _ [some (.ref a), some v] H
  unfold t_CannotDo_init
  exact ⟨v, rfl, .ref a, rfl, a, rfl, ha, fun dx h1 h2 => q dx h1 h2⟩
theorem pure_Session_hand (h : sp_Session_hand K vs H Q E) : t_Session_hand K { nx := fun _ H' => Q .non H', rt := Q } (start n_Session_hand vs) H := by
  obtain ⟨a, t, l, c, n, s, ops, rfl, ⟨_, _, dx, h1, ⟨dx2, h2, h3⟩, _⟩, q⟩ := h
  show t_Session_hand K _ [some (.ref a)] H
  unfold t_Session_hand
  walk_at "rd"
  exact q
theorem pure_Session_steps (h : sp_Session_steps K vs H Q E) : t_Session_steps K { nx := fun _ H' => Q .non H', rt := Q } (start n_Session_steps vs) H := by
  obtain ⟨a, t, l, c, n, s, ops, rfl, ⟨_, _, dx, h1, ⟨dx2, h2, h3⟩, _⟩, q⟩ := h
  show t_Session_steps K _ [some (.ref a)] H
  unfold t_Session_steps
  walk_at "rd"
  exact q
theorem pure_Session_kept (h : sp_Session_kept K vs H Q E) : t_Session_kept K { nx := fun _ H' => Q .non H', rt := Q } (start n_Session_kept vs) H := by
  obtain ⟨a, t, l, c, n, s, ops, rfl, ⟨_, _, dx, h1, ⟨dx2, h2, h3⟩, _⟩, q⟩ := h
  show t_Session_kept K _ [some (.ref a)] H
  unfold t_Session_kept
  walk_at "rd"
  exact ⟨l, (run ini ops).kept, rfl, SqL.of h3, fun ks p hp hs hn => q p ks _ (Same.new hn) hn upd_same hp hs⟩
theorem pure_Session_wanted (h : sp_Session_wanted K vs H Q E) : t_Session_wanted K { nx := fun _ H' => Q .non H', rt := Q } (start n_Session_wanted vs) H := by
  obtain ⟨a, t, l, c, n, s, ops, rfl, ⟨_, _, dx, h1, ⟨dx2, h2, h3⟩, _⟩, q⟩ := h
  show t_Session_wanted K _ [some (.ref a), none] H
  unfold t_Session_wanted
  unfold wantV at q
  walk_at "rd"
  refine r_ite (fun e => ?_) fun e => ?_
  · rw [if_pos e] at q
    walk_at "rd"
    exact q
  · rw [if_neg e] at q
    walk_at "rd"
    exact q
theorem pure_Session_log (h : sp_Session_log K vs H Q E) : t_Session_log K { nx := fun _ H' => Q .non H', rt := Q } (start n_Session_log vs) H := by
  obtain ⟨a, t, l, c, n, s, ops, rfl, ⟨_, _, dx, h1, ⟨dx2, h2, h3⟩, ⟨xs, h4, h5⟩⟩, q⟩ := h
  show t_Session_log K _ [some (.ref a)] H
  unfold t_Session_log
  walk_at "rd"
  refine r_listOf (SqL.of h4) fun p hp => ?_
  walk_at "rd"
  exact q p _ (Same.new hp) hp ⟨xs, upd_same, h5.to (Tps.of (Same.new hp))⟩
theorem pure_Session_require_fit (h : sp_Session_require_fit K vs H Q E) : t_Session_require_fit K { nx := fun _ H' => Q .non H', rt := Q } (start n_Session_require_fit vs) H := by
  obtain ⟨a, t, l, c, n, s, ops, v, rfl, ⟨_, _, dx, h1, _⟩, q⟩ := h
  show t_Session_require_fit K _ [some (.ref a), some (.ref t), some v] H
  unfold t_Session_require_fit
  walk_at "rd"
  exact q
end
end Bs

namespace Bs
open PySem PySem.Spec L2 Bm Bl
open PyProof.Rows hiding St
-- one step of a reading; side conditions; what a heap holds
local macro_rules | `(tactic| walk_at "sc") => `(tactic| (first
  | exact mulL ⟨by omega, by omega⟩ | exact mulR ⟨by omega, by omega⟩ | exact divS (by omega) (by omega) | exact (show (0 : Int) < _ by omega) | exact powS (b := 4) (by decide) (by decide) (by decide) (by decide) | assumption | omega))
local macro_rules | `(tactic| walk_at "ne") => `(tactic| (first
  | assumption | (apply Ne.symm; assumption) | exact ne_none (by assumption) (by walk_at "hp") | exact Ne.symm (ne_none (by assumption) (by walk_at "hp"))))
local macro_rules | `(tactic| walk_at "hp") => `(tactic| (first
  | assumption | exact upd_same | (refine (upd_ne ?k1).trans ?k2; (case k1 => walk_at "ne"); (case k2 => walk_at "hp")) | (refine Same.get (by assumption) ?_; walk_at "hp") | (refine But.get (by assumption) ?k1 ?k2; (case k1 => walk_at "hp"); (case k2 => walk_at "ne"))))
local macro_rules | `(tactic| walk_at "sq") => `(tactic| (first | assumption | exact SqL.of (by walk_at "hp") | exact SqT.of (by walk_at "hp")))
local macro_rules | `(tactic| walk_at "rd1") => `(tactic| (first
  | with_reducible refine r_seq ?_ | with_reducible refine r_asg ?_ | with_reducible refine r_asgG ?_ | with_reducible refine r_op ?_ | ((with_reducible show tVar _ _ _ _); with_reducible refine r_var (by with_unfolding_all exact rfl) ?_) | with_reducible refine r_c ?_ | with_reducible refine r_I0 ?_ | with_reducible refine r_p30 ?_
  | with_reducible refine r_p20 ?_ | with_reducible refine r_p27 ?_ | with_reducible refine r_p29 ?_ | with_reducible refine r_p38 ?_ | with_reducible refine r_p40 ?_ | with_reducible refine r_p42 ?_ | with_reducible refine r_p44 ?_ | with_reducible refine r_p49 ?_
  | with_reducible refine r_p50 ?_ | with_reducible refine r_p60 ?_ | with_reducible refine r_p18 ?_ | with_reducible refine r_p12 ?_ | with_reducible refine r_p15 ?_ | with_reducible refine r_p9 ?_ | with_reducible refine r_p6 ?_ | with_reducible refine r_p64 ?_
  | ((with_reducible refine r_I ?k1 ?k2); (case k1 => walk_at "sc")) | with_reducible refine r_U ?_ | with_reducible refine r_un ?_ | with_reducible refine r_ret ?_ | with_reducible refine r_ifS ?_ | with_reducible refine r_test ?_ | with_reducible refine r_bl ?_ | with_reducible refine r_cb ?_
  | with_reducible refine r_cons ?_ | with_reducible refine r_nil ?_ | with_reducible refine r_intI ?_ | with_reducible refine r_intB ?_ | with_reducible refine r_max2' ?_ | with_reducible refine r_min2' ?_ | with_reducible refine r_max3 ?_ | with_reducible refine r_min3 ?_
  | with_reducible refine r_call ?_ | with_reducible refine r_par ?_ | with_reducible refine r_and ?_ | with_reducible refine r_or ?_ | with_reducible refine r_not ?_ | with_reducible refine r_B ?_ | with_reducible refine r_andV ?_ | with_reducible refine r_orV ?_
  | with_reducible refine r_notV ?_ | with_reducible refine r_ifE ?_ | with_reducible refine r_eqI ?_ | with_reducible refine r_neI ?_ | with_reducible refine r_eqB ?_ | with_reducible refine r_neB ?_ | with_reducible refine r_isN ?_ | with_reducible refine r_notN ?_
  | with_reducible refine r_chain ?_ | with_reducible refine r_chain3 ?_ | with_reducible refine r_drop ?_ | with_reducible refine r_next ?_ | with_reducible refine r_retN ?_ | with_reducible refine r_brk ?_ | with_reducible refine r_cont ?_ | with_reducible refine r_ex ?_
  | with_reducible refine r_tup ?_ | with_reducible refine r_lst ?_ | ((with_reducible refine r_new ?k1 ?k2); (case k1 => first | decide | exact Nat.le_of_ble_eq_true rfl)) | with_reducible refine r_sub ?_ | with_reducible refine r_gname ?_ | with_reducible refine r_gcons ?_ | with_reducible refine r_gnil ?_ | with_reducible refine r_slice ?_
  | with_reducible refine r_noPart ?_ | with_reducible refine r_part ?_ | ((with_reducible show gTup _ _ _ _ _ _ _); with_reducible refine r_gtup (by with_unfolding_all walk_at "sq") (by with_unfolding_all exact rfl) ?_) | with_reducible refine r_rng1 ?_ | with_reducible refine r_rng2 ?_ | ((with_reducible refine r_r1 ?k1 ?k2 ?k3); (case k1 => omega); (case k2 => omega)) | ((with_reducible refine r_r2 ?k1 ?k2); (case k1 => omega)) | with_reducible refine r_nonT ?_
  | with_reducible refine r_nonI ?_ | with_reducible refine r_nonR ?_ | with_reducible refine r_notT ?_ | with_reducible refine r_notI ?_ | with_reducible refine r_notR ?_ | with_reducible refine r_for ?_ | with_reducible refine r_lc ?_ | with_reducible refine r_iL ?_
  | with_reducible refine r_iT ?_ | with_reducible refine r_yesT ?_ | ((with_reducible show _ = _ ∧ _); with_reducible refine r_same (by with_unfolding_all exact rfl) ?_) | with_reducible refine r_neS ?_ | with_reducible refine r_iteT ?_ | with_reducible refine r_iteF ?_ | with_reducible refine r_iteNT ?_ | with_reducible refine r_iteNF ?_
  | ((with_reducible show tAug _ _ _ _ _ _); with_reducible refine r_aug (by with_unfolding_all exact rfl) ?_) | with_reducible refine r_ipI ?_ | with_reducible refine r_bm ?_ | ((with_reducible show tyV _ "list" _ _ ∧ _); with_reducible refine r_tyL (by with_unfolding_all walk_at "sq") ?_) | with_reducible refine r_enum ?_ | ((with_reducible show ∃ (a : Addr) (xs : List V), [V.ref _] = [V.ref a] ∧ _); with_reducible refine r_en (by with_unfolding_all walk_at "sq") ?_) | with_reducible refine r_par3' ?_ | with_reducible refine r_fldC ?_
  | with_reducible refine r_sfld ?_ | with_reducible refine r_saug ?_ | with_reducible refine r_prop ?_ | with_reducible refine r_meth ?_ | with_reducible refine r_make ?_ | with_reducible refine r_eqSY ?_ | ((with_reducible refine r_eqSN ?k1 ?k2); (case k1 => decide +kernel)) | with_reducible refine r_dget ?_
  | with_reducible refine r_dput ?_ | with_reducible refine r_match ?_ | with_reducible refine r_str ?_ | with_reducible refine r_caseY ?_ | ((with_reducible refine r_caseN ?k1 ?k2); (case k1 => decide +kernel)) | with_reducible refine r_caseA ?_ | ((with_reducible show PR _ _ _ _ _ _); with_reducible refine r_pr (by with_unfolding_all walk_at "hp") ?_) | with_reducible refine r_disp ?_
  | with_reducible refine r_pnil ?_ | with_reducible refine r_pcons ?_ | ((with_reducible show FL _ _ _ _ _); (first | ((with_reducible show FL _ "own_budget" _ _ _); with_reducible refine gl_budget (by with_unfolding_all walk_at "hp") ?_) | ((with_reducible show FL _ "own_trace" _ _ _); with_reducible refine gl_trace (by with_unfolding_all walk_at "hp") ?_) | ((with_reducible show FL _ "own_calls" _ _ _); with_reducible refine gl_calls (by with_unfolding_all walk_at "hp") ?_) | ((with_reducible show FL _ "own_length" _ _ _); with_reducible refine gl_length (by with_unfolding_all walk_at "hp") ?_) | ((with_reducible show FL _ "own_slots" _ _ _); with_reducible refine gl_slots (by with_unfolding_all walk_at "hp") ?_) | ((with_reducible show FL _ "own_hand" _ _ _); with_reducible refine fl_hand (by with_unfolding_all walk_at "hp") ?_) | ((with_reducible show FL _ "own_kept" _ _ _); with_reducible refine fl_kept (by with_unfolding_all walk_at "hp") ?_) | ((with_reducible show FL _ "own_steps" _ _ _); with_reducible refine fl_steps (by with_unfolding_all walk_at "hp") ?_) | ((with_reducible show FL _ "own_backs" _ _ _); with_reducible refine fl_backs (by with_unfolding_all walk_at "hp") ?_) | ((with_reducible show FL _ "own_length" _ _ _); with_reducible refine fl_length (by with_unfolding_all walk_at "hp") ?_) | ((with_reducible show FL _ "own_slots" _ _ _); with_reducible refine fl_slots (by with_unfolding_all walk_at "hp") ?_))) | ((with_reducible show FS _ _ _ _ _ _); (first | ((with_reducible show FS _ "own_hand" _ _ _ _); with_reducible refine fs_hand (by with_unfolding_all walk_at "hp") ?_) | ((with_reducible show FS _ "own_kept" _ _ _ _); with_reducible refine fs_kept (by with_unfolding_all walk_at "hp") ?_) | ((with_reducible show FS _ "own_steps" _ _ _ _); with_reducible refine fs_steps (by with_unfolding_all walk_at "hp") ?_) | ((with_reducible show FS _ "own_backs" _ _ _ _); with_reducible refine fs_backs (by with_unfolding_all walk_at "hp") ?_))) | ((with_reducible show DGr _ _ _ _); (first | ((with_reducible show DGr _ (V.str "size") _ _); with_reducible refine dg_size (by with_unfolding_all walk_at "hp") ?_) | ((with_reducible show DGr _ (V.str "hand") _ _); with_reducible refine dg_hand (by with_unfolding_all walk_at "hp") ?_) | ((with_reducible show DGr _ (V.str "held") _ _); with_reducible refine dg_held (by with_unfolding_all walk_at "hp") ?_) | ((with_reducible show DGr _ (V.str "spent") _ _); with_reducible refine dg_spent (by with_unfolding_all walk_at "hp") ?_) | ((with_reducible show DGr _ (V.str "gone") _ _); with_reducible refine dg_gone (by with_unfolding_all walk_at "hp") ?_) | ((with_reducible show DGr _ (V.str "most") _ _); with_reducible refine dg_most (by with_unfolding_all walk_at "hp") ?_) | ((with_reducible show DGr _ (V.str "goes") _ _); with_reducible refine dg_goes (by with_unfolding_all walk_at "hp") ?_))) | ((with_reducible show DPr _ _ _ _ _); (first | ((with_reducible show DPr _ (V.str "hand") _ _ _); with_reducible refine dp_hand (by with_unfolding_all walk_at "hp") ?_) | ((with_reducible show DPr _ (V.str "held") _ _ _); with_reducible refine dp_held (by with_unfolding_all walk_at "hp") ?_) | ((with_reducible show DPr _ (V.str "spent") _ _ _); with_reducible refine dp_spent (by with_unfolding_all walk_at "hp") ?_) | ((with_reducible show DPr _ (V.str "gone") _ _ _); with_reducible refine dp_gone (by with_unfolding_all walk_at "hp") ?_) | ((with_reducible show DPr _ (V.str "most") _ _ _); with_reducible refine dp_most (by with_unfolding_all walk_at "hp") ?_) | ((with_reducible show DPr _ (V.str "goes") _ _ _); with_reducible refine dp_goes (by with_unfolding_all walk_at "hp") ?_)))))
local macro_rules | `(tactic| walk_at "rd") => `(tactic| repeat walk_at "rd1")
theorem But3.same {t l c : Addr} {H H1 H2 : Hp} (s : Same H H1) (b : But3 t l c H1 H2) : But3 t l c H H2 := fun p o h1 h2 h3 e => b p o h1 h2 h3 (s _ _ e)
theorem SesAt.same {K : PySem.W.Frag} {H H' : Hp} {a t l c : Addr} {n s : Int} {ops : List Op} (h : SesAt K H a t l c n s ops) (e : Same H H') : SesAt K H' a t l c n s ops := by
  obtain ⟨h1, h2, dx, h3, h4, h5⟩ := h
  exact ⟨h1, h2, dx, e _ _ h3, h4.same e, h5.to (fun vs q => e _ _ q) (Tps.of e)⟩
theorem PerfQ.same {K : PySem.W.Frag} {H H1 : Hp} {a t l c : Addr} {n s : Int} {ops : List Op} {o : Op} {Q Q' : VK} {E : XK} (h : PerfQ K H a t l c n s ops o Q E) (s1 : Same H H1) (hq : ∀ H', Q .non H' → Q' .non H') : PerfQ K H1 a t l c n s ops o Q' E :=
  ⟨fun hc H' b' s' => hq _ (h.1 hc H' (But3.same s1 b') s'), fun hc H' d s' e => h.2 hc H' d (Same.trans s1 s') e⟩
section
variable (K : PySem.W.Frag) {vs : List V} {H : Hp} {Q : VK} {E : XK}
theorem pure_Session_perform (h : sp_Session_perform K vs H Q E) : t_Session_perform K E { nx := fun _ H' => Q .non H', rt := Q } (start n_Session_perform vs) H := by
  obtain ⟨a, t, l, c, n, s, ops, v, o, rfl, ⟨ses, hs, hl⟩, hov, pq⟩ := h
  obtain ⟨nlc, hc, dx, h1, ⟨dx2, h2, h3⟩, ⟨xs, h4, h5⟩⟩ := id ses
  show t_Session_perform K E _ [some (.ref a), some v] H
  unfold t_Session_perform
  have hlx := h5.len
  have nat : a ≠ t := by
    rintro rfl
    rw [h1] at h2
    have e := Option.some.inj h2
    injection e with _ _ e
    have := congrArg List.length e
    exact absurd this (by show ¬ (5 = 6); decide)
  have nal : a ≠ l := ne_of h1 h3 (by intro z; cases z)
  have nac : a ≠ c := ne_of h1 h4 (by intro z; cases z)
  have nct : c ≠ t := ne_of h4 h2 (by intro z; cases z)
  walk_at "rd"
  refine ⟨t, dx2, _, rfl, h2, by kernel_rfl, ?_⟩
  walk_at "rd"
  refine ⟨t, v, n, s, _, o, rfl, ⟨l, dx2, h2, h3⟩, hov, ?_⟩
  walk_at "rd"
  cases hcan : can n s (run ini ops) o with
  | true =>
    walk_at "rd"
    refine ⟨a, dx, _, rfl, h1, by kernel_rfl, ?_⟩
    walk_at "rd"
    refine ⟨a, t, l, c, n, s, ops, v, rfl, ses, ?_⟩
    walk_at "rd"
    refine ⟨t, dx2, _, rfl, h2, by kernel_rfl, ?_⟩
    walk_at "rd"
    refine ⟨t, l, v, n, s, _, o, rfl, ⟨dx2, h2, h3⟩, hov, hcan, hs, fun H1 b1 ht1 => ?_⟩
    have h1' := b1 _ _ nat nal h1
    have h4' := b1 _ _ nct nlc.symm h4
    walk_at "rd"
    refine r_app h4' (by omega) ?_
    have tp : Tps H H1 := Tps.but2 b1 h2 (fun _ z => nomatch z) h3 (fun _ z => nomatch z)
    have tq : Tps H1 (upd H1 c (.lst (xs ++ [v]))) := Tps.upd h4' (fun _ z => nomatch z)
    obtain ⟨dx3, g1, g2⟩ := ht1
    refine pq.1 hcan _ (fun p u p1 p2 p3 e => (upd_ne p3).trans (b1 _ _ p1 p2 e)) ⟨nlc, Can_snoc hc hcan, dx, (upd_ne nac).trans h1', ?_, ⟨xs ++ [v], upd_same, OpsV.snoc ((hov.to tp).to tq) ((h5.to tp).to tq)⟩⟩
    rw [run_app]
    exact ⟨dx3, (upd_ne nct.symm).trans g1, (upd_ne nlc).trans g2⟩
  | false =>
    walk_at "rd"
    refine (show tMkO _ _ _ _ _ _ _ from ?_)
    refine ⟨by show 1 ≤ 1000; decide, fun e he => ?_⟩
    refine ⟨e, .int 0, rfl, upd_same, fun d hd hde => ⟨rfl, d, _, upd_same, (upd_ne hde).trans upd_same, (upd_none hd).2, ?_⟩⟩
    refine pq.2 hcan _ d (fun b u hb => ?_) upd_same
    have n1 : b ≠ d := ne_of_none hb (upd_none hd).2
    have n2 : b ≠ e := ne_of_none hb he
    rw [upd_ne n1, del_ne n2, upd_ne n2, upd_ne n1, upd_ne n2]
    exact hb
theorem pure_Session_go (h : sp_Session_go K vs H Q E) : t_Session_go K E { nx := fun _ H' => Q .non H', rt := Q } (start n_Session_go vs) H := by
  obtain ⟨a, t, l, c, n, s, ops, k, rfl, ⟨ses, hs, hl⟩, hk, pq⟩ := h
  obtain ⟨_, _, dx, h1, _⟩ := id ses
  show t_Session_go K E _ [some (.ref a), some (.int k)] H
  unfold t_Session_go
  walk_at "rd"
  refine ⟨k, 1, _, rfl, ?_⟩
  rw [decide_eq_true (show 1 ≤ k ∧ k ≤ 1000000000000000000000000000000 from hk)]
  walk_at "rd"
  refine ⟨a, dx, _, rfl, h1, by kernel_rfl, ?_⟩
  walk_at "rd"
  intro p hp
  have s1 := Same.new (o := .tup [.str "go", .int k]) hp
  exact ⟨a, t, l, c, n, s, ops, .ref p, .go k, rfl, ⟨ses.same s1, hs, hl⟩, ⟨p, rfl, upd_same⟩, pq.same s1 fun H' q => q⟩
theorem pure_Session_take (h : sp_Session_take K vs H Q E) : t_Session_take K E { nx := fun _ H' => Q .non H', rt := Q } (start n_Session_take vs) H := by
  obtain ⟨a, t, l, c, n, s, ops, k, rfl, ⟨ses, hs, hl⟩, hk, pq⟩ := h
  obtain ⟨_, _, dx, h1, _⟩ := id ses
  show t_Session_take K E _ [some (.ref a), some (.int k)] H
  unfold t_Session_take
  walk_at "rd"
  refine ⟨k, 0, _, rfl, ?_⟩
  rw [decide_eq_true (show 0 ≤ k ∧ k ≤ 1000000000000000000000000000000 from hk)]
  walk_at "rd"
  refine ⟨a, dx, _, rfl, h1, by kernel_rfl, ?_⟩
  walk_at "rd"
  intro p hp
  have s1 := Same.new (o := .tup [.str "take", .int k]) hp
  exact ⟨a, t, l, c, n, s, ops, .ref p, .take k, rfl, ⟨ses.same s1, hs, hl⟩, ⟨p, rfl, upd_same⟩, pq.same s1 fun H' q => q⟩
theorem pure_Session_free (h : sp_Session_free K vs H Q E) : t_Session_free K E { nx := fun _ H' => Q .non H', rt := Q } (start n_Session_free vs) H := by
  obtain ⟨a, t, l, c, n, s, ops, k, rfl, ⟨ses, hs, hl⟩, hk, pq⟩ := h
  obtain ⟨_, _, dx, h1, _⟩ := id ses
  show t_Session_free K E _ [some (.ref a), some (.int k)] H
  unfold t_Session_free
  walk_at "rd"
  refine ⟨k, 0, _, rfl, ?_⟩
  rw [decide_eq_true (show 0 ≤ k ∧ k ≤ 1000000000000000000000000000000 from hk)]
  walk_at "rd"
  refine ⟨a, dx, _, rfl, h1, by kernel_rfl, ?_⟩
  walk_at "rd"
  intro p hp
  have s1 := Same.new (o := .tup [.str "free", .int k]) hp
  exact ⟨a, t, l, c, n, s, ops, .ref p, .free k, rfl, ⟨ses.same s1, hs, hl⟩, ⟨p, rfl, upd_same⟩, pq.same s1 fun H' q => q⟩
theorem pure_Session_keep (h : sp_Session_keep K vs H Q E) : t_Session_keep K E { nx := fun _ H' => Q .non H', rt := Q } (start n_Session_keep vs) H := by
  obtain ⟨a, t, l, c, n, s, ops, rfl, ⟨ses, hs, hl⟩, pq⟩ := h
  obtain ⟨_, _, dx, h1, _⟩ := id ses
  show t_Session_keep K E _ [some (.ref a)] H
  unfold t_Session_keep
  walk_at "rd"
  refine ⟨a, dx, _, rfl, h1, by kernel_rfl, ?_⟩
  walk_at "rd"
  intro p hp
  have s1 := Same.new (o := .tup [.str "keep"]) hp
  exact ⟨a, t, l, c, n, s, ops, .ref p, .keep, rfl, ⟨ses.same s1, hs, hl⟩, ⟨p, rfl, upd_same⟩, pq.same s1 fun H' q => q⟩
theorem pure_Session_back (h : sp_Session_back K vs H Q E) : t_Session_back K E { nx := fun _ H' => Q .non H', rt := Q } (start n_Session_back vs) H := by
  obtain ⟨a, t, l, c, n, s, ops, rfl, ⟨ses, hs, hl⟩, pq⟩ := h
  obtain ⟨_, _, dx, h1, _⟩ := id ses
  show t_Session_back K E _ [some (.ref a)] H
  unfold t_Session_back
  walk_at "rd"
  refine ⟨a, dx, _, rfl, h1, by kernel_rfl, ?_⟩
  walk_at "rd"
  intro p hp
  have s1 := Same.new (o := .tup [.str "back"]) hp
  exact ⟨a, t, l, c, n, s, ops, .ref p, .back, rfl, ⟨ses.same s1, hs, hl⟩, ⟨p, rfl, upd_same⟩, pq.same s1 fun H' q => q⟩
end
end Bs

namespace Bs
open PySem PySem.Spec L2 Bm Bl
open PyProof.Rows hiding St
-- one step of a reading; side conditions; what a heap holds
local macro_rules | `(tactic| walk_at "sc") => `(tactic| (first
  | exact mulL ⟨by omega, by omega⟩ | exact mulR ⟨by omega, by omega⟩ | exact divS (by omega) (by omega) | exact (show (0 : Int) < _ by omega) | exact powS (b := 4) (by decide) (by decide) (by decide) (by decide) | assumption | omega))
local macro_rules | `(tactic| walk_at "ne") => `(tactic| (first
  | assumption | (apply Ne.symm; assumption) | exact ne_none (by assumption) (by walk_at "hp") | exact Ne.symm (ne_none (by assumption) (by walk_at "hp"))))
local macro_rules | `(tactic| walk_at "hp") => `(tactic| (first
  | assumption | exact upd_same | (refine (upd_ne ?k1).trans ?k2; (case k1 => walk_at "ne"); (case k2 => walk_at "hp")) | (refine Same.get (by assumption) ?_; walk_at "hp") | (refine But.get (by assumption) ?k1 ?k2; (case k1 => walk_at "hp"); (case k2 => walk_at "ne"))))
local macro_rules | `(tactic| walk_at "sq") => `(tactic| (first | assumption | exact SqL.of (by walk_at "hp") | exact SqT.of (by walk_at "hp")))
local macro_rules | `(tactic| walk_at "rd1") => `(tactic| (first
  | with_reducible refine r_seq ?_ | with_reducible refine r_asg ?_ | with_reducible refine r_asgG ?_ | with_reducible refine r_op ?_ | ((with_reducible show tVar _ _ _ _); with_reducible refine r_var (by with_unfolding_all exact rfl) ?_) | with_reducible refine r_c ?_ | with_reducible refine r_I0 ?_ | with_reducible refine r_p30 ?_
  | with_reducible refine r_p20 ?_ | with_reducible refine r_p27 ?_ | with_reducible refine r_p29 ?_ | with_reducible refine r_p38 ?_ | with_reducible refine r_p40 ?_ | with_reducible refine r_p42 ?_ | with_reducible refine r_p44 ?_ | with_reducible refine r_p49 ?_
  | with_reducible refine r_p50 ?_ | with_reducible refine r_p60 ?_ | with_reducible refine r_p18 ?_ | with_reducible refine r_p12 ?_ | with_reducible refine r_p15 ?_ | with_reducible refine r_p9 ?_ | with_reducible refine r_p6 ?_ | with_reducible refine r_p64 ?_
  | ((with_reducible refine r_I ?k1 ?k2); (case k1 => walk_at "sc")) | with_reducible refine r_U ?_ | with_reducible refine r_un ?_ | with_reducible refine r_ret ?_ | with_reducible refine r_ifS ?_ | with_reducible refine r_test ?_ | with_reducible refine r_bl ?_ | with_reducible refine r_cb ?_
  | with_reducible refine r_cons ?_ | with_reducible refine r_nil ?_ | with_reducible refine r_intI ?_ | with_reducible refine r_intB ?_ | with_reducible refine r_max2' ?_ | with_reducible refine r_min2' ?_ | with_reducible refine r_max3 ?_ | with_reducible refine r_min3 ?_
  | with_reducible refine r_call ?_ | with_reducible refine r_par ?_ | with_reducible refine r_and ?_ | with_reducible refine r_or ?_ | with_reducible refine r_not ?_ | with_reducible refine r_B ?_ | with_reducible refine r_andV ?_ | with_reducible refine r_orV ?_
  | with_reducible refine r_notV ?_ | with_reducible refine r_ifE ?_ | with_reducible refine r_eqI ?_ | with_reducible refine r_neI ?_ | with_reducible refine r_eqB ?_ | with_reducible refine r_neB ?_ | with_reducible refine r_isN ?_ | with_reducible refine r_notN ?_
  | with_reducible refine r_chain ?_ | with_reducible refine r_chain3 ?_ | with_reducible refine r_drop ?_ | with_reducible refine r_next ?_ | with_reducible refine r_retN ?_ | with_reducible refine r_brk ?_ | with_reducible refine r_cont ?_ | with_reducible refine r_ex ?_
  | with_reducible refine r_tup ?_ | with_reducible refine r_lst ?_ | ((with_reducible refine r_new ?k1 ?k2); (case k1 => first | decide | exact Nat.le_of_ble_eq_true rfl)) | with_reducible refine r_sub ?_ | with_reducible refine r_gname ?_ | with_reducible refine r_gcons ?_ | with_reducible refine r_gnil ?_ | with_reducible refine r_slice ?_
  | with_reducible refine r_noPart ?_ | with_reducible refine r_part ?_ | ((with_reducible show gTup _ _ _ _ _ _ _); with_reducible refine r_gtup (by with_unfolding_all walk_at "sq") (by with_unfolding_all exact rfl) ?_) | with_reducible refine r_rng1 ?_ | with_reducible refine r_rng2 ?_ | ((with_reducible refine r_r1 ?k1 ?k2 ?k3); (case k1 => omega); (case k2 => omega)) | ((with_reducible refine r_r2 ?k1 ?k2); (case k1 => omega)) | with_reducible refine r_nonT ?_
  | with_reducible refine r_nonI ?_ | with_reducible refine r_nonR ?_ | with_reducible refine r_notT ?_ | with_reducible refine r_notI ?_ | with_reducible refine r_notR ?_ | with_reducible refine r_for ?_ | with_reducible refine r_lc ?_ | with_reducible refine r_iL ?_
  | with_reducible refine r_iT ?_ | with_reducible refine r_yesT ?_ | ((with_reducible show _ = _ ∧ _); with_reducible refine r_same (by with_unfolding_all exact rfl) ?_) | with_reducible refine r_neS ?_ | with_reducible refine r_iteT ?_ | with_reducible refine r_iteF ?_ | with_reducible refine r_iteNT ?_ | with_reducible refine r_iteNF ?_
  | ((with_reducible show tAug _ _ _ _ _ _); with_reducible refine r_aug (by with_unfolding_all exact rfl) ?_) | with_reducible refine r_ipI ?_ | with_reducible refine r_bm ?_ | ((with_reducible show tyV _ "list" _ _ ∧ _); with_reducible refine r_tyL (by with_unfolding_all walk_at "sq") ?_) | with_reducible refine r_enum ?_ | ((with_reducible show ∃ (a : Addr) (xs : List V), [V.ref _] = [V.ref a] ∧ _); with_reducible refine r_en (by with_unfolding_all walk_at "sq") ?_) | with_reducible refine r_par3' ?_ | with_reducible refine r_fldC ?_
  | with_reducible refine r_sfld ?_ | with_reducible refine r_saug ?_ | with_reducible refine r_prop ?_ | with_reducible refine r_meth ?_ | with_reducible refine r_make ?_ | with_reducible refine r_eqSY ?_ | ((with_reducible refine r_eqSN ?k1 ?k2); (case k1 => decide +kernel)) | with_reducible refine r_dget ?_
  | with_reducible refine r_dput ?_ | with_reducible refine r_match ?_ | with_reducible refine r_str ?_ | with_reducible refine r_caseY ?_ | ((with_reducible refine r_caseN ?k1 ?k2); (case k1 => decide +kernel)) | with_reducible refine r_caseA ?_ | ((with_reducible show PR _ _ _ _ _ _); with_reducible refine r_pr (by with_unfolding_all walk_at "hp") ?_) | with_reducible refine r_disp ?_
  | with_reducible refine r_pnil ?_ | with_reducible refine r_pcons ?_ | ((with_reducible show FL _ _ _ _ _); (first | ((with_reducible show FL _ "own_budget" _ _ _); with_reducible refine gl_budget (by with_unfolding_all walk_at "hp") ?_) | ((with_reducible show FL _ "own_trace" _ _ _); with_reducible refine gl_trace (by with_unfolding_all walk_at "hp") ?_) | ((with_reducible show FL _ "own_calls" _ _ _); with_reducible refine gl_calls (by with_unfolding_all walk_at "hp") ?_) | ((with_reducible show FL _ "own_length" _ _ _); with_reducible refine gl_length (by with_unfolding_all walk_at "hp") ?_) | ((with_reducible show FL _ "own_slots" _ _ _); with_reducible refine gl_slots (by with_unfolding_all walk_at "hp") ?_) | ((with_reducible show FL _ "own_hand" _ _ _); with_reducible refine fl_hand (by with_unfolding_all walk_at "hp") ?_) | ((with_reducible show FL _ "own_kept" _ _ _); with_reducible refine fl_kept (by with_unfolding_all walk_at "hp") ?_) | ((with_reducible show FL _ "own_steps" _ _ _); with_reducible refine fl_steps (by with_unfolding_all walk_at "hp") ?_) | ((with_reducible show FL _ "own_backs" _ _ _); with_reducible refine fl_backs (by with_unfolding_all walk_at "hp") ?_) | ((with_reducible show FL _ "own_length" _ _ _); with_reducible refine fl_length (by with_unfolding_all walk_at "hp") ?_) | ((with_reducible show FL _ "own_slots" _ _ _); with_reducible refine fl_slots (by with_unfolding_all walk_at "hp") ?_))) | ((with_reducible show FS _ _ _ _ _ _); (first | ((with_reducible show FS _ "own_hand" _ _ _ _); with_reducible refine fs_hand (by with_unfolding_all walk_at "hp") ?_) | ((with_reducible show FS _ "own_kept" _ _ _ _); with_reducible refine fs_kept (by with_unfolding_all walk_at "hp") ?_) | ((with_reducible show FS _ "own_steps" _ _ _ _); with_reducible refine fs_steps (by with_unfolding_all walk_at "hp") ?_) | ((with_reducible show FS _ "own_backs" _ _ _ _); with_reducible refine fs_backs (by with_unfolding_all walk_at "hp") ?_))) | ((with_reducible show DGr _ _ _ _); (first | ((with_reducible show DGr _ (V.str "size") _ _); with_reducible refine dg_size (by with_unfolding_all walk_at "hp") ?_) | ((with_reducible show DGr _ (V.str "hand") _ _); with_reducible refine dg_hand (by with_unfolding_all walk_at "hp") ?_) | ((with_reducible show DGr _ (V.str "held") _ _); with_reducible refine dg_held (by with_unfolding_all walk_at "hp") ?_) | ((with_reducible show DGr _ (V.str "spent") _ _); with_reducible refine dg_spent (by with_unfolding_all walk_at "hp") ?_) | ((with_reducible show DGr _ (V.str "gone") _ _); with_reducible refine dg_gone (by with_unfolding_all walk_at "hp") ?_) | ((with_reducible show DGr _ (V.str "most") _ _); with_reducible refine dg_most (by with_unfolding_all walk_at "hp") ?_) | ((with_reducible show DGr _ (V.str "goes") _ _); with_reducible refine dg_goes (by with_unfolding_all walk_at "hp") ?_))) | ((with_reducible show DPr _ _ _ _ _); (first | ((with_reducible show DPr _ (V.str "hand") _ _ _); with_reducible refine dp_hand (by with_unfolding_all walk_at "hp") ?_) | ((with_reducible show DPr _ (V.str "held") _ _ _); with_reducible refine dp_held (by with_unfolding_all walk_at "hp") ?_) | ((with_reducible show DPr _ (V.str "spent") _ _ _); with_reducible refine dp_spent (by with_unfolding_all walk_at "hp") ?_) | ((with_reducible show DPr _ (V.str "gone") _ _ _); with_reducible refine dp_gone (by with_unfolding_all walk_at "hp") ?_) | ((with_reducible show DPr _ (V.str "most") _ _ _); with_reducible refine dp_most (by with_unfolding_all walk_at "hp") ?_) | ((with_reducible show DPr _ (V.str "goes") _ _ _); with_reducible refine dp_goes (by with_unfolding_all walk_at "hp") ?_)))))
local macro_rules | `(tactic| walk_at "rd") => `(tactic| repeat walk_at "rd1")
section
variable (K : PySem.W.Frag) {vs : List V} {H : Hp} {Q : VK} {E : XK}
theorem sf_all {n s : Int} {t c : Addr} : putF "own_calls" (.ref c) (putF "own_trace" (.ref t) (putF "own_slots" (.int s) (putF "own_length" (.int n) (putF "own_budget" .non [])))) = sf n s t c := by kernel_rfl
theorem pure_Session_init (h : sp_Session_init K vs H Q E) : t_Session_init K { nx := fun _ H' => Q .non H', rt := Q } (start n_Session_init vs) H := by
  obtain ⟨a, dx, n, s, rfl, ha, h1, h2, h3, h4, q⟩ := h
  show t_Session_init K _ [some (.ref a), some (.int n), some (.int s)] H
  unfold t_Session_init
  walk_at "rd"
  refine ⟨n, rfl, h1, h2, ?_⟩
  walk_at "rd"
  refine ⟨s, rfl, h3, h4, ?_⟩
  walk_at "rd"
  refine ⟨a, dx, [], rfl, ha, by decide, ?_⟩
  walk_at "rd"
  refine ⟨a, dx, _, rfl, upd_same, few (putF_few (Nat.le_refl _)) (by decide), ?_⟩
  walk_at "rd"
  refine ⟨a, dx, _, rfl, upd_same, few (putF_few (putF_few (Nat.le_refl _))) (by decide), ?_⟩
  walk_at "rd"
  refine mkTr fun t l H1 s1 ht hl ntl htr => ?_
  have ha1 := s1 _ _ upd_same
  have t0 := (upd_none (upd_none (upd_none ht).2).2).2
  have l0 := (upd_none (upd_none (upd_none hl).2).2).2
  have nat : a ≠ t := ((upd_none ht).1).symm
  have nal : a ≠ l := ((upd_none hl).1).symm
  walk_at "rd"
  refine ⟨a, dx, _, rfl, ha1, few (putF_few (putF_few (putF_few (Nat.le_refl _)))) (by decide), ?_⟩
  walk_at "rd"
  intro c hc
  have nc := upd_none hc
  have nca : c ≠ a := nc.1
  have c0 : H c = none := (upd_none (upd_none (upd_none (s1.free nc.2)).2).2).2
  walk_at "rd"
  refine ⟨a, dx, _, rfl, (upd_ne nca.symm).trans upd_same, few (putF_few (putF_few (putF_few (putF_few (Nat.le_refl _))))) (by decide), ?_⟩
  obtain ⟨dx2, g1, g2⟩ := htr
  have nlc : l ≠ c := ne_of_none g2 nc.2
  have ntc : t ≠ c := ne_of_none g1 nc.2
  rw [sf_all]
  refine q t l c _ (fun b o n1 e => ?_) t0 l0 c0 ⟨nlc, trivial, dx, upd_same, ⟨dx2, ?_, ?_⟩, ⟨[], ?_, trivial⟩⟩
  · rw [upd_ne n1, upd_ne (ne_of_none e c0), upd_ne n1]
    exact s1 _ _ ((upd_ne n1).trans ((upd_ne n1).trans ((upd_ne n1).trans e)))
  · rw [upd_ne nat.symm, upd_ne ntc, upd_ne nat.symm]
    exact g1
  · rw [upd_ne nal.symm, upd_ne nlc, upd_ne nal.symm]
    exact g2
  · rw [upd_ne nca]
    exact upd_same
theorem pure_Session_eq (h : sp_Session_eq K vs H Q E) : t_Session_eq K { nx := fun _ H' => Q .non H', rt := Q } (start n_Session_eq vs) H := by
  obtain ⟨a, b, rfl, ⟨t, l, c, t', l', c', n, s, ops, ⟨_, _, dx, h1, _, ho⟩, ⟨_, _, dx', h1', _, ho'⟩⟩, q⟩ := h
  show t_Session_eq K _ [some (.ref a), some (.ref b)] H
  unfold t_Session_eq
  walk_at "rd"
  refine ⟨b, dx', _, rfl, h1', ?_⟩
  walk_at "rd"
  refine r_ne rfl ?_
  walk_at "rd"
  refine r_nn rfl ?_
  walk_at "rd"
  refine r_nn rfl ?_
  walk_at "rd"
  exact r_eqOps (OpsM.at ho) (OpsM.at ho') (q _ Ext.rfl')
end
end Bs

namespace Bs
open PySem PySem.Spec L2 Bm Bl
open PyProof.Rows hiding St
/-! ### promises: the law over sessions and lists -/
/-- CannotDo is caught by its own name -/
def Ex (K : PySem.W.Frag) : Prop := PySem.W.exmOne K (.ref (He.ga K "CannotDo")) (.ref (He.ga K "CannotDo")) = some true
/-- the law's own state at p, its list none of X -/
def StAt (H : Hp) (X : Addr → Prop) (p : Addr) (n : Int) (t : Tr) : Prop := ∃ l, ¬ X l ∧ H p = some (.tup [.int t.hand, .ref l, .int t.steps, .int (n - 1 - t.backs)]) ∧ H l = some (.lst (t.kept.map V.int))
def sp_l_after (_ : PySem.W.Frag) : Sp := fun vs H Q _ => ∃ X p v n t o, vs = [.ref p, v] ∧ StAt H X p n t ∧ OpV H v o ∧ (∀ x, X x → Is H x) ∧ t.kept.Nodup ∧ t.kept.length ≤ 1000 ∧ ∀ p' H', Same H H' → H p' = none → StAt H' X p' n (step t o) → Q (.ref p') H'
def sp_l_operation (_ : PySem.W.Frag) : Sp := fun vs H Q _ => ∃ X a p n s t, vs = [.ref a, .int n, .int s, .ref p] ∧ Bag H a ∧ StAt H X p n t ∧ X a ∧ InB n s t ∧ t.kept ≠ [] ∧ n ≤ 1000000000000000000000000000000 ∧ s ≤ 1000 ∧
  ∀ v o H', But a H H' → Bag H' a → OpV H' v o → okOp o → (∀ x, o = .free x → 1 < t.kept.length) → Q v H'
/-- what the properties tell -/
def ToldAt (H : Hp) (p : Addr) (n : Int) (t : Tr) : Prop := ∃ (l : Addr) (ks : List Int), H p = some (.tup [.int t.hand, .ref l, .int t.steps, wantV n t]) ∧ H l = some (.lst (ks.map V.int)) ∧ ks.Perm t.kept ∧ ks.Pairwise (· ≤ ·)
def sp_l_told (K : PySem.W.Frag) : Sp := fun vs H Q _ => ∃ a t l c n s ops, vs = [.ref a] ∧ SesAt K H a t l c n s ops ∧ ∀ p H', Same H H' → ToldAt H' p n (run ini ops) → Q (.ref p) H'
def sp_l_tried (K : PySem.W.Frag) : Sp := fun vs H Q _ => ∃ a t l c n s ops v o, vs = [.ref a, v] ∧ Ex K ∧ SesIn K H a t l c n s ops ∧ OpV H v o ∧ okOp o ∧
  (can n s (run ini ops) o = true → ∀ H', But3 t l c H H' → SesAt K H' a t l c n s (ops ++ [o]) → Q .non H') ∧ (can n s (run ini ops) o = false → ∀ H', Same H H' → Q (.int 0) H')
def sp_l_right_k47 (K : PySem.W.Frag) : Sp := fun vs H Q _ => ∃ a n s, vs = [.ref a, .int n, .int s] ∧ Ex K ∧ Bag H a ∧ 1 ≤ n ∧ n ≤ 1000000000000000000000000000000 ∧ 1 ≤ s ∧ s ≤ 4 ∧ ∀ H', But a H H' → Bag H' a → Q (.bl true) H'
def sp_law_k47 (K : PySem.W.Frag) : Sp := fun vs H Q _ => ∃ (a : Addr) (ns : List Int), vs = [.ref a] ∧ Ex K ∧ SqL K H a (ns.map V.int) ∧ ns.length ≤ 63 ∧ ∀ H', Q (.bl true) H'
/-- the suite of the law's try -/
def tSuite (K : PySem.W.Frag) : Addr → Value → Option Addr → TS := fun a cls d => tAsg (tXf a cls d (He.ga K "CannotDo") "operation" (tVar 3)) (gName 2)
/-- try: told = called(session, step); except CannotDo as e: told = e.operation -/
def tTried (K : PySem.W.Frag) : TS := fun D σ H => tAsg (tCallS (sp_l_called K) (WE (wAs K (.ref (He.ga K "CannotDo")) 3 (tSuite K) (fun _ _ _ _ => False) D)) (tCons (tVar 0) (tCons (tVar 1) tNil))) (gName 2) D σ H

theorem len_l_after (K : PySem.W.Frag) {vs : List V} {H : Hp} {Q : VK} {E : XK} (h : sp_l_after K vs H Q E) : vs.length = 2 := by
  obtain ⟨_, _, _, _, _, _, rfl, _⟩ := h
  rfl
theorem len_l_operation (K : PySem.W.Frag) {vs : List V} {H : Hp} {Q : VK} {E : XK} (h : sp_l_operation K vs H Q E) : vs.length = 4 := by
  obtain ⟨_, _, _, _, _, _, rfl, _⟩ := h
  rfl
theorem len_l_told (K : PySem.W.Frag) {vs : List V} {H : Hp} {Q : VK} {E : XK} (h : sp_l_told K vs H Q E) : vs.length = 1 := by
  obtain ⟨_, _, _, _, _, _, _, rfl, _⟩ := h
  rfl
theorem len_l_tried (K : PySem.W.Frag) {vs : List V} {H : Hp} {Q : VK} {E : XK} (h : sp_l_tried K vs H Q E) : vs.length = 2 := by
  obtain ⟨_, _, _, _, _, _, _, _, _, rfl, _⟩ := h
  rfl
theorem len_l_right_k47 (K : PySem.W.Frag) {vs : List V} {H : Hp} {Q : VK} {E : XK} (h : sp_l_right_k47 K vs H Q E) : vs.length = 3 := by
  obtain ⟨_, _, _, rfl, _⟩ := h
  rfl
theorem len_law_k47 (K : PySem.W.Frag) {vs : List V} {H : Hp} {Q : VK} {E : XK} (h : sp_law_k47 K vs H Q E) : vs.length = 1 := by
  obtain ⟨_, _, rfl, _⟩ := h
  rfl

/-- after: slots 0 l_state, 1 l_step, 2 l_hand, 3 l_kept, 4 l_steps_here, 5 l_wanted_here, 6 l_one -/
abbrev n_l_after : List Str := ["_law_state", "_law_step", "_law_hand", "_law_kept", "_law_steps_here", "_law_wanted_here", "_law_one"]
def t_l_after (K : PySem.W.Frag) : TS :=
  (tSeq (tAsg (tVar 0) (gTup K 4 (gCons (gName 2) (gCons (gName 3) (gCons (gName 4) (gCons (gName 5) gNil))))))
  (tSeq (tIfS (tTest (tOp rEq (tOp (rIxT K) (tVar 1) (tC (.int 0))) (tC (.str "go")))) (tRet (tTup (tCons (tOp oAdd (tVar 2) (tOp (rIxT K) (tVar 1) (tC (.int 1)))) (tCons (tVar 3) (tCons (tOp oAdd (tVar 4) (tOp (rIxT K) (tVar 1) (tC (.int 1)))) (tCons (tVar 5) tNil)))))) tNext)
  (tSeq (tIfS (tTest (tOp rEq (tOp (rIxT K) (tVar 1) (tC (.int 0))) (tC (.str "keep")))) (tRet (tTup (tCons (tVar 2) (tCons (tOp rCat (tVar 3) (tLst (tCons (tVar 2) tNil))) (tCons (tVar 4) (tCons (tVar 5) tNil)))))) tNext)
  (tSeq (tIfS (tTest (tOp rEq (tOp (rIxT K) (tVar 1) (tC (.int 0))) (tC (.str "take")))) (tRet (tTup (tCons (tOp (rIxT K) (tVar 1) (tC (.int 1))) (tCons (tVar 3) (tCons (tVar 4) (tCons (tVar 5) tNil)))))) tNext)
  (tSeq (tIfS (tTest (tOp rEq (tOp (rIxT K) (tVar 1) (tC (.int 0))) (tC (.str "free")))) (tRet (tTup (tCons (tVar 2) (tCons (tLc (iList K (tVar 3)) (gName 6) (tTest (tOp rNe (tVar 6) (tOp (rIxT K) (tVar 1) (tC (.int 1))))) (tVar 6) [6]) (tCons (tVar 4) (tCons (tVar 5) tNil)))))) tNext)
  (tRet (tTup (tCons (tVar 2) (tCons (tVar 3) (tCons (tVar 4) (tCons (tOp oSub (tVar 5) (tC (.int 1))) tNil)))))))))))
/-- operation: slots 0 l_bag_here, 1 l_length, 2 l_slots, 3 l_state, 4 l_hand, 5 l_kept, 6 l_steps_here, 7 l_wanted_here, 8 l_far, 9 l_way -/
abbrev n_l_operation : List Str := ["_law_bag_here", "_law_length", "_law_slots", "_law_state", "_law_hand", "_law_kept", "_law_steps_here", "_law_wanted_here", "_law_far", "_law_way"]
def t_l_operation (K : PySem.W.Frag) : TS :=
  (tSeq (tAsg (tVar 3) (gTup K 4 (gCons (gName 4) (gCons (gName 5) (gCons (gName 6) (gCons (gName 7) gNil))))))
  (tSeq (tAsg (tOp oSub (tVar 7) (tVar 4)) (gName 8))
  (tSeq (tIfS (tAnd (tTest (tOp rEq (tVar 8) (tC (.int 0)))) (tTest (tOp oGt (tCall (sp_l_pick K) [] E0 (tCons (tVar 0) (tCons (tC (.int 4)) tNil))) (tC (.int 0))))) (tRet (tTup (tCons (tC (.str "back")) tNil))) tNext)
  (tSeq (tAsg (tCall (sp_l_pick K) [] E0 (tCons (tVar 0) (tCons (tC (.int 6)) tNil))) (gName 9))
  (tSeq (tIfS (tAnd (tTest (tOp oGt (tVar 8) (tC (.int 0)))) (tTest (tOp oLt (tVar 9) (tC (.int 3))))) (tRet (tTup (tCons (tC (.str "go")) (tCons (tOp (rIxL K) (tLst (tCons (tVar 8) (tCons (tOp oAdd (tC (.int 1)) (tCall (sp_l_pick K) [] E0 (tCons (tVar 0) (tCons (tVar 8) tNil)))) tNil))) (tCall (sp_l_pick K) [] E0 (tCons (tVar 0) (tCons (tC (.int 2)) tNil)))) tNil)))) tNext)
  (tSeq (tIfS (tTest (tOp rEq (tVar 9) (tC (.int 3)))) (tRet (tTup (tCons (tC (.str "keep")) tNil))) tNext)
  (tSeq (tIfS (tAnd (tTest (tOp (rNeD K) (tVar 5) (tLst tNil))) (tAnd (tTest (tOp rEq (tVar 9) (tC (.int 4)))) (tTest (tOp oGt (tCB (oLen K) (tCons (tVar 5) tNil)) (tC (.int 1)))))) (tRet (tTup (tCons (tC (.str "free")) (tCons (tOp (rIxL K) (tVar 5) (tCall (sp_l_pick K) [] E0 (tCons (tVar 0) (tCons (tCB (oLen K) (tCons (tVar 5) tNil)) tNil)))) tNil)))) tNext)
  (tSeq (tIfS (tTest (tOp (rNeD K) (tVar 5) (tLst tNil))) (tRet (tTup (tCons (tC (.str "take")) (tCons (tOp (rIxL K) (tVar 5) (tCall (sp_l_pick K) [] E0 (tCons (tVar 0) (tCons (tCB (oLen K) (tCons (tVar 5) tNil)) tNil)))) tNil)))) tNext)
  (tRet (tOp (rIxL K) (tLst (tCons (tTup (tCons (tC (.str "back")) tNil)) (tCons (tTup (tCons (tC (.str "take")) (tCons (tCall (sp_l_pick K) [] E0 (tCons (tVar 0) (tCons (tVar 1) tNil))) tNil))) (tCons (tTup (tCons (tC (.str "go")) (tCons (tOp oAdd (tC (.int 1)) (tCall (sp_l_pick K) [] E0 (tCons (tVar 0) (tCons (tVar 1) tNil)))) tNil))) tNil)))) (tCall (sp_l_pick K) [] E0 (tCons (tVar 0) (tCons (tC (.int 3)) tNil)))))))))))))
/-- called: slots 0 l_session, 1 l_step -/
abbrev n_l_called : List Str := ["_law_session", "_law_step"]
def t_l_called (K : PySem.W.Frag) (E : XK) : TS :=
  (tSeq (tIfS (tTest (tOp rEq (tOp (rIxT K) (tVar 1) (tC (.int 0))) (tC (.str "go")))) (tRet (tMeth (He.ga K "Session") "go" (sp_Session_go K) [] E (tVar 0) (tCons (tOp (rIxT K) (tVar 1) (tC (.int 1))) tNil))) tNext)
  (tSeq (tIfS (tTest (tOp rEq (tOp (rIxT K) (tVar 1) (tC (.int 0))) (tC (.str "keep")))) (tRet (tMeth (He.ga K "Session") "keep" (sp_Session_keep K) [] E (tVar 0) tNil)) tNext)
  (tSeq (tIfS (tTest (tOp rEq (tOp (rIxT K) (tVar 1) (tC (.int 0))) (tC (.str "take")))) (tRet (tMeth (He.ga K "Session") "take" (sp_Session_take K) [] E (tVar 0) (tCons (tOp (rIxT K) (tVar 1) (tC (.int 1))) tNil))) tNext)
  (tSeq (tIfS (tTest (tOp rEq (tOp (rIxT K) (tVar 1) (tC (.int 0))) (tC (.str "free")))) (tRet (tMeth (He.ga K "Session") "free" (sp_Session_free K) [] E (tVar 0) (tCons (tOp (rIxT K) (tVar 1) (tC (.int 1))) tNil))) tNext)
  (tRet (tMeth (He.ga K "Session") "back" (sp_Session_back K) [] E (tVar 0) tNil))))))
/-- told: slots 0 l_session -/
abbrev n_l_told : List Str := ["_law_session"]
def t_l_told (K : PySem.W.Frag) : TS :=
  (tRet (tTup (tCons (tProp (He.ga K "Session") (sp_Session_hand K) [] E0 (tVar 0)) (tCons (tProp (He.ga K "Session") (sp_Session_kept K) [] E0 (tVar 0)) (tCons (tProp (He.ga K "Session") (sp_Session_steps K) [] E0 (tVar 0)) (tCons (tProp (He.ga K "Session") (sp_Session_wanted K) [] E0 (tVar 0)) tNil))))))
/-- tried: slots 0 l_session, 1 l_step, 2 l_told_here, 3 e -/
abbrev n_l_tried : List Str := ["_law_session", "_law_step", "_law_told_here", "e"]
def t_l_tried (K : PySem.W.Frag) : TS :=
  (tSeq (tAsg (tC .non) (gName 2))
  (tSeq (tTried K)
  (tRet (tVar 2))))
/-- right: slots 0 l_bag_here, 1 l_length, 2 l_slots, 3 l_session, 4 l_state, 5 l_most, 6 l_turn, 7 l_step, 8 l_calls, 9 l_told_here, 10 l_wanted_here, 11 l_again -/
abbrev n_l_right_k47 : List Str := ["_law_bag_here", "_law_length", "_law_slots", "_law_session", "_law_state", "_law_most", "_law_turn", "_law_step", "_law_calls", "_law_told_here", "_law_wanted_here", "_law_again"]
def t_l_right_k47 (K : PySem.W.Frag) : TS :=
  (tSeq (tPar3 3 4 5 (tCons (tMake (He.ga K "Session") (sp_Session_init K) [] E0 (tCons (tVar 1) (tCons (tVar 2) tNil))) (tCons (tTup (tCons (tC (.int 0)) (tCons (tLst (tCons (tC (.int 0)) tNil)) (tCons (tC (.int 0)) (tCons (tOp oSub (tVar 1) (tC (.int 1))) tNil))))) (tCons (tC (.int 1)) tNil))))
  (tSeq (tFor (iRng1 (tCons (tC (.int 20)) tNil)) (gName 6)
  (tSeq (tAsg (tCall (sp_l_operation K) [] E0 (tCons (tVar 0) (tCons (tVar 1) (tCons (tVar 2) (tCons (tVar 4) tNil))))) (gName 7))
  (tSeq (tAsg (tMeth (He.ga K "Session") "log" (sp_Session_log K) [] E0 (tVar 3) tNil) (gName 8))
  (tSeq (tIfS (tTest (tOp oNotN (tCall (sp_first_wrong K) [] E0 (tCons (tVar 1) (tCons (tVar 2) (tCons (tVar 8) tNil)))) (tC .non))) (tRet (tC (.bl false))) tNext)
  (tSeq (tAsg (tCall (sp_l_tried K) [] E0 (tCons (tVar 3) (tCons (tVar 7) tNil))) (gName 9))
  (tSeq (tIfS (tTest (tOp rNe (tCall (sp_first_wrong K) [] E0 (tCons (tVar 1) (tCons (tVar 2) (tCons (tOp rCat (tVar 8) (tLst (tCons (tVar 7) tNil))) tNil)))) (tIf (tTest (tOp oIsN (tVar 9) (tC .non))) (tC .non) (tCB (oLen K) (tCons (tVar 8) tNil))))) (tRet (tC (.bl false))) tNext)
  (tSeq (tIfS (tTest (tOp oIsN (tVar 9) (tC .non))) (tPar 4 5 (tCons (tCall (sp_l_after K) [] E0 (tCons (tVar 4) (tCons (tVar 7) tNil))) (tCons (tCB oMax2 (tCons (tVar 5) (tCons (tCB (oLen K) (tCons (tProp (He.ga K "Session") (sp_Session_kept K) [] E0 (tVar 3)) tNil)) tNil))) tNil))) tNext)
  (tSeq (tAsg (tMeth (He.ga K "Session") "log" (sp_Session_log K) [] E0 (tVar 3) tNil) (gName 8))
  (tSeq (tAsg (tIf (tTest (tOp oIsN (tProp (He.ga K "Session") (sp_Session_wanted K) [] E0 (tVar 3)) (tC .non))) (tUn uNeg (tC (.int 1))) (tProp (He.ga K "Session") (sp_Session_wanted K) [] E0 (tVar 3))) (gName 10))
  (tSeq (tAsg (tLst (tCons (tCall (sp_steps_of K) [] E0 (tCons (tVar 1) (tCons (tVar 2) (tCons (tVar 8) tNil)))) (tCons (tCall (sp_backs_of K) [] E0 (tCons (tVar 1) (tCons (tVar 2) (tCons (tVar 8) tNil)))) tNil))) (gName 9))
  (tSeq (tIfS (tTest (tOp (rNeD K) (tVar 9) (tLst (tCons (tProp (He.ga K "Session") (sp_Session_steps K) [] E0 (tVar 3)) (tCons (tOp oSub (tOp oSub (tVar 1) (tC (.int 1))) (tVar 10)) tNil))))) (tRet (tC (.bl false))) tNext)
  (tSeq (tIfS (tOr (tTest (tOp (rNeD K) (tCall (sp_kept_behind K) [] E0 (tCons (tVar 1) (tCons (tVar 2) (tCons (tVar 8) tNil)))) (tTup (tCons (tProp (He.ga K "Session") (sp_Session_hand K) [] E0 (tVar 3)) (tCons (tProp (He.ga K "Session") (sp_Session_kept K) [] E0 (tVar 3)) tNil))))) (tTest (tOp rNe (tCall (sp_most_kept K) [] E0 (tCons (tVar 1) (tCons (tVar 2) (tCons (tVar 8) tNil)))) (tVar 5)))) (tRet (tC (.bl false))) tNext)
  (tIfS (tTest (tOp rNe (tOp oIsN (tCall (sp_extra_steps K) [] E0 (tCons (tVar 1) (tCons (tVar 2) (tCons (tVar 8) tNil)))) (tC .non)) (tOp oNotN (tProp (He.ga K "Session") (sp_Session_wanted K) [] E0 (tVar 3)) (tC .non)))) (tRet (tC (.bl false))) tNext)))))))))))))
  (tSeq (tAsg (tMake (He.ga K "Session") (sp_Session_init K) [] E0 (tCons (tVar 1) (tCons (tVar 2) tNil))) (gName 11))
  (tSeq (tFor (iList K (tMeth (He.ga K "Session") "log" (sp_Session_log K) [] E0 (tVar 3) tNil)) (gName 7)
  (tDrop (tCall (sp_l_called K) [] E0 (tCons (tVar 11) (tCons (tVar 7) tNil)))))
  (tRet (tAndV (tOp (rEqG (DIns (He.ga K "Session") (RSes K))) (tVar 11) (tVar 3)) (tOp (rEqD K) (tCall (sp_l_told K) [] E0 (tCons (tVar 11) tNil)) (tCall (sp_l_told K) [] E0 (tCons (tVar 3) tNil)))))))))
/-- law: slots 0 l_script, 1 l_cell, 2 l_bag_here, 3 l_length -/
abbrev n_law_k47 : List Str := ["_law_script", "_law_cell", "_law_bag_here", "_law_length"]
def t_law_k47 (K : PySem.W.Frag) : TS :=
  (tSeq (tFor (iList K (tOp rCat (tSl (rSlL K) (tVar 0) tNoPart (tPart (tC (.int 5)))) (tLst (tCons (tC (.int 0)) tNil)))) (gName 1)
  (tSeq (tAsg (tCall (sp_l_bag K) [] E0 (tCons (tVar 1) tNil)) (gName 2))
  (tFor (iTup K (tTup (tCons (tOp oAdd (tC (.int 1)) (tCall (sp_l_pick K) [] E0 (tCons (tVar 2) (tCons (tC (.int 3)) tNil)))) (tCons (tOp oAdd (tC (.int 1)) (tCall (sp_l_pick K) [] E0 (tCons (tVar 2) (tCons (tC (.int 12)) tNil)))) (tCons (tOp oAdd (tC (.int 1)) (tCall (sp_l_pick K) [] E0 (tCons (tVar 2) (tCons (tOp oPowA (tC (.int 10)) (tC (.int 30))) tNil)))) tNil))))) (gName 3)
  (tIfS (tNot (tB (tCall (sp_l_right_k47 K) [] E0 (tCons (tVar 2) (tCons (tVar 3) (tCons (tOp oAdd (tC (.int 1)) (tCall (sp_l_pick K) [] E0 (tCons (tVar 2) (tCons (tC (.int 4)) tNil)))) tNil)))))) (tRet (tC (.bl false))) tNext))))
  (tRet (tC (.bl true))))

end Bs

namespace Bs
open PySem PySem.Spec L2 Bm Bl
open PyProof.Rows hiding St
-- one step of a reading; side conditions; what a heap holds
local macro_rules | `(tactic| walk_at "sc") => `(tactic| (first
  | exact mulL ⟨by omega, by omega⟩ | exact mulR ⟨by omega, by omega⟩ | exact divS (by omega) (by omega) | exact (show (0 : Int) < _ by omega) | exact powS (b := 4) (by decide) (by decide) (by decide) (by decide) | assumption | omega))
local macro_rules | `(tactic| walk_at "ne") => `(tactic| (first
  | assumption | (apply Ne.symm; assumption) | exact ne_none (by assumption) (by walk_at "hp") | exact Ne.symm (ne_none (by assumption) (by walk_at "hp"))))
local macro_rules | `(tactic| walk_at "hp") => `(tactic| (first
  | assumption | exact upd_same | (refine (upd_ne ?k1).trans ?k2; (case k1 => walk_at "ne"); (case k2 => walk_at "hp")) | (refine Same.get (by assumption) ?_; walk_at "hp") | (refine But.get (by assumption) ?k1 ?k2; (case k1 => walk_at "hp"); (case k2 => walk_at "ne"))))
local macro_rules | `(tactic| walk_at "sq") => `(tactic| (first | assumption | exact SqL.of (by walk_at "hp") | exact SqT.of (by walk_at "hp")))
local macro_rules | `(tactic| walk_at "rd1") => `(tactic| (first
  | with_reducible refine r_seq ?_ | with_reducible refine r_asg ?_ | with_reducible refine r_asgG ?_ | with_reducible refine r_op ?_ | ((with_reducible show tVar _ _ _ _); with_reducible refine r_var (by with_unfolding_all exact rfl) ?_) | with_reducible refine r_c ?_ | with_reducible refine r_I0 ?_ | with_reducible refine r_p30 ?_
  | with_reducible refine r_p20 ?_ | with_reducible refine r_p27 ?_ | with_reducible refine r_p29 ?_ | with_reducible refine r_p38 ?_ | with_reducible refine r_p40 ?_ | with_reducible refine r_p42 ?_ | with_reducible refine r_p44 ?_ | with_reducible refine r_p49 ?_
  | with_reducible refine r_p50 ?_ | with_reducible refine r_p60 ?_ | with_reducible refine r_p18 ?_ | with_reducible refine r_p12 ?_ | with_reducible refine r_p15 ?_ | with_reducible refine r_p9 ?_ | with_reducible refine r_p6 ?_ | with_reducible refine r_p64 ?_
  | ((with_reducible refine r_I ?k1 ?k2); (case k1 => walk_at "sc")) | with_reducible refine r_U ?_ | with_reducible refine r_un ?_ | with_reducible refine r_ret ?_ | with_reducible refine r_ifS ?_ | with_reducible refine r_test ?_ | with_reducible refine r_bl ?_ | with_reducible refine r_cb ?_
  | with_reducible refine r_cons ?_ | with_reducible refine r_nil ?_ | with_reducible refine r_intI ?_ | with_reducible refine r_intB ?_ | with_reducible refine r_max2' ?_ | with_reducible refine r_min2' ?_ | with_reducible refine r_max3 ?_ | with_reducible refine r_min3 ?_
  | with_reducible refine r_call ?_ | with_reducible refine r_par ?_ | with_reducible refine r_and ?_ | with_reducible refine r_or ?_ | with_reducible refine r_not ?_ | with_reducible refine r_B ?_ | with_reducible refine r_andV ?_ | with_reducible refine r_orV ?_
  | with_reducible refine r_notV ?_ | with_reducible refine r_ifE ?_ | with_reducible refine r_eqI ?_ | with_reducible refine r_neI ?_ | with_reducible refine r_eqB ?_ | with_reducible refine r_neB ?_ | with_reducible refine r_isN ?_ | with_reducible refine r_notN ?_
  | with_reducible refine r_chain ?_ | with_reducible refine r_chain3 ?_ | with_reducible refine r_drop ?_ | with_reducible refine r_next ?_ | with_reducible refine r_retN ?_ | with_reducible refine r_brk ?_ | with_reducible refine r_cont ?_ | with_reducible refine r_ex ?_
  | with_reducible refine r_tup ?_ | with_reducible refine r_lst ?_ | ((with_reducible refine r_new ?k1 ?k2); (case k1 => first | decide | exact Nat.le_of_ble_eq_true rfl)) | with_reducible refine r_sub ?_ | with_reducible refine r_gname ?_ | with_reducible refine r_gcons ?_ | with_reducible refine r_gnil ?_ | with_reducible refine r_slice ?_
  | with_reducible refine r_noPart ?_ | with_reducible refine r_part ?_ | ((with_reducible show gTup _ _ _ _ _ _ _); with_reducible refine r_gtup (by with_unfolding_all walk_at "sq") (by with_unfolding_all exact rfl) ?_) | with_reducible refine r_rng1 ?_ | with_reducible refine r_rng2 ?_ | ((with_reducible refine r_r1 ?k1 ?k2 ?k3); (case k1 => omega); (case k2 => omega)) | ((with_reducible refine r_r2 ?k1 ?k2); (case k1 => omega)) | with_reducible refine r_nonT ?_
  | with_reducible refine r_nonI ?_ | with_reducible refine r_nonR ?_ | with_reducible refine r_notT ?_ | with_reducible refine r_notI ?_ | with_reducible refine r_notR ?_ | with_reducible refine r_for ?_ | with_reducible refine r_lc ?_ | with_reducible refine r_iL ?_
  | with_reducible refine r_iT ?_ | with_reducible refine r_yesT ?_ | ((with_reducible show _ = _ ∧ _); with_reducible refine r_same (by with_unfolding_all exact rfl) ?_) | with_reducible refine r_neS ?_ | with_reducible refine r_iteT ?_ | with_reducible refine r_iteF ?_ | with_reducible refine r_iteNT ?_ | with_reducible refine r_iteNF ?_
  | ((with_reducible show tAug _ _ _ _ _ _); with_reducible refine r_aug (by with_unfolding_all exact rfl) ?_) | with_reducible refine r_ipI ?_ | with_reducible refine r_bm ?_ | ((with_reducible show tyV _ "list" _ _ ∧ _); with_reducible refine r_tyL (by with_unfolding_all walk_at "sq") ?_) | with_reducible refine r_enum ?_ | ((with_reducible show ∃ (a : Addr) (xs : List V), [V.ref _] = [V.ref a] ∧ _); with_reducible refine r_en (by with_unfolding_all walk_at "sq") ?_) | with_reducible refine r_par3' ?_ | with_reducible refine r_fldC ?_
  | with_reducible refine r_sfld ?_ | with_reducible refine r_saug ?_ | with_reducible refine r_prop ?_ | with_reducible refine r_meth ?_ | with_reducible refine r_make ?_ | with_reducible refine r_eqSY ?_ | ((with_reducible refine r_eqSN ?k1 ?k2); (case k1 => decide +kernel)) | with_reducible refine r_dget ?_
  | with_reducible refine r_dput ?_ | with_reducible refine r_match ?_ | with_reducible refine r_str ?_ | with_reducible refine r_caseY ?_ | ((with_reducible refine r_caseN ?k1 ?k2); (case k1 => decide +kernel)) | with_reducible refine r_caseA ?_ | ((with_reducible show PR _ _ _ _ _ _); with_reducible refine r_pr (by with_unfolding_all walk_at "hp") ?_) | with_reducible refine r_disp ?_
  | with_reducible refine r_pnil ?_ | with_reducible refine r_pcons ?_ | ((with_reducible show FL _ _ _ _ _); (first | ((with_reducible show FL _ "own_budget" _ _ _); with_reducible refine gl_budget (by with_unfolding_all walk_at "hp") ?_) | ((with_reducible show FL _ "own_trace" _ _ _); with_reducible refine gl_trace (by with_unfolding_all walk_at "hp") ?_) | ((with_reducible show FL _ "own_calls" _ _ _); with_reducible refine gl_calls (by with_unfolding_all walk_at "hp") ?_) | ((with_reducible show FL _ "own_length" _ _ _); with_reducible refine gl_length (by with_unfolding_all walk_at "hp") ?_) | ((with_reducible show FL _ "own_slots" _ _ _); with_reducible refine gl_slots (by with_unfolding_all walk_at "hp") ?_) | ((with_reducible show FL _ "own_hand" _ _ _); with_reducible refine fl_hand (by with_unfolding_all walk_at "hp") ?_) | ((with_reducible show FL _ "own_kept" _ _ _); with_reducible refine fl_kept (by with_unfolding_all walk_at "hp") ?_) | ((with_reducible show FL _ "own_steps" _ _ _); with_reducible refine fl_steps (by with_unfolding_all walk_at "hp") ?_) | ((with_reducible show FL _ "own_backs" _ _ _); with_reducible refine fl_backs (by with_unfolding_all walk_at "hp") ?_) | ((with_reducible show FL _ "own_length" _ _ _); with_reducible refine fl_length (by with_unfolding_all walk_at "hp") ?_) | ((with_reducible show FL _ "own_slots" _ _ _); with_reducible refine fl_slots (by with_unfolding_all walk_at "hp") ?_))) | ((with_reducible show FS _ _ _ _ _ _); (first | ((with_reducible show FS _ "own_hand" _ _ _ _); with_reducible refine fs_hand (by with_unfolding_all walk_at "hp") ?_) | ((with_reducible show FS _ "own_kept" _ _ _ _); with_reducible refine fs_kept (by with_unfolding_all walk_at "hp") ?_) | ((with_reducible show FS _ "own_steps" _ _ _ _); with_reducible refine fs_steps (by with_unfolding_all walk_at "hp") ?_) | ((with_reducible show FS _ "own_backs" _ _ _ _); with_reducible refine fs_backs (by with_unfolding_all walk_at "hp") ?_))) | ((with_reducible show DGr _ _ _ _); (first | ((with_reducible show DGr _ (V.str "size") _ _); with_reducible refine dg_size (by with_unfolding_all walk_at "hp") ?_) | ((with_reducible show DGr _ (V.str "hand") _ _); with_reducible refine dg_hand (by with_unfolding_all walk_at "hp") ?_) | ((with_reducible show DGr _ (V.str "held") _ _); with_reducible refine dg_held (by with_unfolding_all walk_at "hp") ?_) | ((with_reducible show DGr _ (V.str "spent") _ _); with_reducible refine dg_spent (by with_unfolding_all walk_at "hp") ?_) | ((with_reducible show DGr _ (V.str "gone") _ _); with_reducible refine dg_gone (by with_unfolding_all walk_at "hp") ?_) | ((with_reducible show DGr _ (V.str "most") _ _); with_reducible refine dg_most (by with_unfolding_all walk_at "hp") ?_) | ((with_reducible show DGr _ (V.str "goes") _ _); with_reducible refine dg_goes (by with_unfolding_all walk_at "hp") ?_))) | ((with_reducible show DPr _ _ _ _ _); (first | ((with_reducible show DPr _ (V.str "hand") _ _ _); with_reducible refine dp_hand (by with_unfolding_all walk_at "hp") ?_) | ((with_reducible show DPr _ (V.str "held") _ _ _); with_reducible refine dp_held (by with_unfolding_all walk_at "hp") ?_) | ((with_reducible show DPr _ (V.str "spent") _ _ _); with_reducible refine dp_spent (by with_unfolding_all walk_at "hp") ?_) | ((with_reducible show DPr _ (V.str "gone") _ _ _); with_reducible refine dp_gone (by with_unfolding_all walk_at "hp") ?_) | ((with_reducible show DPr _ (V.str "most") _ _ _); with_reducible refine dp_most (by with_unfolding_all walk_at "hp") ?_) | ((with_reducible show DPr _ (V.str "goes") _ _ _); with_reducible refine dp_goes (by with_unfolding_all walk_at "hp") ?_)))))
local macro_rules | `(tactic| walk_at "rd") => `(tactic| repeat walk_at "rd1")
section
variable (K : PySem.W.Frag) {vs : List V} {H : Hp} {Q : VK} {E : XK}
theorem pure_l_called (h : sp_l_called K vs H Q E) : t_l_called K E { nx := fun _ H' => Q .non H', rt := Q } (start n_l_called vs) H := by
  obtain ⟨a, t, l, c, n, s, ops, v, o, rfl, si, ⟨p, rfl, hp⟩, ok, pq⟩ := h
  obtain ⟨_, _, dx, h1, _⟩ := id si.1
  show t_l_called K E _ [some (.ref a), some (.ref p)] H
  unfold t_l_called
  walk_at "rd"
  cases o with
  | go k =>
    refine r_ixT (SqT.of hp) atI_0 ?_
    walk_at "rd"
    refine ⟨a, dx, _, rfl, h1, by kernel_rfl, ?_⟩
    walk_at "rd"
    refine r_ixT (SqT.of hp) atI_1 ?_
    walk_at "rd"
    exact ⟨a, t, l, c, n, s, ops, k, rfl, si, ok, pq⟩
  | keep =>
    refine r_ixT (SqT.of hp) atI_0 ?_
    walk_at "rd"
    refine r_ixT (SqT.of hp) atI_0 ?_
    walk_at "rd"
    refine ⟨a, dx, _, rfl, h1, by kernel_rfl, ?_⟩
    walk_at "rd"
    exact ⟨a, t, l, c, n, s, ops, rfl, si, pq⟩
  | take k =>
    refine r_ixT (SqT.of hp) atI_0 ?_
    walk_at "rd"
    refine r_ixT (SqT.of hp) atI_0 ?_
    walk_at "rd"
    refine r_ixT (SqT.of hp) atI_0 ?_
    walk_at "rd"
    refine ⟨a, dx, _, rfl, h1, by kernel_rfl, ?_⟩
    walk_at "rd"
    refine r_ixT (SqT.of hp) atI_1 ?_
    walk_at "rd"
    exact ⟨a, t, l, c, n, s, ops, k, rfl, si, ok, pq⟩
  | free k =>
    refine r_ixT (SqT.of hp) atI_0 ?_
    walk_at "rd"
    refine r_ixT (SqT.of hp) atI_0 ?_
    walk_at "rd"
    refine r_ixT (SqT.of hp) atI_0 ?_
    walk_at "rd"
    refine r_ixT (SqT.of hp) atI_0 ?_
    walk_at "rd"
    refine ⟨a, dx, _, rfl, h1, by kernel_rfl, ?_⟩
    walk_at "rd"
    refine r_ixT (SqT.of hp) atI_1 ?_
    walk_at "rd"
    exact ⟨a, t, l, c, n, s, ops, k, rfl, si, ok, pq⟩
  | back =>
    refine r_ixT (SqT.of hp) atI_0 ?_
    walk_at "rd"
    refine r_ixT (SqT.of hp) atI_0 ?_
    walk_at "rd"
    refine r_ixT (SqT.of hp) atI_0 ?_
    walk_at "rd"
    refine r_ixT (SqT.of hp) atI_0 ?_
    walk_at "rd"
    refine ⟨a, dx, _, rfl, h1, by kernel_rfl, ?_⟩
    walk_at "rd"
    exact ⟨a, t, l, c, n, s, ops, rfl, si, pq⟩
theorem pure_l_told (h : sp_l_told K vs H Q E) : t_l_told K { nx := fun _ H' => Q .non H', rt := Q } (start n_l_told vs) H := by
  obtain ⟨a, t, l, c, n, s, ops, rfl, ses, q⟩ := h
  obtain ⟨_, _, dx, h1, _⟩ := id ses
  show t_l_told K _ [some (.ref a)] H
  unfold t_l_told
  walk_at "rd"
  refine ⟨a, t, l, c, n, s, ops, rfl, ses, ?_⟩
  walk_at "rd"
  refine ⟨a, t, l, c, n, s, ops, rfl, ses, fun p ks H1 s1 hp hp1 kp ks2 => ?_⟩
  have h1' := s1 _ _ h1
  have ses1 := ses.same s1
  walk_at "rd"
  refine ⟨a, t, l, c, n, s, ops, rfl, ses1, ?_⟩
  walk_at "rd"
  refine ⟨a, t, l, c, n, s, ops, rfl, ses1, ?_⟩
  walk_at "rd"
  intro z hz
  exact q z _ (Same.newT s1 hz) ⟨p, ks, upd_same, (upd_ne (ne_of_none hp1 hz)).trans hp1, kp, ks2⟩
end
end Bs

namespace Bs
open PySem PySem.Spec L2 Bm Bl
open PyProof.Rows hiding St
-- one step of a reading; side conditions; what a heap holds
local macro_rules | `(tactic| walk_at "sc") => `(tactic| (first
  | exact mulL ⟨by omega, by omega⟩ | exact mulR ⟨by omega, by omega⟩ | exact divS (by omega) (by omega) | exact (show (0 : Int) < _ by omega) | exact powS (b := 4) (by decide) (by decide) (by decide) (by decide) | assumption | omega))
local macro_rules | `(tactic| walk_at "ne") => `(tactic| (first
  | assumption | (apply Ne.symm; assumption) | exact ne_none (by assumption) (by walk_at "hp") | exact Ne.symm (ne_none (by assumption) (by walk_at "hp"))))
local macro_rules | `(tactic| walk_at "hp") => `(tactic| (first
  | assumption | exact upd_same | (refine (upd_ne ?k1).trans ?k2; (case k1 => walk_at "ne"); (case k2 => walk_at "hp")) | (refine Same.get (by assumption) ?_; walk_at "hp") | (refine But.get (by assumption) ?k1 ?k2; (case k1 => walk_at "hp"); (case k2 => walk_at "ne"))))
local macro_rules | `(tactic| walk_at "sq") => `(tactic| (first | assumption | exact SqL.of (by walk_at "hp") | exact SqT.of (by walk_at "hp")))
local macro_rules | `(tactic| walk_at "rd1") => `(tactic| (first
  | with_reducible refine r_seq ?_ | with_reducible refine r_asg ?_ | with_reducible refine r_asgG ?_ | with_reducible refine r_op ?_ | ((with_reducible show tVar _ _ _ _); with_reducible refine r_var (by with_unfolding_all exact rfl) ?_) | with_reducible refine r_c ?_ | with_reducible refine r_I0 ?_ | with_reducible refine r_p30 ?_
  | with_reducible refine r_p20 ?_ | with_reducible refine r_p27 ?_ | with_reducible refine r_p29 ?_ | with_reducible refine r_p38 ?_ | with_reducible refine r_p40 ?_ | with_reducible refine r_p42 ?_ | with_reducible refine r_p44 ?_ | with_reducible refine r_p49 ?_
  | with_reducible refine r_p50 ?_ | with_reducible refine r_p60 ?_ | with_reducible refine r_p18 ?_ | with_reducible refine r_p12 ?_ | with_reducible refine r_p15 ?_ | with_reducible refine r_p9 ?_ | with_reducible refine r_p6 ?_ | with_reducible refine r_p64 ?_
  | ((with_reducible refine r_I ?k1 ?k2); (case k1 => walk_at "sc")) | with_reducible refine r_U ?_ | with_reducible refine r_un ?_ | with_reducible refine r_ret ?_ | with_reducible refine r_ifS ?_ | with_reducible refine r_test ?_ | with_reducible refine r_bl ?_ | with_reducible refine r_cb ?_
  | with_reducible refine r_cons ?_ | with_reducible refine r_nil ?_ | with_reducible refine r_intI ?_ | with_reducible refine r_intB ?_ | with_reducible refine r_max2' ?_ | with_reducible refine r_min2' ?_ | with_reducible refine r_max3 ?_ | with_reducible refine r_min3 ?_
  | with_reducible refine r_call ?_ | with_reducible refine r_par ?_ | with_reducible refine r_and ?_ | with_reducible refine r_or ?_ | with_reducible refine r_not ?_ | with_reducible refine r_B ?_ | with_reducible refine r_andV ?_ | with_reducible refine r_orV ?_
  | with_reducible refine r_notV ?_ | with_reducible refine r_ifE ?_ | with_reducible refine r_eqI ?_ | with_reducible refine r_neI ?_ | with_reducible refine r_eqB ?_ | with_reducible refine r_neB ?_ | with_reducible refine r_isN ?_ | with_reducible refine r_notN ?_
  | with_reducible refine r_chain ?_ | with_reducible refine r_chain3 ?_ | with_reducible refine r_drop ?_ | with_reducible refine r_next ?_ | with_reducible refine r_retN ?_ | with_reducible refine r_brk ?_ | with_reducible refine r_cont ?_ | with_reducible refine r_ex ?_
  | with_reducible refine r_tup ?_ | with_reducible refine r_lst ?_ | ((with_reducible refine r_new ?k1 ?k2); (case k1 => first | decide | exact Nat.le_of_ble_eq_true rfl)) | with_reducible refine r_sub ?_ | with_reducible refine r_gname ?_ | with_reducible refine r_gcons ?_ | with_reducible refine r_gnil ?_ | with_reducible refine r_slice ?_
  | with_reducible refine r_noPart ?_ | with_reducible refine r_part ?_ | ((with_reducible show gTup _ _ _ _ _ _ _); with_reducible refine r_gtup (by with_unfolding_all walk_at "sq") (by with_unfolding_all exact rfl) ?_) | with_reducible refine r_rng1 ?_ | with_reducible refine r_rng2 ?_ | ((with_reducible refine r_r1 ?k1 ?k2 ?k3); (case k1 => omega); (case k2 => omega)) | ((with_reducible refine r_r2 ?k1 ?k2); (case k1 => omega)) | with_reducible refine r_nonT ?_
  | with_reducible refine r_nonI ?_ | with_reducible refine r_nonR ?_ | with_reducible refine r_notT ?_ | with_reducible refine r_notI ?_ | with_reducible refine r_notR ?_ | with_reducible refine r_for ?_ | with_reducible refine r_lc ?_ | with_reducible refine r_iL ?_
  | with_reducible refine r_iT ?_ | with_reducible refine r_yesT ?_ | ((with_reducible show _ = _ ∧ _); with_reducible refine r_same (by with_unfolding_all exact rfl) ?_) | with_reducible refine r_neS ?_ | with_reducible refine r_iteT ?_ | with_reducible refine r_iteF ?_ | with_reducible refine r_iteNT ?_ | with_reducible refine r_iteNF ?_
  | ((with_reducible show tAug _ _ _ _ _ _); with_reducible refine r_aug (by with_unfolding_all exact rfl) ?_) | with_reducible refine r_ipI ?_ | with_reducible refine r_bm ?_ | ((with_reducible show tyV _ "list" _ _ ∧ _); with_reducible refine r_tyL (by with_unfolding_all walk_at "sq") ?_) | with_reducible refine r_enum ?_ | ((with_reducible show ∃ (a : Addr) (xs : List V), [V.ref _] = [V.ref a] ∧ _); with_reducible refine r_en (by with_unfolding_all walk_at "sq") ?_) | with_reducible refine r_par3' ?_ | with_reducible refine r_fldC ?_
  | with_reducible refine r_sfld ?_ | with_reducible refine r_saug ?_ | with_reducible refine r_prop ?_ | with_reducible refine r_meth ?_ | with_reducible refine r_make ?_ | with_reducible refine r_eqSY ?_ | ((with_reducible refine r_eqSN ?k1 ?k2); (case k1 => decide +kernel)) | with_reducible refine r_dget ?_
  | with_reducible refine r_dput ?_ | with_reducible refine r_match ?_ | with_reducible refine r_str ?_ | with_reducible refine r_caseY ?_ | ((with_reducible refine r_caseN ?k1 ?k2); (case k1 => decide +kernel)) | with_reducible refine r_caseA ?_ | ((with_reducible show PR _ _ _ _ _ _); with_reducible refine r_pr (by with_unfolding_all walk_at "hp") ?_) | with_reducible refine r_disp ?_
  | with_reducible refine r_pnil ?_ | with_reducible refine r_pcons ?_ | ((with_reducible show FL _ _ _ _ _); (first | ((with_reducible show FL _ "own_budget" _ _ _); with_reducible refine gl_budget (by with_unfolding_all walk_at "hp") ?_) | ((with_reducible show FL _ "own_trace" _ _ _); with_reducible refine gl_trace (by with_unfolding_all walk_at "hp") ?_) | ((with_reducible show FL _ "own_calls" _ _ _); with_reducible refine gl_calls (by with_unfolding_all walk_at "hp") ?_) | ((with_reducible show FL _ "own_length" _ _ _); with_reducible refine gl_length (by with_unfolding_all walk_at "hp") ?_) | ((with_reducible show FL _ "own_slots" _ _ _); with_reducible refine gl_slots (by with_unfolding_all walk_at "hp") ?_) | ((with_reducible show FL _ "own_hand" _ _ _); with_reducible refine fl_hand (by with_unfolding_all walk_at "hp") ?_) | ((with_reducible show FL _ "own_kept" _ _ _); with_reducible refine fl_kept (by with_unfolding_all walk_at "hp") ?_) | ((with_reducible show FL _ "own_steps" _ _ _); with_reducible refine fl_steps (by with_unfolding_all walk_at "hp") ?_) | ((with_reducible show FL _ "own_backs" _ _ _); with_reducible refine fl_backs (by with_unfolding_all walk_at "hp") ?_) | ((with_reducible show FL _ "own_length" _ _ _); with_reducible refine fl_length (by with_unfolding_all walk_at "hp") ?_) | ((with_reducible show FL _ "own_slots" _ _ _); with_reducible refine fl_slots (by with_unfolding_all walk_at "hp") ?_))) | ((with_reducible show FS _ _ _ _ _ _); (first | ((with_reducible show FS _ "own_hand" _ _ _ _); with_reducible refine fs_hand (by with_unfolding_all walk_at "hp") ?_) | ((with_reducible show FS _ "own_kept" _ _ _ _); with_reducible refine fs_kept (by with_unfolding_all walk_at "hp") ?_) | ((with_reducible show FS _ "own_steps" _ _ _ _); with_reducible refine fs_steps (by with_unfolding_all walk_at "hp") ?_) | ((with_reducible show FS _ "own_backs" _ _ _ _); with_reducible refine fs_backs (by with_unfolding_all walk_at "hp") ?_))) | ((with_reducible show DGr _ _ _ _); (first | ((with_reducible show DGr _ (V.str "size") _ _); with_reducible refine dg_size (by with_unfolding_all walk_at "hp") ?_) | ((with_reducible show DGr _ (V.str "hand") _ _); with_reducible refine dg_hand (by with_unfolding_all walk_at "hp") ?_) | ((with_reducible show DGr _ (V.str "held") _ _); with_reducible refine dg_held (by with_unfolding_all walk_at "hp") ?_) | ((with_reducible show DGr _ (V.str "spent") _ _); with_reducible refine dg_spent (by with_unfolding_all walk_at "hp") ?_) | ((with_reducible show DGr _ (V.str "gone") _ _); with_reducible refine dg_gone (by with_unfolding_all walk_at "hp") ?_) | ((with_reducible show DGr _ (V.str "most") _ _); with_reducible refine dg_most (by with_unfolding_all walk_at "hp") ?_) | ((with_reducible show DGr _ (V.str "goes") _ _); with_reducible refine dg_goes (by with_unfolding_all walk_at "hp") ?_))) | ((with_reducible show DPr _ _ _ _ _); (first | ((with_reducible show DPr _ (V.str "hand") _ _ _); with_reducible refine dp_hand (by with_unfolding_all walk_at "hp") ?_) | ((with_reducible show DPr _ (V.str "held") _ _ _); with_reducible refine dp_held (by with_unfolding_all walk_at "hp") ?_) | ((with_reducible show DPr _ (V.str "spent") _ _ _); with_reducible refine dp_spent (by with_unfolding_all walk_at "hp") ?_) | ((with_reducible show DPr _ (V.str "gone") _ _ _); with_reducible refine dp_gone (by with_unfolding_all walk_at "hp") ?_) | ((with_reducible show DPr _ (V.str "most") _ _ _); with_reducible refine dp_most (by with_unfolding_all walk_at "hp") ?_) | ((with_reducible show DPr _ (V.str "goes") _ _ _); with_reducible refine dp_goes (by with_unfolding_all walk_at "hp") ?_)))))
local macro_rules | `(tactic| walk_at "rd") => `(tactic| repeat walk_at "rd1")
theorem r_callS {sp : Sp} {E : L2.St → XK} {tA : TA} {σ : L2.St} {H : Hp} {Q : VK} (h : tA σ H fun vs H1 => sp vs H1 Q (E σ)) : tCallS sp E tA σ H Q := h
section
variable (K : PySem.W.Frag) {vs : List V} {H : Hp} {Q : VK} {E : XK}
theorem pure_l_tried (h : sp_l_tried K vs H Q E) : t_l_tried K { nx := fun _ H' => Q .non H', rt := Q } (start n_l_tried vs) H := by
  obtain ⟨a, t, l, c, n, s, ops, v, o, rfl, hex, si, hov, ok, q1, q2⟩ := h
  show t_l_tried K _ [some (.ref a), some v, none, none] H
  unfold t_l_tried
  walk_at "rd"
  refine (show tAsg _ _ _ _ _ from ?_)
  refine r_asg (r_callS ?_)
  walk_at "rd"
  refine ⟨a, t, l, c, n, s, ops, v, o, rfl, si, hov, ok, fun hc H1 b1 s1 => ?_, fun hc H1 d s1 e1 => ?_⟩
  · walk_at "rd"
    exact q1 hc H1 b1 s1
  · refine ⟨true, hex, fun _ e he => ?_, fun z => Bool.noConfusion z⟩
    refine (show tAsg _ _ _ _ _ from ?_)
    refine r_asg ?_
    refine ⟨.ref e, rfl, rfl, rfl, d, _, .int 0, rfl, e1, by kernel_rfl, ?_⟩
    walk_at "rd"
    exact q2 hc H1 s1
end
end Bs

namespace Bs
open PySem PySem.Spec L2 Bm Bl
open PyProof.Rows hiding St
-- one step of a reading; side conditions; what a heap holds
local macro_rules | `(tactic| walk_at "sc") => `(tactic| (first
  | exact mulL ⟨by omega, by omega⟩ | exact mulR ⟨by omega, by omega⟩ | exact divS (by omega) (by omega) | exact (show (0 : Int) < _ by omega) | exact powS (b := 4) (by decide) (by decide) (by decide) (by decide) | assumption | omega))
local macro_rules | `(tactic| walk_at "ne") => `(tactic| (first
  | assumption | (apply Ne.symm; assumption) | exact ne_none (by assumption) (by walk_at "hp") | exact Ne.symm (ne_none (by assumption) (by walk_at "hp"))))
local macro_rules | `(tactic| walk_at "hp") => `(tactic| (first
  | assumption | exact upd_same | (refine (upd_ne ?k1).trans ?k2; (case k1 => walk_at "ne"); (case k2 => walk_at "hp")) | (refine Same.get (by assumption) ?_; walk_at "hp") | (refine But.get (by assumption) ?k1 ?k2; (case k1 => walk_at "hp"); (case k2 => walk_at "ne"))))
local macro_rules | `(tactic| walk_at "sq") => `(tactic| (first | assumption | exact SqL.of (by walk_at "hp") | exact SqT.of (by walk_at "hp")))
local macro_rules | `(tactic| walk_at "rd1") => `(tactic| (first
  | with_reducible refine r_seq ?_ | with_reducible refine r_asg ?_ | with_reducible refine r_asgG ?_ | with_reducible refine r_op ?_ | ((with_reducible show tVar _ _ _ _); with_reducible refine r_var (by with_unfolding_all exact rfl) ?_) | with_reducible refine r_c ?_ | with_reducible refine r_I0 ?_ | with_reducible refine r_p30 ?_
  | with_reducible refine r_p20 ?_ | with_reducible refine r_p27 ?_ | with_reducible refine r_p29 ?_ | with_reducible refine r_p38 ?_ | with_reducible refine r_p40 ?_ | with_reducible refine r_p42 ?_ | with_reducible refine r_p44 ?_ | with_reducible refine r_p49 ?_
  | with_reducible refine r_p50 ?_ | with_reducible refine r_p60 ?_ | with_reducible refine r_p18 ?_ | with_reducible refine r_p12 ?_ | with_reducible refine r_p15 ?_ | with_reducible refine r_p9 ?_ | with_reducible refine r_p6 ?_ | with_reducible refine r_p64 ?_
  | ((with_reducible refine r_I ?k1 ?k2); (case k1 => walk_at "sc")) | with_reducible refine r_U ?_ | with_reducible refine r_un ?_ | with_reducible refine r_ret ?_ | with_reducible refine r_ifS ?_ | with_reducible refine r_test ?_ | with_reducible refine r_bl ?_ | with_reducible refine r_cb ?_
  | with_reducible refine r_cons ?_ | with_reducible refine r_nil ?_ | with_reducible refine r_intI ?_ | with_reducible refine r_intB ?_ | with_reducible refine r_max2' ?_ | with_reducible refine r_min2' ?_ | with_reducible refine r_max3 ?_ | with_reducible refine r_min3 ?_
  | with_reducible refine r_call ?_ | with_reducible refine r_par ?_ | with_reducible refine r_and ?_ | with_reducible refine r_or ?_ | with_reducible refine r_not ?_ | with_reducible refine r_B ?_ | with_reducible refine r_andV ?_ | with_reducible refine r_orV ?_
  | with_reducible refine r_notV ?_ | with_reducible refine r_ifE ?_ | with_reducible refine r_eqI ?_ | with_reducible refine r_neI ?_ | with_reducible refine r_eqB ?_ | with_reducible refine r_neB ?_ | with_reducible refine r_isN ?_ | with_reducible refine r_notN ?_
  | with_reducible refine r_chain ?_ | with_reducible refine r_chain3 ?_ | with_reducible refine r_drop ?_ | with_reducible refine r_next ?_ | with_reducible refine r_retN ?_ | with_reducible refine r_brk ?_ | with_reducible refine r_cont ?_ | with_reducible refine r_ex ?_
  | with_reducible refine r_tup ?_ | with_reducible refine r_lst ?_ | ((with_reducible refine r_new ?k1 ?k2); (case k1 => first | decide | exact Nat.le_of_ble_eq_true rfl)) | with_reducible refine r_sub ?_ | with_reducible refine r_gname ?_ | with_reducible refine r_gcons ?_ | with_reducible refine r_gnil ?_ | with_reducible refine r_slice ?_
  | with_reducible refine r_noPart ?_ | with_reducible refine r_part ?_ | ((with_reducible show gTup _ _ _ _ _ _ _); with_reducible refine r_gtup (by with_unfolding_all walk_at "sq") (by with_unfolding_all exact rfl) ?_) | with_reducible refine r_rng1 ?_ | with_reducible refine r_rng2 ?_ | ((with_reducible refine r_r1 ?k1 ?k2 ?k3); (case k1 => omega); (case k2 => omega)) | ((with_reducible refine r_r2 ?k1 ?k2); (case k1 => omega)) | with_reducible refine r_nonT ?_
  | with_reducible refine r_nonI ?_ | with_reducible refine r_nonR ?_ | with_reducible refine r_notT ?_ | with_reducible refine r_notI ?_ | with_reducible refine r_notR ?_ | with_reducible refine r_for ?_ | with_reducible refine r_lc ?_ | with_reducible refine r_iL ?_
  | with_reducible refine r_iT ?_ | with_reducible refine r_yesT ?_ | ((with_reducible show _ = _ ∧ _); with_reducible refine r_same (by with_unfolding_all exact rfl) ?_) | with_reducible refine r_neS ?_ | with_reducible refine r_iteT ?_ | with_reducible refine r_iteF ?_ | with_reducible refine r_iteNT ?_ | with_reducible refine r_iteNF ?_
  | ((with_reducible show tAug _ _ _ _ _ _); with_reducible refine r_aug (by with_unfolding_all exact rfl) ?_) | with_reducible refine r_ipI ?_ | with_reducible refine r_bm ?_ | ((with_reducible show tyV _ "list" _ _ ∧ _); with_reducible refine r_tyL (by with_unfolding_all walk_at "sq") ?_) | with_reducible refine r_enum ?_ | ((with_reducible show ∃ (a : Addr) (xs : List V), [V.ref _] = [V.ref a] ∧ _); with_reducible refine r_en (by with_unfolding_all walk_at "sq") ?_) | with_reducible refine r_par3' ?_ | with_reducible refine r_fldC ?_
  | with_reducible refine r_sfld ?_ | with_reducible refine r_saug ?_ | with_reducible refine r_prop ?_ | with_reducible refine r_meth ?_ | with_reducible refine r_make ?_ | with_reducible refine r_eqSY ?_ | ((with_reducible refine r_eqSN ?k1 ?k2); (case k1 => decide +kernel)) | with_reducible refine r_dget ?_
  | with_reducible refine r_dput ?_ | with_reducible refine r_match ?_ | with_reducible refine r_str ?_ | with_reducible refine r_caseY ?_ | ((with_reducible refine r_caseN ?k1 ?k2); (case k1 => decide +kernel)) | with_reducible refine r_caseA ?_ | ((with_reducible show PR _ _ _ _ _ _); with_reducible refine r_pr (by with_unfolding_all walk_at "hp") ?_) | with_reducible refine r_disp ?_
  | with_reducible refine r_pnil ?_ | with_reducible refine r_pcons ?_ | ((with_reducible show FL _ _ _ _ _); (first | ((with_reducible show FL _ "own_budget" _ _ _); with_reducible refine gl_budget (by with_unfolding_all walk_at "hp") ?_) | ((with_reducible show FL _ "own_trace" _ _ _); with_reducible refine gl_trace (by with_unfolding_all walk_at "hp") ?_) | ((with_reducible show FL _ "own_calls" _ _ _); with_reducible refine gl_calls (by with_unfolding_all walk_at "hp") ?_) | ((with_reducible show FL _ "own_length" _ _ _); with_reducible refine gl_length (by with_unfolding_all walk_at "hp") ?_) | ((with_reducible show FL _ "own_slots" _ _ _); with_reducible refine gl_slots (by with_unfolding_all walk_at "hp") ?_) | ((with_reducible show FL _ "own_hand" _ _ _); with_reducible refine fl_hand (by with_unfolding_all walk_at "hp") ?_) | ((with_reducible show FL _ "own_kept" _ _ _); with_reducible refine fl_kept (by with_unfolding_all walk_at "hp") ?_) | ((with_reducible show FL _ "own_steps" _ _ _); with_reducible refine fl_steps (by with_unfolding_all walk_at "hp") ?_) | ((with_reducible show FL _ "own_backs" _ _ _); with_reducible refine fl_backs (by with_unfolding_all walk_at "hp") ?_) | ((with_reducible show FL _ "own_length" _ _ _); with_reducible refine fl_length (by with_unfolding_all walk_at "hp") ?_) | ((with_reducible show FL _ "own_slots" _ _ _); with_reducible refine fl_slots (by with_unfolding_all walk_at "hp") ?_))) | ((with_reducible show FS _ _ _ _ _ _); (first | ((with_reducible show FS _ "own_hand" _ _ _ _); with_reducible refine fs_hand (by with_unfolding_all walk_at "hp") ?_) | ((with_reducible show FS _ "own_kept" _ _ _ _); with_reducible refine fs_kept (by with_unfolding_all walk_at "hp") ?_) | ((with_reducible show FS _ "own_steps" _ _ _ _); with_reducible refine fs_steps (by with_unfolding_all walk_at "hp") ?_) | ((with_reducible show FS _ "own_backs" _ _ _ _); with_reducible refine fs_backs (by with_unfolding_all walk_at "hp") ?_))) | ((with_reducible show DGr _ _ _ _); (first | ((with_reducible show DGr _ (V.str "size") _ _); with_reducible refine dg_size (by with_unfolding_all walk_at "hp") ?_) | ((with_reducible show DGr _ (V.str "hand") _ _); with_reducible refine dg_hand (by with_unfolding_all walk_at "hp") ?_) | ((with_reducible show DGr _ (V.str "held") _ _); with_reducible refine dg_held (by with_unfolding_all walk_at "hp") ?_) | ((with_reducible show DGr _ (V.str "spent") _ _); with_reducible refine dg_spent (by with_unfolding_all walk_at "hp") ?_) | ((with_reducible show DGr _ (V.str "gone") _ _); with_reducible refine dg_gone (by with_unfolding_all walk_at "hp") ?_) | ((with_reducible show DGr _ (V.str "most") _ _); with_reducible refine dg_most (by with_unfolding_all walk_at "hp") ?_) | ((with_reducible show DGr _ (V.str "goes") _ _); with_reducible refine dg_goes (by with_unfolding_all walk_at "hp") ?_))) | ((with_reducible show DPr _ _ _ _ _); (first | ((with_reducible show DPr _ (V.str "hand") _ _ _); with_reducible refine dp_hand (by with_unfolding_all walk_at "hp") ?_) | ((with_reducible show DPr _ (V.str "held") _ _ _); with_reducible refine dp_held (by with_unfolding_all walk_at "hp") ?_) | ((with_reducible show DPr _ (V.str "spent") _ _ _); with_reducible refine dp_spent (by with_unfolding_all walk_at "hp") ?_) | ((with_reducible show DPr _ (V.str "gone") _ _ _); with_reducible refine dp_gone (by with_unfolding_all walk_at "hp") ?_) | ((with_reducible show DPr _ (V.str "most") _ _ _); with_reducible refine dp_most (by with_unfolding_all walk_at "hp") ?_) | ((with_reducible show DPr _ (V.str "goes") _ _ _); with_reducible refine dp_goes (by with_unfolding_all walk_at "hp") ?_)))))
local macro_rules | `(tactic| walk_at "rd") => `(tactic| repeat walk_at "rd1")
section
variable (K : PySem.W.Frag) {vs : List V} {H : Hp} {Q : VK} {E : XK}
theorem pure_l_after (h : sp_l_after K vs H Q E) : t_l_after K { nx := fun _ H' => Q .non H', rt := Q } (start n_l_after vs) H := by
  obtain ⟨X, p, v, n, t, o, rfl, ⟨l, nla, e1, e2⟩, ⟨pp, rfl, hp⟩, ia, nd, hl, q⟩ := h
  show t_l_after K _ [some (.ref p), some (.ref pp), none, none, none, none, none] H
  unfold t_l_after
  walk_at "rd"
  cases o with
  | go k =>
    refine r_ixT (SqT.of hp) atI_0 ?_
    walk_at "rd"
    refine r_ixT (SqT.of hp) atI_1 ?_
    walk_at "rd"
    refine r_ixT (SqT.of hp) atI_1 ?_
    walk_at "rd"
    intro z hz
    exact q z _ (Same.new hz) hz ⟨l, nla, upd_same, (upd_ne (ne_of_none e2 hz)).trans e2⟩
  | keep =>
    refine r_ixT (SqT.of hp) atI_0 ?_
    walk_at "rd"
    refine r_ixT (SqT.of hp) atI_0 ?_
    walk_at "rd"
    intro z hz
    walk_at "rd"
    refine r_cat ((upd_ne (ne_of_none e2 hz)).trans e2) upd_same (by rw [List.length_map]; show t.kept.length + 1 ≤ 100000; omega) fun w hw => ?_
    have ew : t.kept.map V.int ++ [V.int t.hand] = (t.kept ++ [t.hand]).map V.int := by rw [List.map_append]; rfl
    rw [ew]
    walk_at "rd"
    intro y hy
    have s2 := Same.newT (o := .lst ((t.kept ++ [t.hand]).map V.int)) (Same.new (o := .lst [V.int t.hand]) hz) hw
    exact q y _ (Same.newT s2 hy) (s2.free hy) ⟨w, fun hx => (ia _ hx).ne (upd_none hw).2 rfl, upd_same, (upd_ne (upd_none hy).1.symm).trans upd_same⟩
  | take x =>
    refine r_ixT (SqT.of hp) atI_0 ?_
    walk_at "rd"
    refine r_ixT (SqT.of hp) atI_0 ?_
    walk_at "rd"
    refine r_ixT (SqT.of hp) atI_0 ?_
    walk_at "rd"
    refine r_ixT (SqT.of hp) atI_1 ?_
    walk_at "rd"
    intro z hz
    exact q z _ (Same.new hz) hz ⟨l, nla, upd_same, (upd_ne (ne_of_none e2 hz)).trans e2⟩
  | free x =>
    refine r_ixT (SqT.of hp) atI_0 ?_
    walk_at "rd"
    refine r_ixT (SqT.of hp) atI_0 ?_
    walk_at "rd"
    refine r_ixT (SqT.of hp) atI_0 ?_
    walk_at "rd"
    refine r_ixT (SqT.of hp) atI_0 ?_
    walk_at "rd"
    refine r_refL (SqL.of e2) ?_
    intro w hw
    refine lc_it (walk_list (xs := t.kept.map V.int)) (fun i H' => But w H H' ∧ H' w = some (.lst (((t.kept.take i).filter fun y => !decide (y = x)).map V.int))) ?_ ?_ ?_ ?_
    · exact ⟨But.upd (But.refl _ _), upd_same⟩
    · rintro i H2 _ ⟨s2, _⟩
      exact SqL.of (s2 _ _ (ne_of_none e2 hw) e2)
    · rintro i u H2 H3 hi ⟨s2, hw2⟩ ⟨rfl, y2⟩
      rw [List.length_map] at hi
      rw [List.getElem?_map, List.getElem?_eq_getElem hi] at y2
      have y3 : V.int t.kept[i] = u := Option.some.inj y2
      subst y3
      have e5 : t.kept.take (i + 1) = t.kept.take i ++ [t.kept[i]] := take_snoc (List.getElem?_eq_getElem hi)
      walk_at "rd"
      refine r_ixT (SqT.of (s2 _ _ (ne_of_none hp hw) hp)) atI_1 ?_
      walk_at "rd"
      refine r_iteN (fun c => ?_) fun c => ?_
      · walk_at "rd"
        refine ⟨_, hw2, sz_lt ?_, But.upd s2, ?_⟩
        · rw [List.length_map]
          have := List.length_filter_le (fun y => !decide (y = x)) (t.kept.take i)
          have := List.length_take_le i t.kept
          omega
        · rw [e5, List.filter_append, List.map_append, List.filter_cons, if_pos (by rw [decide_eq_false c]; rfl)]
          exact upd_same
      · refine ⟨s2, ?_⟩
        rw [e5, List.filter_append, List.filter_cons, if_neg (by rw [decide_eq_true c]; exact Bool.false_ne_true), List.filter_nil, List.append_nil]
        exact hw2
    · rintro H2 ⟨s2, hw2⟩
      rw [List.length_map, List.take_length] at hw2
      walk_at "rd"
      intro z hz
      have s3 : Same H H2 := fun y o e => s2 _ _ (ne_of_none e hw) e
      refine q z _ (Same.newT s3 hz) (s3.free hz) ⟨w, fun hx => (ia _ hx).ne hw rfl, upd_same, ?_⟩
      have ek : t.kept.filter (fun y => !decide (y = x)) = t.kept.erase x := by
        have ef : (fun y : Int => !decide (y = x)) = fun y => y != x := by
          funext y
          by_cases z : y = x
          · simp [z]
          · simp [z]
        rw [ef, nd.erase_eq_filter]
      rw [ek] at hw2
      exact (upd_ne (ne_of_none hw2 hz)).trans hw2
  | back =>
    refine r_ixT (SqT.of hp) atI_0 ?_
    walk_at "rd"
    refine r_ixT (SqT.of hp) atI_0 ?_
    walk_at "rd"
    refine r_ixT (SqT.of hp) atI_0 ?_
    walk_at "rd"
    refine r_ixT (SqT.of hp) atI_0 ?_
    walk_at "rd"
    intro z hz
    refine q z _ (Same.new hz) hz ⟨l, nla, ?_, (upd_ne (ne_of_none e2 hz)).trans e2⟩
    rw [show n - 1 - (step t .back).backs = n - 1 - t.backs - 1 by show n - 1 - (t.backs + 1) = _; omega]
    exact upd_same
end
end Bs

namespace Bs
open PySem PySem.Spec L2 Bm Bl
open PyProof.Rows hiding St
-- one step of a reading; side conditions; what a heap holds
local macro_rules | `(tactic| walk_at "sc") => `(tactic| (first
  | exact mulL ⟨by omega, by omega⟩ | exact mulR ⟨by omega, by omega⟩ | exact divS (by omega) (by omega) | exact (show (0 : Int) < _ by omega) | exact powS (b := 4) (by decide) (by decide) (by decide) (by decide) | assumption | omega))
local macro_rules | `(tactic| walk_at "ne") => `(tactic| (first
  | assumption | (apply Ne.symm; assumption) | exact ne_none (by assumption) (by walk_at "hp") | exact Ne.symm (ne_none (by assumption) (by walk_at "hp"))))
local macro_rules | `(tactic| walk_at "hp") => `(tactic| (first
  | assumption | exact upd_same | (refine (upd_ne ?k1).trans ?k2; (case k1 => walk_at "ne"); (case k2 => walk_at "hp")) | (refine Same.get (by assumption) ?_; walk_at "hp") | (refine But.get (by assumption) ?k1 ?k2; (case k1 => walk_at "hp"); (case k2 => walk_at "ne"))))
local macro_rules | `(tactic| walk_at "sq") => `(tactic| (first | assumption | exact SqL.of (by walk_at "hp") | exact SqT.of (by walk_at "hp")))
local macro_rules | `(tactic| walk_at "rd1") => `(tactic| (first
  | with_reducible refine r_seq ?_ | with_reducible refine r_asg ?_ | with_reducible refine r_asgG ?_ | with_reducible refine r_op ?_ | ((with_reducible show tVar _ _ _ _); with_reducible refine r_var (by with_unfolding_all exact rfl) ?_) | with_reducible refine r_c ?_ | with_reducible refine r_I0 ?_ | with_reducible refine r_p30 ?_
  | with_reducible refine r_p20 ?_ | with_reducible refine r_p27 ?_ | with_reducible refine r_p29 ?_ | with_reducible refine r_p38 ?_ | with_reducible refine r_p40 ?_ | with_reducible refine r_p42 ?_ | with_reducible refine r_p44 ?_ | with_reducible refine r_p49 ?_
  | with_reducible refine r_p50 ?_ | with_reducible refine r_p60 ?_ | with_reducible refine r_p18 ?_ | with_reducible refine r_p12 ?_ | with_reducible refine r_p15 ?_ | with_reducible refine r_p9 ?_ | with_reducible refine r_p6 ?_ | with_reducible refine r_p64 ?_
  | ((with_reducible refine r_I ?k1 ?k2); (case k1 => walk_at "sc")) | with_reducible refine r_U ?_ | with_reducible refine r_un ?_ | with_reducible refine r_ret ?_ | with_reducible refine r_ifS ?_ | with_reducible refine r_test ?_ | with_reducible refine r_bl ?_ | with_reducible refine r_cb ?_
  | with_reducible refine r_cons ?_ | with_reducible refine r_nil ?_ | with_reducible refine r_intI ?_ | with_reducible refine r_intB ?_ | with_reducible refine r_max2' ?_ | with_reducible refine r_min2' ?_ | with_reducible refine r_max3 ?_ | with_reducible refine r_min3 ?_
  | with_reducible refine r_call ?_ | with_reducible refine r_par ?_ | with_reducible refine r_and ?_ | with_reducible refine r_or ?_ | with_reducible refine r_not ?_ | with_reducible refine r_B ?_ | with_reducible refine r_andV ?_ | with_reducible refine r_orV ?_
  | with_reducible refine r_notV ?_ | with_reducible refine r_ifE ?_ | with_reducible refine r_eqI ?_ | with_reducible refine r_neI ?_ | with_reducible refine r_eqB ?_ | with_reducible refine r_neB ?_ | with_reducible refine r_isN ?_ | with_reducible refine r_notN ?_
  | with_reducible refine r_chain ?_ | with_reducible refine r_chain3 ?_ | with_reducible refine r_drop ?_ | with_reducible refine r_next ?_ | with_reducible refine r_retN ?_ | with_reducible refine r_brk ?_ | with_reducible refine r_cont ?_ | with_reducible refine r_ex ?_
  | with_reducible refine r_tup ?_ | with_reducible refine r_lst ?_ | ((with_reducible refine r_new ?k1 ?k2); (case k1 => first | decide | exact Nat.le_of_ble_eq_true rfl)) | with_reducible refine r_sub ?_ | with_reducible refine r_gname ?_ | with_reducible refine r_gcons ?_ | with_reducible refine r_gnil ?_ | with_reducible refine r_slice ?_
  | with_reducible refine r_noPart ?_ | with_reducible refine r_part ?_ | ((with_reducible show gTup _ _ _ _ _ _ _); with_reducible refine r_gtup (by with_unfolding_all walk_at "sq") (by with_unfolding_all exact rfl) ?_) | with_reducible refine r_rng1 ?_ | with_reducible refine r_rng2 ?_ | ((with_reducible refine r_r1 ?k1 ?k2 ?k3); (case k1 => omega); (case k2 => omega)) | ((with_reducible refine r_r2 ?k1 ?k2); (case k1 => omega)) | with_reducible refine r_nonT ?_
  | with_reducible refine r_nonI ?_ | with_reducible refine r_nonR ?_ | with_reducible refine r_notT ?_ | with_reducible refine r_notI ?_ | with_reducible refine r_notR ?_ | with_reducible refine r_for ?_ | with_reducible refine r_lc ?_ | with_reducible refine r_iL ?_
  | with_reducible refine r_iT ?_ | with_reducible refine r_yesT ?_ | ((with_reducible show _ = _ ∧ _); with_reducible refine r_same (by with_unfolding_all exact rfl) ?_) | with_reducible refine r_neS ?_ | with_reducible refine r_iteT ?_ | with_reducible refine r_iteF ?_ | with_reducible refine r_iteNT ?_ | with_reducible refine r_iteNF ?_
  | ((with_reducible show tAug _ _ _ _ _ _); with_reducible refine r_aug (by with_unfolding_all exact rfl) ?_) | with_reducible refine r_ipI ?_ | with_reducible refine r_bm ?_ | ((with_reducible show tyV _ "list" _ _ ∧ _); with_reducible refine r_tyL (by with_unfolding_all walk_at "sq") ?_) | with_reducible refine r_enum ?_ | ((with_reducible show ∃ (a : Addr) (xs : List V), [V.ref _] = [V.ref a] ∧ _); with_reducible refine r_en (by with_unfolding_all walk_at "sq") ?_) | with_reducible refine r_par3' ?_ | with_reducible refine r_fldC ?_
  | with_reducible refine r_sfld ?_ | with_reducible refine r_saug ?_ | with_reducible refine r_prop ?_ | with_reducible refine r_meth ?_ | with_reducible refine r_make ?_ | with_reducible refine r_eqSY ?_ | ((with_reducible refine r_eqSN ?k1 ?k2); (case k1 => decide +kernel)) | with_reducible refine r_dget ?_
  | with_reducible refine r_dput ?_ | with_reducible refine r_match ?_ | with_reducible refine r_str ?_ | with_reducible refine r_caseY ?_ | ((with_reducible refine r_caseN ?k1 ?k2); (case k1 => decide +kernel)) | with_reducible refine r_caseA ?_ | ((with_reducible show PR _ _ _ _ _ _); with_reducible refine r_pr (by with_unfolding_all walk_at "hp") ?_) | with_reducible refine r_disp ?_
  | with_reducible refine r_pnil ?_ | with_reducible refine r_pcons ?_ | ((with_reducible show FL _ _ _ _ _); (first | ((with_reducible show FL _ "own_budget" _ _ _); with_reducible refine gl_budget (by with_unfolding_all walk_at "hp") ?_) | ((with_reducible show FL _ "own_trace" _ _ _); with_reducible refine gl_trace (by with_unfolding_all walk_at "hp") ?_) | ((with_reducible show FL _ "own_calls" _ _ _); with_reducible refine gl_calls (by with_unfolding_all walk_at "hp") ?_) | ((with_reducible show FL _ "own_length" _ _ _); with_reducible refine gl_length (by with_unfolding_all walk_at "hp") ?_) | ((with_reducible show FL _ "own_slots" _ _ _); with_reducible refine gl_slots (by with_unfolding_all walk_at "hp") ?_) | ((with_reducible show FL _ "own_hand" _ _ _); with_reducible refine fl_hand (by with_unfolding_all walk_at "hp") ?_) | ((with_reducible show FL _ "own_kept" _ _ _); with_reducible refine fl_kept (by with_unfolding_all walk_at "hp") ?_) | ((with_reducible show FL _ "own_steps" _ _ _); with_reducible refine fl_steps (by with_unfolding_all walk_at "hp") ?_) | ((with_reducible show FL _ "own_backs" _ _ _); with_reducible refine fl_backs (by with_unfolding_all walk_at "hp") ?_) | ((with_reducible show FL _ "own_length" _ _ _); with_reducible refine fl_length (by with_unfolding_all walk_at "hp") ?_) | ((with_reducible show FL _ "own_slots" _ _ _); with_reducible refine fl_slots (by with_unfolding_all walk_at "hp") ?_))) | ((with_reducible show FS _ _ _ _ _ _); (first | ((with_reducible show FS _ "own_hand" _ _ _ _); with_reducible refine fs_hand (by with_unfolding_all walk_at "hp") ?_) | ((with_reducible show FS _ "own_kept" _ _ _ _); with_reducible refine fs_kept (by with_unfolding_all walk_at "hp") ?_) | ((with_reducible show FS _ "own_steps" _ _ _ _); with_reducible refine fs_steps (by with_unfolding_all walk_at "hp") ?_) | ((with_reducible show FS _ "own_backs" _ _ _ _); with_reducible refine fs_backs (by with_unfolding_all walk_at "hp") ?_))) | ((with_reducible show DGr _ _ _ _); (first | ((with_reducible show DGr _ (V.str "size") _ _); with_reducible refine dg_size (by with_unfolding_all walk_at "hp") ?_) | ((with_reducible show DGr _ (V.str "hand") _ _); with_reducible refine dg_hand (by with_unfolding_all walk_at "hp") ?_) | ((with_reducible show DGr _ (V.str "held") _ _); with_reducible refine dg_held (by with_unfolding_all walk_at "hp") ?_) | ((with_reducible show DGr _ (V.str "spent") _ _); with_reducible refine dg_spent (by with_unfolding_all walk_at "hp") ?_) | ((with_reducible show DGr _ (V.str "gone") _ _); with_reducible refine dg_gone (by with_unfolding_all walk_at "hp") ?_) | ((with_reducible show DGr _ (V.str "most") _ _); with_reducible refine dg_most (by with_unfolding_all walk_at "hp") ?_) | ((with_reducible show DGr _ (V.str "goes") _ _); with_reducible refine dg_goes (by with_unfolding_all walk_at "hp") ?_))) | ((with_reducible show DPr _ _ _ _ _); (first | ((with_reducible show DPr _ (V.str "hand") _ _ _); with_reducible refine dp_hand (by with_unfolding_all walk_at "hp") ?_) | ((with_reducible show DPr _ (V.str "held") _ _ _); with_reducible refine dp_held (by with_unfolding_all walk_at "hp") ?_) | ((with_reducible show DPr _ (V.str "spent") _ _ _); with_reducible refine dp_spent (by with_unfolding_all walk_at "hp") ?_) | ((with_reducible show DPr _ (V.str "gone") _ _ _); with_reducible refine dp_gone (by with_unfolding_all walk_at "hp") ?_) | ((with_reducible show DPr _ (V.str "most") _ _ _); with_reducible refine dp_most (by with_unfolding_all walk_at "hp") ?_) | ((with_reducible show DPr _ (V.str "goes") _ _ _); with_reducible refine dp_goes (by with_unfolding_all walk_at "hp") ?_)))))
local macro_rules | `(tactic| walk_at "rd") => `(tactic| repeat walk_at "rd1")
section
variable (K : PySem.W.Frag) {vs : List V} {H : Hp} {Q : VK} {E : XK}
theorem pure_l_operation (h : sp_l_operation K vs H Q E) : t_l_operation K { nx := fun _ H' => Q .non H', rt := Q } (start n_l_operation vs) H := by
  obtain ⟨X, a, p, n, s, t, rfl, g, ⟨l, nlX, e1, e2⟩, hXa, inb, kne, hn, hs, q⟩ := h
  show t_l_operation K _ [some (.ref a), some (.int n), some (.int s), some (.ref p), none, none, none, none, none, none] H
  unfold t_l_operation
  have nla : l ≠ a := by
    rintro rfl
    exact nlX hXa
  have kl : (t.kept.length : Int) ≤ 1000 := Int.le_trans inb.kl hs
  have kpos : 0 < t.kept.length := List.length_pos_iff.mpr kne
  have hb0 := inb.b0
  have hh0 := inb.h0
  have hh1 := inb.h1
  have give : ∀ (o : Op) (H' : Hp) (p : Addr), But a H H' → Bag H' a → okOp o → (∀ x, o = .free x → 1 < t.kept.length) → H' p = none → Q (.ref p) (upd H' p (.tup (enc o))) := fun o H' p bb gg ok fr hp =>
    q _ o _ (bb.new hp) (gg.new hp) ⟨p, rfl, upd_same⟩ ok fr
  refine r_cut (fun σ' H' => H' = H ∧ σ' = [some (.ref a), some (.int n), some (.int s), some (.ref p), some (.int t.hand), some (.ref l), some (.int t.steps), some (.int (n - 1 - t.backs)), none, none]) (fun D hD => ?_) ?_
  · walk_at "rd"
    exact hD _ _ ⟨rfl, rfl⟩
  rintro σ1 H1 ⟨rfl, rfl⟩
  refine r_cut (fun σ' H' => H' = H1 ∧ σ' = [some (.ref a), some (.int n), some (.int s), some (.ref p), some (.int t.hand), some (.ref l), some (.int t.steps), some (.int (n - 1 - t.backs)), some (.int (n - 1 - t.backs - t.hand)), none]) (fun D hD => ?_) ?_
  · walk_at "rd"
    exact hD _ _ ⟨rfl, rfl⟩
  rintro σ2 H2 ⟨rfl, rfl⟩
  generalize hfar : n - 1 - t.backs - t.hand = far
  refine r_jn (fun σ' H' => But a H2 H' ∧ Bag H' a ∧ σ' = [some (.ref a), some (.int n), some (.int s), some (.ref p), some (.int t.hand), some (.ref l), some (.int t.steps), some (.int (n - 1 - t.backs)), some (.int far), none]) (fun N hN => ?_) ?_
  · walk_at "rd"
    refine r_ite (fun c => ?_) fun c => ?_
    · walk_at "rd"
      refine ⟨a, 4, rfl, by decide, by decide, g, fun r H3 r0 r1 b3 g3 => ?_⟩
      walk_at "rd"
      refine r_ite (fun c2 => ?_) fun c2 => ?_
      · walk_at "rd"
        exact fun p hp => give .back H3 p b3 g3 trivial (fun _ z => nomatch z) hp
      · walk_at "rd"
        exact hN _ _ ⟨b3, g3, rfl⟩
    · walk_at "rd"
      exact hN _ _ ⟨But.refl _ _, g, rfl⟩
  rintro σ3 H3 ⟨b3, g3, rfl⟩
  refine r_cut (fun σ' H' => ∃ w : Int, But a H2 H' ∧ Bag H' a ∧ σ' = [some (.ref a), some (.int n), some (.int s), some (.ref p), some (.int t.hand), some (.ref l), some (.int t.steps), some (.int (n - 1 - t.backs)), some (.int far), some (.int w)]) (fun D hD => ?_) ?_
  · walk_at "rd"
    refine ⟨a, 6, rfl, by decide, by decide, g3, fun r H4 r0 r1 b4 g4 => ?_⟩
    walk_at "rd"
    exact hD _ _ ⟨r, b3.trans b4, g4, rfl⟩
  rintro σ4 H4 ⟨w, b4, g4, rfl⟩
  have k4 := b4 _ _ nla e2
  refine r_jn (fun σ' H' => H' = H4 ∧ σ' = [some (.ref a), some (.int n), some (.int s), some (.ref p), some (.int t.hand), some (.ref l), some (.int t.steps), some (.int (n - 1 - t.backs)), some (.int far), some (.int w)]) (fun N hN => ?_) ?_
  · walk_at "rd"
    refine r_ite (fun c => ?_) fun c => ?_
    · walk_at "rd"
      refine r_ite (fun c2 => ?_) fun c2 => ?_
      · walk_at "rd"
        refine ⟨a, far, rfl, by omega, by omega, g4, fun r H5 r0 r1 b5 g5 => ?_⟩
        walk_at "rd"
        intro y hy
        walk_at "rd"
        refine ⟨a, 2, rfl, by decide, by decide, g5.new hy, fun r2 H6 r20 r21 b6 g6 => ?_⟩
        have ey := b6 _ _ (g5.ne hy) upd_same
        have key : ∃ m : Int, 1 ≤ m ∧ m ≤ 1000000000000000000000000000000 ∧ atI [V.int far, V.int (1 + r)] r2 = some (.int m) := by
          by_cases z : r2 = 0
          · subst z
            exact ⟨far, by omega, by omega, atI_0⟩
          · have : r2 = 1 := by omega
            subst this
            exact ⟨1 + r, by omega, by omega, atI_1⟩
        obtain ⟨m, m1, m2, hm⟩ := key
        walk_at "rd"
        refine r_ixL (SqL.of ey) hm ?_
        walk_at "rd"
        exact fun p hp => give (.go m) H6 p (((b4.trans b5).new hy).trans b6) g6 ⟨m1, m2⟩ (fun _ z => nomatch z) hp
      · walk_at "rd"
        exact hN _ _ ⟨rfl, rfl⟩
    · walk_at "rd"
      exact hN _ _ ⟨rfl, rfl⟩
  rintro σ5 H5 ⟨rfl, rfl⟩
  refine r_jn (fun σ' H' => H' = H5 ∧ σ' = [some (.ref a), some (.int n), some (.int s), some (.ref p), some (.int t.hand), some (.ref l), some (.int t.steps), some (.int (n - 1 - t.backs)), some (.int far), some (.int w)]) (fun N hN => ?_) ?_
  · walk_at "rd"
    refine r_ite (fun c => ?_) fun c => ?_
    · walk_at "rd"
      exact fun p hp => give .keep H5 p b4 g4 trivial (fun _ z => nomatch z) hp
    · walk_at "rd"
      exact hN _ _ ⟨rfl, rfl⟩
  rintro σ6 H6 ⟨rfl, rfl⟩
  have okk : ∀ x ∈ t.kept, 0 ≤ x ∧ x ≤ 1000000000000000000000000000000 := fun x hx => ⟨(inb.kb x hx).1, by have := (inb.kb x hx).2; omega⟩
  refine r_jn (fun σ' H' => But a H2 H' ∧ Bag H' a ∧ σ' = [some (.ref a), some (.int n), some (.int s), some (.ref p), some (.int t.hand), some (.ref l), some (.int t.steps), some (.int (n - 1 - t.backs)), some (.int far), some (.int w)]) (fun N hN => ?_) ?_
  · walk_at "rd"
    intro z hz
    have kz := (upd_ne (o := .lst ([].map V.int)) (ne_of_none k4 hz)).trans k4
    refine r_neL (ms := []) (SqL.of kz) (SqL.of upd_same) ?_
    walk_at "rd"
    refine r_ny kne ?_
    walk_at "rd"
    have bz := b4.new (o := .lst ([].map V.int)) hz
    have gz := g4.new (o := .lst ([].map V.int)) hz
    refine r_ite (fun c => ?_) fun c => ?_
    · walk_at "rd"
      refine r_lenL (SqL.of kz) ?_
      walk_at "rd"
      refine r_ite (fun c2 => ?_) fun c2 => ?_
      · walk_at "rd"
        refine r_lenL (SqL.of kz) ?_
        walk_at "rd"
        rw [List.length_map] at c2 ⊢
        refine ⟨a, _, rfl, by omega, by omega, gz, fun r H7 r0 r1 b7 g7 => ?_⟩
        obtain ⟨v, hv, ev⟩ := atI_ints r0 r1
        walk_at "rd"
        refine r_ixL (SqL.of (b7 _ _ nla kz)) ev ?_
        walk_at "rd"
        exact fun p hp => give (.free v) H7 p (bz.trans b7) g7 (okk v hv) (fun _ _ => by omega) hp
      · walk_at "rd"
        exact hN _ _ ⟨bz, gz, rfl⟩
    · walk_at "rd"
      exact hN _ _ ⟨bz, gz, rfl⟩
  rintro σ7 H7 ⟨b7, g7, rfl⟩
  have k7 := b7 _ _ nla e2
  walk_at "rd"
  intro z hz
  have kz := (upd_ne (o := .lst ([].map V.int)) (ne_of_none k7 hz)).trans k7
  refine r_neL (ms := []) (SqL.of kz) (SqL.of upd_same) ?_
  walk_at "rd"
  refine r_ny kne ?_
  walk_at "rd"
  refine r_lenL (SqL.of kz) ?_
  walk_at "rd"
  rw [List.length_map]
  refine ⟨a, _, rfl, by omega, by omega, g7.new hz, fun r H8 r0 r1 b8 g8 => ?_⟩
  obtain ⟨v, hv, ev⟩ := atI_ints r0 r1
  walk_at "rd"
  refine r_ixL (SqL.of (b8 _ _ nla kz)) ev ?_
  walk_at "rd"
  exact fun p hp => give (.take v) H8 p ((b7.new hz).trans b8) g8 (okk v hv) (fun _ z => nomatch z) hp
end
end Bs

namespace Bs
open PySem PySem.Spec L2 Bm Bl
open PyProof.Rows hiding St
-- one step of a reading; side conditions; what a heap holds
local macro_rules | `(tactic| walk_at "sc") => `(tactic| (first
  | exact mulL ⟨by omega, by omega⟩ | exact mulR ⟨by omega, by omega⟩ | exact divS (by omega) (by omega) | exact (show (0 : Int) < _ by omega) | exact powS (b := 4) (by decide) (by decide) (by decide) (by decide) | assumption | omega))
local macro_rules | `(tactic| walk_at "ne") => `(tactic| (first
  | assumption | (apply Ne.symm; assumption) | exact ne_none (by assumption) (by walk_at "hp") | exact Ne.symm (ne_none (by assumption) (by walk_at "hp"))))
local macro_rules | `(tactic| walk_at "hp") => `(tactic| (first
  | assumption | exact upd_same | (refine (upd_ne ?k1).trans ?k2; (case k1 => walk_at "ne"); (case k2 => walk_at "hp")) | (refine Same.get (by assumption) ?_; walk_at "hp") | (refine But.get (by assumption) ?k1 ?k2; (case k1 => walk_at "hp"); (case k2 => walk_at "ne"))))
local macro_rules | `(tactic| walk_at "sq") => `(tactic| (first | assumption | exact SqL.of (by walk_at "hp") | exact SqT.of (by walk_at "hp")))
local macro_rules | `(tactic| walk_at "rd1") => `(tactic| (first
  | with_reducible refine r_seq ?_ | with_reducible refine r_asg ?_ | with_reducible refine r_asgG ?_ | with_reducible refine r_op ?_ | ((with_reducible show tVar _ _ _ _); with_reducible refine r_var (by with_unfolding_all exact rfl) ?_) | with_reducible refine r_c ?_ | with_reducible refine r_I0 ?_ | with_reducible refine r_p30 ?_
  | with_reducible refine r_p20 ?_ | with_reducible refine r_p27 ?_ | with_reducible refine r_p29 ?_ | with_reducible refine r_p38 ?_ | with_reducible refine r_p40 ?_ | with_reducible refine r_p42 ?_ | with_reducible refine r_p44 ?_ | with_reducible refine r_p49 ?_
  | with_reducible refine r_p50 ?_ | with_reducible refine r_p60 ?_ | with_reducible refine r_p18 ?_ | with_reducible refine r_p12 ?_ | with_reducible refine r_p15 ?_ | with_reducible refine r_p9 ?_ | with_reducible refine r_p6 ?_ | with_reducible refine r_p64 ?_
  | ((with_reducible refine r_I ?k1 ?k2); (case k1 => walk_at "sc")) | with_reducible refine r_U ?_ | with_reducible refine r_un ?_ | with_reducible refine r_ret ?_ | with_reducible refine r_ifS ?_ | with_reducible refine r_test ?_ | with_reducible refine r_bl ?_ | with_reducible refine r_cb ?_
  | with_reducible refine r_cons ?_ | with_reducible refine r_nil ?_ | with_reducible refine r_intI ?_ | with_reducible refine r_intB ?_ | with_reducible refine r_max2' ?_ | with_reducible refine r_min2' ?_ | with_reducible refine r_max3 ?_ | with_reducible refine r_min3 ?_
  | with_reducible refine r_call ?_ | with_reducible refine r_par ?_ | with_reducible refine r_and ?_ | with_reducible refine r_or ?_ | with_reducible refine r_not ?_ | with_reducible refine r_B ?_ | with_reducible refine r_andV ?_ | with_reducible refine r_orV ?_
  | with_reducible refine r_notV ?_ | with_reducible refine r_ifE ?_ | with_reducible refine r_eqI ?_ | with_reducible refine r_neI ?_ | with_reducible refine r_eqB ?_ | with_reducible refine r_neB ?_ | with_reducible refine r_isN ?_ | with_reducible refine r_notN ?_
  | with_reducible refine r_chain ?_ | with_reducible refine r_chain3 ?_ | with_reducible refine r_drop ?_ | with_reducible refine r_next ?_ | with_reducible refine r_retN ?_ | with_reducible refine r_brk ?_ | with_reducible refine r_cont ?_ | with_reducible refine r_ex ?_
  | with_reducible refine r_tup ?_ | with_reducible refine r_lst ?_ | ((with_reducible refine r_new ?k1 ?k2); (case k1 => first | decide | exact Nat.le_of_ble_eq_true rfl)) | with_reducible refine r_sub ?_ | with_reducible refine r_gname ?_ | with_reducible refine r_gcons ?_ | with_reducible refine r_gnil ?_ | with_reducible refine r_slice ?_
  | with_reducible refine r_noPart ?_ | with_reducible refine r_part ?_ | ((with_reducible show gTup _ _ _ _ _ _ _); with_reducible refine r_gtup (by with_unfolding_all walk_at "sq") (by with_unfolding_all exact rfl) ?_) | with_reducible refine r_rng1 ?_ | with_reducible refine r_rng2 ?_ | ((with_reducible refine r_r1 ?k1 ?k2 ?k3); (case k1 => omega); (case k2 => omega)) | ((with_reducible refine r_r2 ?k1 ?k2); (case k1 => omega)) | with_reducible refine r_nonT ?_
  | with_reducible refine r_nonI ?_ | with_reducible refine r_nonR ?_ | with_reducible refine r_notT ?_ | with_reducible refine r_notI ?_ | with_reducible refine r_notR ?_ | with_reducible refine r_for ?_ | with_reducible refine r_lc ?_ | with_reducible refine r_iL ?_
  | with_reducible refine r_iT ?_ | with_reducible refine r_yesT ?_ | ((with_reducible show _ = _ ∧ _); with_reducible refine r_same (by with_unfolding_all exact rfl) ?_) | with_reducible refine r_neS ?_ | with_reducible refine r_iteT ?_ | with_reducible refine r_iteF ?_ | with_reducible refine r_iteNT ?_ | with_reducible refine r_iteNF ?_
  | ((with_reducible show tAug _ _ _ _ _ _); with_reducible refine r_aug (by with_unfolding_all exact rfl) ?_) | with_reducible refine r_ipI ?_ | with_reducible refine r_bm ?_ | ((with_reducible show tyV _ "list" _ _ ∧ _); with_reducible refine r_tyL (by with_unfolding_all walk_at "sq") ?_) | with_reducible refine r_enum ?_ | ((with_reducible show ∃ (a : Addr) (xs : List V), [V.ref _] = [V.ref a] ∧ _); with_reducible refine r_en (by with_unfolding_all walk_at "sq") ?_) | with_reducible refine r_par3' ?_ | with_reducible refine r_fldC ?_
  | with_reducible refine r_sfld ?_ | with_reducible refine r_saug ?_ | with_reducible refine r_prop ?_ | with_reducible refine r_meth ?_ | with_reducible refine r_make ?_ | with_reducible refine r_eqSY ?_ | ((with_reducible refine r_eqSN ?k1 ?k2); (case k1 => decide +kernel)) | with_reducible refine r_dget ?_
  | with_reducible refine r_dput ?_ | with_reducible refine r_match ?_ | with_reducible refine r_str ?_ | with_reducible refine r_caseY ?_ | ((with_reducible refine r_caseN ?k1 ?k2); (case k1 => decide +kernel)) | with_reducible refine r_caseA ?_ | ((with_reducible show PR _ _ _ _ _ _); with_reducible refine r_pr (by with_unfolding_all walk_at "hp") ?_) | with_reducible refine r_disp ?_
  | with_reducible refine r_pnil ?_ | with_reducible refine r_pcons ?_ | ((with_reducible show FL _ _ _ _ _); (first | ((with_reducible show FL _ "own_budget" _ _ _); with_reducible refine gl_budget (by with_unfolding_all walk_at "hp") ?_) | ((with_reducible show FL _ "own_trace" _ _ _); with_reducible refine gl_trace (by with_unfolding_all walk_at "hp") ?_) | ((with_reducible show FL _ "own_calls" _ _ _); with_reducible refine gl_calls (by with_unfolding_all walk_at "hp") ?_) | ((with_reducible show FL _ "own_length" _ _ _); with_reducible refine gl_length (by with_unfolding_all walk_at "hp") ?_) | ((with_reducible show FL _ "own_slots" _ _ _); with_reducible refine gl_slots (by with_unfolding_all walk_at "hp") ?_) | ((with_reducible show FL _ "own_hand" _ _ _); with_reducible refine fl_hand (by with_unfolding_all walk_at "hp") ?_) | ((with_reducible show FL _ "own_kept" _ _ _); with_reducible refine fl_kept (by with_unfolding_all walk_at "hp") ?_) | ((with_reducible show FL _ "own_steps" _ _ _); with_reducible refine fl_steps (by with_unfolding_all walk_at "hp") ?_) | ((with_reducible show FL _ "own_backs" _ _ _); with_reducible refine fl_backs (by with_unfolding_all walk_at "hp") ?_) | ((with_reducible show FL _ "own_length" _ _ _); with_reducible refine fl_length (by with_unfolding_all walk_at "hp") ?_) | ((with_reducible show FL _ "own_slots" _ _ _); with_reducible refine fl_slots (by with_unfolding_all walk_at "hp") ?_))) | ((with_reducible show FS _ _ _ _ _ _); (first | ((with_reducible show FS _ "own_hand" _ _ _ _); with_reducible refine fs_hand (by with_unfolding_all walk_at "hp") ?_) | ((with_reducible show FS _ "own_kept" _ _ _ _); with_reducible refine fs_kept (by with_unfolding_all walk_at "hp") ?_) | ((with_reducible show FS _ "own_steps" _ _ _ _); with_reducible refine fs_steps (by with_unfolding_all walk_at "hp") ?_) | ((with_reducible show FS _ "own_backs" _ _ _ _); with_reducible refine fs_backs (by with_unfolding_all walk_at "hp") ?_))) | ((with_reducible show DGr _ _ _ _); (first | ((with_reducible show DGr _ (V.str "size") _ _); with_reducible refine dg_size (by with_unfolding_all walk_at "hp") ?_) | ((with_reducible show DGr _ (V.str "hand") _ _); with_reducible refine dg_hand (by with_unfolding_all walk_at "hp") ?_) | ((with_reducible show DGr _ (V.str "held") _ _); with_reducible refine dg_held (by with_unfolding_all walk_at "hp") ?_) | ((with_reducible show DGr _ (V.str "spent") _ _); with_reducible refine dg_spent (by with_unfolding_all walk_at "hp") ?_) | ((with_reducible show DGr _ (V.str "gone") _ _); with_reducible refine dg_gone (by with_unfolding_all walk_at "hp") ?_) | ((with_reducible show DGr _ (V.str "most") _ _); with_reducible refine dg_most (by with_unfolding_all walk_at "hp") ?_) | ((with_reducible show DGr _ (V.str "goes") _ _); with_reducible refine dg_goes (by with_unfolding_all walk_at "hp") ?_))) | ((with_reducible show DPr _ _ _ _ _); (first | ((with_reducible show DPr _ (V.str "hand") _ _ _); with_reducible refine dp_hand (by with_unfolding_all walk_at "hp") ?_) | ((with_reducible show DPr _ (V.str "held") _ _ _); with_reducible refine dp_held (by with_unfolding_all walk_at "hp") ?_) | ((with_reducible show DPr _ (V.str "spent") _ _ _); with_reducible refine dp_spent (by with_unfolding_all walk_at "hp") ?_) | ((with_reducible show DPr _ (V.str "gone") _ _ _); with_reducible refine dp_gone (by with_unfolding_all walk_at "hp") ?_) | ((with_reducible show DPr _ (V.str "most") _ _ _); with_reducible refine dp_most (by with_unfolding_all walk_at "hp") ?_) | ((with_reducible show DPr _ (V.str "goes") _ _ _); with_reducible refine dp_goes (by with_unfolding_all walk_at "hp") ?_)))))
local macro_rules | `(tactic| walk_at "rd") => `(tactic| repeat walk_at "rd1")
def eq3 (a l c : Addr) : Addr → Prop := fun x => x = a ∨ x = l ∨ x = c
theorem SesAt.but {K : PySem.W.Frag} {H H' : Hp} {a w t l c : Addr} {n s : Int} {ops : List Op} (h : SesAt K H w t l c n s ops) (b : But a H H') (g : Bag H a) (nl : l ≠ a) (nc : c ≠ a) : SesAt K H' w t l c n s ops := by
  obtain ⟨h1, h2, dx, h3, ⟨dx2, h4, h5⟩, h6⟩ := h
  have tb := tps_bag b g
  obtain ⟨x, y, z, e⟩ := g
  exact ⟨h1, h2, dx, b _ _ (ne_of h3 e (by intro z; cases z)) h3, ⟨dx2, b _ _ (ne_of h4 e (by intro z; cases z)) h4, b _ _ nl h5⟩, h6.to (fun vs q => b _ _ nc q) tb⟩
theorem SesAt.tps3 {K : PySem.W.Frag} {H H' : Hp} {w t l c : Addr} {n s : Int} {ops : List Op} (h : SesAt K H w t l c n s ops) (b : But3 t l c H H') : Tps H H' := by
  obtain ⟨h1, h2, dx, h3, ⟨dx2, h4, h5⟩, ⟨xs, h6, h7⟩⟩ := h
  intro p vs e
  exact b _ _ (ne_of e h4 (by intro z; cases z)) (ne_of e h5 (by intro z; cases z)) (ne_of e h6 (by intro z; cases z)) e
theorem SesAt.ins {K : PySem.W.Frag} {H : Hp} {w t l c : Addr} {n s : Int} {ops : List Op} (h : SesAt K H w t l c n s ops) : ∃ dx, H w = some (.ins (He.ga K "Session") dx (sf n s t c)) := by
  obtain ⟨h1, h2, dx, h3, _⟩ := h
  exact ⟨dx, h3⟩
/-- how it stands between two statements: the session at w with ops, the law's own state at p with tr -/
structure Sd (K : PySem.W.Frag) (H0 : Hp) (a : Addr) (n s : Int) (w t l c p : Addr) (ops : List Op) (tr : Tr) (H : Hp) : Prop where
  ia : Is H0 a
  but : But a H0 H
  bag : Bag H a
  ft : H0 t = none
  fl : H0 l = none
  fc : H0 c = none
  ses : SesAt K H w t l c n s ops
  sta : StAt H (eq3 a l c) p n tr
section
variable {K : PySem.W.Frag} {H0 H H' : Hp} {a w t l c p : Addr} {n s : Int} {ops ops' : List Op} {tr tr' : Tr}
theorem Sd.nt (h : Sd K H0 a n s w t l c p ops tr H) : t ≠ a := h.ia.ne h.ft
theorem Sd.nl (h : Sd K H0 a n s w t l c p ops tr H) : l ≠ a := h.ia.ne h.fl
theorem Sd.nc (h : Sd K H0 a n s w t l c p ops tr H) : c ≠ a := h.ia.ne h.fc
theorem Sd.same (h : Sd K H0 a n s w t l c p ops tr H) (e : Same H H') : Sd K H0 a n s w t l c p ops tr H' := by
  obtain ⟨q, q1, q2, q3⟩ := h.sta
  exact ⟨h.ia, h.but.trans (But.of e), h.bag.at e, h.ft, h.fl, h.fc, h.ses.same e, q, q1, e _ _ q2, e _ _ q3⟩
theorem Sd.mv (h : Sd K H0 a n s w t l c p ops tr H) (b : But a H H') (g : Bag H' a) : Sd K H0 a n s w t l c p ops tr H' := by
  obtain ⟨q, q1, q2, q3⟩ := h.sta
  have sb := h.ses.but b h.bag h.nl h.nc
  have g0 := h.bag
  obtain ⟨x, y, z, e⟩ := id g0
  exact ⟨h.ia, h.but.trans b, g, h.ft, h.fl, h.fc, sb, q, q1, b _ _ (ne_of q2 e (by intro z; cases z)) q2, b _ _ (fun z => q1 (.inl z)) q3⟩
theorem Sd.perf (h : Sd K H0 a n s w t l c p ops tr H) (b : But3 t l c H H') (ses : SesAt K H' w t l c n s ops') : Sd K H0 a n s w t l c p ops' tr H' := by
  obtain ⟨q, q1, q2, q3⟩ := h.sta
  have tp := h.ses.tps3 b
  obtain ⟨_, _, dx, h3, ⟨dx2, h4, h5⟩, _⟩ := id h.ses
  obtain ⟨x, y, z, e⟩ := id h.bag
  refine ⟨h.ia, fun y u n1 e1 => ?_, ⟨x, y, z, b _ _ h.nt.symm h.nl.symm h.nc.symm e⟩, h.ft, h.fl, h.fc, ses, q, q1, tp _ _ q2, b _ _ (ne_of q3 h4 (by intro z; cases z)) (fun z => q1 (.inr (.inl z))) (fun z => q1 (.inr (.inr z))) q3⟩
  exact b _ _ (ne_of_none e1 h.ft) (ne_of_none e1 h.fl) (ne_of_none e1 h.fc) (h.but _ _ n1 e1)
theorem Sd.st (h : Sd K H0 a n s w t l c p ops tr H) {p' : Addr} (e : Same H H') (st : StAt H' (eq3 a l c) p' n tr') : Sd K H0 a n s w t l c p' ops tr' H' :=
  ⟨h.ia, h.but.trans (But.of e), h.bag.at e, h.ft, h.fl, h.fc, h.ses.same e, st⟩
theorem Sd.isx (h : Sd K H0 a n s w t l c p ops tr H) : ∀ x, eq3 a l c x → Is H x := by
  rintro x (rfl | rfl | rfl)
  · exact is_bag h.bag x rfl
  · obtain ⟨_, _, dx, h3, ⟨dx2, h4, h5⟩, _⟩ := h.ses
    exact ⟨_, h5⟩
  · obtain ⟨_, _, dx, h3, _, ⟨xs, h6, _⟩⟩ := h.ses
    exact ⟨_, h6⟩
end
theorem OpsM.same {H H' : Hp} {q : Addr} {ops : List Op} (h : OpsM H q ops) (e : Same H H') : OpsM H' q ops := h.to (fun vs x => e _ _ x) (Tps.of e)
theorem kept_step {t : Tr} {o : Op} (h : t.kept ≠ []) (f : ∀ x, o = .free x → 1 < t.kept.length) : (step t o).kept ≠ [] := by
  cases o with
  | go k => exact h
  | keep => exact List.append_ne_nil_of_right_ne_nil _ (by simp)
  | take x => exact h
  | back => exact h
  | free x =>
    have := f x rfl
    intro e
    have e2 : (t.kept.erase x).length = 0 := by
      have e : t.kept.erase x = [] := e
      rw [e]
      rfl
    have := List.length_erase_le (a := x) (l := t.kept)
    by_cases m : x ∈ t.kept
    · rw [List.length_erase_of_mem m] at e2
      omega
    · rw [List.erase_of_not_mem m] at e2
      omega
theorem wantV_pos {n : Int} {t : Tr} (h : 0 ≤ n - 1 - t.backs) : wantV n t = .int (n - 1 - t.backs) := if_pos h
theorem wantV_neg {n : Int} {t : Tr} (h : ¬ 0 ≤ n - 1 - t.backs) : wantV n t = .non := if_neg h
theorem r_neSame {x : V} {H : Hp} {Q : VK} (hx : scal x x = true) (h : Q (.bl false) H) : rNe x x H Q := ⟨hx, by rw [decide_eq_true rfl]; exact h⟩
theorem wrong_end {n s : Int} {ops : List Op} {o : Op} (h : Can n s ini ops) (c : can n s (run ini ops) o = false) : wrong n s ini (ops ++ [o]) = some ops.length := by
  refine wrong_at (i := ops.length) (o := o) ?_ ?_ ?_
  · rw [List.take_left]
    exact h
  · rw [List.getElem?_append_right (Nat.le_refl _), Nat.sub_self]
    rfl
  · rw [List.take_left]
    exact c
theorem r_neHL {K : PySem.W.Frag} {H : Hp} {Q : VK} {p l p' l' : Addr} {h : Int} {ns : List Int} (e : H p = some (.tup [.int h, .ref l])) (e2 : H l = some (.lst (ns.map V.int))) (e' : H p' = some (.tup [.int h, .ref l'])) (e2' : H l' = some (.lst (ns.map V.int))) (q : Q (.bl false) H) : rNeD K (.ref p) (.ref p') H Q := by
  have sh : SeqAt.shaped (.tuple [.int h, .list (ns.map PyData.int)]) = true := by
    unfold SeqAt.shaped
    rw [Bool.and_eq_true]
    refine ⟨?_, decide_eq_true ?_⟩
    · show (true && (PyData.canLayAll0 (ns.map PyData.int) && true)) = true
      rw [canAll_ints]
      rfl
    · show max 0 (max (PyData.depthAll (ns.map PyData.int) + 1) 0) + 1 ≤ 64
      rw [depthAll_ints]
      decide
  refine ⟨_, _, .tup (SqT.of e) (.cons (.int h) (.cons (dp_ints (SqL.of e2)) .nil)), .tup (SqT.of e') (.cons (.int h) (.cons (dp_ints (SqL.of e2')) .nil)), sh, sh, ?_⟩
  show Q (.bl (!((h == h) && (PyData.eqvAll (ns.map PyData.int) (ns.map PyData.int) && true)))) H
  rw [eqvAll_ints, decide_eq_true rfl, beq_self_eq_true]
  exact q
/-- what two properties' tuples tell is the same -/
theorem r_eqTold {K : PySem.W.Frag} {H : Hp} {Q : VK} {p p' : Addr} {n : Int} {t : Tr} (h : ToldAt H p n t) (h' : ToldAt H p' n t) (q : Q (.bl true) H) : rEqD K (.ref p) (.ref p') H Q := by
  obtain ⟨l, ks, e, e2, k1, k2⟩ := h
  obtain ⟨l', ks', e', e2', k1', k2'⟩ := h'
  have ek : ks' = ks := sorted_eq k1' k1 k2' k2
  subst ek
  have key : ∃ dw : PyData, Dp K H (wantV n t) dw ∧ PyData.canLay0 dw = true ∧ PyData.depth dw = 0 ∧ PyData.eqv dw dw = true := by
    by_cases c : 0 ≤ n - 1 - t.backs
    · rw [wantV_pos c]
      exact ⟨_, .int _, rfl, rfl, by show (_ == _) = true; rw [beq_self_eq_true]⟩
    · rw [wantV_neg c]
      exact ⟨_, .non, rfl, rfl, rfl⟩
  obtain ⟨dw, w1, w2, w3, w4⟩ := key
  have sh : SeqAt.shaped (.tuple [.int t.hand, .list (ks'.map PyData.int), .int t.steps, dw]) = true := by
    unfold SeqAt.shaped
    rw [Bool.and_eq_true]
    refine ⟨?_, decide_eq_true ?_⟩
    · show (true && (PyData.canLayAll0 (ks'.map PyData.int) && (true && (PyData.canLay0 dw && true)))) = true
      rw [canAll_ints, w2]
      rfl
    · show max 0 (max (PyData.depthAll (ks'.map PyData.int) + 1) (max 0 (max (PyData.depth dw) 0))) + 1 ≤ 64
      rw [depthAll_ints, w3]
      decide
  refine ⟨_, _, .tup (SqT.of e) (.cons (.int _) (.cons (dp_ints (SqL.of e2)) (.cons (.int _) (.cons w1 .nil)))), .tup (SqT.of e') (.cons (.int _) (.cons (dp_ints (SqL.of e2')) (.cons (.int _) (.cons w1 .nil)))), sh, sh, ?_⟩
  show Q (.bl ((t.hand == t.hand) && (PyData.eqvAll (ks'.map PyData.int) (ks'.map PyData.int) && ((t.steps == t.steps) && (PyData.eqv dw dw && true))))) H
  rw [eqvAll_ints, decide_eq_true rfl, beq_self_eq_true, beq_self_eq_true, w4]
  exact q
end Bs

namespace Bs
open PySem PySem.Spec L2 Bm Bl
open PyProof.Rows hiding St
-- one step of a reading; side conditions; what a heap holds
local macro_rules | `(tactic| walk_at "sc") => `(tactic| (first
  | exact mulL ⟨by omega, by omega⟩ | exact mulR ⟨by omega, by omega⟩ | exact divS (by omega) (by omega) | exact (show (0 : Int) < _ by omega) | exact powS (b := 4) (by decide) (by decide) (by decide) (by decide) | assumption | omega))
local macro_rules | `(tactic| walk_at "ne") => `(tactic| (first
  | assumption | (apply Ne.symm; assumption) | exact ne_none (by assumption) (by walk_at "hp") | exact Ne.symm (ne_none (by assumption) (by walk_at "hp"))))
local macro_rules | `(tactic| walk_at "hp") => `(tactic| (first
  | assumption | exact upd_same | (refine (upd_ne ?k1).trans ?k2; (case k1 => walk_at "ne"); (case k2 => walk_at "hp")) | (refine Same.get (by assumption) ?_; walk_at "hp") | (refine But.get (by assumption) ?k1 ?k2; (case k1 => walk_at "hp"); (case k2 => walk_at "ne"))))
local macro_rules | `(tactic| walk_at "sq") => `(tactic| (first | assumption | exact SqL.of (by walk_at "hp") | exact SqT.of (by walk_at "hp")))
local macro_rules | `(tactic| walk_at "rd1") => `(tactic| (first
  | with_reducible refine r_seq ?_ | with_reducible refine r_asg ?_ | with_reducible refine r_asgG ?_ | with_reducible refine r_op ?_ | ((with_reducible show tVar _ _ _ _); with_reducible refine r_var (by with_unfolding_all exact rfl) ?_) | with_reducible refine r_c ?_ | with_reducible refine r_I0 ?_ | with_reducible refine r_p30 ?_
  | with_reducible refine r_p20 ?_ | with_reducible refine r_p27 ?_ | with_reducible refine r_p29 ?_ | with_reducible refine r_p38 ?_ | with_reducible refine r_p40 ?_ | with_reducible refine r_p42 ?_ | with_reducible refine r_p44 ?_ | with_reducible refine r_p49 ?_
  | with_reducible refine r_p50 ?_ | with_reducible refine r_p60 ?_ | with_reducible refine r_p18 ?_ | with_reducible refine r_p12 ?_ | with_reducible refine r_p15 ?_ | with_reducible refine r_p9 ?_ | with_reducible refine r_p6 ?_ | with_reducible refine r_p64 ?_
  | ((with_reducible refine r_I ?k1 ?k2); (case k1 => walk_at "sc")) | with_reducible refine r_U ?_ | with_reducible refine r_un ?_ | with_reducible refine r_ret ?_ | with_reducible refine r_ifS ?_ | with_reducible refine r_test ?_ | with_reducible refine r_bl ?_ | with_reducible refine r_cb ?_
  | with_reducible refine r_cons ?_ | with_reducible refine r_nil ?_ | with_reducible refine r_intI ?_ | with_reducible refine r_intB ?_ | with_reducible refine r_max2' ?_ | with_reducible refine r_min2' ?_ | with_reducible refine r_max3 ?_ | with_reducible refine r_min3 ?_
  | with_reducible refine r_call ?_ | with_reducible refine r_par ?_ | with_reducible refine r_and ?_ | with_reducible refine r_or ?_ | with_reducible refine r_not ?_ | with_reducible refine r_B ?_ | with_reducible refine r_andV ?_ | with_reducible refine r_orV ?_
  | with_reducible refine r_notV ?_ | with_reducible refine r_ifE ?_ | with_reducible refine r_eqI ?_ | with_reducible refine r_neI ?_ | with_reducible refine r_eqB ?_ | with_reducible refine r_neB ?_ | with_reducible refine r_isN ?_ | with_reducible refine r_notN ?_
  | with_reducible refine r_chain ?_ | with_reducible refine r_chain3 ?_ | with_reducible refine r_drop ?_ | with_reducible refine r_next ?_ | with_reducible refine r_retN ?_ | with_reducible refine r_brk ?_ | with_reducible refine r_cont ?_ | with_reducible refine r_ex ?_
  | with_reducible refine r_tup ?_ | with_reducible refine r_lst ?_ | ((with_reducible refine r_new ?k1 ?k2); (case k1 => first | decide | exact Nat.le_of_ble_eq_true rfl)) | with_reducible refine r_sub ?_ | with_reducible refine r_gname ?_ | with_reducible refine r_gcons ?_ | with_reducible refine r_gnil ?_ | with_reducible refine r_slice ?_
  | with_reducible refine r_noPart ?_ | with_reducible refine r_part ?_ | ((with_reducible show gTup _ _ _ _ _ _ _); with_reducible refine r_gtup (by with_unfolding_all walk_at "sq") (by with_unfolding_all exact rfl) ?_) | with_reducible refine r_rng1 ?_ | with_reducible refine r_rng2 ?_ | ((with_reducible refine r_r1 ?k1 ?k2 ?k3); (case k1 => omega); (case k2 => omega)) | ((with_reducible refine r_r2 ?k1 ?k2); (case k1 => omega)) | with_reducible refine r_nonT ?_
  | with_reducible refine r_nonI ?_ | with_reducible refine r_nonR ?_ | with_reducible refine r_notT ?_ | with_reducible refine r_notI ?_ | with_reducible refine r_notR ?_ | with_reducible refine r_for ?_ | with_reducible refine r_lc ?_ | with_reducible refine r_iL ?_
  | with_reducible refine r_iT ?_ | with_reducible refine r_yesT ?_ | ((with_reducible show _ = _ ∧ _); with_reducible refine r_same (by with_unfolding_all exact rfl) ?_) | with_reducible refine r_neS ?_ | with_reducible refine r_iteT ?_ | with_reducible refine r_iteF ?_ | with_reducible refine r_iteNT ?_ | with_reducible refine r_iteNF ?_
  | ((with_reducible show tAug _ _ _ _ _ _); with_reducible refine r_aug (by with_unfolding_all exact rfl) ?_) | with_reducible refine r_ipI ?_ | with_reducible refine r_bm ?_ | ((with_reducible show tyV _ "list" _ _ ∧ _); with_reducible refine r_tyL (by with_unfolding_all walk_at "sq") ?_) | with_reducible refine r_enum ?_ | ((with_reducible show ∃ (a : Addr) (xs : List V), [V.ref _] = [V.ref a] ∧ _); with_reducible refine r_en (by with_unfolding_all walk_at "sq") ?_) | with_reducible refine r_par3' ?_ | with_reducible refine r_fldC ?_
  | with_reducible refine r_sfld ?_ | with_reducible refine r_saug ?_ | with_reducible refine r_prop ?_ | with_reducible refine r_meth ?_ | with_reducible refine r_make ?_ | with_reducible refine r_eqSY ?_ | ((with_reducible refine r_eqSN ?k1 ?k2); (case k1 => decide +kernel)) | with_reducible refine r_dget ?_
  | with_reducible refine r_dput ?_ | with_reducible refine r_match ?_ | with_reducible refine r_str ?_ | with_reducible refine r_caseY ?_ | ((with_reducible refine r_caseN ?k1 ?k2); (case k1 => decide +kernel)) | with_reducible refine r_caseA ?_ | ((with_reducible show PR _ _ _ _ _ _); with_reducible refine r_pr (by with_unfolding_all walk_at "hp") ?_) | with_reducible refine r_disp ?_
  | with_reducible refine r_pnil ?_ | with_reducible refine r_pcons ?_ | ((with_reducible show FL _ _ _ _ _); (first | ((with_reducible show FL _ "own_budget" _ _ _); with_reducible refine gl_budget (by with_unfolding_all walk_at "hp") ?_) | ((with_reducible show FL _ "own_trace" _ _ _); with_reducible refine gl_trace (by with_unfolding_all walk_at "hp") ?_) | ((with_reducible show FL _ "own_calls" _ _ _); with_reducible refine gl_calls (by with_unfolding_all walk_at "hp") ?_) | ((with_reducible show FL _ "own_length" _ _ _); with_reducible refine gl_length (by with_unfolding_all walk_at "hp") ?_) | ((with_reducible show FL _ "own_slots" _ _ _); with_reducible refine gl_slots (by with_unfolding_all walk_at "hp") ?_) | ((with_reducible show FL _ "own_hand" _ _ _); with_reducible refine fl_hand (by with_unfolding_all walk_at "hp") ?_) | ((with_reducible show FL _ "own_kept" _ _ _); with_reducible refine fl_kept (by with_unfolding_all walk_at "hp") ?_) | ((with_reducible show FL _ "own_steps" _ _ _); with_reducible refine fl_steps (by with_unfolding_all walk_at "hp") ?_) | ((with_reducible show FL _ "own_backs" _ _ _); with_reducible refine fl_backs (by with_unfolding_all walk_at "hp") ?_) | ((with_reducible show FL _ "own_length" _ _ _); with_reducible refine fl_length (by with_unfolding_all walk_at "hp") ?_) | ((with_reducible show FL _ "own_slots" _ _ _); with_reducible refine fl_slots (by with_unfolding_all walk_at "hp") ?_))) | ((with_reducible show FS _ _ _ _ _ _); (first | ((with_reducible show FS _ "own_hand" _ _ _ _); with_reducible refine fs_hand (by with_unfolding_all walk_at "hp") ?_) | ((with_reducible show FS _ "own_kept" _ _ _ _); with_reducible refine fs_kept (by with_unfolding_all walk_at "hp") ?_) | ((with_reducible show FS _ "own_steps" _ _ _ _); with_reducible refine fs_steps (by with_unfolding_all walk_at "hp") ?_) | ((with_reducible show FS _ "own_backs" _ _ _ _); with_reducible refine fs_backs (by with_unfolding_all walk_at "hp") ?_))) | ((with_reducible show DGr _ _ _ _); (first | ((with_reducible show DGr _ (V.str "size") _ _); with_reducible refine dg_size (by with_unfolding_all walk_at "hp") ?_) | ((with_reducible show DGr _ (V.str "hand") _ _); with_reducible refine dg_hand (by with_unfolding_all walk_at "hp") ?_) | ((with_reducible show DGr _ (V.str "held") _ _); with_reducible refine dg_held (by with_unfolding_all walk_at "hp") ?_) | ((with_reducible show DGr _ (V.str "spent") _ _); with_reducible refine dg_spent (by with_unfolding_all walk_at "hp") ?_) | ((with_reducible show DGr _ (V.str "gone") _ _); with_reducible refine dg_gone (by with_unfolding_all walk_at "hp") ?_) | ((with_reducible show DGr _ (V.str "most") _ _); with_reducible refine dg_most (by with_unfolding_all walk_at "hp") ?_) | ((with_reducible show DGr _ (V.str "goes") _ _); with_reducible refine dg_goes (by with_unfolding_all walk_at "hp") ?_))) | ((with_reducible show DPr _ _ _ _ _); (first | ((with_reducible show DPr _ (V.str "hand") _ _ _); with_reducible refine dp_hand (by with_unfolding_all walk_at "hp") ?_) | ((with_reducible show DPr _ (V.str "held") _ _ _); with_reducible refine dp_held (by with_unfolding_all walk_at "hp") ?_) | ((with_reducible show DPr _ (V.str "spent") _ _ _); with_reducible refine dp_spent (by with_unfolding_all walk_at "hp") ?_) | ((with_reducible show DPr _ (V.str "gone") _ _ _); with_reducible refine dp_gone (by with_unfolding_all walk_at "hp") ?_) | ((with_reducible show DPr _ (V.str "most") _ _ _); with_reducible refine dp_most (by with_unfolding_all walk_at "hp") ?_) | ((with_reducible show DPr _ (V.str "goes") _ _ _); with_reducible refine dp_goes (by with_unfolding_all walk_at "hp") ?_)))))
local macro_rules | `(tactic| walk_at "rd") => `(tactic| repeat walk_at "rd1")
theorem script_int5 {K : PySem.W.Frag} {ns : List Int} {i : Nat} {x : V} (h : (cutV (ns.map V.int) none (some 5) ++ [.int 0])[i]? = some x) : ∃ z, x = .int z := by
  rcases List.mem_append.mp (List.mem_of_getElem? h) with q | q
  · obtain ⟨z, _, e⟩ := cut_int q
    exact ⟨z, e⟩
  · exact ⟨0, List.mem_singleton.mp q⟩
section
variable (K : PySem.W.Frag) {vs : List V} {H : Hp} {Q : VK} {E : XK}
theorem pure_law_k47 (h : sp_law_k47 K vs H Q E) : t_law_k47 K { nx := fun _ H' => Q .non H', rt := Q } (start n_law_k47 vs) H := by
  obtain ⟨a, ns, rfl, hex, hS, hl, q⟩ := h
  show t_law_k47 K _ [some (.ref a), none, none, none] H
  unfold t_law_k47
  refine r_cut (fun σ' H' => True) (fun D hD => ?_) ?_
  · walk_at "rd"
    refine r_slL hS ?_
    intro p1 hp1
    walk_at "rd"
    intro p2 hp2
    have n12 : p1 ≠ p2 := ne_none hp2 upd_same
    have cl := cutV_length (ns.map V.int) none (some 5)
    rw [List.length_map] at cl
    refine r_cat ((upd_ne n12).trans upd_same) upd_same (by show _ + 1 ≤ 100000; omega) ?_
    intro p3 hp3
    refine r_refL (SqL.of upd_same) ?_
    refine for_list (K := K) (a := p3) (xs := cutV (ns.map V.int) none (some 5) ++ [.int 0]) (fun i σ H' => H' p3 = some (.lst (cutV (ns.map V.int) none (some 5) ++ [.int 0])) ∧ ∃ v1 v2 v3, σ = [some (.ref a), v1, v2, v3]) ?_ ?_ ?_ ?_
    · exact ⟨upd_same, none, none, none, rfl⟩
    · rintro i σ H1 _ ⟨e, _⟩
      exact SqL.of e
    · rintro i x σ H1 hx ⟨e1, v1, v2, v3, rfl⟩
      obtain ⟨z, rfl⟩ := script_int5 (K := K) hx
      walk_at "rd"
      refine ⟨z, rfl, fun p4 H2 s2 hp4 g2 => ?_⟩
      walk_at "rd"
      have n34 : p3 ≠ p4 := ne_none hp4 e1
      refine ⟨p4, 3, rfl, by decide, by decide, g2, fun r1 H3 r10 r11 b3 g3 => ?_⟩
      walk_at "rd"
      refine ⟨p4, 12, rfl, by decide, by decide, g3, fun r2 H4 r20 r21 b4 g4 => ?_⟩
      walk_at "rd"
      refine ⟨p4, 1000000000000000000000000000000, rfl, by decide, by decide, g4, fun r3 H5 r30 r31 b5 g5 => ?_⟩
      walk_at "rd"
      intro y hy
      have nyp : y ≠ p4 := g5.ne hy
      have e5 : H5 p3 = some (.lst (cutV (ns.map V.int) none (some 5) ++ [.int 0])) := b5 _ _ n34 (b4 _ _ n34 (b3 _ _ n34 (s2 _ _ e1)))
      refine r_refT (SqT.of upd_same) ?_
      refine for_it (walk_tup (xs := [V.int (1 + r1), V.int (1 + r2), V.int (1 + r3)])) (fun j σ H' => H' p3 = some (.lst (cutV (ns.map V.int) none (some 5) ++ [.int 0])) ∧ H' y = some (.tup [V.int (1 + r1), V.int (1 + r2), V.int (1 + r3)]) ∧ Bag H' p4 ∧ ∃ v3, σ = [some (.ref a), some (.int z), some (.ref p4), v3]) ?_ ?_ ?_ ?_
      · exact ⟨(upd_ne (ne_of_none e5 hy)).trans e5, upd_same, g5.new hy, v3, rfl⟩
      · rintro j σ H6 _ ⟨_, ey, _⟩
        exact SqT.of ey
      · rintro j x σ H6 H7 hj ⟨e6, ey, g6, v3, rfl⟩ ⟨rfl, hx⟩
        have key : ∃ m : Int, x = .int m ∧ 1 ≤ m ∧ m ≤ 1000000000000000000000000000000 := by
          have mm := List.mem_of_getElem? hx
          simp only [List.mem_cons, List.not_mem_nil, or_false] at mm
          rcases mm with rfl | rfl | rfl
          · exact ⟨_, rfl, by omega, by omega⟩
          · exact ⟨_, rfl, by omega, by omega⟩
          · exact ⟨_, rfl, by omega, by omega⟩
        obtain ⟨m, rfl, m1, m2⟩ := key
        walk_at "rd"
        refine ⟨p4, 4, rfl, by decide, by decide, g6, fun r4 H8 r40 r41 b8 g8 => ?_⟩
        walk_at "rd"
        refine ⟨p4, m, 1 + r4, rfl, hex, g8, m1, m2, by omega, by omega, fun H9 b9 g9 => ?_⟩
        walk_at "rd"
        exact ⟨b9 _ _ n34 (b8 _ _ n34 e6), b9 _ _ nyp (b8 _ _ nyp ey), g9, _, rfl⟩
      · rintro σ H6 ⟨e6, ey, g6, v3, rfl⟩
        walk_at "rd"
        exact ⟨e6, _, _, _, rfl⟩
    · rintro σ H1 _
      exact hD _ _ trivial
  rintro σ1 H1 _
  walk_at "rd"
  exact q _
end
end Bs

namespace Bs
open PySem PySem.Spec L2 Bm Bl
open PyProof.Rows hiding St
-- one step of a reading; side conditions; what a heap holds
local macro_rules | `(tactic| walk_at "sc") => `(tactic| (first
  | exact mulL ⟨by omega, by omega⟩ | exact mulR ⟨by omega, by omega⟩ | exact divS (by omega) (by omega) | exact (show (0 : Int) < _ by omega) | exact powS (b := 4) (by decide) (by decide) (by decide) (by decide) | assumption | omega))
local macro_rules | `(tactic| walk_at "ne") => `(tactic| (first
  | assumption | (apply Ne.symm; assumption) | exact ne_none (by assumption) (by walk_at "hp") | exact Ne.symm (ne_none (by assumption) (by walk_at "hp"))))
local macro_rules | `(tactic| walk_at "hp") => `(tactic| (first
  | assumption | exact upd_same | (refine (upd_ne ?k1).trans ?k2; (case k1 => walk_at "ne"); (case k2 => walk_at "hp")) | (refine Same.get (by assumption) ?_; walk_at "hp") | (refine But.get (by assumption) ?k1 ?k2; (case k1 => walk_at "hp"); (case k2 => walk_at "ne"))))
local macro_rules | `(tactic| walk_at "sq") => `(tactic| (first | assumption | exact SqL.of (by walk_at "hp") | exact SqT.of (by walk_at "hp")))
local macro_rules | `(tactic| walk_at "rd1") => `(tactic| (first
  | with_reducible refine r_seq ?_ | with_reducible refine r_asg ?_ | with_reducible refine r_asgG ?_ | with_reducible refine r_op ?_ | ((with_reducible show tVar _ _ _ _); with_reducible refine r_var (by with_unfolding_all exact rfl) ?_) | with_reducible refine r_c ?_ | with_reducible refine r_I0 ?_ | with_reducible refine r_p30 ?_
  | with_reducible refine r_p20 ?_ | with_reducible refine r_p27 ?_ | with_reducible refine r_p29 ?_ | with_reducible refine r_p38 ?_ | with_reducible refine r_p40 ?_ | with_reducible refine r_p42 ?_ | with_reducible refine r_p44 ?_ | with_reducible refine r_p49 ?_
  | with_reducible refine r_p50 ?_ | with_reducible refine r_p60 ?_ | with_reducible refine r_p18 ?_ | with_reducible refine r_p12 ?_ | with_reducible refine r_p15 ?_ | with_reducible refine r_p9 ?_ | with_reducible refine r_p6 ?_ | with_reducible refine r_p64 ?_
  | ((with_reducible refine r_I ?k1 ?k2); (case k1 => walk_at "sc")) | with_reducible refine r_U ?_ | with_reducible refine r_un ?_ | with_reducible refine r_ret ?_ | with_reducible refine r_ifS ?_ | with_reducible refine r_test ?_ | with_reducible refine r_bl ?_ | with_reducible refine r_cb ?_
  | with_reducible refine r_cons ?_ | with_reducible refine r_nil ?_ | with_reducible refine r_intI ?_ | with_reducible refine r_intB ?_ | with_reducible refine r_max2' ?_ | with_reducible refine r_min2' ?_ | with_reducible refine r_max3 ?_ | with_reducible refine r_min3 ?_
  | with_reducible refine r_call ?_ | with_reducible refine r_par ?_ | with_reducible refine r_and ?_ | with_reducible refine r_or ?_ | with_reducible refine r_not ?_ | with_reducible refine r_B ?_ | with_reducible refine r_andV ?_ | with_reducible refine r_orV ?_
  | with_reducible refine r_notV ?_ | with_reducible refine r_ifE ?_ | with_reducible refine r_eqI ?_ | with_reducible refine r_neI ?_ | with_reducible refine r_eqB ?_ | with_reducible refine r_neB ?_ | with_reducible refine r_isN ?_ | with_reducible refine r_notN ?_
  | with_reducible refine r_chain ?_ | with_reducible refine r_chain3 ?_ | with_reducible refine r_drop ?_ | with_reducible refine r_next ?_ | with_reducible refine r_retN ?_ | with_reducible refine r_brk ?_ | with_reducible refine r_cont ?_ | with_reducible refine r_ex ?_
  | with_reducible refine r_tup ?_ | with_reducible refine r_lst ?_ | ((with_reducible refine r_new ?k1 ?k2); (case k1 => first | decide | exact Nat.le_of_ble_eq_true rfl)) | with_reducible refine r_sub ?_ | with_reducible refine r_gname ?_ | with_reducible refine r_gcons ?_ | with_reducible refine r_gnil ?_ | with_reducible refine r_slice ?_
  | with_reducible refine r_noPart ?_ | with_reducible refine r_part ?_ | ((with_reducible show gTup _ _ _ _ _ _ _); with_reducible refine r_gtup (by with_unfolding_all walk_at "sq") (by with_unfolding_all exact rfl) ?_) | with_reducible refine r_rng1 ?_ | with_reducible refine r_rng2 ?_ | ((with_reducible refine r_r1 ?k1 ?k2 ?k3); (case k1 => omega); (case k2 => omega)) | ((with_reducible refine r_r2 ?k1 ?k2); (case k1 => omega)) | with_reducible refine r_nonT ?_
  | with_reducible refine r_nonI ?_ | with_reducible refine r_nonR ?_ | with_reducible refine r_notT ?_ | with_reducible refine r_notI ?_ | with_reducible refine r_notR ?_ | with_reducible refine r_for ?_ | with_reducible refine r_lc ?_ | with_reducible refine r_iL ?_
  | with_reducible refine r_iT ?_ | with_reducible refine r_yesT ?_ | ((with_reducible show _ = _ ∧ _); with_reducible refine r_same (by with_unfolding_all exact rfl) ?_) | with_reducible refine r_neS ?_ | with_reducible refine r_iteT ?_ | with_reducible refine r_iteF ?_ | with_reducible refine r_iteNT ?_ | with_reducible refine r_iteNF ?_
  | ((with_reducible show tAug _ _ _ _ _ _); with_reducible refine r_aug (by with_unfolding_all exact rfl) ?_) | with_reducible refine r_ipI ?_ | with_reducible refine r_bm ?_ | ((with_reducible show tyV _ "list" _ _ ∧ _); with_reducible refine r_tyL (by with_unfolding_all walk_at "sq") ?_) | with_reducible refine r_enum ?_ | ((with_reducible show ∃ (a : Addr) (xs : List V), [V.ref _] = [V.ref a] ∧ _); with_reducible refine r_en (by with_unfolding_all walk_at "sq") ?_) | with_reducible refine r_par3' ?_ | with_reducible refine r_fldC ?_
  | with_reducible refine r_sfld ?_ | with_reducible refine r_saug ?_ | with_reducible refine r_prop ?_ | with_reducible refine r_meth ?_ | with_reducible refine r_make ?_ | with_reducible refine r_eqSY ?_ | ((with_reducible refine r_eqSN ?k1 ?k2); (case k1 => decide +kernel)) | with_reducible refine r_dget ?_
  | with_reducible refine r_dput ?_ | with_reducible refine r_match ?_ | with_reducible refine r_str ?_ | with_reducible refine r_caseY ?_ | ((with_reducible refine r_caseN ?k1 ?k2); (case k1 => decide +kernel)) | with_reducible refine r_caseA ?_ | ((with_reducible show PR _ _ _ _ _ _); with_reducible refine r_pr (by with_unfolding_all walk_at "hp") ?_) | with_reducible refine r_disp ?_
  | with_reducible refine r_pnil ?_ | with_reducible refine r_pcons ?_ | ((with_reducible show FL _ _ _ _ _); (first | ((with_reducible show FL _ "own_budget" _ _ _); with_reducible refine gl_budget (by with_unfolding_all walk_at "hp") ?_) | ((with_reducible show FL _ "own_trace" _ _ _); with_reducible refine gl_trace (by with_unfolding_all walk_at "hp") ?_) | ((with_reducible show FL _ "own_calls" _ _ _); with_reducible refine gl_calls (by with_unfolding_all walk_at "hp") ?_) | ((with_reducible show FL _ "own_length" _ _ _); with_reducible refine gl_length (by with_unfolding_all walk_at "hp") ?_) | ((with_reducible show FL _ "own_slots" _ _ _); with_reducible refine gl_slots (by with_unfolding_all walk_at "hp") ?_) | ((with_reducible show FL _ "own_hand" _ _ _); with_reducible refine fl_hand (by with_unfolding_all walk_at "hp") ?_) | ((with_reducible show FL _ "own_kept" _ _ _); with_reducible refine fl_kept (by with_unfolding_all walk_at "hp") ?_) | ((with_reducible show FL _ "own_steps" _ _ _); with_reducible refine fl_steps (by with_unfolding_all walk_at "hp") ?_) | ((with_reducible show FL _ "own_backs" _ _ _); with_reducible refine fl_backs (by with_unfolding_all walk_at "hp") ?_) | ((with_reducible show FL _ "own_length" _ _ _); with_reducible refine fl_length (by with_unfolding_all walk_at "hp") ?_) | ((with_reducible show FL _ "own_slots" _ _ _); with_reducible refine fl_slots (by with_unfolding_all walk_at "hp") ?_))) | ((with_reducible show FS _ _ _ _ _ _); (first | ((with_reducible show FS _ "own_hand" _ _ _ _); with_reducible refine fs_hand (by with_unfolding_all walk_at "hp") ?_) | ((with_reducible show FS _ "own_kept" _ _ _ _); with_reducible refine fs_kept (by with_unfolding_all walk_at "hp") ?_) | ((with_reducible show FS _ "own_steps" _ _ _ _); with_reducible refine fs_steps (by with_unfolding_all walk_at "hp") ?_) | ((with_reducible show FS _ "own_backs" _ _ _ _); with_reducible refine fs_backs (by with_unfolding_all walk_at "hp") ?_))) | ((with_reducible show DGr _ _ _ _); (first | ((with_reducible show DGr _ (V.str "size") _ _); with_reducible refine dg_size (by with_unfolding_all walk_at "hp") ?_) | ((with_reducible show DGr _ (V.str "hand") _ _); with_reducible refine dg_hand (by with_unfolding_all walk_at "hp") ?_) | ((with_reducible show DGr _ (V.str "held") _ _); with_reducible refine dg_held (by with_unfolding_all walk_at "hp") ?_) | ((with_reducible show DGr _ (V.str "spent") _ _); with_reducible refine dg_spent (by with_unfolding_all walk_at "hp") ?_) | ((with_reducible show DGr _ (V.str "gone") _ _); with_reducible refine dg_gone (by with_unfolding_all walk_at "hp") ?_) | ((with_reducible show DGr _ (V.str "most") _ _); with_reducible refine dg_most (by with_unfolding_all walk_at "hp") ?_) | ((with_reducible show DGr _ (V.str "goes") _ _); with_reducible refine dg_goes (by with_unfolding_all walk_at "hp") ?_))) | ((with_reducible show DPr _ _ _ _ _); (first | ((with_reducible show DPr _ (V.str "hand") _ _ _); with_reducible refine dp_hand (by with_unfolding_all walk_at "hp") ?_) | ((with_reducible show DPr _ (V.str "held") _ _ _); with_reducible refine dp_held (by with_unfolding_all walk_at "hp") ?_) | ((with_reducible show DPr _ (V.str "spent") _ _ _); with_reducible refine dp_spent (by with_unfolding_all walk_at "hp") ?_) | ((with_reducible show DPr _ (V.str "gone") _ _ _); with_reducible refine dp_gone (by with_unfolding_all walk_at "hp") ?_) | ((with_reducible show DPr _ (V.str "most") _ _ _); with_reducible refine dp_most (by with_unfolding_all walk_at "hp") ?_) | ((with_reducible show DPr _ (V.str "goes") _ _ _); with_reducible refine dp_goes (by with_unfolding_all walk_at "hp") ?_)))))
local macro_rules | `(tactic| walk_at "rd") => `(tactic| repeat walk_at "rd1")
section
variable (K : PySem.W.Frag) {vs : List V} {H : Hp} {Q : VK} {E : XK}
theorem pure_l_right_k47 (h : sp_l_right_k47 K vs H Q E) : t_l_right_k47 K { nx := fun _ H' => Q .non H', rt := Q } (start n_l_right_k47 vs) H := by
  obtain ⟨a, n, s, rfl, hex, g, h1, h2, h3, h4, q⟩ := h
  show t_l_right_k47 K _ [some (.ref a), some (.int n), some (.int s), none, none, none, none, none, none, none, none, none] H
  unfold t_l_right_k47
  have ia := is_bag g a rfl
  refine r_cut (fun σ' H' => ∃ w t l c p, Sd K H a n s w t l c p [] ini H' ∧ σ' = [some (.ref a), some (.int n), some (.int s), some (.ref w), some (.ref p), some (.int 1), none, none, none, none, none, none]) (fun D hD => ?_) ?_
  · walk_at "rd"
    intro w dx hw hdx ndx
    refine ⟨w, dx, n, s, rfl, upd_same, h1, h2, h3, by omega, fun t l c H1 b1 ht hl hc ses => ⟨rfl, ?_⟩⟩
    have t0 := (upd_none (upd_none ht).2).2
    have l0 := (upd_none (upd_none hl).2).2
    have c0 := (upd_none (upd_none hc).2).2
    have s1 : Same H H1 := fun b o e => b1 _ _ (ne_of_none e hw) ((upd_ne (ne_of_none e hw)).trans ((upd_ne (ne_of_none e hdx)).trans e))
    walk_at "rd"
    intro z hz
    walk_at "rd"
    intro p hp
    walk_at "rd"
    have s2 := Same.newT (o := .lst [.int 0]) s1 hz
    have hz2 := upd_none hp
    refine hD _ _ ⟨w, t, l, c, p, ⟨ia, But.of (Same.newT s2 hp), g.at (Same.newT s2 hp), t0, l0, c0, (ses.same (Same.new hz)).same (Same.new hp), z, ?_, ?_, ?_⟩, rfl⟩
    · obtain ⟨_, _, dx, g3, ⟨dx2, g4, g5⟩, ⟨xs, g6, _⟩⟩ := ses
      rintro (e | e | e)
      · exact (is_bag (g.at s1) a rfl).ne hz e
      · exact ne_of_none g5 hz e.symm
      · exact ne_of_none g6 hz e.symm
    · rw [show n - 1 - ini.backs = n - 1 from Int.sub_zero _]
      exact upd_same
    · exact (upd_ne hz2.1.symm).trans upd_same
  rintro σ1 H1 ⟨w, t, l, c, p1, sd1, rfl⟩
  refine r_cut (fun σ' H' => ∃ ops p m v6 v7 v8 v9 v10, Sd K H a n s w t l c p ops (run ini ops) H' ∧ ops.length ≤ 20 ∧ (∀ o ∈ ops, okOp o) ∧ σ' = [some (.ref a), some (.int n), some (.int s), some (.ref w), some (.ref p), some (.int m), v6, v7, v8, v9, v10, none]) (fun D hD => ?_) ?_
  · walk_at "rd"
    refine for_range (fun i σ H' => ∃ ops p m v6 v7 v8 v9 v10, Sd K H a n s w t l c p ops (run ini ops) H' ∧ ops.length ≤ i ∧ (∀ o ∈ ops, okOp o) ∧ (run ini ops).kept ≠ [] ∧ IsMx m (scan ini ops) ∧ σ = [some (.ref a), some (.int n), some (.int s), some (.ref w), some (.ref p), some (.int m), v6, v7, v8, v9, v10, none]) ?_ ?_ ?_
    · exact ⟨[], p1, 1, none, none, none, none, none, sd1, Nat.le_refl _, fun o ho => by simp at ho, by show [0] ≠ []; simp, ⟨⟨ini, List.mem_cons_self, rfl⟩, fun t ht => by
        have e : t = ini := by simpa [Bl.scan] using ht
        rw [e]
        exact Int.le_refl _⟩, rfl⟩
    · rintro j σ H2 hj ⟨ops, p, m, v6, v7, v8, v9, v10, sd, hl, ok, kne, mx, rfl⟩
      have cn := sd.ses.2.1
      have inb : InB n s (run ini ops) := run_inB (ini_inB h1 h3) ok cn
      have kl := inb.kl
      refine r_gname ?_
      refine r_cut (fun σ' H' => ∃ v v6 o, Sd K H a n s w t l c p ops (run ini ops) H' ∧ OpV H' v o ∧ okOp o ∧ (∀ x, o = .free x → 1 < (run ini ops).kept.length) ∧ σ' = [some (.ref a), some (.int n), some (.int s), some (.ref w), some (.ref p), some (.int m), v6, some v, v8, v9, v10, none]) (fun D hD => ?_) ?_
      · walk_at "rd"
        refine ⟨eq3 a l c, a, p, n, s, _, rfl, sd.bag, sd.sta, .inl rfl, inb, kne, h2, by omega, fun v o H3 b3 g3 hv ho hf => ?_⟩
        walk_at "rd"
        exact hD _ _ ⟨v, _, o, sd.mv b3 g3, hv, ho, hf, rfl⟩
      clear sd v6 v7 H2
      rintro σ3 H3 ⟨v, v6, o, sd3, hv3, ho, hf, rfl⟩
      refine r_cut (fun σ' H' => ∃ pc, Sd K H a n s w t l c p ops (run ini ops) H' ∧ OpV H' v o ∧ OpsM H' pc ops ∧ H3 pc = none ∧ σ' = [some (.ref a), some (.int n), some (.int s), some (.ref w), some (.ref p), some (.int m), v6, some v, some (.ref pc), v9, v10, none]) (fun D hD => ?_) ?_
      · walk_at "rd"
        obtain ⟨dx, hw⟩ := sd3.ses.ins
        refine ⟨w, dx, _, rfl, hw, by kernel_rfl, ?_⟩
        walk_at "rd"
        refine ⟨w, t, l, c, n, s, ops, rfl, sd3.ses, fun pc H4 s4 hp ho4 => ?_⟩
        walk_at "rd"
        exact hD _ _ ⟨pc, sd3.same s4, hv3.to (Tps.of s4), ho4, hp, rfl⟩
      rintro σ4 H4 ⟨pc, sd4, hv4, om4, fp, rfl⟩
      obtain ⟨npt, npl, npc⟩ : pc ≠ t ∧ pc ≠ l ∧ pc ≠ c := by
        obtain ⟨_, _, dx, g3, ⟨dx2, g4, g5⟩, ⟨xs, g6, _⟩⟩ := sd3.ses
        exact ⟨(ne_of_none g4 fp).symm, (ne_of_none g5 fp).symm, (ne_of_none g6 fp).symm⟩
      clear sd3 hv3 fp
      refine r_cut (fun σ' H' => Sd K H a n s w t l c p ops (run ini ops) H' ∧ OpV H' v o ∧ OpsM H' pc ops ∧ σ' = [some (.ref a), some (.int n), some (.int s), some (.ref w), some (.ref p), some (.int m), v6, some v, some (.ref pc), v9, v10, none]) (fun D hD => ?_) ?_
      · walk_at "rd"
        refine ⟨n, s, pc, ops, rfl, ⟨h1, h2, h3, by omega, om4.at, by omega, ok⟩, fun H5 s5 => ?_⟩
        rw [wrong_none cn]
        walk_at "rd"
        exact hD _ _ ⟨sd4.same s5, hv4.to (Tps.of s5), om4.same s5, rfl⟩
      clear sd4 hv4 om4 H4
      rintro σ5 H5 ⟨sd5, hv5, om5, rfl⟩
      refine r_cut (fun σ' H' => ∃ u ops', (can n s (run ini ops) o = true ∧ u = .non ∧ ops' = ops ++ [o] ∨ can n s (run ini ops) o = false ∧ u = .int 0 ∧ ops' = ops) ∧ Sd K H a n s w t l c p ops' (run ini ops) H' ∧ OpV H' v o ∧ OpsM H' pc ops ∧ σ' = [some (.ref a), some (.int n), some (.int s), some (.ref w), some (.ref p), some (.int m), v6, some v, some (.ref pc), some u, v10, none]) (fun D hD => ?_) ?_
      · walk_at "rd"
        refine ⟨w, t, l, c, n, s, ops, v, o, rfl, hex, ⟨sd5.ses, by omega, by omega⟩, hv5, ho, fun hc H6 b6 s6 => ?_, fun hc H6 s6 => ?_⟩
        · have tp := sd5.ses.tps3 b6
          walk_at "rd"
          exact hD _ _ ⟨.non, _, .inl ⟨hc, rfl, rfl⟩, sd5.perf b6 s6, hv5.to tp, om5.to (fun vs e => b6 _ _ npt npl npc e) tp, rfl⟩
        · walk_at "rd"
          exact hD _ _ ⟨.int 0, _, .inr ⟨hc, rfl, rfl⟩, sd5.same s6, hv5.to (Tps.of s6), om5.same s6, rfl⟩
      clear sd5 hv5 om5 H5
      rintro σ6 H6 ⟨u, ops', hu, sd6, hv6, om6, rfl⟩
      have ok2 : ∀ o' ∈ ops ++ [o], okOp o' := fun o' ho' => by
        rcases List.mem_append.mp ho' with z | z
        · exact ok o' z
        · rw [List.mem_singleton.mp z]
          exact ho
      refine r_cut (fun σ' H' => Sd K H a n s w t l c p ops' (run ini ops) H' ∧ OpV H' v o ∧ σ' = [some (.ref a), some (.int n), some (.int s), some (.ref w), some (.ref p), some (.int m), v6, some v, some (.ref pc), some u, v10, none]) (fun D hD => ?_) ?_
      · obtain ⟨xs, hx, hox⟩ := om6
        have hlx := hox.len
        walk_at "rd"
        intro z hz
        have hx1 := (upd_ne (o := .lst [v]) (ne_of_none hx hz)).trans hx
        refine r_cat hx1 upd_same (by show xs.length + 1 ≤ 100000; omega) fun y hy => ?_
        have sz := Same.newT (o := .lst (xs ++ [v])) (Same.new (o := .lst [v]) hz) hy
        have hx2 := sz _ _ hx
        have tsk : Tsk K (upd (upd H6 z (.lst [v])) y (.lst (xs ++ [v]))) n s y (ops ++ [o]) := ⟨h1, h2, h3, by omega, ⟨xs ++ [v], SqL.of upd_same, OpsV.snoc (hv6.to (Tps.of sz)) (hox.to (Tps.of sz))⟩, by rw [List.length_append]; show ops.length + 1 ≤ 400; omega, ok2⟩
        walk_at "rd"
        refine ⟨n, s, y, ops ++ [o], rfl, tsk, fun H7 s7 => ?_⟩
        have S := Same.trans sz s7
        rcases hu with ⟨hc, rfl, rfl⟩ | ⟨hc, rfl, rfl⟩
        · rw [wrong_none (Can_snoc cn hc)]
          walk_at "rd"
          refine r_neSame (x := .non) rfl ?_
          walk_at "rd"
          exact hD _ _ ⟨sd6.same S, hv6.to (Tps.of S), rfl⟩
        · rw [wrong_end cn hc]
          walk_at "rd"
          refine r_lenL (SqL.of (S _ _ hx)) ?_
          rw [hlx]
          refine r_neSame (x := .int (ops'.length : Nat)) rfl ?_
          walk_at "rd"
          exact hD _ _ ⟨sd6.same S, hv6.to (Tps.of S), rfl⟩
      clear sd6 hv6 om6 H6
      rintro σ7 H7 ⟨sd7, hv7, rfl⟩
      refine r_cut (fun σ' H' => ∃ p m, Sd K H a n s w t l c p ops' (run ini ops') H' ∧ ops'.length ≤ j + 1 ∧ (∀ o ∈ ops', okOp o) ∧ (run ini ops').kept ≠ [] ∧ IsMx m (scan ini ops') ∧ σ' = [some (.ref a), some (.int n), some (.int s), some (.ref w), some (.ref p), some (.int m), v6, some v, some (.ref pc), some u, v10, none]) (fun D hD => ?_) ?_
      · rcases hu with ⟨hc, rfl, rfl⟩ | ⟨hc, rfl, rfl⟩
        · walk_at "rd"
          refine ⟨eq3 a l c, p, v, n, run ini ops, o, rfl, sd7.sta, hv7, sd7.isx, inb.nd, by omega, fun p' H8 s8 hp8 st8 => ?_⟩
          have sd8 := sd7.st s8 st8
          obtain ⟨dx, hw⟩ := sd8.ses.ins
          walk_at "rd"
          refine ⟨w, t, l, c, n, s, _, rfl, sd8.ses, fun q1 ks H9 s9 hq hq9 kp ks2 => ?_⟩
          walk_at "rd"
          refine r_lenL (SqL.of hq9) ?_
          walk_at "rd"
          rw [List.length_map, kp.length_eq]
          have er : run ini (ops ++ [o]) = step (run ini ops) o := run_app
          refine hD _ _ ⟨p', _, by rw [er]; exact sd8.same s9, by rw [List.length_append]; show ops.length + 1 ≤ j + 1; omega, ok2, by rw [er]; exact kept_step kne hf, ?_, rfl⟩
          rw [scan_snoc]
          exact mx.max
        · walk_at "rd"
          exact hD _ _ ⟨p, m, sd7, by omega, ok, kne, mx, rfl⟩
      clear sd7 hv7 hu ok2 H7 hl ok kne mx cn inb kl hf ho
      rintro σ8 H8 ⟨p', m', sd8, hl, ok, kne, mx, rfl⟩
      have cn := sd8.ses.2.1
      have inb : InB n s (run ini ops') := run_inB (ini_inB h1 h3) ok cn
      have b0 := inb.b0
      have b1 := inb.b1
      refine r_cut (fun σ' H' => ∃ pc, Sd K H a n s w t l c p' ops' (run ini ops') H' ∧ OpsM H' pc ops' ∧ σ' = [some (.ref a), some (.int n), some (.int s), some (.ref w), some (.ref p'), some (.int m'), v6, some v, some (.ref pc), some u, v10, none]) (fun D hD => ?_) ?_
      · walk_at "rd"
        obtain ⟨dx, hw⟩ := sd8.ses.ins
        refine ⟨w, dx, _, rfl, hw, by kernel_rfl, ?_⟩
        walk_at "rd"
        refine ⟨w, t, l, c, n, s, ops', rfl, sd8.ses, fun pc H4 s4 hp ho4 => ?_⟩
        walk_at "rd"
        exact hD _ _ ⟨pc, sd8.same s4, ho4, rfl⟩
      clear sd8 H8
      rintro σ9 H9 ⟨pd, sd9, om9, rfl⟩
      refine r_cut (fun σ' H' => H' = H9 ∧ σ' = [some (.ref a), some (.int n), some (.int s), some (.ref w), some (.ref p'), some (.int m'), v6, some v, some (.ref pd), some u, some (.int (n - 1 - (run ini ops').backs)), none]) (fun D hD => ?_) ?_
      · obtain ⟨dx, hw⟩ := sd9.ses.ins
        walk_at "rd"
        refine ⟨w, t, l, c, n, s, ops', rfl, sd9.ses, ?_⟩
        by_cases c : 0 ≤ n - 1 - (run ini ops').backs
        · rw [wantV_pos c]
          walk_at "rd"
          refine ⟨w, t, l, _, n, s, ops', rfl, sd9.ses, ?_⟩
          rw [wantV_pos c]
          walk_at "rd"
          exact hD _ _ ⟨rfl, rfl⟩
        · rw [wantV_neg c]
          walk_at "rd"
          refine hD _ _ ⟨rfl, ?_⟩
          rw [show n - 1 - (run ini ops').backs = -1 by omega]
          rfl
      rintro σ10 H10 ⟨rfl, rfl⟩
      have tsk : ∀ H', Same H10 H' → Tsk K H' n s pd ops' := fun H' e => ⟨h1, h2, h3, by omega, (om9.same e).at, by omega, ok⟩
      refine r_cut (fun σ' H' => ∃ p9, Same H10 H' ∧ H' p9 = some (.lst ([(run ini ops').steps, (run ini ops').backs].map V.int)) ∧ σ' = [some (.ref a), some (.int n), some (.int s), some (.ref w), some (.ref p'), some (.int m'), v6, some v, some (.ref pd), some (.ref p9), some (.int (n - 1 - (run ini ops').backs)), none]) (fun D hD => ?_) ?_
      · walk_at "rd"
        refine ⟨n, s, pd, ops', rfl, tsk _ (Same.refl _), cn, fun H11 s11 => ?_⟩
        walk_at "rd"
        refine ⟨n, s, pd, ops', rfl, tsk _ s11, cn, fun H12 s12 => ?_⟩
        walk_at "rd"
        intro p9 hp9
        exact hD _ _ ⟨p9, Same.newT (Same.trans s11 s12) hp9, upd_same, rfl⟩
      rintro σ11 H11 ⟨p9, s11, e9, rfl⟩
      refine r_cut (fun σ' H' => Same H10 H' ∧ σ' = [some (.ref a), some (.int n), some (.int s), some (.ref w), some (.ref p'), some (.int m'), v6, some v, some (.ref pd), some (.ref p9), some (.int (n - 1 - (run ini ops').backs)), none]) (fun D hD => ?_) ?_
      · obtain ⟨dx, hw⟩ := (sd9.same s11).ses.ins
        walk_at "rd"
        refine ⟨w, t, l, c, n, s, ops', rfl, (sd9.same s11).ses, ?_⟩
        walk_at "rd"
        intro z hz
        refine r_neL (ms := [(run ini ops').steps, n - 1 - (n - 1 - (run ini ops').backs)]) (SqL.of ((upd_ne (ne_of_none e9 hz)).trans e9)) (SqL.of upd_same) ?_
        walk_at "rd"
        refine r_nn (by rw [show n - 1 - (n - 1 - (run ini ops').backs) = (run ini ops').backs by omega]) ?_
        walk_at "rd"
        exact hD _ _ ⟨Same.newT s11 hz, rfl⟩
      clear s11 e9 H11
      rintro σ12 H12 ⟨s12, rfl⟩
      refine r_cut (fun σ' H' => Same H10 H' ∧ σ' = [some (.ref a), some (.int n), some (.int s), some (.ref w), some (.ref p'), some (.int m'), v6, some v, some (.ref pd), some (.ref p9), some (.int (n - 1 - (run ini ops').backs)), none]) (fun D hD => ?_) ?_
      · walk_at "rd"
        refine ⟨n, s, pd, ops', rfl, tsk _ s12, cn, fun pk lk ks H13 s13 hpk hlk ek el kp ks2 => ?_⟩
        have S13 := Same.trans s12 s13
        obtain ⟨dx, hw⟩ := (sd9.same S13).ses.ins
        walk_at "rd"
        refine ⟨w, t, l, c, n, s, ops', rfl, (sd9.same S13).ses, ?_⟩
        walk_at "rd"
        refine ⟨w, t, l, c, n, s, ops', rfl, (sd9.same S13).ses, fun q1 ks' H14 s14 hq hq14 kp' ks2' => ?_⟩
        have eks : ks' = ks := sorted_eq kp' kp ks2' ks2
        subst eks
        walk_at "rd"
        intro z hz
        have S14 := Same.newT (o := .tup [.int (run ini ops').hand, .ref q1]) (Same.trans S13 s14) hz
        have s15 := Same.newT (o := .tup [.int (run ini ops').hand, .ref q1]) s14 hz
        refine r_neHL (s15 _ _ ek) (s15 _ _ el) upd_same ((upd_ne (ne_of_none hq14 hz)).trans hq14) ?_
        walk_at "rd"
        refine ⟨n, s, pd, ops', rfl, tsk _ S14, cn, fun m2 H15 s16 hm2 => ?_⟩
        rw [hm2.one mx]
        walk_at "rd"
        refine r_nn rfl ?_
        walk_at "rd"
        exact hD _ _ ⟨Same.trans S14 s16, rfl⟩
      clear s12 H12
      rintro σ13 H13 ⟨s13, rfl⟩
      walk_at "rd"
      refine ⟨n, s, pd, ops', rfl, tsk _ s13, cn, fun H14 s14 => ?_⟩
      have sdz := sd9.same (Same.trans s13 s14)
      obtain ⟨dx, hw⟩ := sdz.ses.ins
      by_cases c : (run ini ops').backs = n
      · rw [if_pos c]
        walk_at "rd"
        refine ⟨w, t, l, _, n, s, ops', rfl, sdz.ses, ?_⟩
        rw [wantV_neg (by omega)]
        walk_at "rd"
        refine r_nn rfl ?_
        walk_at "rd"
        exact ⟨ops', p', m', _, _, _, _, _, sdz, hl, ok, kne, mx, rfl⟩
      · rw [if_neg c]
        walk_at "rd"
        refine ⟨w, t, l, _, n, s, ops', rfl, sdz.ses, ?_⟩
        rw [wantV_pos (by omega)]
        walk_at "rd"
        refine r_nn rfl ?_
        walk_at "rd"
        exact ⟨ops', p', m', _, _, _, _, _, sdz, hl, ok, kne, mx, rfl⟩
    · rintro σ H2 ⟨ops, p, m, v6, v7, v8, v9, v10, sd, hl, ok, kne, mx, rfl⟩
      exact hD _ _ ⟨ops, p, m, v6, v7, v8, v9, v10, sd, hl, ok, rfl⟩
  clear sd1 H1
  rintro σ2 H2 ⟨ops, p, m, v6, v7, v8, v9, v10, sd, hl, ok, rfl⟩
  have cn := sd.ses.2.1
  refine r_cut (fun σ' H' => ∃ w' t' l' c', Same H2 H' ∧ H2 t' = none ∧ H2 l' = none ∧ H2 c' = none ∧ SesAt K H' w' t' l' c' n s [] ∧ σ' = [some (.ref a), some (.int n), some (.int s), some (.ref w), some (.ref p), some (.int m), v6, v7, v8, v9, v10, some (.ref w')]) (fun D hD => ?_) ?_
  · walk_at "rd"
    intro w' dx hw hdx ndx
    refine ⟨w', dx, n, s, rfl, upd_same, h1, h2, h3, by omega, fun t' l' c' H1 b1 ht hl hc ses => ⟨rfl, ?_⟩⟩
    have t0 := (upd_none (upd_none ht).2).2
    have l0 := (upd_none (upd_none hl).2).2
    have c0 := (upd_none (upd_none hc).2).2
    have s1 : Same H2 H1 := fun b o e => b1 _ _ (ne_of_none e hw) ((upd_ne (ne_of_none e hw)).trans ((upd_ne (ne_of_none e hdx)).trans e))
    walk_at "rd"
    exact hD _ _ ⟨w', t', l', c', s1, t0, l0, c0, ses, rfl⟩
  rintro σ3 H3 ⟨w', t', l', c', s3, t0, l0, c0, ses3, rfl⟩
  refine r_cut (fun σ' H' => ∃ v7, Same H2 H' ∧ SesAt K H' w' t' l' c' n s ops ∧ σ' = [some (.ref a), some (.int n), some (.int s), some (.ref w), some (.ref p), some (.int m), v6, v7, v8, v9, v10, some (.ref w')]) (fun D hD => ?_) ?_
  · obtain ⟨dx, hw⟩ := (sd.ses.same s3).ins
    walk_at "rd"
    refine ⟨w, dx, _, rfl, hw, by kernel_rfl, ?_⟩
    walk_at "rd"
    refine ⟨w, t, l, c, n, s, ops, rfl, sd.ses.same s3, fun pl H4 s4 hp ho4 => ?_⟩
    obtain ⟨xs, hx, hox⟩ := ho4
    have hlx := hox.len
    have ses4 := ses3.same s4
    obtain ⟨npt, npl, npc⟩ : pl ≠ t' ∧ pl ≠ l' ∧ pl ≠ c' := by
      obtain ⟨_, _, dx, g3, ⟨dx2, g4, g5⟩, ⟨xs, g6, _⟩⟩ := ses3
      exact ⟨(ne_of_none g4 hp).symm, (ne_of_none g5 hp).symm, (ne_of_none g6 hp).symm⟩
    walk_at "rd"
    refine r_refL (SqL.of hx) ?_
    refine for_it (walk_list (xs := xs)) (fun i σ H' => Same H2 H' ∧ SesAt K H' w' t' l' c' n s (ops.take i) ∧ H' pl = some (.lst xs) ∧ OpsV H' xs ops ∧ ∃ v7, σ = [some (.ref a), some (.int n), some (.int s), some (.ref w), some (.ref p), some (.int m), v6, v7, v8, v9, v10, some (.ref w')]) ?_ ?_ ?_ ?_
    · exact ⟨Same.trans s3 s4, ses4, hx, hox, v7, rfl⟩
    · rintro i σ H7 _ ⟨_, _, e7, _⟩
      exact SqL.of e7
    · rintro i x σ H7 H8 hi ⟨s7, ses7, e7, o7, v7, rfl⟩ ⟨rfl, y2⟩
      obtain ⟨o, ho2, hov⟩ := o7.at y2
      have hcan := Can_at cn ho2
      walk_at "rd"
      refine ⟨w', t', l', c', n, s, ops.take i, x, o, rfl, ⟨ses7, by omega, by rw [List.length_take]; omega⟩, hov, ok o (List.mem_of_getElem? ho2), fun hc H9 b9 s9 => ?_, fun hc => ?_⟩
      · have tp := ses7.tps3 b9
        walk_at "rd"
        refine ⟨fun b u e => b9 _ _ (ne_of_none e t0) (ne_of_none e l0) (ne_of_none e c0) (s7 _ _ e), ?_, b9 _ _ npt npl npc e7, o7.to tp, _, rfl⟩
        rw [take_snoc ho2]
        exact s9
      · rw [hcan] at hc
        cases hc
    · rintro σ H7 ⟨s7, ses7, e7, o7, v7, rfl⟩
      rw [hlx, List.take_length] at ses7
      exact hD _ _ ⟨v7, s7, ses7, rfl⟩
  rintro σ4 H4 ⟨v7', s4, ses4, rfl⟩
  have sesw := sd.ses.same s4
  obtain ⟨dx, hw⟩ := sesw.ins
  obtain ⟨dx', hw'⟩ := ses4.ins
  walk_at "rd"
  refine ⟨⟨w', w, dx', dx, _, _, rfl, rfl, hw', hw, t', l', c', t, l, c, n, s, ops, ses4, sesw⟩, fun H5 s5 => ?_⟩
  have s5 : Same H4 H5 := s5
  walk_at "rd"
  refine ⟨w', t', l', c', n, s, ops, rfl, ses4.same s5, fun pa H6 s6 ta => ?_⟩
  walk_at "rd"
  refine ⟨w, t, l, c, n, s, ops, rfl, (sesw.same s5).same s6, fun pb H7 s7 tb => ?_⟩
  have ta7 : ToldAt H7 pa n (run ini ops) := by
    obtain ⟨q1, ks, e1, e2, e3, e4⟩ := ta
    exact ⟨q1, ks, s7 _ _ e1, s7 _ _ e2, e3, e4⟩
  refine r_eqTold ta7 tb ?_
  have sd7 := sd.same (Same.trans s4 (Same.trans s5 (Same.trans s6 s7)))
  exact q _ sd7.but sd7.bag
end
end Bs

namespace K47
open PySem PySem.Spec L2 Bs
open PyProof.Rows hiding St

/-- what the top has left: built-ins that are still so, constants, classes -/
structure Txt (w : World) (K : PySem.W.Frag) (mg : Str → Option Value) : Prop where
  isinstance : mg "isinstance" = none
  int : mg "int" = none
  bool : mg "bool" = none
  range : mg "range" = none
  tuple : mg "tuple" = none
  str : mg "str" = none
  len : mg "len" = none
  list : mg "list" = none
  enumerate : mg "enumerate" = none
  sorted : mg "sorted" = none
  max : mg "max" = none
  MOST_LENGTH : ∃ t, mg "MOST_LENGTH" = some (.int 1000000000000000000000000000000 t)
  MOST_SLOTS : ∃ t, mg "MOST_SLOTS" = some (.int 100 t)
  MOST_OPERATIONS : ∃ t, mg "MOST_OPERATIONS" = some (.int 400 t)
  MOST_NUMBER : ∃ t, mg "MOST_NUMBER" = some (.int 1000000000000000000000000000000 t)
  cl_Trace : Cls K (He.ga K "Trace")
  mg_Trace : mg "Trace" = some (.ref (He.ga K "Trace"))
  na_Trace_own_length : NoAttr K (He.ga K "Trace") "own_length"
  na_Trace_own_slots : NoAttr K (He.ga K "Trace") "own_slots"
  na_Trace_own_hand : NoAttr K (He.ga K "Trace") "own_hand"
  na_Trace_own_kept : NoAttr K (He.ga K "Trace") "own_kept"
  na_Trace_own_steps : NoAttr K (He.ga K "Trace") "own_steps"
  na_Trace_own_backs : NoAttr K (He.ga K "Trace") "own_backs"
  cl_Session : Cls K (He.ga K "Session")
  mg_Session : mg "Session" = some (.ref (He.ga K "Session"))
  na_Session_own_budget : NoAttr K (He.ga K "Session") "own_budget"
  na_Session_own_length : NoAttr K (He.ga K "Session") "own_length"
  na_Session_own_slots : NoAttr K (He.ga K "Session") "own_slots"
  na_Session_own_trace : NoAttr K (He.ga K "Session") "own_trace"
  na_Session_own_calls : NoAttr K (He.ga K "Session") "own_calls"
  mg_CannotDo : mg "CannotDo" = some (.ref (He.ga K "CannotDo"))
  oex : OexC K (He.ga K "CannotDo")
  oexT : PySem.W.typeIn K (.ref (He.ma K (He.ga K "CannotDo") "__init__")) = some (.type "function")
  na_operation : NoAttr K (He.ga K "CannotDo") "operation"
  xf : XfC K (He.ga K "CannotDo")
  isi_Session : C8.InsC K (He.ga K "Session")
  mg_WORDS : mg "WORDS" = some (.ref (He.ga K "WORDS"))
  words : WordsOk K w
section
variable {P : Program} {w : World} {K : PySem.W.Frag} {mg : Str → Option Value} {base : Heap}
abbrev s_is_int : Stmt := top 2
theorem sc_is_int : FnScope ["value"] ["value"] (defScope s_is_int) := ⟨rfl, rfl, rfl, by decide +kernel, rfl, by decide +kernel, by decide +kernel⟩
theorem ok_is_int (T : Txt w K mg) (F : Df K ⟨("is_int", none), "is_int", "is_int", defArgs s_is_int, defBody s_is_int, defScope s_is_int, [], []⟩) (g : mg "is_int" = some (.ref (He.ga K "is_int"))) :
    Ok P w K mg base CX0 1 "is_int" ["value"] (sp_is_int K) := by
  refine mk_ok (st := s_is_int) F g (fun _ _ _ _ _ _ us hl => match us, hl with | [_], _ => rfl) sc_is_int (fun vs H Q E h => len_is_int K h) (fun cdv A outer s H vs Q E hr h => ⟨t_is_int K, PSs.nox ?_, pure_is_int K h⟩)
  exact (pss_one (ps_ret (pe_and (pe_callB call_isi (by rfl) T.isinstance (by decide +kernel) (pa_cons (pv 0) (pa_cons (pe_bltn (by rfl) T.int (by decide +kernel) rfl) pa_nil))) (pe_one (pe_not (pe_callB call_isi (by rfl) T.isinstance (by decide +kernel) (pa_cons (pv 0) (pa_cons (pe_bltn (by rfl) T.bool (by decide +kernel) rfl) pa_nil))))))))
abbrev s_is_whole : Stmt := top 3
theorem sc_is_whole : FnScope ["value", "low", "high"] ["value", "low", "high"] (defScope s_is_whole) := ⟨rfl, rfl, rfl, by decide +kernel, rfl, by decide +kernel, by decide +kernel⟩
theorem ok_is_whole (T : Txt w K mg) (F : Df K ⟨("is_whole", none), "is_whole", "is_whole", defArgs s_is_whole, defBody s_is_whole, defScope s_is_whole, [], []⟩) (g : mg "is_whole" = some (.ref (He.ga K "is_whole"))) (h_is_int : Ok P w K mg base CX0 1 "is_int" ["value"] (sp_is_int K)) :
    Ok P w K mg base CX0 2 "is_whole" ["value", "low", "high"] (sp_is_whole K) := by
  refine mk_ok (st := s_is_whole) F g (fun _ _ _ _ _ _ us hl => match us, hl with | [_, _, _], _ => rfl) sc_is_whole (fun vs H Q E h => len_is_whole K h) (fun cdv A outer s H vs Q E hr h => ⟨t_is_whole K, PSs.nox ?_, pure_is_whole K h⟩)
  exact (pss_one (ps_ret (pe_and (pe_callO h_is_int (hr.mono (by decide)) rfl pass0 (pa_cons (pv 0) pa_nil)) (pe_one (pe_chain op_le op_le (pv 1) (pv 0) (pv 2))))))
abbrev s_CannotDo_init : Stmt := inClass (top 7) 0
theorem sc_CannotDo_init : FnScope ["self", "operation"] ["self", "operation"] (defScope s_CannotDo_init) := ⟨rfl, rfl, rfl, by decide +kernel, rfl, by decide +kernel, by decide +kernel⟩
theorem ok_CannotDo_init (T : Txt w K mg) (F : Df K ⟨("CannotDo", some "__init__"), "__init__", "CannotDo.__init__", defArgs s_CannotDo_init, defBody s_CannotDo_init, defScope s_CannotDo_init, [], []⟩) (g : Meth K (He.ga K "CannotDo") "__init__" (He.ma K (He.ga K "CannotDo") "__init__")) :
    OkX P w K mg base CX0 1 "CannotDo" ["self", "operation"] (sp_CannotDo_init K) := by
  refine ⟨T.mg_CannotDo, g, mk_fn (st := s_CannotDo_init) F.at (fun _ _ _ _ _ _ us hl => match us, hl with | [_, _], _ => rfl) sc_CannotDo_init (fun vs H Q E h => len_CannotDo_init K h) (fun cdv A outer s H vs Q E hr h => ⟨t_CannotDo_init K, PSs.nox ?_, pure_CannotDo_init K h⟩)⟩
  exact (pss_one (ps_ostC T.oex T.na_operation (pv 0) (pv 1)))
abbrev s_require_length : Stmt := top 16
theorem sc_require_length : FnScope ["value"] ["value"] (defScope s_require_length) := ⟨rfl, rfl, rfl, by decide +kernel, rfl, by decide +kernel, by decide +kernel⟩
theorem ok_require_length (T : Txt w K mg) (F : Df K ⟨("require_length", none), "require_length", "require_length", defArgs s_require_length, defBody s_require_length, defScope s_require_length, [], []⟩) (g : mg "require_length" = some (.ref (He.ga K "require_length"))) (h_is_whole : Ok P w K mg base CX0 2 "is_whole" ["value", "low", "high"] (sp_is_whole K)) :
    Ok P w K mg base CX0 3 "require_length" ["value"] (sp_require_length K) := by
  refine mk_ok (st := s_require_length) F g (fun _ _ _ _ _ _ us hl => match us, hl with | [_], _ => rfl) sc_require_length (fun vs H Q E h => len_require_length K h) (fun cdv A outer s H vs Q E hr h => ⟨t_require_length K, PSs.nox ?_, pure_require_length K h⟩)
  exact (pss_one (ps_if (pt_not (pt_val (pe_callO h_is_whole (hr.mono (by decide)) rfl pass0 (pa_cons (pv 0) (pa_cons pe_int (pa_cons (pe_globI T.MOST_LENGTH) pa_nil)))))) (pss_one ps_never) pss_nil))
abbrev s_require_slots : Stmt := top 17
theorem sc_require_slots : FnScope ["value"] ["value"] (defScope s_require_slots) := ⟨rfl, rfl, rfl, by decide +kernel, rfl, by decide +kernel, by decide +kernel⟩
theorem ok_require_slots (T : Txt w K mg) (F : Df K ⟨("require_slots", none), "require_slots", "require_slots", defArgs s_require_slots, defBody s_require_slots, defScope s_require_slots, [], []⟩) (g : mg "require_slots" = some (.ref (He.ga K "require_slots"))) (h_is_whole : Ok P w K mg base CX0 2 "is_whole" ["value", "low", "high"] (sp_is_whole K)) :
    Ok P w K mg base CX0 3 "require_slots" ["value"] (sp_require_slots K) := by
  refine mk_ok (st := s_require_slots) F g (fun _ _ _ _ _ _ us hl => match us, hl with | [_], _ => rfl) sc_require_slots (fun vs H Q E h => len_require_slots K h) (fun cdv A outer s H vs Q E hr h => ⟨t_require_slots K, PSs.nox ?_, pure_require_slots K h⟩)
  exact (pss_one (ps_if (pt_not (pt_val (pe_callO h_is_whole (hr.mono (by decide)) rfl pass0 (pa_cons (pv 0) (pa_cons pe_int (pa_cons (pe_globI T.MOST_SLOTS) pa_nil)))))) (pss_one ps_never) pss_nil))
abbrev s_require_task : Stmt := top 18
theorem sc_require_task : FnScope ["length", "slots"] ["length", "slots"] (defScope s_require_task) := ⟨rfl, rfl, rfl, by decide +kernel, rfl, by decide +kernel, by decide +kernel⟩
theorem ok_require_task (T : Txt w K mg) (F : Df K ⟨("require_task", none), "require_task", "require_task", defArgs s_require_task, defBody s_require_task, defScope s_require_task, [], []⟩) (g : mg "require_task" = some (.ref (He.ga K "require_task"))) (h_require_length : Ok P w K mg base CX0 3 "require_length" ["value"] (sp_require_length K)) (h_require_slots : Ok P w K mg base CX0 3 "require_slots" ["value"] (sp_require_slots K)) :
    Ok P w K mg base CX0 4 "require_task" ["length", "slots"] (sp_require_task K) := by
  refine mk_ok (st := s_require_task) F g (fun _ _ _ _ _ _ us hl => match us, hl with | [_, _], _ => rfl) sc_require_task (fun vs H Q E h => len_require_task K h) (fun cdv A outer s H vs Q E hr h => ⟨t_require_task K, PSs.nox ?_, pure_require_task K h⟩)
  exact (pss_cons (ps_expr (pe_callO h_require_length (hr.mono (by decide)) rfl pass0 (pa_cons (pv 0) pa_nil)))
  (pss_one (ps_expr (pe_callO h_require_slots (hr.mono (by decide)) rfl pass0 (pa_cons (pv 1) pa_nil)))))
abbrev s_reach_of : Stmt := top 19
theorem sc_reach_of : FnScope ["slots", "rounds", "found", "turn"] ["slots", "rounds"] (defScope s_reach_of) := ⟨rfl, rfl, rfl, by decide +kernel, rfl, by decide +kernel, by decide +kernel⟩
theorem ok_reach_of (T : Txt w K mg) (F : Df K ⟨("reach_of", none), "reach_of", "reach_of", defArgs s_reach_of, defBody s_reach_of, defScope s_reach_of, [], []⟩) (g : mg "reach_of" = some (.ref (He.ga K "reach_of"))) :
    Ok P w K mg base CX0 1 "reach_of" ["slots", "rounds"] (sp_reach_of K) := by
  refine mk_ok (st := s_reach_of) F g (fun _ _ _ _ _ _ us hl => match us, hl with | [_, _], _ => rfl) sc_reach_of (fun vs H Q E h => len_reach_of K h) (fun cdv A outer s H vs Q E hr h => ⟨t_reach_of K, PSs.nox ?_, pure_reach_of K h⟩)
  exact (pss_cons (ps_set (i := 2) sc_reach_of.nd rfl (by first | exact Or.inl rfl | exact Or.inr rfl) pe_int)
  (pss_cons (ps_for PassesOwn.never rfl (pi_range2 rfl T.range (pa_cons pe_int (pa_cons (pe_op op_add (pv 0) pe_int) pa_nil))) (pg_name (i := 3) sc_reach_of.nd rfl (by first | exact Or.inl rfl | exact Or.inr rfl))
  (pss_one (ps_set (i := 2) sc_reach_of.nd rfl (by first | exact Or.inl rfl | exact Or.inr rfl) (pe_op op_divP (pe_op op_mulA (pv 2) (pe_op op_add (pv 1) (pv 3))) (pv 3)))))
  (pss_one (ps_ret (pv 2)))))
abbrev s_rounds_of : Stmt := top 20
theorem sc_rounds_of : FnScope ["length", "slots", "low", "high", "middle"] ["length", "slots"] (defScope s_rounds_of) := ⟨rfl, rfl, rfl, by decide +kernel, rfl, by decide +kernel, by decide +kernel⟩
theorem ok_rounds_of (T : Txt w K mg) (F : Df K ⟨("rounds_of", none), "rounds_of", "rounds_of", defArgs s_rounds_of, defBody s_rounds_of, defScope s_rounds_of, [], []⟩) (g : mg "rounds_of" = some (.ref (He.ga K "rounds_of"))) (h_reach_of : Ok P w K mg base CX0 1 "reach_of" ["slots", "rounds"] (sp_reach_of K)) :
    Ok P w K mg base CX0 2 "rounds_of" ["length", "slots"] (sp_rounds_of K) := by
  refine mk_ok (st := s_rounds_of) F g (fun _ _ _ _ _ _ us hl => match us, hl with | [_, _], _ => rfl) sc_rounds_of (fun vs H Q E h => len_rounds_of K h) (fun cdv A outer s H vs Q E hr h => ⟨t_rounds_of K, PSs.nox ?_, pure_rounds_of K h⟩)
  exact (pss_cons (ps_asg (pe_tup (pa_cons (pe_un un_neg pe_int) (pa_cons pe_int pa_nil))) (pg_tup rfl (pgs_cons (pg_name (i := 2) sc_rounds_of.nd rfl (by first | exact Or.inl rfl | exact Or.inr rfl)) (pgs_cons (pg_name (i := 3) sc_rounds_of.nd rfl (by first | exact Or.inl rfl | exact Or.inr rfl)) pgs_nil))))
  (pss_cons (ps_while PassesOwn.never (pt_cmpR op_lt (pe_callO h_reach_of (hr.mono (by decide)) rfl pass0 (pa_cons (pv 1) (pa_cons (pv 3) pa_nil))) (pv 0) (nomark _))
  (pss_one (ps_par (i := 2) (j := 3) rfl sc_rounds_of.nd rfl rfl (by decide) rfl rfl (pa_cons (pv 3) (pa_cons (pe_op op_mulA pe_int (pv 3)) pa_nil)) (by rfl))))
  (pss_cons (ps_while PassesOwn.never (pt_cmpR op_gt (pe_op op_sub (pv 3) (pv 2)) pe_int (nomark _))
  (pss_cons (ps_set (i := 4) sc_rounds_of.nd rfl (by first | exact Or.inl rfl | exact Or.inr rfl) (pe_op op_divP (pe_op op_add (pv 2) (pv 3)) pe_int))
  (pss_one (ps_if (pt_cmpR op_lt (pe_callO h_reach_of (hr.mono (by decide)) rfl pass0 (pa_cons (pv 1) (pa_cons (pv 4) pa_nil))) (pv 0) (nomark _)) (pss_one (ps_set (i := 2) sc_rounds_of.nd rfl (by first | exact Or.inl rfl | exact Or.inr rfl) (pv 4))) (pss_one (ps_set (i := 3) sc_rounds_of.nd rfl (by first | exact Or.inl rfl | exact Or.inr rfl) (pv 4)))))))
  (pss_one (ps_ret (pv 3))))))
abbrev s_steps_with : Stmt := top 22
theorem sc_steps_with : FnScope ["length", "slots", "rounds"] ["length", "slots", "rounds"] (defScope s_steps_with) := ⟨rfl, rfl, rfl, by decide +kernel, rfl, by decide +kernel, by decide +kernel⟩
theorem ok_steps_with (T : Txt w K mg) (F : Df K ⟨("steps_with", none), "steps_with", "steps_with", defArgs s_steps_with, defBody s_steps_with, defScope s_steps_with, [], []⟩) (g : mg "steps_with" = some (.ref (He.ga K "steps_with"))) (h_reach_of : Ok P w K mg base CX0 1 "reach_of" ["slots", "rounds"] (sp_reach_of K)) :
    Ok P w K mg base CX0 2 "steps_with" ["length", "slots", "rounds"] (sp_steps_with K) := by
  refine mk_ok (st := s_steps_with) F g (fun _ _ _ _ _ _ us hl => match us, hl with | [_, _, _], _ => rfl) sc_steps_with (fun vs H Q E h => len_steps_with K h) (fun cdv A outer s H vs Q E hr h => ⟨t_steps_with K, PSs.nox ?_, pure_steps_with K h⟩)
  exact (pss_one (ps_ret (pe_op op_sub (pe_op op_mulA (pv 2) (pv 0)) (pe_callO h_reach_of (hr.mono (by decide)) rfl pass0 (pa_cons (pe_op op_add (pv 1) pe_int) (pa_cons (pe_op op_sub (pv 2) pe_int) pa_nil))))))
abbrev s_least_of : Stmt := top 23
theorem sc_least_of : FnScope ["length", "slots"] ["length", "slots"] (defScope s_least_of) := ⟨rfl, rfl, rfl, by decide +kernel, rfl, by decide +kernel, by decide +kernel⟩
theorem ok_least_of (T : Txt w K mg) (F : Df K ⟨("least_of", none), "least_of", "least_of", defArgs s_least_of, defBody s_least_of, defScope s_least_of, [], []⟩) (g : mg "least_of" = some (.ref (He.ga K "least_of"))) (h_rounds_of : Ok P w K mg base CX0 2 "rounds_of" ["length", "slots"] (sp_rounds_of K)) (h_steps_with : Ok P w K mg base CX0 2 "steps_with" ["length", "slots", "rounds"] (sp_steps_with K)) :
    Ok P w K mg base CX0 3 "least_of" ["length", "slots"] (sp_least_of K) := by
  refine mk_ok (st := s_least_of) F g (fun _ _ _ _ _ _ us hl => match us, hl with | [_, _], _ => rfl) sc_least_of (fun vs H Q E h => len_least_of K h) (fun cdv A outer s H vs Q E hr h => ⟨t_least_of K, PSs.nox ?_, pure_least_of K h⟩)
  exact (pss_one (ps_ret (pe_callO h_steps_with (hr.mono (by decide)) rfl pass0 (pa_cons (pv 0) (pa_cons (pv 1) (pa_cons (pe_callO h_rounds_of (hr.mono (by decide)) rfl pass0 (pa_cons (pv 0) (pa_cons (pv 1) pa_nil))) pa_nil))))))
abbrev s_is_operation : Stmt := top 27
theorem sc_is_operation : FnScope ["value"] ["value"] (defScope s_is_operation) := ⟨rfl, rfl, rfl, by decide +kernel, rfl, by decide +kernel, by decide +kernel⟩
theorem ok_is_operation (T : Txt w K mg) (F : Df K ⟨("is_operation", none), "is_operation", "is_operation", defArgs s_is_operation, defBody s_is_operation, defScope s_is_operation, [], []⟩) (g : mg "is_operation" = some (.ref (He.ga K "is_operation"))) (h_is_whole : Ok P w K mg base CX0 2 "is_whole" ["value", "low", "high"] (sp_is_whole K)) :
    Ok P w K mg base CX0 3 "is_operation" ["value"] (sp_is_operation K) := by
  refine mk_ok (st := s_is_operation) F g (fun _ _ _ _ _ _ us hl => match us, hl with | [_], _ => rfl) sc_is_operation (fun vs H Q E h => len_is_operation K h) (fun cdv A outer s H vs Q E hr h => ⟨t_is_operation K, PSs.nox ?_, pure_is_operation K h⟩)
  exact (pss_cons (ps_if (PW.pt (pw_or (pt_not (pt_val (pe_callB call_isi (by rfl) T.isinstance (by decide +kernel) (pa_cons (pv 0) (pa_cons (pe_bltn (by rfl) T.tuple (by decide +kernel) rfl) pa_nil))))) (pw_or (pt_cmpR (op_eqD hr.units) (pv 0) (pe_tup pa_nil) (nomark _)) (pw_or (pt_not (pt_val (pe_callB call_isi (by rfl) T.isinstance (by decide +kernel) (pa_cons (pe_ix ix_tup (pv 0) pe_int (fun _ _ => rfl)) (pa_cons (pe_bltn (by rfl) T.str (by decide +kernel) rfl) pa_nil))))) (pw_or1 (pt_cmpR (op_notInW T.words) (pe_ix ix_tup (pv 0) pe_int (fun _ _ => rfl)) (pe_glob rfl T.mg_WORDS rfl) (by with_unfolding_all rfl))))))) (pss_one (ps_ret pe_bl)) pss_nil)
  (pss_cons (ps_if (pt_cmpR op_isN (pe_ixW T.words (pe_glob rfl T.mg_WORDS rfl) (pe_ix ix_tup (pv 0) pe_int (fun _ _ => rfl)) (fun _ _ => rfl)) pe_non (nomark _)) (pss_one (ps_ret (pe_cmpR op_eq (pe_callB call_len_seq (by rfl) T.len (by decide +kernel) (pa_cons (pv 0) pa_nil)) pe_int (nomark _)))) pss_nil)
  (pss_one (ps_ret (pe_and (pe_cmpR op_eq (pe_callB call_len_seq (by rfl) T.len (by decide +kernel) (pa_cons (pv 0) pa_nil)) pe_int (nomark _)) (pe_one (pe_callO h_is_whole (hr.mono (by decide)) rfl pass0 (pa_cons (pe_ix ix_tup (pv 0) pe_int (fun _ _ => rfl)) (pa_cons (pe_ixW T.words (pe_glob rfl T.mg_WORDS rfl) (pe_ix ix_tup (pv 0) pe_int (fun _ _ => rfl)) (fun _ _ => rfl)) (pa_cons (pe_globI T.MOST_LENGTH) pa_nil))))))))))
abbrev s_require_operations : Stmt := top 28
theorem sc_require_operations : FnScope ["value", "item", "operation"] ["value"] (defScope s_require_operations) := ⟨rfl, rfl, rfl, by decide +kernel, rfl, by decide +kernel, by decide +kernel⟩
theorem ok_require_operations (T : Txt w K mg) (F : Df K ⟨("require_operations", none), "require_operations", "require_operations", defArgs s_require_operations, defBody s_require_operations, defScope s_require_operations, [], []⟩) (g : mg "require_operations" = some (.ref (He.ga K "require_operations"))) (h_is_operation : Ok P w K mg base CX0 3 "is_operation" ["value"] (sp_is_operation K)) :
    Ok P w K mg base CX0 4 "require_operations" ["value"] (sp_require_operations K) := by
  refine mk_ok (st := s_require_operations) F g (fun _ _ _ _ _ _ us hl => match us, hl with | [_], _ => rfl) sc_require_operations (fun vs H Q E h => len_require_operations K h) (fun cdv A outer s H vs Q E hr h => ⟨t_require_operations K, PSs.nox ?_, pure_require_operations K h⟩)
  exact (pss_cons (ps_if (PW.pt (pw_or (pt_not (pt_val (pe_callB call_isi (by rfl) T.isinstance (by decide +kernel) (pa_cons (pv 0) (pa_cons (pe_bltn (by rfl) T.list (by decide +kernel) rfl) pa_nil))))) (pw_or1 (pt_cmpR op_gt (pe_callB call_len_seq (by rfl) T.len (by decide +kernel) (pa_cons (pv 0) pa_nil)) (pe_globI T.MOST_OPERATIONS) (nomark _))))) (pss_one ps_never) pss_nil)
  (pss_one (ps_for PassesOwn.never rfl (pi_enum rfl T.enumerate (pa_cons (pv 0) pa_nil)) (pg_tup rfl (pgs_cons (pg_name (i := 1) sc_require_operations.nd rfl (by first | exact Or.inl rfl | exact Or.inr rfl)) (pgs_cons (pg_name (i := 2) sc_require_operations.nd rfl (by first | exact Or.inl rfl | exact Or.inr rfl)) pgs_nil)))
  (pss_one (ps_if (pt_not (pt_val (pe_callO h_is_operation (hr.mono (by decide)) rfl pass0 (pa_cons (pv 2) pa_nil)))) (pss_one ps_never) pss_nil)))))
abbrev s_Trace_init : Stmt := inClass (top 29) 0
theorem sc_Trace_init : FnScope ["self", "length", "slots"] ["self", "length", "slots"] (defScope s_Trace_init) := ⟨rfl, rfl, rfl, by decide +kernel, rfl, by decide +kernel, by decide +kernel⟩
theorem ok_Trace_init (T : Txt w K mg) (F : Df K ⟨("Trace", some "__init__"), "__init__", "Trace.__init__", defArgs s_Trace_init, defBody s_Trace_init, defScope s_Trace_init, [], []⟩) (g : Mk K (He.ga K "Trace") (He.ma K (He.ga K "Trace") "__init__")) :
    OkI P w K mg base CX0 1 "Trace" ["self", "length", "slots"] (sp_Trace_init K) := by
  refine ⟨T.mg_Trace, g, mk_fn (st := s_Trace_init) F.at (fun _ _ _ _ _ _ us hl => match us, hl with | [_, _, _], _ => rfl) sc_Trace_init (fun vs H Q E h => len_Trace_init K h) (fun cdv A outer s H vs Q E hr h => ⟨t_Trace_init K, PSs.nox ?_, pure_Trace_init K h⟩)⟩
  exact (pss_cons (ps_fldC (pv 0) (pv 1) T.cl_Trace T.na_Trace_own_length)
  (pss_cons (ps_fldC (pv 0) (pv 2) T.cl_Trace T.na_Trace_own_slots)
  (pss_cons (ps_fldC (pv 0) pe_int T.cl_Trace T.na_Trace_own_hand)
  (pss_cons (ps_fldC (pv 0) (pe_lst (pa_cons pe_int pa_nil)) T.cl_Trace T.na_Trace_own_kept)
  (pss_cons (ps_fldC (pv 0) pe_int T.cl_Trace T.na_Trace_own_steps)
  (pss_one (ps_fldC (pv 0) pe_int T.cl_Trace T.na_Trace_own_backs)))))))
abbrev s_Trace_hand : Stmt := inClass (top 29) 1
theorem sc_Trace_hand : FnScope ["self"] ["self"] (defScope s_Trace_hand) := ⟨rfl, rfl, rfl, by decide +kernel, rfl, by decide +kernel, by decide +kernel⟩
theorem ok_Trace_hand (T : Txt w K mg) (F : DfA K (gAd K ("Trace", "hand")) ⟨("Trace", some "hand"), "hand", "Trace.hand", defArgs s_Trace_hand, defBody s_Trace_hand, defScope s_Trace_hand, [], []⟩) (g : PropOf K (He.ga K "Trace") "hand" (He.ma K (He.ga K "Trace") "hand") (gAd K ("Trace", "hand"))) :
    OkP P w K mg base CX0 1 "Trace" "hand" (sp_Trace_hand K) := by
  refine ⟨T.cl_Trace, g, mk_fn (st := s_Trace_hand) F (fun _ _ _ _ _ _ us hl => match us, hl with | [_], _ => rfl) sc_Trace_hand (fun vs H Q E h => len_Trace_hand K h) (fun cdv A outer s H vs Q E hr h => ⟨t_Trace_hand K, PSs.nox ?_, pure_Trace_hand K h⟩)⟩
  exact (pss_one (ps_ret (pe_fldC (pv 0) T.cl_Trace T.na_Trace_own_hand)))
abbrev s_Trace_kept : Stmt := inClass (top 29) 2
theorem sc_Trace_kept : FnScope ["self"] ["self"] (defScope s_Trace_kept) := ⟨rfl, rfl, rfl, by decide +kernel, rfl, by decide +kernel, by decide +kernel⟩
theorem ok_Trace_kept (T : Txt w K mg) (F : DfA K (gAd K ("Trace", "kept")) ⟨("Trace", some "kept"), "kept", "Trace.kept", defArgs s_Trace_kept, defBody s_Trace_kept, defScope s_Trace_kept, [], []⟩) (g : PropOf K (He.ga K "Trace") "kept" (He.ma K (He.ga K "Trace") "kept") (gAd K ("Trace", "kept"))) :
    OkP P w K mg base CX0 1 "Trace" "kept" (sp_Trace_kept K) := by
  refine ⟨T.cl_Trace, g, mk_fn (st := s_Trace_kept) F (fun _ _ _ _ _ _ us hl => match us, hl with | [_], _ => rfl) sc_Trace_kept (fun vs H Q E h => len_Trace_kept K h) (fun cdv A outer s H vs Q E hr h => ⟨t_Trace_kept K, PSs.nox ?_, pure_Trace_kept K h⟩)⟩
  exact (pss_one (ps_ret (pe_callB cr_sortedI (by rfl) T.sorted (by decide +kernel) (pa_cons (pe_fldC (pv 0) T.cl_Trace T.na_Trace_own_kept) pa_nil))))
abbrev s_Trace_steps : Stmt := inClass (top 29) 3
theorem sc_Trace_steps : FnScope ["self"] ["self"] (defScope s_Trace_steps) := ⟨rfl, rfl, rfl, by decide +kernel, rfl, by decide +kernel, by decide +kernel⟩
theorem ok_Trace_steps (T : Txt w K mg) (F : DfA K (gAd K ("Trace", "steps")) ⟨("Trace", some "steps"), "steps", "Trace.steps", defArgs s_Trace_steps, defBody s_Trace_steps, defScope s_Trace_steps, [], []⟩) (g : PropOf K (He.ga K "Trace") "steps" (He.ma K (He.ga K "Trace") "steps") (gAd K ("Trace", "steps"))) :
    OkP P w K mg base CX0 1 "Trace" "steps" (sp_Trace_steps K) := by
  refine ⟨T.cl_Trace, g, mk_fn (st := s_Trace_steps) F (fun _ _ _ _ _ _ us hl => match us, hl with | [_], _ => rfl) sc_Trace_steps (fun vs H Q E h => len_Trace_steps K h) (fun cdv A outer s H vs Q E hr h => ⟨t_Trace_steps K, PSs.nox ?_, pure_Trace_steps K h⟩)⟩
  exact (pss_one (ps_ret (pe_fldC (pv 0) T.cl_Trace T.na_Trace_own_steps)))
abbrev s_Trace_backs : Stmt := inClass (top 29) 4
theorem sc_Trace_backs : FnScope ["self"] ["self"] (defScope s_Trace_backs) := ⟨rfl, rfl, rfl, by decide +kernel, rfl, by decide +kernel, by decide +kernel⟩
theorem ok_Trace_backs (T : Txt w K mg) (F : DfA K (gAd K ("Trace", "backs")) ⟨("Trace", some "backs"), "backs", "Trace.backs", defArgs s_Trace_backs, defBody s_Trace_backs, defScope s_Trace_backs, [], []⟩) (g : PropOf K (He.ga K "Trace") "backs" (He.ma K (He.ga K "Trace") "backs") (gAd K ("Trace", "backs"))) :
    OkP P w K mg base CX0 1 "Trace" "backs" (sp_Trace_backs K) := by
  refine ⟨T.cl_Trace, g, mk_fn (st := s_Trace_backs) F (fun _ _ _ _ _ _ us hl => match us, hl with | [_], _ => rfl) sc_Trace_backs (fun vs H Q E h => len_Trace_backs K h) (fun cdv A outer s H vs Q E hr h => ⟨t_Trace_backs K, PSs.nox ?_, pure_Trace_backs K h⟩)⟩
  exact (pss_one (ps_ret (pe_fldC (pv 0) T.cl_Trace T.na_Trace_own_backs)))
abbrev s_Trace_copied : Stmt := inClass (top 29) 5
theorem sc_Trace_copied : FnScope ["self", "found"] ["self"] (defScope s_Trace_copied) := ⟨rfl, rfl, rfl, by decide +kernel, rfl, by decide +kernel, by decide +kernel⟩
theorem ok_Trace_copied (T : Txt w K mg) (F : Df K ⟨("Trace", some "copied"), "copied", "Trace.copied", defArgs s_Trace_copied, defBody s_Trace_copied, defScope s_Trace_copied, [], []⟩) (g : Meth K (He.ga K "Trace") "copied" (He.ma K (He.ga K "Trace") "copied")) (h_Trace_init : OkI P w K mg base CX0 1 "Trace" ["self", "length", "slots"] (sp_Trace_init K)) :
    OkM P w K mg base CX0 3 "Trace" "copied" ["self"] (sp_Trace_copied K) := by
  obtain ⟨c_Trace_init, m_Trace_init, _, b_Trace_init, g_Trace_init⟩ := h_Trace_init
  refine ⟨T.cl_Trace, g, mk_fn (st := s_Trace_copied) F.at (fun _ _ _ _ _ _ us hl => match us, hl with | [_], _ => rfl) sc_Trace_copied (fun vs H Q E h => len_Trace_copied K h) (fun cdv A outer s H vs Q E hr h => ⟨t_Trace_copied K, PSs.nox ?_, pure_Trace_copied K h⟩)⟩
  exact (pss_cons (ps_set (i := 1) sc_Trace_copied.nd rfl (by first | exact Or.inl rfl | exact Or.inr rfl) (pe_make m_Trace_init g_Trace_init (hr.mono (by decide)) rfl c_Trace_init b_Trace_init .nil pass0 (pa_cons (pe_fldC (pv 0) T.cl_Trace T.na_Trace_own_length) (pa_cons (pe_fldC (pv 0) T.cl_Trace T.na_Trace_own_slots) pa_nil))))
  (pss_cons (ps_fldC (pv 1) (pe_fldC (pv 0) T.cl_Trace T.na_Trace_own_hand) T.cl_Trace T.na_Trace_own_hand)
  (pss_cons (ps_fldC (pv 1) (pe_callTy call_list_of (by rfl) T.list (by decide +kernel) (pa_cons (pe_fldC (pv 0) T.cl_Trace T.na_Trace_own_kept) pa_nil)) T.cl_Trace T.na_Trace_own_kept)
  (pss_cons (ps_fldC (pv 1) (pe_fldC (pv 0) T.cl_Trace T.na_Trace_own_steps) T.cl_Trace T.na_Trace_own_steps)
  (pss_cons (ps_fldC (pv 1) (pe_fldC (pv 0) T.cl_Trace T.na_Trace_own_backs) T.cl_Trace T.na_Trace_own_backs)
  (pss_one (ps_ret (pv 1))))))))
abbrev s_Trace_can_do : Stmt := inClass (top 29) 6
theorem sc_Trace_can_do : FnScope ["self", "operation"] ["self", "operation"] (defScope s_Trace_can_do) := ⟨rfl, rfl, rfl, by decide +kernel, rfl, by decide +kernel, by decide +kernel⟩
theorem ok_Trace_can_do (T : Txt w K mg) (F : Df K ⟨("Trace", some "can_do"), "can_do", "Trace.can_do", defArgs s_Trace_can_do, defBody s_Trace_can_do, defScope s_Trace_can_do, [], []⟩) (g : Meth K (He.ga K "Trace") "can_do" (He.ma K (He.ga K "Trace") "can_do")) :
    OkM P w K mg base CX0 1 "Trace" "can_do" ["self", "operation"] (sp_Trace_can_do K) := by
  refine ⟨T.cl_Trace, g, mk_fn (st := s_Trace_can_do) F.at (fun _ _ _ _ _ _ us hl => match us, hl with | [_, _], _ => rfl) sc_Trace_can_do (fun vs H Q E h => len_Trace_can_do K h) (fun cdv A outer s H vs Q E hr h => ⟨t_Trace_can_do K, PSs.nox ?_, pure_Trace_can_do K h⟩)⟩
  exact (pss_one (ps_match (pe_ix ix_tup (pv 1) pe_int (fun _ _ => rfl)) (PCs.str (pss_one (ps_ret (pe_cmpR op_lt (pe_op op_add (pe_fldC (pv 0) T.cl_Trace T.na_Trace_own_hand) (pe_ix ix_tup (pv 1) pe_int (fun _ _ => rfl))) (pe_fldC (pv 0) T.cl_Trace T.na_Trace_own_length) (nomark _)))) (PCs.str (pss_one (ps_ret (pe_and (pe_cmpR op_notIn_seq (pe_fldC (pv 0) T.cl_Trace T.na_Trace_own_hand) (pe_fldC (pv 0) T.cl_Trace T.na_Trace_own_kept) (by with_unfolding_all rfl)) (pe_one (pe_cmpR op_lt (pe_callB call_len_seq (by rfl) T.len (by decide +kernel) (pa_cons (pe_fldC (pv 0) T.cl_Trace T.na_Trace_own_kept) pa_nil)) (pe_fldC (pv 0) T.cl_Trace T.na_Trace_own_slots) (nomark _)))))) (PCs.str (pss_one (ps_ret (pe_and (pe_cmpR op_lt (pe_fldC (pv 0) T.cl_Trace T.na_Trace_own_backs) (pe_fldC (pv 0) T.cl_Trace T.na_Trace_own_length) (nomark _)) (pe_one (pe_cmpR op_eq (pe_fldC (pv 0) T.cl_Trace T.na_Trace_own_hand) (pe_op op_sub (pe_op op_sub (pe_fldC (pv 0) T.cl_Trace T.na_Trace_own_length) pe_int) (pe_fldC (pv 0) T.cl_Trace T.na_Trace_own_backs)) (nomark _)))))) (PCs.any (pss_one (ps_ret (pe_cmpR op_in_seq (pe_ix ix_tup (pv 1) pe_int (fun _ _ => rfl)) (pe_fldC (pv 0) T.cl_Trace T.na_Trace_own_kept) (by with_unfolding_all rfl))))))))))
abbrev s_Trace_do : Stmt := inClass (top 29) 7
theorem sc_Trace_do : FnScope ["self", "operation"] ["self", "operation"] (defScope s_Trace_do) := ⟨rfl, rfl, rfl, by decide +kernel, rfl, by decide +kernel, by decide +kernel⟩
theorem ok_Trace_do (T : Txt w K mg) (F : Df K ⟨("Trace", some "do"), "do", "Trace.do", defArgs s_Trace_do, defBody s_Trace_do, defScope s_Trace_do, [], []⟩) (g : Meth K (He.ga K "Trace") "do" (He.ma K (He.ga K "Trace") "do")) :
    OkM P w K mg base CX0 1 "Trace" "do" ["self", "operation"] (sp_Trace_do K) := by
  refine ⟨T.cl_Trace, g, mk_fn (st := s_Trace_do) F.at (fun _ _ _ _ _ _ us hl => match us, hl with | [_, _], _ => rfl) sc_Trace_do (fun vs H Q E h => len_Trace_do K h) (fun cdv A outer s H vs Q E hr h => ⟨t_Trace_do K, PSs.nox ?_, pure_Trace_do K h⟩)⟩
  exact (pss_one (ps_match (pe_ix ix_tup (pv 1) pe_int (fun _ _ => rfl)) (PCs.str (pss_cons (ps_fldaugC (pv 0) (pe_ix ix_tup (pv 1) pe_int (fun _ _ => rfl)) T.cl_Trace T.na_Trace_own_hand)
  (pss_one (ps_fldaugC (pv 0) (pe_ix ix_tup (pv 1) pe_int (fun _ _ => rfl)) T.cl_Trace T.na_Trace_own_steps))) (PCs.str (pss_one (ps_expr (pe_bm PySem.F.plainAttrs_list PySem.F.slot_list_append PySem.F.type_list_append mt_append (pe_fldC (pv 0) T.cl_Trace T.na_Trace_own_kept) (pa_cons (pe_fldC (pv 0) T.cl_Trace T.na_Trace_own_hand) pa_nil)))) (PCs.str (pss_one (ps_fldaugC (pv 0) pe_int T.cl_Trace T.na_Trace_own_backs)) (PCs.str (pss_one (ps_fldC (pv 0) (pe_ix ix_tup (pv 1) pe_int (fun _ _ => rfl)) T.cl_Trace T.na_Trace_own_hand)) (PCs.any (pss_one (ps_expr (pe_bm PySem.F.plainAttrs_list PySem.F.slot_list_remove PySem.F.type_list_remove mt_remove (pe_fldC (pv 0) T.cl_Trace T.na_Trace_own_kept) (pa_cons (pe_ix ix_tup (pv 1) pe_int (fun _ _ => rfl)) pa_nil)))))))))))
abbrev s_require_list : Stmt := top 30
theorem sc_require_list : FnScope ["length", "slots", "operations"] ["length", "slots", "operations"] (defScope s_require_list) := ⟨rfl, rfl, rfl, by decide +kernel, rfl, by decide +kernel, by decide +kernel⟩
theorem ok_require_list (T : Txt w K mg) (F : Df K ⟨("require_list", none), "require_list", "require_list", defArgs s_require_list, defBody s_require_list, defScope s_require_list, [], []⟩) (g : mg "require_list" = some (.ref (He.ga K "require_list"))) (h_require_task : Ok P w K mg base CX0 4 "require_task" ["length", "slots"] (sp_require_task K)) (h_require_operations : Ok P w K mg base CX0 4 "require_operations" ["value"] (sp_require_operations K)) :
    Ok P w K mg base CX0 5 "require_list" ["length", "slots", "operations"] (sp_require_list K) := by
  refine mk_ok (st := s_require_list) F g (fun _ _ _ _ _ _ us hl => match us, hl with | [_, _, _], _ => rfl) sc_require_list (fun vs H Q E h => len_require_list K h) (fun cdv A outer s H vs Q E hr h => ⟨t_require_list K, PSs.nox ?_, pure_require_list K h⟩)
  exact (pss_cons (ps_expr (pe_callO h_require_task (hr.mono (by decide)) rfl pass0 (pa_cons (pv 0) (pa_cons (pv 1) pa_nil))))
  (pss_one (ps_expr (pe_callO h_require_operations (hr.mono (by decide)) rfl pass0 (pa_cons (pv 2) pa_nil)))))
abbrev s_wrong_of : Stmt := top 31
theorem sc_wrong_of : FnScope ["length", "slots", "operations", "trace", "number", "operation"] ["length", "slots", "operations"] (defScope s_wrong_of) := ⟨rfl, rfl, rfl, by decide +kernel, rfl, by decide +kernel, by decide +kernel⟩
theorem ok_wrong_of (T : Txt w K mg) (F : Df K ⟨("wrong_of", none), "wrong_of", "wrong_of", defArgs s_wrong_of, defBody s_wrong_of, defScope s_wrong_of, [], []⟩) (g : mg "wrong_of" = some (.ref (He.ga K "wrong_of"))) (h_Trace_init : OkI P w K mg base CX0 1 "Trace" ["self", "length", "slots"] (sp_Trace_init K)) (h_Trace_can_do : OkM P w K mg base CX0 1 "Trace" "can_do" ["self", "operation"] (sp_Trace_can_do K)) (h_Trace_do : OkM P w K mg base CX0 1 "Trace" "do" ["self", "operation"] (sp_Trace_do K)) :
    Ok P w K mg base CX0 3 "wrong_of" ["length", "slots", "operations"] (sp_wrong_of K) := by
  obtain ⟨c_Trace_init, m_Trace_init, _, b_Trace_init, g_Trace_init⟩ := h_Trace_init
  obtain ⟨c_Trace_can_do, m_Trace_can_do, _, b_Trace_can_do, g_Trace_can_do⟩ := h_Trace_can_do
  obtain ⟨c_Trace_do, m_Trace_do, _, b_Trace_do, g_Trace_do⟩ := h_Trace_do
  refine mk_ok (st := s_wrong_of) F g (fun _ _ _ _ _ _ us hl => match us, hl with | [_, _, _], _ => rfl) sc_wrong_of (fun vs H Q E h => len_wrong_of K h) (fun cdv A outer s H vs Q E hr h => ⟨t_wrong_of K, PSs.nox ?_, pure_wrong_of K h⟩)
  exact (pss_cons (ps_set (i := 3) sc_wrong_of.nd rfl (by first | exact Or.inl rfl | exact Or.inr rfl) (pe_make m_Trace_init g_Trace_init (hr.mono (by decide)) rfl c_Trace_init b_Trace_init .nil pass0 (pa_cons (pv 0) (pa_cons (pv 1) pa_nil))))
  (pss_cons (ps_for PassesOwn.never rfl (pi_enum rfl T.enumerate (pa_cons (pv 2) pa_nil)) (pg_tup rfl (pgs_cons (pg_name (i := 4) sc_wrong_of.nd rfl (by first | exact Or.inl rfl | exact Or.inr rfl)) (pgs_cons (pg_name (i := 5) sc_wrong_of.nd rfl (by first | exact Or.inl rfl | exact Or.inr rfl)) pgs_nil)))
  (pss_cons (ps_if (pt_not (pt_val (pe_meth (pv 3) c_Trace_can_do m_Trace_can_do g_Trace_can_do (hr.mono (by decide)) b_Trace_can_do .nil pass0 (pa_cons (pv 5) pa_nil)))) (pss_one (ps_ret (pv 4))) pss_nil)
  (pss_one (ps_expr (pe_meth (pv 3) c_Trace_do m_Trace_do g_Trace_do (hr.mono (by decide)) b_Trace_do .nil pass0 (pa_cons (pv 5) pa_nil))))))
  (pss_one (ps_ret pe_non))))
abbrev s_traces_of : Stmt := top 32
theorem sc_traces_of : FnScope ["length", "slots", "operations", "wrong", "found", "operation"] ["length", "slots", "operations"] (defScope s_traces_of) := ⟨rfl, rfl, rfl, by decide +kernel, rfl, by decide +kernel, by decide +kernel⟩
theorem ok_traces_of (T : Txt w K mg) (F : Df K ⟨("traces_of", none), "traces_of", "traces_of", defArgs s_traces_of, defBody s_traces_of, defScope s_traces_of, [], []⟩) (g : mg "traces_of" = some (.ref (He.ga K "traces_of"))) (h_require_list : Ok P w K mg base CX0 5 "require_list" ["length", "slots", "operations"] (sp_require_list K)) (h_wrong_of : Ok P w K mg base CX0 3 "wrong_of" ["length", "slots", "operations"] (sp_wrong_of K)) (h_Trace_init : OkI P w K mg base CX0 1 "Trace" ["self", "length", "slots"] (sp_Trace_init K)) (h_Trace_copied : OkM P w K mg base CX0 3 "Trace" "copied" ["self"] (sp_Trace_copied K)) (h_Trace_do : OkM P w K mg base CX0 1 "Trace" "do" ["self", "operation"] (sp_Trace_do K)) :
    Ok P w K mg base CX0 6 "traces_of" ["length", "slots", "operations"] (sp_traces_of K) := by
  obtain ⟨c_Trace_init, m_Trace_init, _, b_Trace_init, g_Trace_init⟩ := h_Trace_init
  obtain ⟨c_Trace_copied, m_Trace_copied, _, b_Trace_copied, g_Trace_copied⟩ := h_Trace_copied
  obtain ⟨c_Trace_do, m_Trace_do, _, b_Trace_do, g_Trace_do⟩ := h_Trace_do
  refine mk_ok (st := s_traces_of) F g (fun _ _ _ _ _ _ us hl => match us, hl with | [_, _, _], _ => rfl) sc_traces_of (fun vs H Q E h => len_traces_of K h) (fun cdv A outer s H vs Q E hr h => ⟨t_traces_of K, PSs.nox ?_, pure_traces_of K h⟩)
  exact (pss_cons (ps_expr (pe_callO h_require_list (hr.mono (by decide)) rfl pass0 (pa_cons (pv 0) (pa_cons (pv 1) (pa_cons (pv 2) pa_nil)))))
  (pss_cons (ps_set (i := 3) sc_traces_of.nd rfl (by first | exact Or.inl rfl | exact Or.inr rfl) (pe_callO h_wrong_of (hr.mono (by decide)) rfl pass0 (pa_cons (pv 0) (pa_cons (pv 1) (pa_cons (pv 2) pa_nil)))))
  (pss_cons (ps_if (pt_cmpR op_notN (pv 3) pe_non (nomark _)) (pss_one ps_never) pss_nil)
  (pss_cons (ps_set (i := 4) sc_traces_of.nd rfl (by first | exact Or.inl rfl | exact Or.inr rfl) (pe_lst (pa_cons (pe_make m_Trace_init g_Trace_init (hr.mono (by decide)) rfl c_Trace_init b_Trace_init .nil pass0 (pa_cons (pv 0) (pa_cons (pv 1) pa_nil))) pa_nil)))
  (pss_cons (ps_for PassesOwn.never rfl (pi_list (pv 2)) (pg_name (i := 5) sc_traces_of.nd rfl (by first | exact Or.inl rfl | exact Or.inr rfl))
  (pss_cons (ps_expr (pe_bm PySem.F.plainAttrs_list PySem.F.slot_list_append PySem.F.type_list_append mt_append (pv 4) (pa_cons (pe_meth0 (pe_ix ix_list (pv 4) (pe_un un_neg pe_int) (fun _ _ => rfl)) c_Trace_copied m_Trace_copied g_Trace_copied (hr.mono (by decide)) b_Trace_copied .nil pass0) pa_nil)))
  (pss_one (ps_expr (pe_meth (pe_ix ix_list (pv 4) (pe_un un_neg pe_int) (fun _ _ => rfl)) c_Trace_do m_Trace_do g_Trace_do (hr.mono (by decide)) b_Trace_do .nil pass0 (pa_cons (pv 5) pa_nil))))))
  (pss_one (ps_ret (pv 4))))))))
abbrev s_first_wrong : Stmt := top 33
theorem sc_first_wrong : FnScope ["length", "slots", "operations"] ["length", "slots", "operations"] (defScope s_first_wrong) := ⟨rfl, rfl, rfl, by decide +kernel, rfl, by decide +kernel, by decide +kernel⟩
theorem ok_first_wrong (T : Txt w K mg) (F : Df K ⟨("first_wrong", none), "first_wrong", "first_wrong", defArgs s_first_wrong, defBody s_first_wrong, defScope s_first_wrong, [], []⟩) (g : mg "first_wrong" = some (.ref (He.ga K "first_wrong"))) (h_require_list : Ok P w K mg base CX0 5 "require_list" ["length", "slots", "operations"] (sp_require_list K)) (h_wrong_of : Ok P w K mg base CX0 3 "wrong_of" ["length", "slots", "operations"] (sp_wrong_of K)) :
    Ok P w K mg base CX0 6 "first_wrong" ["length", "slots", "operations"] (sp_first_wrong K) := by
  refine mk_ok (st := s_first_wrong) F g (fun _ _ _ _ _ _ us hl => match us, hl with | [_, _, _], _ => rfl) sc_first_wrong (fun vs H Q E h => len_first_wrong K h) (fun cdv A outer s H vs Q E hr h => ⟨t_first_wrong K, PSs.nox ?_, pure_first_wrong K h⟩)
  exact (pss_cons (ps_expr (pe_callO h_require_list (hr.mono (by decide)) rfl pass0 (pa_cons (pv 0) (pa_cons (pv 1) (pa_cons (pv 2) pa_nil)))))
  (pss_one (ps_ret (pe_callO h_wrong_of (hr.mono (by decide)) rfl pass0 (pa_cons (pv 0) (pa_cons (pv 1) (pa_cons (pv 2) pa_nil)))))))
abbrev s_steps_of : Stmt := top 34
theorem sc_steps_of : FnScope ["length", "slots", "operations"] ["length", "slots", "operations"] (defScope s_steps_of) := ⟨rfl, rfl, rfl, by decide +kernel, rfl, by decide +kernel, by decide +kernel⟩
theorem ok_steps_of (T : Txt w K mg) (F : Df K ⟨("steps_of", none), "steps_of", "steps_of", defArgs s_steps_of, defBody s_steps_of, defScope s_steps_of, [], []⟩) (g : mg "steps_of" = some (.ref (He.ga K "steps_of"))) (h_traces_of : Ok P w K mg base CX0 6 "traces_of" ["length", "slots", "operations"] (sp_traces_of K)) (h_Trace_steps : OkP P w K mg base CX0 1 "Trace" "steps" (sp_Trace_steps K)) :
    Ok P w K mg base CX0 7 "steps_of" ["length", "slots", "operations"] (sp_steps_of K) := by
  obtain ⟨c_Trace_steps, m_Trace_steps, _, b_Trace_steps, g_Trace_steps⟩ := h_Trace_steps
  refine mk_ok (st := s_steps_of) F g (fun _ _ _ _ _ _ us hl => match us, hl with | [_, _, _], _ => rfl) sc_steps_of (fun vs H Q E h => len_steps_of K h) (fun cdv A outer s H vs Q E hr h => ⟨t_steps_of K, PSs.nox ?_, pure_steps_of K h⟩)
  exact (pss_one (ps_ret (pe_prop (pe_ix ix_list (pe_callO h_traces_of (hr.mono (by decide)) rfl pass0 (pa_cons (pv 0) (pa_cons (pv 1) (pa_cons (pv 2) pa_nil)))) (pe_un un_neg pe_int) (fun _ _ => rfl)) c_Trace_steps m_Trace_steps g_Trace_steps (hr.mono (by decide)) b_Trace_steps .nil pass0 (by rfl))))
abbrev s_backs_of : Stmt := top 35
theorem sc_backs_of : FnScope ["length", "slots", "operations"] ["length", "slots", "operations"] (defScope s_backs_of) := ⟨rfl, rfl, rfl, by decide +kernel, rfl, by decide +kernel, by decide +kernel⟩
theorem ok_backs_of (T : Txt w K mg) (F : Df K ⟨("backs_of", none), "backs_of", "backs_of", defArgs s_backs_of, defBody s_backs_of, defScope s_backs_of, [], []⟩) (g : mg "backs_of" = some (.ref (He.ga K "backs_of"))) (h_traces_of : Ok P w K mg base CX0 6 "traces_of" ["length", "slots", "operations"] (sp_traces_of K)) (h_Trace_backs : OkP P w K mg base CX0 1 "Trace" "backs" (sp_Trace_backs K)) :
    Ok P w K mg base CX0 7 "backs_of" ["length", "slots", "operations"] (sp_backs_of K) := by
  obtain ⟨c_Trace_backs, m_Trace_backs, _, b_Trace_backs, g_Trace_backs⟩ := h_Trace_backs
  refine mk_ok (st := s_backs_of) F g (fun _ _ _ _ _ _ us hl => match us, hl with | [_, _, _], _ => rfl) sc_backs_of (fun vs H Q E h => len_backs_of K h) (fun cdv A outer s H vs Q E hr h => ⟨t_backs_of K, PSs.nox ?_, pure_backs_of K h⟩)
  exact (pss_one (ps_ret (pe_prop (pe_ix ix_list (pe_callO h_traces_of (hr.mono (by decide)) rfl pass0 (pa_cons (pv 0) (pa_cons (pv 1) (pa_cons (pv 2) pa_nil)))) (pe_un un_neg pe_int) (fun _ _ => rfl)) c_Trace_backs m_Trace_backs g_Trace_backs (hr.mono (by decide)) b_Trace_backs .nil pass0 (by rfl))))
abbrev s_extra_steps : Stmt := top 36
theorem sc_extra_steps : FnScope ["length", "slots", "operations", "last"] ["length", "slots", "operations"] (defScope s_extra_steps) := ⟨rfl, rfl, rfl, by decide +kernel, rfl, by decide +kernel, by decide +kernel⟩
theorem ok_extra_steps (T : Txt w K mg) (F : Df K ⟨("extra_steps", none), "extra_steps", "extra_steps", defArgs s_extra_steps, defBody s_extra_steps, defScope s_extra_steps, [], []⟩) (g : mg "extra_steps" = some (.ref (He.ga K "extra_steps"))) (h_traces_of : Ok P w K mg base CX0 6 "traces_of" ["length", "slots", "operations"] (sp_traces_of K)) (h_Trace_backs : OkP P w K mg base CX0 1 "Trace" "backs" (sp_Trace_backs K)) (h_Trace_steps : OkP P w K mg base CX0 1 "Trace" "steps" (sp_Trace_steps K)) (h_least_of : Ok P w K mg base CX0 3 "least_of" ["length", "slots"] (sp_least_of K)) :
    Ok P w K mg base CX0 7 "extra_steps" ["length", "slots", "operations"] (sp_extra_steps K) := by
  obtain ⟨c_Trace_backs, m_Trace_backs, _, b_Trace_backs, g_Trace_backs⟩ := h_Trace_backs
  obtain ⟨c_Trace_steps, m_Trace_steps, _, b_Trace_steps, g_Trace_steps⟩ := h_Trace_steps
  refine mk_ok (st := s_extra_steps) F g (fun _ _ _ _ _ _ us hl => match us, hl with | [_, _, _], _ => rfl) sc_extra_steps (fun vs H Q E h => len_extra_steps K h) (fun cdv A outer s H vs Q E hr h => ⟨t_extra_steps K, PSs.nox ?_, pure_extra_steps K h⟩)
  exact (pss_cons (ps_set (i := 3) sc_extra_steps.nd rfl (by first | exact Or.inl rfl | exact Or.inr rfl) (pe_ix ix_list (pe_callO h_traces_of (hr.mono (by decide)) rfl pass0 (pa_cons (pv 0) (pa_cons (pv 1) (pa_cons (pv 2) pa_nil)))) (pe_un un_neg pe_int) (fun _ _ => rfl)))
  (pss_one (ps_ret (pe_ifExp (pt_cmpR op_eq (pe_prop (pv 3) c_Trace_backs m_Trace_backs g_Trace_backs (hr.mono (by decide)) b_Trace_backs .nil pass0 (by rfl)) (pv 0) (nomark _)) (pe_op op_sub (pe_prop (pv 3) c_Trace_steps m_Trace_steps g_Trace_steps (hr.mono (by decide)) b_Trace_steps .nil pass0 (by rfl)) (pe_callO h_least_of (hr.mono (by decide)) rfl pass0 (pa_cons (pv 0) (pa_cons (pv 1) pa_nil)))) pe_non))))
abbrev s_most_kept : Stmt := top 37
theorem sc_most_kept : FnScope ["length", "slots", "operations", "trace"] ["length", "slots", "operations"] (defScope s_most_kept) := ⟨rfl, rfl, rfl, by decide +kernel, rfl, by decide +kernel, by decide +kernel⟩
theorem ok_most_kept (T : Txt w K mg) (F : Df K ⟨("most_kept", none), "most_kept", "most_kept", defArgs s_most_kept, defBody s_most_kept, defScope s_most_kept, [], []⟩) (g : mg "most_kept" = some (.ref (He.ga K "most_kept"))) (h_traces_of : Ok P w K mg base CX0 6 "traces_of" ["length", "slots", "operations"] (sp_traces_of K)) (h_Trace_kept : OkP P w K mg base CX0 1 "Trace" "kept" (sp_Trace_kept K)) :
    Ok P w K mg base CX0 7 "most_kept" ["length", "slots", "operations"] (sp_most_kept K) := by
  obtain ⟨c_Trace_kept, m_Trace_kept, _, b_Trace_kept, g_Trace_kept⟩ := h_Trace_kept
  refine mk_ok (st := s_most_kept) F g (fun _ _ _ _ _ _ us hl => match us, hl with | [_, _, _], _ => rfl) sc_most_kept (fun vs H Q E h => len_most_kept K h) (fun cdv A outer s H vs Q E hr h => ⟨t_most_kept K, PSs.nox ?_, pure_most_kept K h⟩)
  exact (pss_one (ps_ret (pe_callB (cr_max rfl) (by rfl) T.max (by decide +kernel) (pa_cons (pe_lc (own := [("trace", 3)]) (g := (gName 3)) (tt := tYes) rfl sc_most_kept.nd (pi_list (pe_callO h_traces_of (hr.mono (by decide)) rfl pass0 (pa_cons (pv 0) (pa_cons (pv 1) (pa_cons (pv 2) pa_nil))))) (blkOk_by (own := [("trace", 3)]) (N := ["length", "slots", "operations", "trace"]) (sc := defScope s_most_kept) (by decide +kernel)) (fun _ _ _ _ _ => (pg_name (i := 3) sc_most_kept.nd rfl (by first | exact Or.inl rfl | exact Or.inr rfl))) (fun _ _ _ _ _ => pts_nil) (fun _ _ _ _ _ => (pe_callB call_len_seq (by rfl) T.len (by decide +kernel) (pa_cons (pe_prop (pv 3) c_Trace_kept m_Trace_kept g_Trace_kept (hr.mono (by decide)) b_Trace_kept .nil pass0 (by rfl)) pa_nil)))) pa_nil))))
abbrev s_kept_behind : Stmt := top 38
theorem sc_kept_behind : FnScope ["length", "slots", "operations", "last"] ["length", "slots", "operations"] (defScope s_kept_behind) := ⟨rfl, rfl, rfl, by decide +kernel, rfl, by decide +kernel, by decide +kernel⟩
theorem ok_kept_behind (T : Txt w K mg) (F : Df K ⟨("kept_behind", none), "kept_behind", "kept_behind", defArgs s_kept_behind, defBody s_kept_behind, defScope s_kept_behind, [], []⟩) (g : mg "kept_behind" = some (.ref (He.ga K "kept_behind"))) (h_traces_of : Ok P w K mg base CX0 6 "traces_of" ["length", "slots", "operations"] (sp_traces_of K)) (h_Trace_hand : OkP P w K mg base CX0 1 "Trace" "hand" (sp_Trace_hand K)) (h_Trace_kept : OkP P w K mg base CX0 1 "Trace" "kept" (sp_Trace_kept K)) :
    Ok P w K mg base CX0 7 "kept_behind" ["length", "slots", "operations"] (sp_kept_behind K) := by
  obtain ⟨c_Trace_hand, m_Trace_hand, _, b_Trace_hand, g_Trace_hand⟩ := h_Trace_hand
  obtain ⟨c_Trace_kept, m_Trace_kept, _, b_Trace_kept, g_Trace_kept⟩ := h_Trace_kept
  refine mk_ok (st := s_kept_behind) F g (fun _ _ _ _ _ _ us hl => match us, hl with | [_, _, _], _ => rfl) sc_kept_behind (fun vs H Q E h => len_kept_behind K h) (fun cdv A outer s H vs Q E hr h => ⟨t_kept_behind K, PSs.nox ?_, pure_kept_behind K h⟩)
  exact (pss_cons (ps_set (i := 3) sc_kept_behind.nd rfl (by first | exact Or.inl rfl | exact Or.inr rfl) (pe_ix ix_list (pe_callO h_traces_of (hr.mono (by decide)) rfl pass0 (pa_cons (pv 0) (pa_cons (pv 1) (pa_cons (pv 2) pa_nil)))) (pe_un un_neg pe_int) (fun _ _ => rfl)))
  (pss_one (ps_ret (pe_tup (pa_cons (pe_prop (pv 3) c_Trace_hand m_Trace_hand g_Trace_hand (hr.mono (by decide)) b_Trace_hand .nil pass0 (by rfl)) (pa_cons (pe_prop (pv 3) c_Trace_kept m_Trace_kept g_Trace_kept (hr.mono (by decide)) b_Trace_kept .nil pass0 (by rfl)) pa_nil))))))
abbrev s_Session_init : Stmt := inClass (top 41) 0
theorem sc_Session_init : FnScope ["self", "length", "slots"] ["self", "length", "slots"] (defScope s_Session_init) := ⟨rfl, rfl, rfl, by decide +kernel, rfl, by decide +kernel, by decide +kernel⟩
theorem ok_Session_init (T : Txt w K mg) (F : Df K ⟨("Session", some "__init__"), "__init__", "Session.__init__", defArgs s_Session_init, defBody s_Session_init, defScope s_Session_init, [], []⟩) (g : Mk K (He.ga K "Session") (He.ma K (He.ga K "Session") "__init__")) (h_require_length : Ok P w K mg base CX0 3 "require_length" ["value"] (sp_require_length K)) (h_require_slots : Ok P w K mg base CX0 3 "require_slots" ["value"] (sp_require_slots K)) (h_Trace_init : OkI P w K mg base CX0 1 "Trace" ["self", "length", "slots"] (sp_Trace_init K)) :
    OkI P w K mg base CX0 4 "Session" ["self", "length", "slots"] (sp_Session_init K) := by
  obtain ⟨c_Trace_init, m_Trace_init, _, b_Trace_init, g_Trace_init⟩ := h_Trace_init
  refine ⟨T.mg_Session, g, mk_fn (st := s_Session_init) F.at (fun _ _ _ _ _ _ us hl => match us, hl with | [_, _, _], _ => rfl) sc_Session_init (fun vs H Q E h => len_Session_init K h) (fun cdv A outer s H vs Q E hr h => ⟨t_Session_init K, PSs.nox ?_, pure_Session_init K h⟩)⟩
  exact (pss_cons (ps_expr (pe_callO h_require_length (hr.mono (by decide)) rfl pass0 (pa_cons (pv 1) pa_nil)))
  (pss_cons (ps_expr (pe_callO h_require_slots (hr.mono (by decide)) rfl pass0 (pa_cons (pv 2) pa_nil)))
  (pss_cons (ps_fldC (pv 0) pe_non T.cl_Session T.na_Session_own_budget)
  (pss_cons (ps_fldC (pv 0) (pv 1) T.cl_Session T.na_Session_own_length)
  (pss_cons (ps_fldC (pv 0) (pv 2) T.cl_Session T.na_Session_own_slots)
  (pss_cons (ps_fldC (pv 0) (pe_make m_Trace_init g_Trace_init (hr.mono (by decide)) rfl c_Trace_init b_Trace_init .nil pass0 (pa_cons (pv 1) (pa_cons (pv 2) pa_nil))) T.cl_Session T.na_Session_own_trace)
  (pss_one (ps_fldC (pv 0) (pe_lst pa_nil) T.cl_Session T.na_Session_own_calls))))))))
abbrev s_Session_hand : Stmt := inClass (top 41) 3
theorem sc_Session_hand : FnScope ["self"] ["self"] (defScope s_Session_hand) := ⟨rfl, rfl, rfl, by decide +kernel, rfl, by decide +kernel, by decide +kernel⟩
theorem ok_Session_hand (T : Txt w K mg) (F : DfA K (gAd K ("Session", "hand")) ⟨("Session", some "hand"), "hand", "Session.hand", defArgs s_Session_hand, defBody s_Session_hand, defScope s_Session_hand, [], []⟩) (g : PropOf K (He.ga K "Session") "hand" (He.ma K (He.ga K "Session") "hand") (gAd K ("Session", "hand"))) :
    OkP P w K mg base CX0 1 "Session" "hand" (sp_Session_hand K) := by
  refine ⟨T.cl_Session, g, mk_fn (st := s_Session_hand) F (fun _ _ _ _ _ _ us hl => match us, hl with | [_], _ => rfl) sc_Session_hand (fun vs H Q E h => len_Session_hand K h) (fun cdv A outer s H vs Q E hr h => ⟨t_Session_hand K, PSs.nox ?_, pure_Session_hand K h⟩)⟩
  exact (pss_one (ps_ret (pe_fldC (pe_fldC (pv 0) T.cl_Session T.na_Session_own_trace) T.cl_Trace T.na_Trace_own_hand)))
abbrev s_Session_kept : Stmt := inClass (top 41) 4
theorem sc_Session_kept : FnScope ["self"] ["self"] (defScope s_Session_kept) := ⟨rfl, rfl, rfl, by decide +kernel, rfl, by decide +kernel, by decide +kernel⟩
theorem ok_Session_kept (T : Txt w K mg) (F : DfA K (gAd K ("Session", "kept")) ⟨("Session", some "kept"), "kept", "Session.kept", defArgs s_Session_kept, defBody s_Session_kept, defScope s_Session_kept, [], []⟩) (g : PropOf K (He.ga K "Session") "kept" (He.ma K (He.ga K "Session") "kept") (gAd K ("Session", "kept"))) :
    OkP P w K mg base CX0 1 "Session" "kept" (sp_Session_kept K) := by
  refine ⟨T.cl_Session, g, mk_fn (st := s_Session_kept) F (fun _ _ _ _ _ _ us hl => match us, hl with | [_], _ => rfl) sc_Session_kept (fun vs H Q E h => len_Session_kept K h) (fun cdv A outer s H vs Q E hr h => ⟨t_Session_kept K, PSs.nox ?_, pure_Session_kept K h⟩)⟩
  exact (pss_one (ps_ret (pe_callB cr_sortedI (by rfl) T.sorted (by decide +kernel) (pa_cons (pe_fldC (pe_fldC (pv 0) T.cl_Session T.na_Session_own_trace) T.cl_Trace T.na_Trace_own_kept) pa_nil))))
abbrev s_Session_steps : Stmt := inClass (top 41) 5
theorem sc_Session_steps : FnScope ["self"] ["self"] (defScope s_Session_steps) := ⟨rfl, rfl, rfl, by decide +kernel, rfl, by decide +kernel, by decide +kernel⟩
theorem ok_Session_steps (T : Txt w K mg) (F : DfA K (gAd K ("Session", "steps")) ⟨("Session", some "steps"), "steps", "Session.steps", defArgs s_Session_steps, defBody s_Session_steps, defScope s_Session_steps, [], []⟩) (g : PropOf K (He.ga K "Session") "steps" (He.ma K (He.ga K "Session") "steps") (gAd K ("Session", "steps"))) :
    OkP P w K mg base CX0 1 "Session" "steps" (sp_Session_steps K) := by
  refine ⟨T.cl_Session, g, mk_fn (st := s_Session_steps) F (fun _ _ _ _ _ _ us hl => match us, hl with | [_], _ => rfl) sc_Session_steps (fun vs H Q E h => len_Session_steps K h) (fun cdv A outer s H vs Q E hr h => ⟨t_Session_steps K, PSs.nox ?_, pure_Session_steps K h⟩)⟩
  exact (pss_one (ps_ret (pe_fldC (pe_fldC (pv 0) T.cl_Session T.na_Session_own_trace) T.cl_Trace T.na_Trace_own_steps)))
abbrev s_Session_wanted : Stmt := inClass (top 41) 6
theorem sc_Session_wanted : FnScope ["self", "left"] ["self"] (defScope s_Session_wanted) := ⟨rfl, rfl, rfl, by decide +kernel, rfl, by decide +kernel, by decide +kernel⟩
theorem ok_Session_wanted (T : Txt w K mg) (F : DfA K (gAd K ("Session", "wanted")) ⟨("Session", some "wanted"), "wanted", "Session.wanted", defArgs s_Session_wanted, defBody s_Session_wanted, defScope s_Session_wanted, [], []⟩) (g : PropOf K (He.ga K "Session") "wanted" (He.ma K (He.ga K "Session") "wanted") (gAd K ("Session", "wanted"))) :
    OkP P w K mg base CX0 1 "Session" "wanted" (sp_Session_wanted K) := by
  refine ⟨T.cl_Session, g, mk_fn (st := s_Session_wanted) F (fun _ _ _ _ _ _ us hl => match us, hl with | [_], _ => rfl) sc_Session_wanted (fun vs H Q E h => len_Session_wanted K h) (fun cdv A outer s H vs Q E hr h => ⟨t_Session_wanted K, PSs.nox ?_, pure_Session_wanted K h⟩)⟩
  exact (pss_cons (ps_set (i := 1) sc_Session_wanted.nd rfl (by first | exact Or.inl rfl | exact Or.inr rfl) (pe_op op_sub (pe_op op_sub (pe_fldC (pv 0) T.cl_Session T.na_Session_own_length) pe_int) (pe_fldC (pe_fldC (pv 0) T.cl_Session T.na_Session_own_trace) T.cl_Trace T.na_Trace_own_backs)))
  (pss_one (ps_ret (pe_ifExp (pt_cmpR op_ge (pv 1) pe_int (nomark _)) (pv 1) pe_non))))
abbrev s_Session_eq : Stmt := inClass (top 41) 7
theorem sc_Session_eq : FnScope ["self", "other"] ["self", "other"] (defScope s_Session_eq) := ⟨rfl, rfl, rfl, by decide +kernel, rfl, by decide +kernel, by decide +kernel⟩
theorem ok_Session_eq (T : Txt w K mg) (F : Df K ⟨("Session", some "__eq__"), "__eq__", "Session.__eq__", defArgs s_Session_eq, defBody s_Session_eq, defScope s_Session_eq, [], []⟩) (g : Meth K (He.ga K "Session") "__eq__" (He.ma K (He.ga K "Session") "__eq__")) :
    OkM P w K mg base CX0 1 "Session" "__eq__" ["self", "other"] (sp_Session_eq K) := by
  refine ⟨T.cl_Session, g, mk_fn (st := s_Session_eq) F.at (fun _ _ _ _ _ _ us hl => match us, hl with | [_, _], _ => rfl) sc_Session_eq (fun vs H Q E h => len_Session_eq K h) (fun cdv A outer s H vs Q E hr h => ⟨t_Session_eq K, PSs.nox ?_, pure_Session_eq K h⟩)⟩
  exact (pss_cons (ps_if (PW.pt (pw_or (pt_not (pt_val (pe_callB (C8.call_isC T.isi_Session) (by rfl) T.isinstance (by decide +kernel) (pa_cons (pv 1) (pa_cons (pe_glob rfl T.mg_Session rfl) pa_nil))))) (pw_or1 (pt_cmpR op_ne (pe_fldC (pv 0) T.cl_Session T.na_Session_own_budget) (pe_fldC (pv 1) T.cl_Session T.na_Session_own_budget) (nomark _))))) (pss_one (ps_ret pe_bl)) pss_nil)
  (pss_cons (ps_if (PW.pt (pw_or (pt_cmpR op_ne (pe_fldC (pv 0) T.cl_Session T.na_Session_own_length) (pe_fldC (pv 1) T.cl_Session T.na_Session_own_length) (nomark _)) (pw_or1 (pt_cmpR op_ne (pe_fldC (pv 0) T.cl_Session T.na_Session_own_slots) (pe_fldC (pv 1) T.cl_Session T.na_Session_own_slots) (nomark _))))) (pss_one (ps_ret pe_bl)) pss_nil)
  (pss_one (ps_ret (pe_cmpR (op_eqD hr.units) (pe_fldC (pv 0) T.cl_Session T.na_Session_own_calls) (pe_fldC (pv 1) T.cl_Session T.na_Session_own_calls) (nomark _))))))
abbrev s_Session_require_fit : Stmt := inClass (top 41) 9
theorem sc_Session_require_fit : FnScope ["self", "trace", "operation"] ["self", "trace", "operation"] (defScope s_Session_require_fit) := ⟨rfl, rfl, rfl, by decide +kernel, rfl, by decide +kernel, by decide +kernel⟩
theorem ok_Session_require_fit (T : Txt w K mg) (F : Df K ⟨("Session", some "require_fit"), "require_fit", "Session.require_fit", defArgs s_Session_require_fit, defBody s_Session_require_fit, defScope s_Session_require_fit, [], []⟩) (g : Meth K (He.ga K "Session") "require_fit" (He.ma K (He.ga K "Session") "require_fit")) :
    OkM P w K mg base CX0 1 "Session" "require_fit" ["self", "trace", "operation"] (sp_Session_require_fit K) := by
  refine ⟨T.cl_Session, g, mk_fn (st := s_Session_require_fit) F.at (fun _ _ _ _ _ _ us hl => match us, hl with | [_, _, _], _ => rfl) sc_Session_require_fit (fun vs H Q E h => len_Session_require_fit K h) (fun cdv A outer s H vs Q E hr h => ⟨t_Session_require_fit K, PSs.nox ?_, pure_Session_require_fit K h⟩)⟩
  exact (pss_one (ps_if (PW.pt (pw_and (pt_cmpR op_notN (pe_fldC (pv 0) T.cl_Session T.na_Session_own_budget) pe_non (nomark _)) (pw_and (pt_cmpR op_eq (pe_ix ix_tup (pv 2) pe_int (fun _ _ => rfl)) pe_str (nomark _)) (pw_and1 (pt_cmpR op_gt (pe_op op_add (pe_fldC (pv 1) T.cl_Trace T.na_Trace_own_steps) (pe_ix ix_tup (pv 2) pe_int (fun _ _ => rfl))) (pe_fldC (pv 0) T.cl_Session T.na_Session_own_budget) (nomark _)))))) (pss_one ps_never) pss_nil))
abbrev s_Session_perform : Stmt := inClass (top 41) 10
theorem sc_Session_perform : FnScope ["self", "operation"] ["self", "operation"] (defScope s_Session_perform) := ⟨rfl, rfl, rfl, by decide +kernel, rfl, by decide +kernel, by decide +kernel⟩
theorem ok_Session_perform (T : Txt w K mg) (F : Df K ⟨("Session", some "perform"), "perform", "Session.perform", defArgs s_Session_perform, defBody s_Session_perform, defScope s_Session_perform, [], []⟩) (g : Meth K (He.ga K "Session") "perform" (He.ma K (He.ga K "Session") "perform")) (h_Trace_can_do : OkM P w K mg base CX0 1 "Trace" "can_do" ["self", "operation"] (sp_Trace_can_do K)) (h_CannotDo_init : OkX P w K mg base CX0 1 "CannotDo" ["self", "operation"] (sp_CannotDo_init K)) (h_Session_require_fit : OkM P w K mg base CX0 1 "Session" "require_fit" ["self", "trace", "operation"] (sp_Session_require_fit K)) (h_Trace_do : OkM P w K mg base CX0 1 "Trace" "do" ["self", "operation"] (sp_Trace_do K)) :
    OkM P w K mg base (L2.CX P w) 3 "Session" "perform" ["self", "operation"] (sp_Session_perform K) := by
  obtain ⟨c_Trace_can_do, m_Trace_can_do, _, b_Trace_can_do, g_Trace_can_do⟩ := h_Trace_can_do
  obtain ⟨c_CannotDo_init, m_CannotDo_init, _, b_CannotDo_init, g_CannotDo_init⟩ := h_CannotDo_init
  obtain ⟨c_Session_require_fit, m_Session_require_fit, _, b_Session_require_fit, g_Session_require_fit⟩ := h_Session_require_fit
  obtain ⟨c_Trace_do, m_Trace_do, _, b_Trace_do, g_Trace_do⟩ := h_Trace_do
  refine ⟨T.cl_Session, g, mk_fn (st := s_Session_perform) F.at (fun _ _ _ _ _ _ us hl => match us, hl with | [_, _], _ => rfl) sc_Session_perform (fun vs H Q E h => len_Session_perform K h) (fun cdv A outer s H vs Q E hr h => ⟨t_Session_perform K E, ?_, pure_Session_perform K h⟩)⟩
  exact (pss_cons (ps_if (pt_not (pt_val (pe_meth (pe_fldC (pv 0) T.cl_Session T.na_Session_own_trace) c_Trace_can_do m_Trace_can_do g_Trace_can_do (hr.mono (by decide)) b_Trace_can_do .nil pass0 (pa_cons (pv 1) pa_nil)))) (pss_one (ps_raise rfl (takes_of rfl rfl rfl rfl) (pmk_oex T.oex m_CannotDo_init.at_ T.oexT g_CannotDo_init (hr.mono (by decide)) b_CannotDo_init .nil pass0 rfl c_CannotDo_init (pa_cons pe_int pa_nil)))) pss_nil)
  (pss_cons (ps_expr (pe_meth (pv 0) c_Session_require_fit m_Session_require_fit g_Session_require_fit (hr.mono (by decide)) b_Session_require_fit .nil pass0 (pa_cons (pe_fldC (pv 0) T.cl_Session T.na_Session_own_trace) (pa_cons (pv 1) pa_nil))))
  (pss_cons (ps_expr (pe_meth (pe_fldC (pv 0) T.cl_Session T.na_Session_own_trace) c_Trace_do m_Trace_do g_Trace_do (hr.mono (by decide)) b_Trace_do .nil pass0 (pa_cons (pv 1) pa_nil)))
  (pss_one (ps_expr (pe_bm PySem.F.plainAttrs_list PySem.F.slot_list_append PySem.F.type_list_append mt_append (pe_fldC (pv 0) T.cl_Session T.na_Session_own_calls) (pa_cons (pv 1) pa_nil)))))))
abbrev s_Session_go : Stmt := inClass (top 41) 11
theorem sc_Session_go : FnScope ["self", "number"] ["self", "number"] (defScope s_Session_go) := ⟨rfl, rfl, rfl, by decide +kernel, rfl, by decide +kernel, by decide +kernel⟩
theorem ok_Session_go (T : Txt w K mg) (F : Df K ⟨("Session", some "go"), "go", "Session.go", defArgs s_Session_go, defBody s_Session_go, defScope s_Session_go, [], []⟩) (g : Meth K (He.ga K "Session") "go" (He.ma K (He.ga K "Session") "go")) (h_is_whole : Ok P w K mg base CX0 2 "is_whole" ["value", "low", "high"] (sp_is_whole K)) (h_Session_perform : OkM P w K mg base (L2.CX P w) 3 "Session" "perform" ["self", "operation"] (sp_Session_perform K)) :
    OkM P w K mg base (L2.CX P w) 4 "Session" "go" ["self", "number"] (sp_Session_go K) := by
  obtain ⟨c_Session_perform, m_Session_perform, _, b_Session_perform, g_Session_perform⟩ := h_Session_perform
  refine ⟨T.cl_Session, g, mk_fn (st := s_Session_go) F.at (fun _ _ _ _ _ _ us hl => match us, hl with | [_, _], _ => rfl) sc_Session_go (fun vs H Q E h => len_Session_go K h) (fun cdv A outer s H vs Q E hr h => ⟨t_Session_go K E, ?_, pure_Session_go K h⟩)⟩
  exact (pss_cons (ps_if (pt_not (pt_val (pe_callO h_is_whole (hr.mono (by decide)) rfl pass0 (pa_cons (pv 1) (pa_cons pe_int (pa_cons (pe_globI T.MOST_NUMBER) pa_nil)))))) (pss_one ps_never) pss_nil)
  (pss_one (ps_expr (pe_meth (pv 0) c_Session_perform m_Session_perform g_Session_perform (hr.mono (by decide)) b_Session_perform .nil (passes_call (W := fun cls d _ H => E cls d H) (takes_of rfl rfl rfl rfl) (fun _ _ _ _ h => h)) (pa_cons (pe_tup (pa_cons pe_str (pa_cons (pv 1) pa_nil))) pa_nil)))))
abbrev s_Session_keep : Stmt := inClass (top 41) 12
theorem sc_Session_keep : FnScope ["self"] ["self"] (defScope s_Session_keep) := ⟨rfl, rfl, rfl, by decide +kernel, rfl, by decide +kernel, by decide +kernel⟩
theorem ok_Session_keep (T : Txt w K mg) (F : Df K ⟨("Session", some "keep"), "keep", "Session.keep", defArgs s_Session_keep, defBody s_Session_keep, defScope s_Session_keep, [], []⟩) (g : Meth K (He.ga K "Session") "keep" (He.ma K (He.ga K "Session") "keep")) (h_Session_perform : OkM P w K mg base (L2.CX P w) 3 "Session" "perform" ["self", "operation"] (sp_Session_perform K)) :
    OkM P w K mg base (L2.CX P w) 4 "Session" "keep" ["self"] (sp_Session_keep K) := by
  obtain ⟨c_Session_perform, m_Session_perform, _, b_Session_perform, g_Session_perform⟩ := h_Session_perform
  refine ⟨T.cl_Session, g, mk_fn (st := s_Session_keep) F.at (fun _ _ _ _ _ _ us hl => match us, hl with | [_], _ => rfl) sc_Session_keep (fun vs H Q E h => len_Session_keep K h) (fun cdv A outer s H vs Q E hr h => ⟨t_Session_keep K E, ?_, pure_Session_keep K h⟩)⟩
  exact (pss_one (ps_expr (pe_meth (pv 0) c_Session_perform m_Session_perform g_Session_perform (hr.mono (by decide)) b_Session_perform .nil (passes_call (W := fun cls d _ H => E cls d H) (takes_of rfl rfl rfl rfl) (fun _ _ _ _ h => h)) (pa_cons (pe_tup (pa_cons pe_str pa_nil)) pa_nil))))
abbrev s_Session_take : Stmt := inClass (top 41) 13
theorem sc_Session_take : FnScope ["self", "state"] ["self", "state"] (defScope s_Session_take) := ⟨rfl, rfl, rfl, by decide +kernel, rfl, by decide +kernel, by decide +kernel⟩
theorem ok_Session_take (T : Txt w K mg) (F : Df K ⟨("Session", some "take"), "take", "Session.take", defArgs s_Session_take, defBody s_Session_take, defScope s_Session_take, [], []⟩) (g : Meth K (He.ga K "Session") "take" (He.ma K (He.ga K "Session") "take")) (h_is_whole : Ok P w K mg base CX0 2 "is_whole" ["value", "low", "high"] (sp_is_whole K)) (h_Session_perform : OkM P w K mg base (L2.CX P w) 3 "Session" "perform" ["self", "operation"] (sp_Session_perform K)) :
    OkM P w K mg base (L2.CX P w) 4 "Session" "take" ["self", "state"] (sp_Session_take K) := by
  obtain ⟨c_Session_perform, m_Session_perform, _, b_Session_perform, g_Session_perform⟩ := h_Session_perform
  refine ⟨T.cl_Session, g, mk_fn (st := s_Session_take) F.at (fun _ _ _ _ _ _ us hl => match us, hl with | [_, _], _ => rfl) sc_Session_take (fun vs H Q E h => len_Session_take K h) (fun cdv A outer s H vs Q E hr h => ⟨t_Session_take K E, ?_, pure_Session_take K h⟩)⟩
  exact (pss_cons (ps_if (pt_not (pt_val (pe_callO h_is_whole (hr.mono (by decide)) rfl pass0 (pa_cons (pv 1) (pa_cons pe_int (pa_cons (pe_globI T.MOST_NUMBER) pa_nil)))))) (pss_one ps_never) pss_nil)
  (pss_one (ps_expr (pe_meth (pv 0) c_Session_perform m_Session_perform g_Session_perform (hr.mono (by decide)) b_Session_perform .nil (passes_call (W := fun cls d _ H => E cls d H) (takes_of rfl rfl rfl rfl) (fun _ _ _ _ h => h)) (pa_cons (pe_tup (pa_cons pe_str (pa_cons (pv 1) pa_nil))) pa_nil)))))
abbrev s_Session_free : Stmt := inClass (top 41) 14
theorem sc_Session_free : FnScope ["self", "state"] ["self", "state"] (defScope s_Session_free) := ⟨rfl, rfl, rfl, by decide +kernel, rfl, by decide +kernel, by decide +kernel⟩
theorem ok_Session_free (T : Txt w K mg) (F : Df K ⟨("Session", some "free"), "free", "Session.free", defArgs s_Session_free, defBody s_Session_free, defScope s_Session_free, [], []⟩) (g : Meth K (He.ga K "Session") "free" (He.ma K (He.ga K "Session") "free")) (h_is_whole : Ok P w K mg base CX0 2 "is_whole" ["value", "low", "high"] (sp_is_whole K)) (h_Session_perform : OkM P w K mg base (L2.CX P w) 3 "Session" "perform" ["self", "operation"] (sp_Session_perform K)) :
    OkM P w K mg base (L2.CX P w) 4 "Session" "free" ["self", "state"] (sp_Session_free K) := by
  obtain ⟨c_Session_perform, m_Session_perform, _, b_Session_perform, g_Session_perform⟩ := h_Session_perform
  refine ⟨T.cl_Session, g, mk_fn (st := s_Session_free) F.at (fun _ _ _ _ _ _ us hl => match us, hl with | [_, _], _ => rfl) sc_Session_free (fun vs H Q E h => len_Session_free K h) (fun cdv A outer s H vs Q E hr h => ⟨t_Session_free K E, ?_, pure_Session_free K h⟩)⟩
  exact (pss_cons (ps_if (pt_not (pt_val (pe_callO h_is_whole (hr.mono (by decide)) rfl pass0 (pa_cons (pv 1) (pa_cons pe_int (pa_cons (pe_globI T.MOST_NUMBER) pa_nil)))))) (pss_one ps_never) pss_nil)
  (pss_one (ps_expr (pe_meth (pv 0) c_Session_perform m_Session_perform g_Session_perform (hr.mono (by decide)) b_Session_perform .nil (passes_call (W := fun cls d _ H => E cls d H) (takes_of rfl rfl rfl rfl) (fun _ _ _ _ h => h)) (pa_cons (pe_tup (pa_cons pe_str (pa_cons (pv 1) pa_nil))) pa_nil)))))
abbrev s_Session_back : Stmt := inClass (top 41) 15
theorem sc_Session_back : FnScope ["self"] ["self"] (defScope s_Session_back) := ⟨rfl, rfl, rfl, by decide +kernel, rfl, by decide +kernel, by decide +kernel⟩
theorem ok_Session_back (T : Txt w K mg) (F : Df K ⟨("Session", some "back"), "back", "Session.back", defArgs s_Session_back, defBody s_Session_back, defScope s_Session_back, [], []⟩) (g : Meth K (He.ga K "Session") "back" (He.ma K (He.ga K "Session") "back")) (h_Session_perform : OkM P w K mg base (L2.CX P w) 3 "Session" "perform" ["self", "operation"] (sp_Session_perform K)) :
    OkM P w K mg base (L2.CX P w) 4 "Session" "back" ["self"] (sp_Session_back K) := by
  obtain ⟨c_Session_perform, m_Session_perform, _, b_Session_perform, g_Session_perform⟩ := h_Session_perform
  refine ⟨T.cl_Session, g, mk_fn (st := s_Session_back) F.at (fun _ _ _ _ _ _ us hl => match us, hl with | [_], _ => rfl) sc_Session_back (fun vs H Q E h => len_Session_back K h) (fun cdv A outer s H vs Q E hr h => ⟨t_Session_back K E, ?_, pure_Session_back K h⟩)⟩
  exact (pss_one (ps_expr (pe_meth (pv 0) c_Session_perform m_Session_perform g_Session_perform (hr.mono (by decide)) b_Session_perform .nil (passes_call (W := fun cls d _ H => E cls d H) (takes_of rfl rfl rfl rfl) (fun _ _ _ _ h => h)) (pa_cons (pe_tup (pa_cons pe_str pa_nil)) pa_nil))))
abbrev s_Session_log : Stmt := inClass (top 41) 17
theorem sc_Session_log : FnScope ["self"] ["self"] (defScope s_Session_log) := ⟨rfl, rfl, rfl, by decide +kernel, rfl, by decide +kernel, by decide +kernel⟩
theorem ok_Session_log (T : Txt w K mg) (F : Df K ⟨("Session", some "log"), "log", "Session.log", defArgs s_Session_log, defBody s_Session_log, defScope s_Session_log, [], []⟩) (g : Meth K (He.ga K "Session") "log" (He.ma K (He.ga K "Session") "log")) :
    OkM P w K mg base CX0 1 "Session" "log" ["self"] (sp_Session_log K) := by
  refine ⟨T.cl_Session, g, mk_fn (st := s_Session_log) F.at (fun _ _ _ _ _ _ us hl => match us, hl with | [_], _ => rfl) sc_Session_log (fun vs H Q E h => len_Session_log K h) (fun cdv A outer s H vs Q E hr h => ⟨t_Session_log K, PSs.nox ?_, pure_Session_log K h⟩)⟩
  exact (pss_one (ps_ret (pe_callTy call_list_of (by rfl) T.list (by decide +kernel) (pa_cons (pe_fldC (pv 0) T.cl_Session T.na_Session_own_calls) pa_nil))))
abbrev s_l_bag : Stmt := top 43
theorem sc_l_bag : FnScope ["_law_cell"] ["_law_cell"] (defScope s_l_bag) := ⟨rfl, rfl, rfl, by decide +kernel, rfl, by decide +kernel, by decide +kernel⟩
theorem ok_l_bag (T : Txt w K mg) (F : Df K ⟨("_law_bag", none), "_law_bag", "_law_bag", defArgs s_l_bag, defBody s_l_bag, defScope s_l_bag, [], []⟩) (g : mg "_law_bag" = some (.ref (He.ga K "_law_bag"))) :
    Ok P w K mg base CX0 1 "_law_bag" ["_law_cell"] (sp_l_bag K) := by
  refine mk_ok (st := s_l_bag) F g (fun _ _ _ _ _ _ us hl => match us, hl with | [_], _ => rfl) sc_l_bag (fun vs H Q E h => len_l_bag K h) (fun cdv A outer s H vs Q E hr h => ⟨t_l_bag K, PSs.nox ?_, pure_l_bag K h⟩)
  exact (pss_one (ps_ret (pe_lst (pa_cons (pe_callB (call_max2 rfl) (by rfl) T.max (by decide +kernel) (pa_cons pe_int (pa_cons (pe_op op_sub (pv 0) (pe_op op_powA pe_int pe_int)) pa_nil))) (pa_cons (pv 0) (pa_cons pe_int pa_nil))))))
abbrev s_l_pick : Stmt := top 44
theorem sc_l_pick : FnScope ["_law_bag_here", "_law_many", "_law_told_here", "_law_seed", "_law_turn", "_law_first", "_law_second", "_law_drawn"] ["_law_bag_here", "_law_many"] (defScope s_l_pick) := ⟨rfl, rfl, rfl, by decide +kernel, rfl, by decide +kernel, by decide +kernel⟩
theorem ok_l_pick (T : Txt w K mg) (F : Df K ⟨("_law_pick", none), "_law_pick", "_law_pick", defArgs s_l_pick, defBody s_l_pick, defScope s_l_pick, [], []⟩) (g : mg "_law_pick" = some (.ref (He.ga K "_law_pick"))) :
    Ok P w K mg base CX0 1 "_law_pick" ["_law_bag_here", "_law_many"] (sp_l_pick K) := by
  refine mk_ok (st := s_l_pick) F g (fun _ _ _ _ _ _ us hl => match us, hl with | [_, _], _ => rfl) sc_l_pick (fun vs H Q E h => len_l_pick K h) (fun cdv A outer s H vs Q E hr h => ⟨t_l_pick K, PSs.nox ?_, pure_l_pick K h⟩)
  exact (pss_cons (ps_asg (pe_op op_add (pe_ix ix_list (pv 0) pe_int (fun _ _ => rfl)) pe_int) (pg_sub (pv 0) pe_int set_list))
  (pss_cons (ps_if (pt_cmpR op_gt (pe_ix ix_list (pv 0) pe_int (fun _ _ => rfl)) pe_int (nomark _)) (pss_cons (ps_set (i := 2) sc_l_pick.nd rfl (by first | exact Or.inl rfl | exact Or.inr rfl) (pe_op op_modP (pe_callTy call_int1 (by rfl) T.int (by decide +kernel) (pa_cons (pe_ix ix_list (pv 0) pe_int (fun _ _ => rfl)) pa_nil)) (pv 1)))
  (pss_cons (ps_asg (pe_op op_divP (pe_callTy call_int1 (by rfl) T.int (by decide +kernel) (pa_cons (pe_ix ix_list (pv 0) pe_int (fun _ _ => rfl)) pa_nil)) (pv 1)) (pg_sub (pv 0) pe_int set_list))
  (pss_one (ps_ret (pv 2))))) pss_nil)
  (pss_cons (ps_par (i := 3) (j := 4) rfl sc_l_pick.nd rfl rfl (by decide) rfl rfl (pa_cons (pe_callTy call_int1 (by rfl) T.int (by decide +kernel) (pa_cons (pe_ix ix_list (pv 0) pe_int (fun _ _ => rfl)) pa_nil)) (pa_cons (pe_callTy call_int1 (by rfl) T.int (by decide +kernel) (pa_cons (pe_ix ix_list (pv 0) pe_int (fun _ _ => rfl)) pa_nil)) pa_nil)) (by rfl))
  (pss_cons (ps_set (i := 5) sc_l_pick.nd rfl (by first | exact Or.inl rfl | exact Or.inr rfl) (pe_op op_modP (pe_callTy call_int1 (by rfl) T.int (by decide +kernel) (pa_cons (pe_op op_add (pe_op op_add (pe_op op_mulA (pe_op op_modP (pv 3) pe_int) pe_int) (pe_op op_mulA (pv 4) pe_int)) pe_int) pa_nil)) pe_int))
  (pss_cons (ps_set (i := 6) sc_l_pick.nd rfl (by first | exact Or.inl rfl | exact Or.inr rfl) (pe_op op_modP (pe_callTy call_int1 (by rfl) T.int (by decide +kernel) (pa_cons (pe_op op_add (pe_op op_mulA (pv 5) (pv 5)) (pe_op op_mulA (pv 4) pe_int)) pa_nil)) pe_int))
  (pss_cons (ps_set (i := 7) sc_l_pick.nd rfl (by first | exact Or.inl rfl | exact Or.inr rfl) (pe_op op_divP (pe_callTy call_int1 (by rfl) T.int (by decide +kernel) (pa_cons (pe_op op_add (pe_op op_mulA (pv 5) pe_int) (pv 6)) pa_nil)) pe_int))
  (pss_cons (ps_if (pt_cmpR op_gt (pv 1) (pe_op op_powA pe_int pe_int) (nomark _)) (pss_one (ps_set (i := 7) sc_l_pick.nd rfl (by first | exact Or.inl rfl | exact Or.inr rfl) (pe_op op_add (pe_op op_powA (pv 7) pe_int) (pv 6)))) pss_nil)
  (pss_one (ps_ret (pe_op op_modP (pe_callTy call_int1 (by rfl) T.int (by decide +kernel) (pa_cons (pv 7) pa_nil)) (pv 1)))))))))))
abbrev s_l_after : Stmt := top 46
theorem sc_l_after : FnScope ["_law_state", "_law_step", "_law_hand", "_law_kept", "_law_steps_here", "_law_wanted_here", "_law_one"] ["_law_state", "_law_step"] (defScope s_l_after) := ⟨rfl, rfl, rfl, by decide +kernel, rfl, by decide +kernel, by decide +kernel⟩
theorem ok_l_after (T : Txt w K mg) (F : Df K ⟨("_law_after", none), "_law_after", "_law_after", defArgs s_l_after, defBody s_l_after, defScope s_l_after, [], []⟩) (g : mg "_law_after" = some (.ref (He.ga K "_law_after"))) :
    Ok P w K mg base CX0 1 "_law_after" ["_law_state", "_law_step"] (sp_l_after K) := by
  refine mk_ok (st := s_l_after) F g (fun _ _ _ _ _ _ us hl => match us, hl with | [_, _], _ => rfl) sc_l_after (fun vs H Q E h => len_l_after K h) (fun cdv A outer s H vs Q E hr h => ⟨t_l_after K, PSs.nox ?_, pure_l_after K h⟩)
  exact (pss_cons (ps_asg (pv 0) (pg_tup rfl (pgs_cons (pg_name (i := 2) sc_l_after.nd rfl (by first | exact Or.inl rfl | exact Or.inr rfl)) (pgs_cons (pg_name (i := 3) sc_l_after.nd rfl (by first | exact Or.inl rfl | exact Or.inr rfl)) (pgs_cons (pg_name (i := 4) sc_l_after.nd rfl (by first | exact Or.inl rfl | exact Or.inr rfl)) (pgs_cons (pg_name (i := 5) sc_l_after.nd rfl (by first | exact Or.inl rfl | exact Or.inr rfl)) pgs_nil))))))
  (pss_cons (ps_if (pt_cmpR op_eq (pe_ix ix_tup (pv 1) pe_int (fun _ _ => rfl)) pe_str (nomark _)) (pss_one (ps_ret (pe_tup (pa_cons (pe_op op_add (pv 2) (pe_ix ix_tup (pv 1) pe_int (fun _ _ => rfl))) (pa_cons (pv 3) (pa_cons (pe_op op_add (pv 4) (pe_ix ix_tup (pv 1) pe_int (fun _ _ => rfl))) (pa_cons (pv 5) pa_nil))))))) pss_nil)
  (pss_cons (ps_if (pt_cmpR op_eq (pe_ix ix_tup (pv 1) pe_int (fun _ _ => rfl)) pe_str (nomark _)) (pss_one (ps_ret (pe_tup (pa_cons (pv 2) (pa_cons (pe_op op_cat (pv 3) (pe_lst (pa_cons (pv 2) pa_nil))) (pa_cons (pv 4) (pa_cons (pv 5) pa_nil))))))) pss_nil)
  (pss_cons (ps_if (pt_cmpR op_eq (pe_ix ix_tup (pv 1) pe_int (fun _ _ => rfl)) pe_str (nomark _)) (pss_one (ps_ret (pe_tup (pa_cons (pe_ix ix_tup (pv 1) pe_int (fun _ _ => rfl)) (pa_cons (pv 3) (pa_cons (pv 4) (pa_cons (pv 5) pa_nil))))))) pss_nil)
  (pss_cons (ps_if (pt_cmpR op_eq (pe_ix ix_tup (pv 1) pe_int (fun _ _ => rfl)) pe_str (nomark _)) (pss_one (ps_ret (pe_tup (pa_cons (pv 2) (pa_cons (pe_lc (own := [("_law_one", 6)]) (g := (gName 6)) (tt := (tTest (tOp rNe (tVar 6) (tOp (rIxT K) (tVar 1) (tC (.int 1)))))) rfl sc_l_after.nd (pi_list (pv 3)) (blkOk_by (own := [("_law_one", 6)]) (N := ["_law_state", "_law_step", "_law_hand", "_law_kept", "_law_steps_here", "_law_wanted_here", "_law_one"]) (sc := defScope s_l_after) (by decide +kernel)) (fun _ _ _ _ _ => (pg_name (i := 6) sc_l_after.nd rfl (by first | exact Or.inl rfl | exact Or.inr rfl))) (fun _ _ _ _ _ => pts_one (pt_cmpR op_ne (pv 6) (pe_ix ix_tup (pv 1) pe_int (fun _ _ => rfl)) (nomark _))) (fun _ _ _ _ _ => (pv 6))) (pa_cons (pv 4) (pa_cons (pv 5) pa_nil))))))) pss_nil)
  (pss_one (ps_ret (pe_tup (pa_cons (pv 2) (pa_cons (pv 3) (pa_cons (pv 4) (pa_cons (pe_op op_sub (pv 5) pe_int) pa_nil))))))))))))
abbrev s_l_operation : Stmt := top 47
theorem sc_l_operation : FnScope ["_law_bag_here", "_law_length", "_law_slots", "_law_state", "_law_hand", "_law_kept", "_law_steps_here", "_law_wanted_here", "_law_far", "_law_way"] ["_law_bag_here", "_law_length", "_law_slots", "_law_state"] (defScope s_l_operation) := ⟨rfl, rfl, rfl, by decide +kernel, rfl, by decide +kernel, by decide +kernel⟩
theorem ok_l_operation (T : Txt w K mg) (F : Df K ⟨("_law_operation", none), "_law_operation", "_law_operation", defArgs s_l_operation, defBody s_l_operation, defScope s_l_operation, [], []⟩) (g : mg "_law_operation" = some (.ref (He.ga K "_law_operation"))) (h_l_pick : Ok P w K mg base CX0 1 "_law_pick" ["_law_bag_here", "_law_many"] (sp_l_pick K)) :
    Ok P w K mg base CX0 2 "_law_operation" ["_law_bag_here", "_law_length", "_law_slots", "_law_state"] (sp_l_operation K) := by
  refine mk_ok (st := s_l_operation) F g (fun _ _ _ _ _ _ us hl => match us, hl with | [_, _, _, _], _ => rfl) sc_l_operation (fun vs H Q E h => len_l_operation K h) (fun cdv A outer s H vs Q E hr h => ⟨t_l_operation K, PSs.nox ?_, pure_l_operation K h⟩)
  exact (pss_cons (ps_asg (pv 3) (pg_tup rfl (pgs_cons (pg_name (i := 4) sc_l_operation.nd rfl (by first | exact Or.inl rfl | exact Or.inr rfl)) (pgs_cons (pg_name (i := 5) sc_l_operation.nd rfl (by first | exact Or.inl rfl | exact Or.inr rfl)) (pgs_cons (pg_name (i := 6) sc_l_operation.nd rfl (by first | exact Or.inl rfl | exact Or.inr rfl)) (pgs_cons (pg_name (i := 7) sc_l_operation.nd rfl (by first | exact Or.inl rfl | exact Or.inr rfl)) pgs_nil))))))
  (pss_cons (ps_set (i := 8) sc_l_operation.nd rfl (by first | exact Or.inl rfl | exact Or.inr rfl) (pe_op op_sub (pv 7) (pv 4)))
  (pss_cons (ps_if (PW.pt (pw_and (pt_cmpR op_eq (pv 8) pe_int (nomark _)) (pw_and1 (pt_cmpR op_gt (pe_callO h_l_pick (hr.mono (by decide)) rfl pass0 (pa_cons (pv 0) (pa_cons pe_int pa_nil))) pe_int (nomark _))))) (pss_one (ps_ret (pe_tup (pa_cons pe_str pa_nil)))) pss_nil)
  (pss_cons (ps_set (i := 9) sc_l_operation.nd rfl (by first | exact Or.inl rfl | exact Or.inr rfl) (pe_callO h_l_pick (hr.mono (by decide)) rfl pass0 (pa_cons (pv 0) (pa_cons pe_int pa_nil))))
  (pss_cons (ps_if (PW.pt (pw_and (pt_cmpR op_gt (pv 8) pe_int (nomark _)) (pw_and1 (pt_cmpR op_lt (pv 9) pe_int (nomark _))))) (pss_one (ps_ret (pe_tup (pa_cons pe_str (pa_cons (pe_ix ix_list (pe_lst (pa_cons (pv 8) (pa_cons (pe_op op_add pe_int (pe_callO h_l_pick (hr.mono (by decide)) rfl pass0 (pa_cons (pv 0) (pa_cons (pv 8) pa_nil)))) pa_nil))) (pe_callO h_l_pick (hr.mono (by decide)) rfl pass0 (pa_cons (pv 0) (pa_cons pe_int pa_nil))) (fun _ _ => rfl)) pa_nil))))) pss_nil)
  (pss_cons (ps_if (pt_cmpR op_eq (pv 9) pe_int (nomark _)) (pss_one (ps_ret (pe_tup (pa_cons pe_str pa_nil)))) pss_nil)
  (pss_cons (ps_if (PW.pt (pw_and (pt_cmpR (op_neD hr.units) (pv 5) (pe_lst pa_nil) (nomark _)) (pw_and (pt_cmpR op_eq (pv 9) pe_int (nomark _)) (pw_and1 (pt_cmpR op_gt (pe_callB call_len_seq (by rfl) T.len (by decide +kernel) (pa_cons (pv 5) pa_nil)) pe_int (nomark _)))))) (pss_one (ps_ret (pe_tup (pa_cons pe_str (pa_cons (pe_ix ix_list (pv 5) (pe_callO h_l_pick (hr.mono (by decide)) rfl pass0 (pa_cons (pv 0) (pa_cons (pe_callB call_len_seq (by rfl) T.len (by decide +kernel) (pa_cons (pv 5) pa_nil)) pa_nil))) (fun _ _ => rfl)) pa_nil))))) pss_nil)
  (pss_cons (ps_if (pt_cmpR (op_neD hr.units) (pv 5) (pe_lst pa_nil) (nomark _)) (pss_one (ps_ret (pe_tup (pa_cons pe_str (pa_cons (pe_ix ix_list (pv 5) (pe_callO h_l_pick (hr.mono (by decide)) rfl pass0 (pa_cons (pv 0) (pa_cons (pe_callB call_len_seq (by rfl) T.len (by decide +kernel) (pa_cons (pv 5) pa_nil)) pa_nil))) (fun _ _ => rfl)) pa_nil))))) pss_nil)
  (pss_one (ps_ret (pe_ix ix_list (pe_lst (pa_cons (pe_tup (pa_cons pe_str pa_nil)) (pa_cons (pe_tup (pa_cons pe_str (pa_cons (pe_callO h_l_pick (hr.mono (by decide)) rfl pass0 (pa_cons (pv 0) (pa_cons (pv 1) pa_nil))) pa_nil))) (pa_cons (pe_tup (pa_cons pe_str (pa_cons (pe_op op_add pe_int (pe_callO h_l_pick (hr.mono (by decide)) rfl pass0 (pa_cons (pv 0) (pa_cons (pv 1) pa_nil)))) pa_nil))) pa_nil)))) (pe_callO h_l_pick (hr.mono (by decide)) rfl pass0 (pa_cons (pv 0) (pa_cons pe_int pa_nil))) (fun _ _ => rfl))))))))))))
abbrev s_l_called : Stmt := top 50
theorem sc_l_called : FnScope ["_law_session", "_law_step"] ["_law_session", "_law_step"] (defScope s_l_called) := ⟨rfl, rfl, rfl, by decide +kernel, rfl, by decide +kernel, by decide +kernel⟩
theorem ok_l_called (T : Txt w K mg) (F : Df K ⟨("_law_called", none), "_law_called", "_law_called", defArgs s_l_called, defBody s_l_called, defScope s_l_called, [], []⟩) (g : mg "_law_called" = some (.ref (He.ga K "_law_called"))) (h_Session_go : OkM P w K mg base (L2.CX P w) 4 "Session" "go" ["self", "number"] (sp_Session_go K)) (h_Session_keep : OkM P w K mg base (L2.CX P w) 4 "Session" "keep" ["self"] (sp_Session_keep K)) (h_Session_take : OkM P w K mg base (L2.CX P w) 4 "Session" "take" ["self", "state"] (sp_Session_take K)) (h_Session_free : OkM P w K mg base (L2.CX P w) 4 "Session" "free" ["self", "state"] (sp_Session_free K)) (h_Session_back : OkM P w K mg base (L2.CX P w) 4 "Session" "back" ["self"] (sp_Session_back K)) :
    Ok P w K mg base (L2.CX P w) 5 "_law_called" ["_law_session", "_law_step"] (sp_l_called K) := by
  obtain ⟨c_Session_go, m_Session_go, _, b_Session_go, g_Session_go⟩ := h_Session_go
  obtain ⟨c_Session_keep, m_Session_keep, _, b_Session_keep, g_Session_keep⟩ := h_Session_keep
  obtain ⟨c_Session_take, m_Session_take, _, b_Session_take, g_Session_take⟩ := h_Session_take
  obtain ⟨c_Session_free, m_Session_free, _, b_Session_free, g_Session_free⟩ := h_Session_free
  obtain ⟨c_Session_back, m_Session_back, _, b_Session_back, g_Session_back⟩ := h_Session_back
  refine mk_ok (st := s_l_called) F g (fun _ _ _ _ _ _ us hl => match us, hl with | [_, _], _ => rfl) sc_l_called (fun vs H Q E h => len_l_called K h) (fun cdv A outer s H vs Q E hr h => ⟨t_l_called K E, ?_, pure_l_called K h⟩)
  exact (pss_cons (ps_if (pt_cmpR op_eq (pe_ix ix_tup (pv 1) pe_int (fun _ _ => rfl)) pe_str (nomark _)) (pss_one (ps_ret (pe_meth (pv 0) c_Session_go m_Session_go g_Session_go (hr.mono (by decide)) b_Session_go .nil (passes_call (W := fun cls d _ H => E cls d H) (takes_of rfl rfl rfl rfl) (fun _ _ _ _ h => h)) (pa_cons (pe_ix ix_tup (pv 1) pe_int (fun _ _ => rfl)) pa_nil)))) pss_nil)
  (pss_cons (ps_if (pt_cmpR op_eq (pe_ix ix_tup (pv 1) pe_int (fun _ _ => rfl)) pe_str (nomark _)) (pss_one (ps_ret (pe_meth0 (pv 0) c_Session_keep m_Session_keep g_Session_keep (hr.mono (by decide)) b_Session_keep .nil (passes_call (W := fun cls d _ H => E cls d H) (takes_of rfl rfl rfl rfl) (fun _ _ _ _ h => h))))) pss_nil)
  (pss_cons (ps_if (pt_cmpR op_eq (pe_ix ix_tup (pv 1) pe_int (fun _ _ => rfl)) pe_str (nomark _)) (pss_one (ps_ret (pe_meth (pv 0) c_Session_take m_Session_take g_Session_take (hr.mono (by decide)) b_Session_take .nil (passes_call (W := fun cls d _ H => E cls d H) (takes_of rfl rfl rfl rfl) (fun _ _ _ _ h => h)) (pa_cons (pe_ix ix_tup (pv 1) pe_int (fun _ _ => rfl)) pa_nil)))) pss_nil)
  (pss_cons (ps_if (pt_cmpR op_eq (pe_ix ix_tup (pv 1) pe_int (fun _ _ => rfl)) pe_str (nomark _)) (pss_one (ps_ret (pe_meth (pv 0) c_Session_free m_Session_free g_Session_free (hr.mono (by decide)) b_Session_free .nil (passes_call (W := fun cls d _ H => E cls d H) (takes_of rfl rfl rfl rfl) (fun _ _ _ _ h => h)) (pa_cons (pe_ix ix_tup (pv 1) pe_int (fun _ _ => rfl)) pa_nil)))) pss_nil)
  (pss_one (ps_ret (pe_meth0 (pv 0) c_Session_back m_Session_back g_Session_back (hr.mono (by decide)) b_Session_back .nil (passes_call (W := fun cls d _ H => E cls d H) (takes_of rfl rfl rfl rfl) (fun _ _ _ _ h => h)))))))))
abbrev s_l_told : Stmt := top 51
theorem sc_l_told : FnScope ["_law_session"] ["_law_session"] (defScope s_l_told) := ⟨rfl, rfl, rfl, by decide +kernel, rfl, by decide +kernel, by decide +kernel⟩
theorem ok_l_told (T : Txt w K mg) (F : Df K ⟨("_law_told", none), "_law_told", "_law_told", defArgs s_l_told, defBody s_l_told, defScope s_l_told, [], []⟩) (g : mg "_law_told" = some (.ref (He.ga K "_law_told"))) (h_Session_hand : OkP P w K mg base CX0 1 "Session" "hand" (sp_Session_hand K)) (h_Session_kept : OkP P w K mg base CX0 1 "Session" "kept" (sp_Session_kept K)) (h_Session_steps : OkP P w K mg base CX0 1 "Session" "steps" (sp_Session_steps K)) (h_Session_wanted : OkP P w K mg base CX0 1 "Session" "wanted" (sp_Session_wanted K)) :
    Ok P w K mg base CX0 3 "_law_told" ["_law_session"] (sp_l_told K) := by
  obtain ⟨c_Session_hand, m_Session_hand, _, b_Session_hand, g_Session_hand⟩ := h_Session_hand
  obtain ⟨c_Session_kept, m_Session_kept, _, b_Session_kept, g_Session_kept⟩ := h_Session_kept
  obtain ⟨c_Session_steps, m_Session_steps, _, b_Session_steps, g_Session_steps⟩ := h_Session_steps
  obtain ⟨c_Session_wanted, m_Session_wanted, _, b_Session_wanted, g_Session_wanted⟩ := h_Session_wanted
  refine mk_ok (st := s_l_told) F g (fun _ _ _ _ _ _ us hl => match us, hl with | [_], _ => rfl) sc_l_told (fun vs H Q E h => len_l_told K h) (fun cdv A outer s H vs Q E hr h => ⟨t_l_told K, PSs.nox ?_, pure_l_told K h⟩)
  exact (pss_one (ps_ret (pe_tup (pa_cons (pe_prop (pv 0) c_Session_hand m_Session_hand g_Session_hand (hr.mono (by decide)) b_Session_hand .nil pass0 (by rfl)) (pa_cons (pe_prop (pv 0) c_Session_kept m_Session_kept g_Session_kept (hr.mono (by decide)) b_Session_kept .nil pass0 (by rfl)) (pa_cons (pe_prop (pv 0) c_Session_steps m_Session_steps g_Session_steps (hr.mono (by decide)) b_Session_steps .nil pass0 (by rfl)) (pa_cons (pe_prop (pv 0) c_Session_wanted m_Session_wanted g_Session_wanted (hr.mono (by decide)) b_Session_wanted .nil pass0 (by rfl)) pa_nil)))))))
abbrev s_l_tried : Stmt := top 53
theorem sc_l_tried : FnScope ["_law_session", "_law_step", "_law_told_here", "e"] ["_law_session", "_law_step"] (defScope s_l_tried) := ⟨rfl, rfl, rfl, by decide +kernel, rfl, by decide +kernel, by decide +kernel⟩
theorem ok_l_tried (T : Txt w K mg) (F : Df K ⟨("_law_tried", none), "_law_tried", "_law_tried", defArgs s_l_tried, defBody s_l_tried, defScope s_l_tried, [], []⟩) (g : mg "_law_tried" = some (.ref (He.ga K "_law_tried"))) (h_l_called : Ok P w K mg base (L2.CX P w) 5 "_law_called" ["_law_session", "_law_step"] (sp_l_called K)) :
    Ok P w K mg base CX0 6 "_law_tried" ["_law_session", "_law_step"] (sp_l_tried K) := by
  obtain ⟨mg_called, kp_called, fd_called, _, b_called, F_called⟩ := h_l_called
  refine mk_ok (st := s_l_tried) F g (fun _ _ _ _ _ _ us hl => match us, hl with | [_, _], _ => rfl) sc_l_tried (fun vs H Q E h => len_l_tried K h) (fun cdv A outer s H vs Q E hr h => ⟨t_l_tried K, PSs.nox ?_, pure_l_tried K h⟩)
  exact (pss_cons (ps_set (i := 2) sc_l_tried.nd rfl (by first | exact Or.inl rfl | exact Or.inr rfl) pe_non)
  (pss_cons (ps_try_as (i := 3) rfl rfl sc_l_tried.nd rfl rfl ⟨by rfl, by decide, .inl T.mg_CannotDo⟩ takes0 (fun W pn xe tk _ => pss_one (ps_set (i := 2) sc_l_tried.nd rfl (by first | exact Or.inl rfl | exact Or.inr rfl) (pe_callS F_called (hr.mono (by decide)) (by rfl) mg_called kp_called b_called (fun σ => passAt tk σ) (pa_cons (pv 0) (pa_cons (pv 1) pa_nil))))) (fun a oe cls d pn hz hf => pss_one (ps_set (i := 2) sc_l_tried.nd rfl (by first | exact Or.inl rfl | exact Or.inr rfl) (pe_xf T.xf T.na_operation hz hf (pv 3)))))
  (pss_one (ps_ret (pv 2)))))
abbrev s_l_right : Stmt := top 54
theorem sc_l_right : FnScope ["_law_bag_here", "_law_length", "_law_slots", "_law_session", "_law_state", "_law_most", "_law_turn", "_law_step", "_law_calls", "_law_told_here", "_law_wanted_here", "_law_again"] ["_law_bag_here", "_law_length", "_law_slots"] (defScope s_l_right) := ⟨rfl, rfl, rfl, by decide +kernel, rfl, by decide +kernel, by decide +kernel⟩
theorem ok_l_right (T : Txt w K mg) (F : Df K ⟨("_law_right", none), "_law_right", "_law_right", defArgs s_l_right, defBody s_l_right, defScope s_l_right, [], []⟩) (g : mg "_law_right" = some (.ref (He.ga K "_law_right"))) (h_Session_init : OkI P w K mg base CX0 4 "Session" ["self", "length", "slots"] (sp_Session_init K)) (h_l_operation : Ok P w K mg base CX0 2 "_law_operation" ["_law_bag_here", "_law_length", "_law_slots", "_law_state"] (sp_l_operation K)) (h_Session_log : OkM P w K mg base CX0 1 "Session" "log" ["self"] (sp_Session_log K)) (h_first_wrong : Ok P w K mg base CX0 6 "first_wrong" ["length", "slots", "operations"] (sp_first_wrong K)) (h_l_tried : Ok P w K mg base CX0 6 "_law_tried" ["_law_session", "_law_step"] (sp_l_tried K)) (h_l_after : Ok P w K mg base CX0 1 "_law_after" ["_law_state", "_law_step"] (sp_l_after K)) (h_Session_kept : OkP P w K mg base CX0 1 "Session" "kept" (sp_Session_kept K)) (h_Session_wanted : OkP P w K mg base CX0 1 "Session" "wanted" (sp_Session_wanted K)) (h_steps_of : Ok P w K mg base CX0 7 "steps_of" ["length", "slots", "operations"] (sp_steps_of K)) (h_backs_of : Ok P w K mg base CX0 7 "backs_of" ["length", "slots", "operations"] (sp_backs_of K)) (h_Session_steps : OkP P w K mg base CX0 1 "Session" "steps" (sp_Session_steps K)) (h_kept_behind : Ok P w K mg base CX0 7 "kept_behind" ["length", "slots", "operations"] (sp_kept_behind K)) (h_Session_hand : OkP P w K mg base CX0 1 "Session" "hand" (sp_Session_hand K)) (h_most_kept : Ok P w K mg base CX0 7 "most_kept" ["length", "slots", "operations"] (sp_most_kept K)) (h_extra_steps : Ok P w K mg base CX0 7 "extra_steps" ["length", "slots", "operations"] (sp_extra_steps K)) (h_l_called : Ok P w K mg base (L2.CX P w) 5 "_law_called" ["_law_session", "_law_step"] (sp_l_called K)) (h_Session_eq : OkM P w K mg base CX0 1 "Session" "__eq__" ["self", "other"] (sp_Session_eq K)) (h_l_told : Ok P w K mg base CX0 3 "_law_told" ["_law_session"] (sp_l_told K)) :
    Ok P w K mg base CX0 8 "_law_right" ["_law_bag_here", "_law_length", "_law_slots"] (sp_l_right_k47 K) := by
  obtain ⟨c_Session_init, m_Session_init, _, b_Session_init, g_Session_init⟩ := h_Session_init
  obtain ⟨c_Session_log, m_Session_log, _, b_Session_log, g_Session_log⟩ := h_Session_log
  obtain ⟨c_Session_kept, m_Session_kept, _, b_Session_kept, g_Session_kept⟩ := h_Session_kept
  obtain ⟨c_Session_wanted, m_Session_wanted, _, b_Session_wanted, g_Session_wanted⟩ := h_Session_wanted
  obtain ⟨c_Session_steps, m_Session_steps, _, b_Session_steps, g_Session_steps⟩ := h_Session_steps
  obtain ⟨c_Session_hand, m_Session_hand, _, b_Session_hand, g_Session_hand⟩ := h_Session_hand
  obtain ⟨c_Session_eq, m_Session_eq, _, b_Session_eq, g_Session_eq⟩ := h_Session_eq
  refine mk_ok (st := s_l_right) F g (fun _ _ _ _ _ _ us hl => match us, hl with | [_, _, _], _ => rfl) sc_l_right (fun vs H Q E h => len_l_right_k47 K h) (fun cdv A outer s H vs Q E hr h => ⟨t_l_right_k47 K, PSs.nox ?_, pure_l_right_k47 K h⟩)
  exact (pss_cons (ps_par3 (i := 3) (j := 4) (l := 5) rfl sc_l_right.nd rfl rfl rfl (by decide) (by decide) (by decide) rfl rfl rfl (pa_cons (pe_make m_Session_init g_Session_init (hr.mono (by decide)) rfl c_Session_init b_Session_init .nil pass0 (pa_cons (pv 1) (pa_cons (pv 2) pa_nil))) (pa_cons (pe_tup (pa_cons pe_int (pa_cons (pe_lst (pa_cons pe_int pa_nil)) (pa_cons pe_int (pa_cons (pe_op op_sub (pv 1) pe_int) pa_nil))))) (pa_cons pe_int pa_nil))) (by rfl))
  (pss_cons (ps_for PassesOwn.never rfl (pi_range1 rfl T.range (pa_cons pe_int pa_nil)) (pg_name (i := 6) sc_l_right.nd rfl (by first | exact Or.inl rfl | exact Or.inr rfl))
  (pss_cons (ps_set (i := 7) sc_l_right.nd rfl (by first | exact Or.inl rfl | exact Or.inr rfl) (pe_callO h_l_operation (hr.mono (by decide)) rfl pass0 (pa_cons (pv 0) (pa_cons (pv 1) (pa_cons (pv 2) (pa_cons (pv 4) pa_nil))))))
  (pss_cons (ps_set (i := 8) sc_l_right.nd rfl (by first | exact Or.inl rfl | exact Or.inr rfl) (pe_meth0 (pv 3) c_Session_log m_Session_log g_Session_log (hr.mono (by decide)) b_Session_log .nil pass0))
  (pss_cons (ps_if (pt_cmpR op_notN (pe_callO h_first_wrong (hr.mono (by decide)) rfl pass0 (pa_cons (pv 1) (pa_cons (pv 2) (pa_cons (pv 8) pa_nil)))) pe_non (nomark _)) (pss_one (ps_ret pe_bl)) pss_nil)
  (pss_cons (ps_set (i := 9) sc_l_right.nd rfl (by first | exact Or.inl rfl | exact Or.inr rfl) (pe_callO h_l_tried (hr.mono (by decide)) rfl pass0 (pa_cons (pv 3) (pa_cons (pv 7) pa_nil))))
  (pss_cons (ps_if (pt_cmpR op_ne (pe_callO h_first_wrong (hr.mono (by decide)) rfl pass0 (pa_cons (pv 1) (pa_cons (pv 2) (pa_cons (pe_op op_cat (pv 8) (pe_lst (pa_cons (pv 7) pa_nil))) pa_nil)))) (pe_ifExp (pt_cmpR op_isN (pv 9) pe_non (nomark _)) pe_non (pe_callB call_len_seq (by rfl) T.len (by decide +kernel) (pa_cons (pv 8) pa_nil))) (nomark _)) (pss_one (ps_ret pe_bl)) pss_nil)
  (pss_cons (ps_if (pt_cmpR op_isN (pv 9) pe_non (nomark _)) (pss_one (ps_par (i := 4) (j := 5) rfl sc_l_right.nd rfl rfl (by decide) rfl rfl (pa_cons (pe_callO h_l_after (hr.mono (by decide)) rfl pass0 (pa_cons (pv 4) (pa_cons (pv 7) pa_nil))) (pa_cons (pe_callB (call_max2 rfl) (by rfl) T.max (by decide +kernel) (pa_cons (pv 5) (pa_cons (pe_callB call_len_seq (by rfl) T.len (by decide +kernel) (pa_cons (pe_prop (pv 3) c_Session_kept m_Session_kept g_Session_kept (hr.mono (by decide)) b_Session_kept .nil pass0 (by rfl)) pa_nil)) pa_nil))) pa_nil)) (by rfl))) pss_nil)
  (pss_cons (ps_set (i := 8) sc_l_right.nd rfl (by first | exact Or.inl rfl | exact Or.inr rfl) (pe_meth0 (pv 3) c_Session_log m_Session_log g_Session_log (hr.mono (by decide)) b_Session_log .nil pass0))
  (pss_cons (ps_set (i := 10) sc_l_right.nd rfl (by first | exact Or.inl rfl | exact Or.inr rfl) (pe_ifExp (pt_cmpR op_isN (pe_prop (pv 3) c_Session_wanted m_Session_wanted g_Session_wanted (hr.mono (by decide)) b_Session_wanted .nil pass0 (by rfl)) pe_non (nomark _)) (pe_un un_neg pe_int) (pe_prop (pv 3) c_Session_wanted m_Session_wanted g_Session_wanted (hr.mono (by decide)) b_Session_wanted .nil pass0 (by rfl))))
  (pss_cons (ps_set (i := 9) sc_l_right.nd rfl (by first | exact Or.inl rfl | exact Or.inr rfl) (pe_lst (pa_cons (pe_callO h_steps_of (hr.mono (by decide)) rfl pass0 (pa_cons (pv 1) (pa_cons (pv 2) (pa_cons (pv 8) pa_nil)))) (pa_cons (pe_callO h_backs_of (hr.mono (by decide)) rfl pass0 (pa_cons (pv 1) (pa_cons (pv 2) (pa_cons (pv 8) pa_nil)))) pa_nil))))
  (pss_cons (ps_if (pt_cmpR (op_neD hr.units) (pv 9) (pe_lst (pa_cons (pe_prop (pv 3) c_Session_steps m_Session_steps g_Session_steps (hr.mono (by decide)) b_Session_steps .nil pass0 (by rfl)) (pa_cons (pe_op op_sub (pe_op op_sub (pv 1) pe_int) (pv 10)) pa_nil))) (nomark _)) (pss_one (ps_ret pe_bl)) pss_nil)
  (pss_cons (ps_if (PW.pt (pw_or (pt_cmpR (op_neD hr.units) (pe_callO h_kept_behind (hr.mono (by decide)) rfl pass0 (pa_cons (pv 1) (pa_cons (pv 2) (pa_cons (pv 8) pa_nil)))) (pe_tup (pa_cons (pe_prop (pv 3) c_Session_hand m_Session_hand g_Session_hand (hr.mono (by decide)) b_Session_hand .nil pass0 (by rfl)) (pa_cons (pe_prop (pv 3) c_Session_kept m_Session_kept g_Session_kept (hr.mono (by decide)) b_Session_kept .nil pass0 (by rfl)) pa_nil))) (nomark _)) (pw_or1 (pt_cmpR op_ne (pe_callO h_most_kept (hr.mono (by decide)) rfl pass0 (pa_cons (pv 1) (pa_cons (pv 2) (pa_cons (pv 8) pa_nil)))) (pv 5) (nomark _))))) (pss_one (ps_ret pe_bl)) pss_nil)
  (pss_one (ps_if (pt_cmpR op_ne (pe_cmpR op_isN (pe_callO h_extra_steps (hr.mono (by decide)) rfl pass0 (pa_cons (pv 1) (pa_cons (pv 2) (pa_cons (pv 8) pa_nil)))) pe_non (nomark _)) (pe_cmpR op_notN (pe_prop (pv 3) c_Session_wanted m_Session_wanted g_Session_wanted (hr.mono (by decide)) b_Session_wanted .nil pass0 (by rfl)) pe_non (nomark _)) (nomark _)) (pss_one (ps_ret pe_bl)) pss_nil))))))))))))))
  (pss_cons (ps_set (i := 11) sc_l_right.nd rfl (by first | exact Or.inl rfl | exact Or.inr rfl) (pe_make m_Session_init g_Session_init (hr.mono (by decide)) rfl c_Session_init b_Session_init .nil pass0 (pa_cons (pv 1) (pa_cons (pv 2) pa_nil))))
  (pss_cons (ps_for PassesOwn.never rfl (pi_list (pe_meth0 (pv 3) c_Session_log m_Session_log g_Session_log (hr.mono (by decide)) b_Session_log .nil pass0)) (pg_name (i := 7) sc_l_right.nd rfl (by first | exact Or.inl rfl | exact Or.inr rfl))
  (pss_one (ps_expr (pe_callO h_l_called (hr.mono (by decide)) rfl passL (pa_cons (pv 11) (pa_cons (pv 7) pa_nil))))))
  (pss_one (ps_ret (pe_and (pe_cmpR (op_eqG (rcG_ins (R := RSes K) g_Session_eq m_Session_eq.at_ m_Session_eq.fn b_Session_eq pass0) (hr.mono (by decide))) (pv 11) (pv 3) (nomark _)) (pe_one (pe_cmpR (op_eqD hr.units) (pe_callO h_l_told (hr.mono (by decide)) rfl pass0 (pa_cons (pv 11) pa_nil)) (pe_callO h_l_told (hr.mono (by decide)) rfl pass0 (pa_cons (pv 3) pa_nil)) (nomark _))))))))))
abbrev s_law : Stmt := top 55
theorem sc_law : FnScope ["_law_script", "_law_cell", "_law_bag_here", "_law_length"] ["_law_script"] (defScope s_law) := ⟨rfl, rfl, rfl, by decide +kernel, rfl, by decide +kernel, by decide +kernel⟩
theorem ok_law (T : Txt w K mg) (F : Df K ⟨("law", none), "law", "law", defArgs s_law, defBody s_law, defScope s_law, [], []⟩) (g : mg "law" = some (.ref (He.ga K "law"))) (h_l_bag : Ok P w K mg base CX0 1 "_law_bag" ["_law_cell"] (sp_l_bag K)) (h_l_pick : Ok P w K mg base CX0 1 "_law_pick" ["_law_bag_here", "_law_many"] (sp_l_pick K)) (h_l_right : Ok P w K mg base CX0 8 "_law_right" ["_law_bag_here", "_law_length", "_law_slots"] (sp_l_right_k47 K)) :
    Ok P w K mg base CX0 9 "law" ["_law_script"] (sp_law_k47 K) := by
  refine mk_ok (st := s_law) F g (fun _ _ _ _ _ _ us hl => match us, hl with | [_], _ => rfl) sc_law (fun vs H Q E h => len_law_k47 K h) (fun cdv A outer s H vs Q E hr h => ⟨t_law_k47 K, PSs.nox ?_, pure_law_k47 K h⟩)
  exact (pss_cons (ps_for PassesOwn.never rfl (pi_list (pe_op op_cat (pe_slice sl_list (pv 0) po_none (po_some pe_int)) (pe_lst (pa_cons pe_int pa_nil)))) (pg_name (i := 1) sc_law.nd rfl (by first | exact Or.inl rfl | exact Or.inr rfl))
  (pss_cons (ps_set (i := 2) sc_law.nd rfl (by first | exact Or.inl rfl | exact Or.inr rfl) (pe_callO h_l_bag (hr.mono (by decide)) rfl pass0 (pa_cons (pv 1) pa_nil)))
  (pss_one (ps_for PassesOwn.never rfl (pi_tup (pe_tup (pa_cons (pe_op op_add pe_int (pe_callO h_l_pick (hr.mono (by decide)) rfl pass0 (pa_cons (pv 2) (pa_cons pe_int pa_nil)))) (pa_cons (pe_op op_add pe_int (pe_callO h_l_pick (hr.mono (by decide)) rfl pass0 (pa_cons (pv 2) (pa_cons pe_int pa_nil)))) (pa_cons (pe_op op_add pe_int (pe_callO h_l_pick (hr.mono (by decide)) rfl pass0 (pa_cons (pv 2) (pa_cons (pe_op op_powA pe_int pe_int) pa_nil)))) pa_nil))))) (pg_name (i := 3) sc_law.nd rfl (by first | exact Or.inl rfl | exact Or.inr rfl))
  (pss_one (ps_if (pt_not (pt_val (pe_callO h_l_right (hr.mono (by decide)) rfl pass0 (pa_cons (pv 2) (pa_cons (pv 3) (pa_cons (pe_op op_add pe_int (pe_callO h_l_pick (hr.mono (by decide)) rfl pass0 (pa_cons (pv 2) (pa_cons pe_int pa_nil)))) pa_nil)))))) (pss_one (ps_ret pe_bl)) pss_nil))))))
  (pss_one (ps_ret pe_bl)))
end
section
variable {K : PySem.W.Frag} {h : Heap} {mg : Str → Option Value} {w : World}
theorem df (c : SaysP fa fn ts gs ex w K) (i : Nat) {d : He.DefD} (e : fn[i]? = some d) : Df K d := c.d.def_ i e
theorem glo (X : K.In h) (G : h.Ns mainGlobals mg) (c : SaysP fa fn ts gs ex w K) (i : Nat) {x : Str} (e : fa[i]? = some (.glo x)) : mg x = some (.ref (He.ga K x)) := He.glo_ok X G (c.d.fact i e)
theorem txt (X : K.In h) (G : h.Ns mainGlobals mg) (c : SaysP fa fn ts gs ex w K) : Txt w K mg where
  isinstance := He.free_ok X G (c.d.fact 29 (f := .free "isinstance") rfl)
  int := He.free_ok X G (c.d.fact 30 (f := .free "int") rfl)
  bool := He.free_ok X G (c.d.fact 31 (f := .free "bool") rfl)
  range := He.free_ok X G (c.d.fact 32 (f := .free "range") rfl)
  tuple := He.free_ok X G (c.d.fact 33 (f := .free "tuple") rfl)
  str := He.free_ok X G (c.d.fact 34 (f := .free "str") rfl)
  len := He.free_ok X G (c.d.fact 35 (f := .free "len") rfl)
  list := He.free_ok X G (c.d.fact 36 (f := .free "list") rfl)
  enumerate := He.free_ok X G (c.d.fact 37 (f := .free "enumerate") rfl)
  sorted := He.free_ok X G (c.d.fact 38 (f := .free "sorted") rfl)
  max := He.free_ok X G (c.d.fact 39 (f := .free "max") rfl)
  MOST_LENGTH := He.int_ok X G (c.d.fact 40 (f := .int "MOST_LENGTH" 1000000000000000000000000000000) rfl)
  MOST_SLOTS := He.int_ok X G (c.d.fact 41 (f := .int "MOST_SLOTS" 100) rfl)
  MOST_OPERATIONS := He.int_ok X G (c.d.fact 42 (f := .int "MOST_OPERATIONS" 400) rfl)
  MOST_NUMBER := He.int_ok X G (c.d.fact 43 (f := .int "MOST_NUMBER" 1000000000000000000000000000000) rfl)
  cl_Trace := He.cls_ok (c.d.fact 45 (f := .cls "Trace") rfl)
  mg_Trace := glo X G c 44 rfl
  na_Trace_own_length := He.noat_ok (c.d.fact 47 (f := .noat "Trace" "own_length") rfl)
  na_Trace_own_slots := He.noat_ok (c.d.fact 48 (f := .noat "Trace" "own_slots") rfl)
  na_Trace_own_hand := He.noat_ok (c.d.fact 49 (f := .noat "Trace" "own_hand") rfl)
  na_Trace_own_kept := He.noat_ok (c.d.fact 50 (f := .noat "Trace" "own_kept") rfl)
  na_Trace_own_steps := He.noat_ok (c.d.fact 51 (f := .noat "Trace" "own_steps") rfl)
  na_Trace_own_backs := He.noat_ok (c.d.fact 52 (f := .noat "Trace" "own_backs") rfl)
  cl_Session := He.cls_ok (c.d.fact 54 (f := .cls "Session") rfl)
  mg_Session := glo X G c 53 rfl
  na_Session_own_budget := He.noat_ok (c.d.fact 56 (f := .noat "Session" "own_budget") rfl)
  na_Session_own_length := He.noat_ok (c.d.fact 57 (f := .noat "Session" "own_length") rfl)
  na_Session_own_slots := He.noat_ok (c.d.fact 58 (f := .noat "Session" "own_slots") rfl)
  na_Session_own_trace := He.noat_ok (c.d.fact 59 (f := .noat "Session" "own_trace") rfl)
  na_Session_own_calls := He.noat_ok (c.d.fact 60 (f := .noat "Session" "own_calls") rfl)
  mg_WORDS := glo X G c 74 rfl
  words := wordsOk (c.t.tab 0 (t := (fun K => He.ga K "WORDS", ["go", "keep", "take", "free", "back"])) rfl) (Bool.and_eq_true_iff.mp c.both.1).1
  mg_CannotDo := glo X G c 75 rfl
  oex := exS_oex (Bool.and_eq_true_iff.mp c.both.1).2
  oexT := exS_oexT (Bool.and_eq_true_iff.mp c.both.1).2
  na_operation := He.noat_ok (c.d.fact 76 (f := .noat "CannotDo" "operation") rfl)
  xf := exS_xf (Bool.and_eq_true_iff.mp c.both.1).2
  isi_Session := exS_ins (He.cls_ok (c.d.fact 54 (f := .cls "Session") rfl)) (Bool.and_eq_true_iff.mp c.both.1).2
end
theorem facts {P : Program} {w : World} {K : PySem.W.Frag} {h : Heap} {mg : Str → Option Value} {f : Addr} (X : K.In h) (G : h.Ns mainGlobals mg) (hfa : mg ("law" : Str) = some (.ref f)) (c : SaysP fa fn ts gs ex w K) :
    ∃ fd : FuncData, (∀ (s : Shared) (v : Value), BindsTo s fd ⟨[v], []⟩ [("_law_script", v)]) ∧ ∀ base : Heap, K.In base → base.Ns mainGlobals mg → FnOk P w K mg base CX0 9 f fd ["_law_script"] (sp_law_k47 K) := by
  have T := txt X G c
  have e := hfa.symm.trans (glo X G c 28 (x := "law") rfl)
  cases e
  obtain ⟨fd, F⟩ := df c 28 (d := mkD "law" 55) rfl
  have b := FunD.bindsA (ps := ["_law_script"]) F fun _ _ _ _ _ _ us hl => match us, hl with | [_], _ => rfl
  refine ⟨fd, fun s v => b s [v] rfl, fun base _ _ => ?_⟩
  have o_is_int := ok_is_int (P := P) (w := w) (base := base) T (df c 0 (d := mkD "is_int" 2) rfl) (glo X G c 0 (x := "is_int") rfl)
  have o_is_whole := ok_is_whole (P := P) (w := w) (base := base) T (df c 1 (d := mkD "is_whole" 3) rfl) (glo X G c 1 (x := "is_whole") rfl) o_is_int
  have o_CannotDo_init := ok_CannotDo_init (P := P) (w := w) (base := base) T (df c 29 (d := mkM "CannotDo" "__init__" "CannotDo.__init__" 7 0) rfl) (He.meth_ok (c.d.fact 61 (f := .meth "CannotDo" "__init__") rfl))
  have o_require_length := ok_require_length (P := P) (w := w) (base := base) T (df c 2 (d := mkD "require_length" 16) rfl) (glo X G c 2 (x := "require_length") rfl) o_is_whole
  have o_require_slots := ok_require_slots (P := P) (w := w) (base := base) T (df c 3 (d := mkD "require_slots" 17) rfl) (glo X G c 3 (x := "require_slots") rfl) o_is_whole
  have o_require_task := ok_require_task (P := P) (w := w) (base := base) T (df c 4 (d := mkD "require_task" 18) rfl) (glo X G c 4 (x := "require_task") rfl) o_require_length o_require_slots
  have o_reach_of := ok_reach_of (P := P) (w := w) (base := base) T (df c 5 (d := mkD "reach_of" 19) rfl) (glo X G c 5 (x := "reach_of") rfl)
  have o_rounds_of := ok_rounds_of (P := P) (w := w) (base := base) T (df c 6 (d := mkD "rounds_of" 20) rfl) (glo X G c 6 (x := "rounds_of") rfl) o_reach_of
  have o_steps_with := ok_steps_with (P := P) (w := w) (base := base) T (df c 7 (d := mkD "steps_with" 22) rfl) (glo X G c 7 (x := "steps_with") rfl) o_reach_of
  have o_least_of := ok_least_of (P := P) (w := w) (base := base) T (df c 8 (d := mkD "least_of" 23) rfl) (glo X G c 8 (x := "least_of") rfl) o_rounds_of o_steps_with
  have o_is_operation := ok_is_operation (P := P) (w := w) (base := base) T (df c 9 (d := mkD "is_operation" 27) rfl) (glo X G c 9 (x := "is_operation") rfl) o_is_whole
  have o_require_operations := ok_require_operations (P := P) (w := w) (base := base) T (df c 10 (d := mkD "require_operations" 28) rfl) (glo X G c 10 (x := "require_operations") rfl) o_is_operation
  have o_Trace_init := ok_Trace_init (P := P) (w := w) (base := base) T (df c 30 (d := mkM "Trace" "__init__" "Trace.__init__" 29 0) rfl) (He.mkr_ok (c.d.fact 46 (f := .mkr "Trace") rfl))
  have o_Trace_hand := ok_Trace_hand (P := P) (mg := mg) (base := base) T (c.get 0 (q := (("Trace", "hand"), mkM "Trace" "hand" "Trace.hand" 29 1)) rfl).2 (c.get 0 (q := (("Trace", "hand"), mkM "Trace" "hand" "Trace.hand" 29 1)) rfl).1
  have o_Trace_kept := ok_Trace_kept (P := P) (mg := mg) (base := base) T (c.get 1 (q := (("Trace", "kept"), mkM "Trace" "kept" "Trace.kept" 29 2)) rfl).2 (c.get 1 (q := (("Trace", "kept"), mkM "Trace" "kept" "Trace.kept" 29 2)) rfl).1
  have o_Trace_steps := ok_Trace_steps (P := P) (mg := mg) (base := base) T (c.get 2 (q := (("Trace", "steps"), mkM "Trace" "steps" "Trace.steps" 29 3)) rfl).2 (c.get 2 (q := (("Trace", "steps"), mkM "Trace" "steps" "Trace.steps" 29 3)) rfl).1
  have o_Trace_backs := ok_Trace_backs (P := P) (mg := mg) (base := base) T (c.get 3 (q := (("Trace", "backs"), mkM "Trace" "backs" "Trace.backs" 29 4)) rfl).2 (c.get 3 (q := (("Trace", "backs"), mkM "Trace" "backs" "Trace.backs" 29 4)) rfl).1
  have o_Trace_copied := ok_Trace_copied (P := P) (w := w) (base := base) T (df c 31 (d := mkM "Trace" "copied" "Trace.copied" 29 5) rfl) (He.meth_ok (c.d.fact 62 (f := .meth "Trace" "copied") rfl)) o_Trace_init
  have o_Trace_can_do := ok_Trace_can_do (P := P) (w := w) (base := base) T (df c 32 (d := mkM "Trace" "can_do" "Trace.can_do" 29 6) rfl) (He.meth_ok (c.d.fact 63 (f := .meth "Trace" "can_do") rfl))
  have o_Trace_do := ok_Trace_do (P := P) (w := w) (base := base) T (df c 33 (d := mkM "Trace" "do" "Trace.do" 29 7) rfl) (He.meth_ok (c.d.fact 64 (f := .meth "Trace" "do") rfl))
  have o_require_list := ok_require_list (P := P) (w := w) (base := base) T (df c 11 (d := mkD "require_list" 30) rfl) (glo X G c 11 (x := "require_list") rfl) o_require_task o_require_operations
  have o_wrong_of := ok_wrong_of (P := P) (w := w) (base := base) T (df c 12 (d := mkD "wrong_of" 31) rfl) (glo X G c 12 (x := "wrong_of") rfl) o_Trace_init o_Trace_can_do o_Trace_do
  have o_traces_of := ok_traces_of (P := P) (w := w) (base := base) T (df c 13 (d := mkD "traces_of" 32) rfl) (glo X G c 13 (x := "traces_of") rfl) o_require_list o_wrong_of o_Trace_init o_Trace_copied o_Trace_do
  have o_first_wrong := ok_first_wrong (P := P) (w := w) (base := base) T (df c 14 (d := mkD "first_wrong" 33) rfl) (glo X G c 14 (x := "first_wrong") rfl) o_require_list o_wrong_of
  have o_steps_of := ok_steps_of (P := P) (w := w) (base := base) T (df c 15 (d := mkD "steps_of" 34) rfl) (glo X G c 15 (x := "steps_of") rfl) o_traces_of o_Trace_steps
  have o_backs_of := ok_backs_of (P := P) (w := w) (base := base) T (df c 16 (d := mkD "backs_of" 35) rfl) (glo X G c 16 (x := "backs_of") rfl) o_traces_of o_Trace_backs
  have o_extra_steps := ok_extra_steps (P := P) (w := w) (base := base) T (df c 17 (d := mkD "extra_steps" 36) rfl) (glo X G c 17 (x := "extra_steps") rfl) o_traces_of o_Trace_backs o_Trace_steps o_least_of
  have o_most_kept := ok_most_kept (P := P) (w := w) (base := base) T (df c 18 (d := mkD "most_kept" 37) rfl) (glo X G c 18 (x := "most_kept") rfl) o_traces_of o_Trace_kept
  have o_kept_behind := ok_kept_behind (P := P) (w := w) (base := base) T (df c 19 (d := mkD "kept_behind" 38) rfl) (glo X G c 19 (x := "kept_behind") rfl) o_traces_of o_Trace_hand o_Trace_kept
  have o_Session_init := ok_Session_init (P := P) (w := w) (base := base) T (df c 34 (d := mkM "Session" "__init__" "Session.__init__" 41 0) rfl) (He.mkr_ok (c.d.fact 55 (f := .mkr "Session") rfl)) o_require_length o_require_slots o_Trace_init
  have o_Session_hand := ok_Session_hand (P := P) (mg := mg) (base := base) T (c.get 4 (q := (("Session", "hand"), mkM "Session" "hand" "Session.hand" 41 3)) rfl).2 (c.get 4 (q := (("Session", "hand"), mkM "Session" "hand" "Session.hand" 41 3)) rfl).1
  have o_Session_kept := ok_Session_kept (P := P) (mg := mg) (base := base) T (c.get 5 (q := (("Session", "kept"), mkM "Session" "kept" "Session.kept" 41 4)) rfl).2 (c.get 5 (q := (("Session", "kept"), mkM "Session" "kept" "Session.kept" 41 4)) rfl).1
  have o_Session_steps := ok_Session_steps (P := P) (mg := mg) (base := base) T (c.get 6 (q := (("Session", "steps"), mkM "Session" "steps" "Session.steps" 41 5)) rfl).2 (c.get 6 (q := (("Session", "steps"), mkM "Session" "steps" "Session.steps" 41 5)) rfl).1
  have o_Session_wanted := ok_Session_wanted (P := P) (mg := mg) (base := base) T (c.get 7 (q := (("Session", "wanted"), mkM "Session" "wanted" "Session.wanted" 41 6)) rfl).2 (c.get 7 (q := (("Session", "wanted"), mkM "Session" "wanted" "Session.wanted" 41 6)) rfl).1
  have o_Session_eq := ok_Session_eq (P := P) (w := w) (base := base) T (df c 35 (d := mkM "Session" "__eq__" "Session.__eq__" 41 7) rfl) (He.meth_ok (c.d.fact 65 (f := .meth "Session" "__eq__") rfl))
  have o_Session_require_fit := ok_Session_require_fit (P := P) (w := w) (base := base) T (df c 36 (d := mkM "Session" "require_fit" "Session.require_fit" 41 9) rfl) (He.meth_ok (c.d.fact 66 (f := .meth "Session" "require_fit") rfl))
  have o_Session_perform := ok_Session_perform (P := P) (w := w) (base := base) T (df c 37 (d := mkM "Session" "perform" "Session.perform" 41 10) rfl) (He.meth_ok (c.d.fact 67 (f := .meth "Session" "perform") rfl)) o_Trace_can_do o_CannotDo_init o_Session_require_fit o_Trace_do
  have o_Session_go := ok_Session_go (P := P) (w := w) (base := base) T (df c 38 (d := mkM "Session" "go" "Session.go" 41 11) rfl) (He.meth_ok (c.d.fact 68 (f := .meth "Session" "go") rfl)) o_is_whole o_Session_perform
  have o_Session_keep := ok_Session_keep (P := P) (w := w) (base := base) T (df c 39 (d := mkM "Session" "keep" "Session.keep" 41 12) rfl) (He.meth_ok (c.d.fact 69 (f := .meth "Session" "keep") rfl)) o_Session_perform
  have o_Session_take := ok_Session_take (P := P) (w := w) (base := base) T (df c 40 (d := mkM "Session" "take" "Session.take" 41 13) rfl) (He.meth_ok (c.d.fact 70 (f := .meth "Session" "take") rfl)) o_is_whole o_Session_perform
  have o_Session_free := ok_Session_free (P := P) (w := w) (base := base) T (df c 41 (d := mkM "Session" "free" "Session.free" 41 14) rfl) (He.meth_ok (c.d.fact 71 (f := .meth "Session" "free") rfl)) o_is_whole o_Session_perform
  have o_Session_back := ok_Session_back (P := P) (w := w) (base := base) T (df c 42 (d := mkM "Session" "back" "Session.back" 41 15) rfl) (He.meth_ok (c.d.fact 72 (f := .meth "Session" "back") rfl)) o_Session_perform
  have o_Session_log := ok_Session_log (P := P) (w := w) (base := base) T (df c 43 (d := mkM "Session" "log" "Session.log" 41 17) rfl) (He.meth_ok (c.d.fact 73 (f := .meth "Session" "log") rfl))
  have o_l_bag := ok_l_bag (P := P) (w := w) (base := base) T (df c 20 (d := mkD "_law_bag" 43) rfl) (glo X G c 20 (x := "_law_bag") rfl)
  have o_l_pick := ok_l_pick (P := P) (w := w) (base := base) T (df c 21 (d := mkD "_law_pick" 44) rfl) (glo X G c 21 (x := "_law_pick") rfl)
  have o_l_after := ok_l_after (P := P) (w := w) (base := base) T (df c 22 (d := mkD "_law_after" 46) rfl) (glo X G c 22 (x := "_law_after") rfl)
  have o_l_operation := ok_l_operation (P := P) (w := w) (base := base) T (df c 23 (d := mkD "_law_operation" 47) rfl) (glo X G c 23 (x := "_law_operation") rfl) o_l_pick
  have o_l_called := ok_l_called (P := P) (w := w) (base := base) T (df c 24 (d := mkD "_law_called" 50) rfl) (glo X G c 24 (x := "_law_called") rfl) o_Session_go o_Session_keep o_Session_take o_Session_free o_Session_back
  have o_l_told := ok_l_told (P := P) (w := w) (base := base) T (df c 25 (d := mkD "_law_told" 51) rfl) (glo X G c 25 (x := "_law_told") rfl) o_Session_hand o_Session_kept o_Session_steps o_Session_wanted
  have o_l_tried := ok_l_tried (P := P) (w := w) (base := base) T (df c 26 (d := mkD "_law_tried" 53) rfl) (glo X G c 26 (x := "_law_tried") rfl) o_l_called
  have o_l_right := ok_l_right (P := P) (w := w) (base := base) T (df c 27 (d := mkD "_law_right" 54) rfl) (glo X G c 27 (x := "_law_right") rfl) o_Session_init o_l_operation o_Session_log o_first_wrong o_l_tried o_l_after o_Session_kept o_Session_wanted o_steps_of o_backs_of o_Session_steps o_kept_behind o_Session_hand o_most_kept o_extra_steps o_l_called o_Session_eq o_l_told
  have o_law := ok_law (P := P) (w := w) (base := base) T (df c 28 (d := mkD "law" 55) rfl) (glo X G c 28 (x := "law") rfl) o_l_bag o_l_pick o_l_right
  exact fun_same F rfl o_law
end K47
open PySem PySem.W PySem.Calls
open PyProof.Rows hiding St
set_option maxRecDepth 100000 in
set_option maxHeartbeats 0 in
theorem PySem.Challenge.cw_backslots_k47_whole_sessions_and_lists_holds : PySem.Challenge.rw_backslots_k47_whole_sessions_and_lists.Holds := by
  w_on; o_law
  refine HandSHeadRun.head_any (r := OpenLaw.row PySem.Challenge.rw_backslots_k47_whole_sessions_and_lists) (q := view (OpenLaw.row PySem.Challenge.rw_backslots_k47_whole_sessions_and_lists).prog [55]) (H := K47.hk) (ob := K47.ob) (M := K47.steps) (loose := K47.loose) (d := HandSHeadRun.topDef (OpenLaw.row PySem.Challenge.rw_backslots_k47_whole_sessions_and_lists).prog 55) (kwd := []) K47.ob_eq
    (by kernel_rfl) (fun s => by kernel_rfl) K47.run (by kernel_rfl) (by kernel_rfl) (by kernel_rfl) (by rfl) (by first | assumption | decide +kernel) (by decide +kernel) ⟨rfl, rfl, rfl, rfl, rfl, by decide +kernel⟩ ?hw ?hc
  case hw => w_witness2
  case hc =>
    refine L2.walk_ofE (l := PySem.Challenge.rw_backslots_k47_whole_sessions_and_lists) (n := 63) (k := 9) (x := "_law_script") (CX := L2.CX0) rfl (by decide) (by kernel_rfl) ⟨rfl, by decide, by decide⟩ ?F (fun _ _ _ _ z => z)
    intro w mg fa h Y G hmg0
    obtain ⟨K, KX, c⟩ := Y
    have hmg : mg ("law" : PySem.Str) = some (.ref fa) := by
      have e : (HandSHeadRun.topDef (OpenLaw.row PySem.Challenge.rw_backslots_k47_whole_sessions_and_lists).prog 55).name = ("law" : PySem.Str) := by kernel_rfl
      rw [← e]
      exact hmg0
    obtain ⟨fd, hb, hF⟩ := K47.facts (P := (PySem.Challenge.rw_backslots_k47_whole_sessions_and_lists).prog) (w := w) KX G hmg c
    exact ⟨K, fd, Bs.sp_law_k47 K, KX, hb, fun H a ns hl _ hS => ⟨a, ns, rfl, He.exm_ok (c.d.fact 77 (f := .exm "CannotDo" "CannotDo" true) rfl), hS, hl, fun _ => rfl⟩, hF⟩
#print axioms PySem.Challenge.cw_backslots_k47_whole_sessions_and_lists_holds



import PyProof.Rows.All
import Wide.All
import OpenK.AllK
import Wide.FinOn
import KE.KStateDown
import Lean
import HandS.Base
import HandS.Call
import HandS.List
import HandS.Comp
import HandS.Ends
import HandS.EndBits
import HandS.Dict
import HandS.Iter
import HandS.Text
import HandS.More
import HandS.Words
import HandS.WordsList
import HandS.WordsDict
import HandS.WordsExc
import HandS.Exc
import HandS.ExcOwn
import HandS.TryOnly
import HandS.Defaults
import HandS.Flow
import HandS.Style
import HandS.Wide
import HandS.IsInst
import HandS.SortInts
import HandS.RaiseMore
import HandS.Walk
import HandS.Flt
import HandS.Zip
import HandS.Head0
import HandS.Head1
import HandS.Head2
import HandS.HeadEnd
import HandS.HeadHook1
import HandS.HeadHook2
import PySem.Challenge.RW_backslots_k11_great_splits
set_option Elab.async false
set_option linter.all false
set_option maxRecDepth 100000
set_option maxHeartbeats 4000000
namespace Bs
open PySem PySem.Spec L2
open PyProof.Rows hiding St
/-! ### defs by name -/
/-- the def d of the text stands in K -/
def Df (K : PySem.W.Frag) (d : He.DefD) : Prop := ∃ fd, FunD K d.name d.qual d.params d.body d.scope (d.dvs K) (d.kws K) (He.fAd K d.at_) fd
/-- the def named x keeps the promise sp -/
def Ok (P : Program) (w : World) (K : PySem.W.Frag) (mg : Str → Option Value) (base : Heap) (CX : CXT) (k : Nat) (x : Str) (ps : List Str) (sp : Sp) : Prop :=
  mg x = some (.ref (He.ga K x)) ∧ PySem.W.keepIn K (.ref (He.ga K x)) = true ∧ ∃ fd, (∃ oc od osl, K.lookup (He.ga K x) = some ⟨oc, od, .func fd, osl⟩) ∧ Binds K fd ps [] ∧ FnOk P w K mg base CX k (He.ga K x) fd ps sp
section
variable {P : Program} {w : World} {K : PySem.W.Frag} {mg : Str → Option Value} {base : Heap}
theorem mk_ok {CX : CXT} {k : Nat} {x : Str} {st : Stmt} {N ps : List Str} {sp : Sp} (F : Df K ⟨(x, none), x, x, defArgs st, defBody st, defScope st, [], []⟩) (g : mg x = some (.ref (He.ga K x)))
    (hb : ∀ (kV doc pm : Value) (an : Option Addr) (cdv ct : Value) (us : List Value), us.length = ps.length → bindArgs (PySem.W.fnOf x x (defArgs st) (defBody st) (defScope st) .none kV doc pm an cdv ct) ⟨us, []⟩ = pure (ps.zip us))
    (S : FnScope N ps (defScope st)) (len : ∀ vs H Q E, sp vs H Q E → vs.length = ps.length)
    (hbody : ∀ (cdv : Value) (A : Around) (outer : List Env) (s : Shared) (H : Hp) (vs : List V) (Q : VK) (E : XK), Room k (A.deeper (envOfC x (defScope st) s.heap.objs.size (He.ga K x) cdv)) → sp vs H Q E →
      ∃ t, PSs (cxOf CX P w K mg base N x (defScope st) (He.ga K x) cdv A outer s H E) (defBody st) t ∧ t { nx := fun _ H' => Q .non H', rt := Q } (start N vs) H) : Ok P w K mg base CX (k + 1) x ps sp := by
  obtain ⟨fd, F⟩ := F
  have l : ∃ oc od osl, K.lookup (He.ga K x) = some ⟨oc, od, .func fd, osl⟩ := by
    obtain ⟨oc, od, _, _, _, _, _, _, _, osl, _, lk, _⟩ := F.ex
    exact ⟨oc, od, osl, lk⟩
  exact ⟨g, F.kp, fd, l, F.bindsN hb, F.ok S len hbody⟩
theorem fun_same {CX : CXT} {k : Nat} {x : Str} {ps : List Str} {sp : Sp} {d : He.DefD} {fd : FuncData} (F : FunD K d.name d.qual d.params d.body d.scope (d.dvs K) (d.kws K) (He.fAd K d.at_) fd) (e : He.fAd K d.at_ = He.ga K x) (G : Ok P w K mg base CX k x ps sp) :
    FnOk P w K mg base CX k (He.ga K x) fd ps sp := by
  obtain ⟨_, _, fd2, ⟨oc, od, osl, l⟩, _, G⟩ := G
  obtain ⟨oc2, od2, _, _, _, _, _, _, _, osl2, _, lk, _⟩ := F.ex
  rw [e, l] at lk
  have e2 := Option.some.inj lk
  injection e2 with _ _ e3 _
  injection e3 with e4
  rw [← e4]
  exact G
end
section
variable {X : Cx} {CX : CXT} {k : Nat} {ps : List Str} {sp : Sp} {E : XK} {x : Str} {p pos : Pos} {e : Expr} {es : List Expr} {t : TA}
/-- f(..) -/
theorem pe_callO (F : Ok X.prog X.w X.K X.mg X.base CX k x ps sp) (hr : Room k X.A) (hg : Gl X x) (hx : Passes CX X E)
    (ha : PA X (e :: es) t) (hdb : (x == ("__debug__" : Str)) = false := by decide) (he : starEach (e :: es) X.env = (false, eval e X.env) :: starEach es X.env := by rfl) (hpl : (backTo pos (starEach es X.env)).any (·.1) = false := by rfl) :
    PE X (.Call (.Name x p) (e :: es) [] pos) (tCall sp [] E t) := by
  obtain ⟨g, kp, fd, _, b, G⟩ := F
  exact pe_call G hr hg g kp b .nil hx ha hdb he hpl
theorem pe_callO0 (F : Ok X.prog X.w X.K X.mg X.base CX k x ps sp) (hr : Room k X.A) (hg : Gl X x) (hx : Passes CX X E) (hdb : (x == ("__debug__" : Str)) = false := by decide) : PE X (.Call (.Name x p) [] [] pos) (tCall sp [] E tNil) := by
  obtain ⟨g, kp, fd, _, b, G⟩ := F
  exact pe_call0 G hr hg g kp b .nil hx hdb
end
/-! ### operators by value -/
abbrev oAdd : R2 := rI0 fun i j => .int (i + j)
abbrev oSub : R2 := rI0 fun i j => .int (i - j)
abbrev oMul : R2 := rI CMul fun i j => .int (i * j)
abbrev oMulW : R2 := rI CMulW fun i j => .int (i * j)
abbrev oDivN : R2 := rI CDivN fun i j => .int (i.fdiv j)
abbrev oDivW : R2 := rI CDivW fun i j => .int (i / j)
abbrev oModN : R2 := rI (fun _ j => j ≠ 0) fun i j => .int (i.fmod j)
abbrev oPow : R2 := rI CPow fun i j => .int (i ^ j.toNat)
abbrev oLt : R2 := rI0 fun i j => .bl (decide (i < j))
abbrev oLe : R2 := rI0 fun i j => .bl (decide (i ≤ j))
abbrev oGt : R2 := rI0 fun i j => .bl (decide (j < i))
abbrev oGe : R2 := rI0 fun i j => .bl (decide (j ≤ i))
abbrev uNeg : V → Hp → VK → Prop := rU fun i => .int (-i)
abbrev oIsN : R2 := fun x y H Q => y = .non ∧ Q (.bl (decide (x = .non))) H
abbrev oNotN : R2 := fun x y H Q => y = .non ∧ Q (.bl (!decide (x = .non))) H
/-! ### reading, a step at a time -/
section
variable {D : Ends} {σ : St} {H : Hp} {Q : VK} {E : XK} {K : PySem.W.Frag} {i j : Int} {n m : Nat} {x y v : V} {ta tb te tc : TE} {t u : TS} {c d : TT} {r : R2}
theorem r_seq (h : t { D with nx := u D } σ H) : tSeq t u D σ H := h
theorem r_next (h : D.nx σ H) : tNext D σ H := h
theorem r_asg (h : te σ H fun x H1 => D.nx (σ.set n (some x)) H1) : tAsg te (gName n) D σ H := h
theorem r_asgG {g : TG} (h : te σ H fun x H1 => g x σ H1 D.nx) : tAsg te g D σ H := h
theorem r_ret (h : te σ H D.rt) : tRet te D σ H := h
theorem r_retN (h : D.rt .non H) : tRetN D σ H := h
theorem r_ifS (h : c σ H fun b H1 => if b = true then t D σ H1 else u D σ H1) : tIfS c t u D σ H := h
theorem r_drop (h : te σ H fun _ H1 => D.nx σ H1) : tDrop te D σ H := h
theorem r_brk (h : D.bk σ H) : tBreak D σ H := h
theorem r_cont (h : D.ct σ H) : tCont D σ H := h
theorem r_par (h : ta σ H fun v H1 => tb σ H1 fun w H2 => D.nx ((σ.set n (some v)).set m (some w)) H2) : tPar n m (tCons ta (tCons tb tNil)) D σ H := by
  show ta σ H _
  exact (show ta σ H (fun x H1 => tb σ H1 fun y H2 => ∃ v w, [x, y] = [v, w] ∧ D.nx ((σ.set n (some v)).set m (some w)) H2) from by
    have e : (fun (x : V) (H1 : Hp) => tb σ H1 fun y H2 => ∃ v w, [x, y] = [v, w] ∧ D.nx ((σ.set n (some v)).set m (some w)) H2) = fun v H1 => tb σ H1 fun w H2 => D.nx ((σ.set n (some v)).set m (some w)) H2 := by
      funext x H1
      congr 1
      funext y H2
      apply propext
      constructor
      · rintro ⟨v, w, e, h⟩
        cases e
        exact h
      · intro h
        exact ⟨x, y, rfl, h⟩
    rw [e]
    exact h)
theorem r_par3 {o : Nat} {h : V → V → V → Hp → Prop} (hh : ∀ x y z H1, h x y z H1 → D.nx (((σ.set n (some x)).set m (some y)).set o (some z)) H1) (mo : ta σ H fun x H1 => tb σ H1 fun y H2 => tc σ H2 fun z H3 => ∃ u v w, [x, y, z] = [u, v, w] ∧ D.nx (((σ.set n (some u)).set m (some v)).set o (some w)) H3) :
    tPar3 n m o (tCons ta (tCons tb (tCons tc tNil))) D σ H := mo
theorem r_var (h : σ[n]? = some (some v)) (q : Q v H) : tVar n σ H Q := ⟨v, h, q⟩
theorem r_c (q : Q v H) : tC v σ H Q := q
theorem r_op (h : ta σ H fun x H1 => tb σ H1 fun y H2 => r x y H2 Q) : tOp r ta tb σ H Q := h
theorem r_un {f : V → Hp → VK → Prop} (h : ta σ H fun x H1 => f x H1 Q) : tUn f ta σ H Q := h
theorem r_I0 {g : Int → Int → V} (h : Q (g i j) H) : rI0 g (.int i) (.int j) H Q := ⟨i, j, rfl, rfl, h⟩
theorem r_I {C : Int → Int → Prop} {g : Int → Int → V} (hc : C i j) (h : Q (g i j) H) : rI C g (.int i) (.int j) H Q := ⟨i, j, rfl, rfl, hc, h⟩
theorem r_U {g : Int → V} (h : Q (g i) H) : rU g (.int i) H Q := ⟨i, rfl, h⟩
theorem r_eq (hs : scal x y = true) (h : Q (.bl (decide (x = y))) H) : rEq x y H Q := ⟨hs, h⟩
theorem r_ne (hs : scal x y = true) (h : Q (.bl (!decide (x = y))) H) : rNe x y H Q := ⟨hs, h⟩
theorem v_int : decide (V.int i = V.int j) = decide (i = j) := by
  by_cases e : i = j
  · subst e; simp
  · have h : ¬ (V.int i) = V.int j := fun q => e (V.int.inj q)
    rw [decide_eq_false h, decide_eq_false e]
theorem r_eqI (h : Q (.bl (decide (i = j))) H) : rEq (.int i) (.int j) H Q := ⟨rfl, by rw [v_int]; exact h⟩
theorem r_neI (h : Q (.bl (!decide (i = j))) H) : rNe (.int i) (.int j) H Q := ⟨rfl, by rw [v_int]; exact h⟩
theorem v_bl {a b : Bool} : decide (V.bl a = V.bl b) = (a == b) := by cases a <;> cases b <;> decide
theorem r_eqB {a b : Bool} (h : Q (.bl (a == b)) H) : rEq (.bl a) (.bl b) H Q := ⟨rfl, by rw [v_bl]; exact h⟩
theorem r_neB {a b : Bool} (h : Q (.bl (!(a == b))) H) : rNe (.bl a) (.bl b) H Q := ⟨rfl, by rw [v_bl]; exact h⟩
theorem r_isN (h : Q (.bl (decide (x = .non))) H) : oIsN x .non H Q := ⟨rfl, h⟩
theorem r_notN (h : Q (.bl (!decide (x = .non))) H) : oNotN x .non H Q := ⟨rfl, h⟩
theorem r_chain {r' : R2} (h : ta σ H fun x H1 => tb σ H1 fun y H2 => r x y H2 fun z H3 => ∃ k, z = .bl k ∧ (if k = true then tc σ H3 fun w' H4 => r' y w' H4 Q else Q (.bl false) H3)) : tChain r r' ta tb tc σ H Q := h
theorem r_test {Q : Bool → Hp → Prop} (h : te σ H fun x H' => ∃ k, x = .bl k ∧ Q k H') : tTest te σ H Q := h
theorem r_B {Q : Bool → Hp → Prop} (h : te σ H fun x H' => ∃ k, x = .bl k ∧ Q k H') : tB te σ H Q := h
theorem r_bl {b : Bool} {Q : Bool → Prop} (h : Q b) : ∃ k, V.bl b = .bl k ∧ Q k := ⟨b, rfl, h⟩
theorem r_and {Q : Bool → Hp → Prop} (h : c σ H fun b H1 => if b = true then d σ H1 Q else Q false H1) : tAnd c d σ H Q := h
theorem r_or {Q : Bool → Hp → Prop} (h : c σ H fun b H1 => if b = true then Q true H1 else d σ H1 Q) : tOr c d σ H Q := h
theorem r_not {Q : Bool → Hp → Prop} (h : c σ H fun b H1 => Q (!b) H1) : tNot c σ H Q := h
theorem r_andV (h : ta σ H fun x H1 => ∃ c, x = .bl c ∧ if c = true then tb σ H1 Q else Q (.bl false) H1) : tAndV ta tb σ H Q := h
theorem r_orV (h : ta σ H fun x H1 => ∃ c, x = .bl c ∧ if c = true then Q (.bl true) H1 else tb σ H1 Q) : tOrV ta tb σ H Q := h
theorem r_notV (h : ta σ H fun x H1 => ∃ c, x = .bl c ∧ Q (.bl (!c)) H1) : tNotV ta σ H Q := h
theorem r_ifE {cT : TT} (h : cT σ H fun c H1 => if c = true then ta σ H1 Q else tb σ H1 Q) : tIf cT ta tb σ H Q := h
theorem r_cb {f : List V → Hp → VK → Prop} {tA : TA} (h : tA σ H fun vs H1 => f vs H1 Q) : tCB f tA σ H Q := h
theorem r_nil {Q : List V → Hp → Prop} (h : Q [] H) : tNil σ H Q := h
theorem r_cons {tA : TA} {Q : List V → Hp → Prop} (h : te σ H fun x H1 => tA σ H1 fun xs H2 => Q (x :: xs) H2) : tCons te tA σ H Q := h
theorem r_call {sp : Sp} {tA : TA} (h : tA σ H fun vs H1 => sp vs H1 Q E) : tCall sp [] E tA σ H Q := by
  show tA σ H fun vs H1 => sp (vs ++ []) H1 Q E
  have e : (fun vs H1 => sp (vs ++ []) H1 Q E) = fun vs H1 => sp vs H1 Q E := by
    funext vs H1
    rw [List.append_nil]
  rw [e]
  exact h
theorem r_tup {tA : TA} (h : tA σ H fun xs H1 => xs.length ≤ sizeLine ∧ ∀ p, H1 p = none → Q (.ref p) (upd H1 p (.tup xs))) : tTup tA σ H Q := h
theorem r_lst {tA : TA} (h : tA σ H fun xs H1 => xs.length ≤ sizeLine ∧ ∀ p, H1 p = none → Q (.ref p) (upd H1 p (.lst xs))) : tLst tA σ H Q := h
theorem sz_of {n : Nat} (h : n ≤ 100000) : n ≤ sizeLine := Nat.le_trans h (by decide)
theorem sz_lt {n : Nat} (h : n < 100000) : n < sizeLine := Nat.lt_of_lt_of_le h (by decide)
theorem r_new {n : Nat} {P : Addr → Prop} (hn : n ≤ 100000) (h : ∀ p, P p) : n ≤ sizeLine ∧ ∀ p, P p := ⟨sz_of hn, h⟩
theorem r_rng1 {ta : TA} {R : It → Hp → Prop} (h : ta σ H fun vs H1 => ∃ j : Int, vs = [.int j] ∧ -(2 ^ 62) ≤ j ∧ j < 2 ^ 62 ∧ R (Itr 0 j.toNat) H1) : iRng1 ta σ H R := h
theorem r_rng2 {ta : TA} {R : It → Hp → Prop} (h : ta σ H fun vs H1 => ∃ i j : Int, vs = [.int i, .int j] ∧ (-(2 ^ 62) ≤ i ∧ i < 2 ^ 62 ∧ -(2 ^ 62) ≤ j ∧ j < 2 ^ 62) ∧ R (Itr i (j - i).toNat) H1) : iRng2 ta σ H R := h
theorem r_r1 {R : Int → Prop} (h1 : -(2 ^ 62) ≤ i) (h2 : i < 2 ^ 62) (h : R i) : ∃ j : Int, [V.int i] = [.int j] ∧ -(2 ^ 62) ≤ j ∧ j < 2 ^ 62 ∧ R j := ⟨i, rfl, h1, h2, h⟩
theorem r_r2 {R : Int → Int → Prop} (h1 : -(2 ^ 62) ≤ i ∧ i < 2 ^ 62 ∧ -(2 ^ 62) ≤ j ∧ j < 2 ^ 62) (h : R i j) : ∃ i' j' : Int, [V.int i, V.int j] = [.int i', .int j'] ∧ (-(2 ^ 62) ≤ i' ∧ i' < 2 ^ 62 ∧ -(2 ^ 62) ≤ j' ∧ j' < 2 ^ 62) ∧ R i' j' := ⟨i, j, rfl, h1, h⟩
theorem r_for {wi : TI} {g : TG} (h : wi σ H fun J H1 => ∃ W : Nat → Nat → St → Hp → Prop, (∃ m, W 0 m σ H1) ∧ ∀ i m σ H, W i m σ H →
  (J.stop i H ∧ D.nx σ H) ∨ (J.go i H ∧ ∃ N : St → Hp → Prop, (∀ σ' H', N σ' H' → ∃ m', m' < m ∧ W (i + 1) m' σ' H') ∧ ∀ x H', J.yld i H x H' → g x σ H' fun σ2 H2 => t { D with nx := N, ct := N, bk := D.nx } σ2 H2)) : tFor wi g t D σ H := h
/-- a test's two ways -/
theorem r_ite {p : Prop} [Decidable p] {A B : Prop} (h1 : p → A) (h2 : ¬ p → B) : if decide p = true then A else B := by
  by_cases h : p
  · rw [decide_eq_true h, if_pos rfl]
    exact h1 h
  · rw [decide_eq_false h, if_neg Bool.false_ne_true]
    exact h2 h
theorem r_iteN {p : Prop} [Decidable p] {A B : Prop} (h1 : ¬ p → A) (h2 : p → B) : if (!decide p) = true then A else B := by
  by_cases h : p
  · rw [decide_eq_true h, if_neg (by decide)]
    exact h2 h
  · rw [decide_eq_false h, if_pos (by decide)]
    exact h1 h
theorem r_iteB {b : Bool} {A B : Prop} (h1 : b = true → A) (h2 : b = false → B) : if b = true then A else B := by
  cases b with
  | true => rw [if_pos rfl]; exact h1 rfl
  | false => rw [if_neg Bool.false_ne_true]; exact h2 rfl
theorem r_iteT {A B : Prop} (h : A) : if true = true then A else B := by rw [if_pos rfl]; exact h
theorem r_iteF {A B : Prop} (h : B) : if false = true then A else B := by rw [if_neg Bool.false_ne_true]; exact h
theorem r_iteNT {A B : Prop} (h : B) : if (!true) = true then A else B := by rw [if_neg (by decide)]; exact h
theorem r_iteNF {A B : Prop} (h : A) : if (!false) = true then A else B := by rw [if_pos (by decide)]; exact h
/-- a test that is known -/
theorem r_yes {p : Prop} [Decidable p] {A B : Prop} (hp : p) (h : A) : if decide p = true then A else B := by rw [decide_eq_true hp, if_pos rfl]; exact h
theorem r_no {p : Prop} [Decidable p] {A B : Prop} (hp : ¬ p) (h : B) : if decide p = true then A else B := by rw [decide_eq_false hp, if_neg Bool.false_ne_true]; exact h
end
end Bs

namespace Bs
open PySem PySem.Spec L2
open PyProof.Rows hiding St
/-! ### more operators, built-ins -/
abbrev oMulA : R2 := rI IntMulOk fun i j => .int (i * j)
def CDivP (i j : Int) : Prop := 0 < j ∧ j.natAbs.log2 < 9000
abbrev oDivP : R2 := rI CDivP fun i j => .int (i / j)
def CModP (_ j : Int) : Prop := 0 < j
abbrev oModP : R2 := rI CModP fun i j => .int (i % j)
def CPowA (i j : Int) : Prop := 0 ≤ j ∧ (Builtin.Int.intBits i : Int) * j ≤ 2 ^ 27
abbrev oPowA : R2 := rI CPowA fun i j => .int (i ^ j.toNat)
abbrev oMax2 : List V → Hp → VK → Prop := fun xs H Q => ∃ i j, xs = [.int i, .int j] ∧ Q (.int (if j > i then j else i)) H
abbrev oMin2 : List V → Hp → VK → Prop := fun xs H Q => ∃ i j, xs = [.int i, .int j] ∧ Q (.int (if j < i then j else i)) H
def oMax3 : List V → Hp → VK → Prop := fun xs H Q => ∃ i j k : Int, xs = [.int i, .int j, .int k] ∧ Q (.int (max (max i j) k)) H
def oMin3 : List V → Hp → VK → Prop := fun xs H Q => ∃ i j k : Int, xs = [.int i, .int j, .int k] ∧ Q (.int (min (min i j) k)) H
abbrev oInt : List V → Hp → VK → Prop := fun xs H Q => (∃ i, xs = [.int i] ∧ Q (.int i) H) ∨ ∃ k, xs = [.bl k] ∧ Q (.int (if k then 1 else 0)) H
abbrev oLen (K : PySem.W.Frag) : List V → Hp → VK → Prop := fun xs H Q => ∃ p ys, xs = [.ref p] ∧ (SqL K H p ys ∨ SqT K H p ys) ∧ Q (.int ys.length) H
/-- repr of an int, None, True, False -/
def repV : V → Option Str
  | .int i => some (toString i)
  | .non => some "None"
  | .bl true => some "True"
  | .bl false => some "False"
  | _ => none
def oRepr : List V → Hp → VK → Prop := fun xs H Q => ∃ x z, xs = [x] ∧ repV x = some z ∧ (∀ i, x = .int i → i.natAbs.log2 < 1920) ∧ Q (.str z) H
section
variable {X : Cx} {x : Str} {pos : Pos}
theorem pe_globI {i : Int} (hm : ∃ t, X.mg x = some (.int i t)) (hg : Gl X x := by rfl) (hdb : (x == ("__debug__" : Str)) = false := by decide) : PE X (.Name x pos) (tC (.int i)) := by
  obtain ⟨t, h⟩ := hm
  exact pe_glob hg h ⟨_, rfl⟩ hdb
theorem op_mulA : OpR X (binaryOp .Mult) oMulA := opI fun _ _ _ _ _ _ _ hc q => mul_int q hc
theorem op_divP : OpR X (binaryOp .FloorDiv) oDivP := opI fun i j _ _ _ _ _ hc q => by
  have h1 : (0 : Int) < j := hc.1
  exact floordiv_int (by omega) (by rw [Int.fdiv_eq_ediv_of_nonneg i (by omega)]; exact q) (.inl (PyProof.noPylong_of_log2 hc.2))
theorem op_modP : OpR X (binaryOp .Mod) oModP := by
  intro pins s σ H x y u v Q I r1 r2 h
  obtain ⟨i, j, e1, e2, hc, q⟩ := h
  have hj : (0 : Int) < j := hc
  refine op_modN pins s σ H x y u v Q I r1 r2 ⟨i, j, e1, e2, by omega, ?_⟩
  show Q (.int (i.fmod j)) H
  rw [Int.fmod_eq_emod_of_nonneg i (by omega)]
  exact q
theorem op_powA : OpR X (binaryOp .Pow) oPowA := opI fun i j _ _ _ _ _ hc q => pow_int hc.1 hc.2 q
theorem call_reprA : CallR X (.builtin "repr") oRepr := by
  intro pins s σ H xs us Q I r h
  obtain ⟨x, z, rfl, hz, hi, q⟩ := h
  obtain ⟨u, rfl, rx⟩ := vals1 r
  cases x with
  | int i =>
    obtain ⟨t, rfl⟩ := rx
    have e : z = toString i := (Option.some.inj hz).symm
    subst e
    exact PySem.P.repr_of_int (hi i rfl) ⟨.str _, H, I.tok _, ⟨_, rfl⟩, q⟩
  | non =>
    cases (show u = Value.none from rx)
    have e : z = "None" := (Option.some.inj hz).symm
    subst e
    exact PySem.P.repr_of_none ⟨.str _, H, I.tok _, ⟨_, rfl⟩, q⟩
  | bl b =>
    cases (show u = Value.bool b from rx)
    cases b with
    | true =>
      have e : z = "True" := (Option.some.inj hz).symm
      subst e
      exact PySem.P.repr_of_bool ⟨.str _, H, I.tok _, ⟨_, rfl⟩, q⟩
    | false =>
      have e : z = "False" := (Option.some.inj hz).symm
      subst e
      exact PySem.P.repr_of_bool ⟨.str _, H, I.tok _, ⟨_, rfl⟩, q⟩
  | _ => cases hz
theorem call_max3 (hc : X.calm = true) : CallR X (.builtin "max") oMax3 := by
  intro pins s σ H xs us Q I r h
  obtain ⟨i, j, k, e, q⟩ := h
  refine call_max3Nu hc pins s σ H xs us Q I r ⟨.int i, .int j, .int k, _, e, ?_, q⟩
  show ((nuLt (.int i) (.int j)).map fun c => if c = true then V.int j else .int i).bind (fun m => nuMax2 m (.int k)) = _
  show nuMax2 (if decide (i < j) = true then V.int j else .int i) (.int k) = _
  by_cases h1 : i < j
  · rw [decide_eq_true h1, if_pos rfl]
    show some (if decide (j < k) = true then V.int k else .int j) = _
    by_cases h2 : j < k
    · rw [decide_eq_true h2, if_pos rfl, show max (max i j) k = k by omega]
    · rw [decide_eq_false h2, if_neg Bool.false_ne_true, show max (max i j) k = j by omega]
  · rw [decide_eq_false h1, if_neg Bool.false_ne_true]
    show some (if decide (i < k) = true then V.int k else .int i) = _
    by_cases h2 : i < k
    · rw [decide_eq_true h2, if_pos rfl, show max (max i j) k = k by omega]
    · rw [decide_eq_false h2, if_neg Bool.false_ne_true, show max (max i j) k = i by omega]
theorem call_min3 (hc : X.calm = true) : CallR X (.builtin "min") oMin3 := by
  intro pins s σ H xs us Q I r h
  obtain ⟨i, j, k, e, q⟩ := h
  refine call_min3Nu hc pins s σ H xs us Q I r ⟨.int i, .int j, .int k, _, e, ?_, q⟩
  show ((nuLt (.int j) (.int i)).map fun c => if c = true then V.int j else .int i).bind (fun m => nuMin2 m (.int k)) = _
  show nuMin2 (if decide (j < i) = true then V.int j else .int i) (.int k) = _
  by_cases h1 : j < i
  · rw [decide_eq_true h1, if_pos rfl]
    show some (if decide (k < j) = true then V.int k else .int j) = _
    by_cases h2 : k < j
    · rw [decide_eq_true h2, if_pos rfl, show min (min i j) k = k by omega]
    · rw [decide_eq_false h2, if_neg Bool.false_ne_true, show min (min i j) k = j by omega]
  · rw [decide_eq_false h1, if_neg Bool.false_ne_true]
    show some (if decide (k < i) = true then V.int k else .int i) = _
    by_cases h2 : k < i
    · rw [decide_eq_true h2, if_pos rfl, show min (min i j) k = k by omega]
    · rw [decide_eq_false h2, if_neg Bool.false_ne_true, show min (min i j) k = i by omega]
end
section
variable {X : Cx} {a b c d : Expr} {ta tb tc td : TE} {pos : Pos}
/-- a op1 b op2 c op3 d -/
def tChain3 (r1 r2 r3 : R2) (ta tb tc td : TE) : TE := fun σ H Q => ta σ H fun x H1 => tb σ H1 fun y H2 => r1 x y H2 fun z H3 => ∃ k, z = .bl k ∧
  (if k = true then tc σ H3 fun u H4 => r2 y u H4 fun z' H5 => ∃ k', z' = .bl k' ∧ (if k' = true then td σ H5 fun w' H6 => r3 u w' H6 Q else Q (.bl false) H5) else Q (.bl false) H3)
theorem pe_chain3 {op1 op2 op3 : CmpOp} {q1 q2 q3 : R2} (h1 : OpR X (compareOp op1) q1) (h2 : OpR X (compareOp op2) q2) (h3 : OpR X (compareOp op3) q3) (ha : PE X a ta) (hb : PE X b tb) (hc : PE X c tc) (hd : PE X d td)
    (hm : lastMarks [op1, op2, op3] [b, c, d] = false := by with_unfolding_all rfl) : PE X (.Compare a [op1, op2, op3] [b, c, d] pos) (tChain3 q1 q2 q3 ta tb tc td) := by
  refine ⟨fun pins s σ H Q I h => ?_⟩
  refine Compare_chain (thn (ha.run pins s σ H _ I h) fun v s1 ⟨x, H1, I1, r1, q1⟩ => chain_link (thn (hb.run pins s1 σ H1 _ I1 q1) fun u s2 ⟨y, H2, I2, r2, q2⟩ =>
    thn (h1 pins s2 σ H2 x y v u _ I2 r1 r2 q2) fun d s3 ⟨z, H3, I3, r3, k, e, q3⟩ => ?_)) hm
  subst e
  cases r3
  refine wpAny_truthy_bool ?_
  cases k with
  | false => exact ite_ff ⟨.bl false, H3, I3, rfl, q3⟩
  | true =>
    refine ite_tt (chain_link (thn (hc.run pins s3 σ H3 _ I3 q3) fun u2 s4 ⟨y2, H4, I4, r4, q4⟩ => thn (h2 pins s4 σ H4 y y2 u u2 _ I4 r2 r4 q4) fun d2 s5 ⟨z2, H5, I5, r5, k2, e2, q5⟩ => ?_))
    subst e2
    cases r5
    refine wpAny_truthy_bool ?_
    cases k2 with
    | false => exact ite_ff ⟨.bl false, H5, I5, rfl, q5⟩
    | true => exact ite_tt (chain_last (thn (hd.run pins s5 σ H5 _ I5 q5) fun w' s6 ⟨z', H6, I6, r6, q6⟩ => h3 pins s6 σ H6 y2 z' u2 w' Q I6 r4 r6 q6))
theorem pt_chain3 {op1 op2 op3 : CmpOp} {q1 q2 q3 : R2} (h1 : OpR X (compareOp op1) q1) (h2 : OpR X (compareOp op2) q2) (h3 : OpR X (compareOp op3) q3) (ha : PE X a ta) (hb : PE X b tb) (hc : PE X c tc) (hd : PE X d td)
    (hm : lastMarks [op1, op2, op3] [b, c, d] = false := by with_unfolding_all rfl) : PT X (.Compare a [op1, op2, op3] [b, c, d] pos) (tTest (tChain3 q1 q2 q3 ta tb tc td)) := by
  refine ⟨fun pins s σ H Q I h => ?_⟩
  refine isTrue_chain (thn (ha.run pins s σ H _ I h) fun v s1 ⟨x, H1, I1, r1, q1⟩ => test_link (thn (hb.run pins s1 σ H1 _ I1 q1) fun u s2 ⟨y, H2, I2, r2, q2⟩ =>
    thn (h1 pins s2 σ H2 x y v u _ I2 r1 r2 q2) fun d s3 ⟨z, H3, I3, r3, k, e, q3⟩ => ?_)) hm
  subst e
  cases r3
  refine wpAny_truthy_bool ?_
  cases k with
  | false =>
    obtain ⟨k', e', q'⟩ := q3
    cases e'
    exact ite_ff ⟨H3, I3, q'⟩
  | true =>
    refine ite_tt (test_link (thn (hc.run pins s3 σ H3 _ I3 q3) fun u2 s4 ⟨y2, H4, I4, r4, q4⟩ => thn (h2 pins s4 σ H4 y y2 u u2 _ I4 r2 r4 q4) fun d2 s5 ⟨z2, H5, I5, r5, k2, e2, q5⟩ => ?_))
    subst e2
    cases r5
    refine wpAny_truthy_bool ?_
    cases k2 with
    | false =>
      obtain ⟨k', e', q'⟩ := q5
      cases e'
      exact ite_ff ⟨H5, I5, q'⟩
    | true =>
      refine ite_tt (test_last (thn (hd.run pins s5 σ H5 _ I5 q5) fun w' s6 ⟨z', H6, I6, r6, q6⟩ => thn (h3 pins s6 σ H6 y2 z' u2 w' _ I6 r4 r6 q6) fun d' s7 ⟨z3, H7, I7, r7, k3, e3, q7⟩ => ?_))
      subst e3
      cases r7
      exact wpAny_truthy_bool ⟨H7, I7, q7⟩
end
/-! ### reading them -/
section
variable {D : Ends} {σ : L2.St} {H : Hp} {Q : VK} {E : XK} {K : PySem.W.Frag} {i j k : Int} {n m : Nat} {x y v : V} {ta tb te tc td : TE} {t u : TS} {c d : TT} {r : R2}
theorem r_max2 (h : Q (.int (if j > i then j else i)) H) : oMax2 [.int i, .int j] H Q := ⟨i, j, rfl, h⟩
theorem r_min2 (h : Q (.int (if j < i then j else i)) H) : oMin2 [.int i, .int j] H Q := ⟨i, j, rfl, h⟩
theorem r_max2' (h : Q (.int (max i j)) H) : oMax2 [.int i, .int j] H Q := r_max2 (by
  have e : (if j > i then j else i) = max i j := by split <;> omega
  rw [e]; exact h)
theorem r_min2' (h : Q (.int (min i j)) H) : oMin2 [.int i, .int j] H Q := r_min2 (by
  have e : (if j < i then j else i) = min i j := by split <;> omega
  rw [e]; exact h)
theorem r_max3 (h : Q (.int (max (max i j) k)) H) : oMax3 [.int i, .int j, .int k] H Q := ⟨i, j, k, rfl, h⟩
theorem r_min3 (h : Q (.int (min (min i j) k)) H) : oMin3 [.int i, .int j, .int k] H Q := ⟨i, j, k, rfl, h⟩
theorem r_intI (h : Q (.int i) H) : oInt [.int i] H Q := .inl ⟨i, rfl, h⟩
theorem r_intB {b : Bool} (h : Q (.int (if b then 1 else 0)) H) : oInt [.bl b] H Q := .inr ⟨b, rfl, h⟩
theorem r_lenL {p : Addr} {xs : List V} (hp : SqL K H p xs) (h : Q (.int xs.length) H) : oLen K [.ref p] H Q := ⟨p, xs, rfl, .inl hp, h⟩
theorem r_lenT {p : Addr} {xs : List V} (hp : SqT K H p xs) (h : Q (.int xs.length) H) : oLen K [.ref p] H Q := ⟨p, xs, rfl, .inr hp, h⟩
theorem r_reprI (hz : i.natAbs.log2 < 1920) (h : Q (.str (toString i)) H) : oRepr [.int i] H Q := ⟨_, _, rfl, rfl, fun j e => by cases e; exact hz, h⟩
theorem r_reprN (h : Q (.str "None") H) : oRepr [.non] H Q := ⟨.non, "None", rfl, rfl, fun j e => (nomatch e), h⟩
theorem r_chain3 {r1 r2 r3 : R2} (h : ta σ H fun x H1 => tb σ H1 fun y H2 => r1 x y H2 fun z H3 => ∃ k, z = .bl k ∧
  (if k = true then tc σ H3 fun u H4 => r2 y u H4 fun z' H5 => ∃ k', z' = .bl k' ∧ (if k' = true then td σ H5 fun w' H6 => r3 u w' H6 Q else Q (.bl false) H5) else Q (.bl false) H3)) : tChain3 r1 r2 r3 ta tb tc td σ H Q := h
theorem r_ixL {p : Addr} {xs : List V} (hp : SqL K H p xs) (ha : atI xs i = some v) (h : Q v H) : rIxL K (.ref p) (.int i) H Q := ⟨p, xs, i, v, rfl, rfl, hp, ha, h⟩
theorem r_ixT {p : Addr} {xs : List V} (hp : SqT K H p xs) (ha : atI xs i = some v) (h : Q v H) : rIxT K (.ref p) (.int i) H Q := ⟨p, xs, i, v, rfl, rfl, hp, ha, h⟩
theorem r_setL {p : Addr} {xs : List V} {Q : Hp → Prop} {jj : Nat} (hp : H p = some (.lst xs)) (ha : ixN xs.length i = some jj) (h : Q (upd H p (.lst (xs.set jj v)))) : rSetL (.ref p) (.int i) v H Q := ⟨p, xs, i, jj, rfl, rfl, hp, ha, h⟩
theorem r_sub {to ti : TE} {ts : TSet} {Q : L2.St → Hp → Prop} (h : to σ H fun o H1 => ti σ H1 fun i H2 => ts o i v H2 fun H3 => Q σ H3) : gSub to ti ts v σ H Q := h
theorem r_gname {Q : L2.St → Hp → Prop} (h : Q (σ.set n (some v)) H) : gName n v σ H Q := h
theorem r_gtup {a : Addr} {xs : List V} {tg : TGs} {Q : L2.St → Hp → Prop} (hp : SqT K H a xs) (hl : xs.length = n) (h : tg xs σ H Q) : gTup K n tg (.ref a) σ H Q := ⟨a, xs, rfl, hp, hl, h⟩
theorem r_gcons {tg : TG} {tgs : TGs} {vs : List V} {Q : L2.St → Hp → Prop} (h : tg v σ H fun σ' H' => tgs vs σ' H' Q) : gCons tg tgs (v :: vs) σ H Q := ⟨v, vs, rfl, h⟩
theorem r_gnil {Q : L2.St → Hp → Prop} (h : Q σ H) : gNil [] σ H Q := ⟨rfl, h⟩
theorem r_slice {r : V → Option Int → Option Int → Hp → VK → Prop} {tl th : TO} (h : te σ H fun x H1 => tl σ H1 fun l H2 => th σ H2 fun u H3 => r x l u H3 Q) : tSl r te tl th σ H Q := h
theorem r_noPart {Q : Option Int → Hp → Prop} (h : Q none H) : tNoPart σ H Q := h
theorem r_part {Q : Option Int → Hp → Prop} (h : te σ H fun x H1 => ∃ i, x = .int i ∧ Q (some i) H1) : tPart te σ H Q := h
theorem r_ex {P : Int → Prop} (h : P i) : ∃ j, V.int i = .int j ∧ P j := ⟨i, rfl, h⟩
theorem r_cat {l b : Addr} {xs zs : List V} (h1 : H l = some (.lst xs)) (h2 : H b = some (.lst zs)) (hz : xs.length + zs.length ≤ 100000) (h : ∀ p, H p = none → Q (.ref p) (upd H p (.lst (xs ++ zs)))) : rCat (.ref l) (.ref b) H Q :=
  ⟨l, b, xs, zs, rfl, rfl, h1, h2, sz_of hz, h⟩
theorem mulL (h : -(2 ^ 64) < i ∧ i < 2 ^ 64) : IntMulOk i j := CMul.ok (.inl h)
theorem mulR (h : -(2 ^ 64) < j ∧ j < 2 ^ 64) : IntMulOk i j := CMul.ok (.inr h)
theorem mulW {a b : Nat} (ha : i.natAbs < 2 ^ a) (hb : j.natAbs < 2 ^ b) (h0 : 0 < a) (h1 : 0 < b) (h : a + b ≤ 1000000) : IntMulOk i j := (wide_mul ha hb h0 h1 h).ok
theorem divP {b : Nat} (h : 0 < j) (hb : j.natAbs < 2 ^ b) (h0 : 0 < b) (h9 : b ≤ 9000) : CDivP i j := ⟨h, Nat.lt_of_lt_of_le (PySem.Flt.log2_lt_of h0 hb) h9⟩
theorem divS (h : 0 < j) (hb : j < 2 ^ 200) : CDivP i j := divP (b := 200) h (by omega) (by decide) (by decide)
theorem bits_lt {i : Int} {b : Nat} (h0 : 0 < b) (hb : i.natAbs < 2 ^ b) : Builtin.Int.intBits i ≤ b := by
  unfold Builtin.Int.intBits
  have := PySem.Flt.log2_lt_of h0 hb
  split <;> omega
theorem powS {b : Nat} (h0 : 0 < b) (hb : i.natAbs < 2 ^ b) (hj : 0 ≤ j) (h : (b : Int) * j ≤ 2 ^ 27) : CPowA i j := ⟨hj, Int.le_trans (Int.mul_le_mul_of_nonneg_right (by have := bits_lt h0 hb; omega) hj) h⟩
end
end Bs

namespace Bs
open PySem PySem.Spec L2
open PyProof.Rows hiding St
/-! ### heaps -/
theorem Same.get {H H' : Hp} {a : Addr} {o : HO} (e : Same H H') (h : H a = some o) : H' a = some o := e _ _ h
theorem ne_none {H : Hp} {a b : Addr} {o : HO} (h' : H b = none) (h : H a = some o) : a ≠ b := ne_of_none h h'
theorem Same.new {H : Hp} {p : Addr} {o : HO} (h : H p = none) : Same H (upd H p o) := fun a u e => (upd_ne (ne_of_none e h)).trans e
theorem Same.newT {H H1 : Hp} {p : Addr} {o : HO} (s : Same H H1) (h : H1 p = none) : Same H (upd H1 p o) := s.trans (Same.new h)
/-- an object that H does not know may change -/
theorem Same.mut {H H1 : Hp} {p : Addr} {o : HO} (s : Same H H1) (h : H p = none) : Same H (upd H1 p o) := fun a u e => (upd_ne (ne_of_none e h)).trans (s a u e)
theorem Same.none {H H1 : Hp} {p : Addr} (s : Same H H1) (h : H1 p = none) : H p = none := s.free h
/-- all but a is as it was -/
def But (a : Addr) (H H' : Hp) : Prop := ∀ b o, b ≠ a → H b = some o → H' b = some o
theorem But.refl (a : Addr) (H : Hp) : But a H H := fun _ _ _ h => h
theorem But.trans {a : Addr} {H H1 H2 : Hp} (x : But a H H1) (y : But a H1 H2) : But a H H2 := fun b o n h => y b o n (x b o n h)
theorem But.of {a : Addr} {H H' : Hp} (s : Same H H') : But a H H' := fun b o _ h => s b o h
theorem But.get {a b : Addr} {H H' : Hp} {o : HO} (e : But a H H') (h : H b = some o) (n : b ≠ a) : H' b = some o := e _ _ n h
theorem But.upd {a : Addr} {H H1 : Hp} {o : HO} (x : But a H H1) : But a H (upd H1 a o) := fun b u n h => (upd_ne n).trans (x b u n h)
theorem But.new {a p : Addr} {H H1 : Hp} {o : HO} (x : But a H H1) (h : H1 p = none) : But a H (L2.upd H1 p o) := x.trans (But.of (Same.new h))
theorem But.mut {a p : Addr} {H H1 : Hp} {o : HO} (x : But a H H1) (h : H p = none) : But a H (L2.upd H1 p o) := fun b u n e => (upd_ne (ne_of_none e h)).trans (x b u n e)
theorem But.seq {K : PySem.W.Frag} {H H' : Hp} {a b : Addr} {xs : List V} (e : But b H H') (h : SqL K H a xs) (n : a ≠ b) : SqL K H' a xs := by
  rcases h with (h | ⟨o, h⟩) | h
  · exact .inl (.inl (e _ _ n h))
  · exact .inl (.inr ⟨o, e _ _ n h⟩)
  · exact .inr h
/-! ### loops -/
section
variable {D : Ends} {σ : L2.St} {H : Hp} {c : TT} {tb : TS}
theorem r_while (W : Nat → L2.St → Hp → Prop) (m : Nat) (w0 : W m σ H) (h : ∀ m σ H, W m σ H → c σ H fun b H1 => if b = true then ∃ N : L2.St → Hp → Prop, (∀ σ' H', N σ' H' → ∃ m', m' < m ∧ W m' σ' H') ∧ tb { D with nx := N, ct := N, bk := D.nx } σ H1 else D.nx σ H1) : tWhile c tb D σ H :=
  ⟨W, ⟨m, w0⟩, h⟩
theorem r_N {m : Nat} {W : Nat → L2.St → Hp → Prop} (h : tb { D with nx := fun σ' H' => ∃ m', m' < m ∧ W m' σ' H', ct := fun σ' H' => ∃ m', m' < m ∧ W m' σ' H', bk := D.nx } σ H) :
    ∃ N : L2.St → Hp → Prop, (∀ σ' H', N σ' H' → ∃ m', m' < m ∧ W m' σ' H') ∧ tb { D with nx := N, ct := N, bk := D.nx } σ H := ⟨_, fun _ _ z => z, h⟩
end
theorem atI_0 {α : Type} {x : α} {xs : List α} : atI (x :: xs) 0 = some x := by
  unfold atI ixN
  rw [if_pos (Int.le_refl _), if_pos (by rw [List.length_cons]; omega)]
  rfl
theorem atI_i {α : Type} {xs : List α} {v : α} {i : Int} (h0 : 0 ≤ i) (h : xs[i.toNat]? = some v) : atI xs i = some v := by
  have := atI_nat h
  rwa [Int.toNat_of_nonneg h0] at this
/-- a draw picks some item of a written list -/
theorem atI_mem {xs : List V} {i : Int} (h0 : 0 ≤ i) (h1 : i < xs.length) : ∃ v, atI xs i = some v ∧ v ∈ xs := by
  have h : i.toNat < xs.length := by omega
  exact ⟨xs[i.toNat], atI_i h0 (List.getElem?_eq_getElem h), List.getElem_mem h⟩
end Bs

namespace Bm
/-! ### binomials: rc s r is the number of states that s slots reach by r rounds -/
def rch : Nat → Nat → Nat
  | 0, _ => 1
  | _ + 1, 0 => 1
  | s + 1, r + 1 => rch s (r + 1) + rch (s + 1) r
termination_by s r => (s, r)
theorem rch_z (r : Nat) : rch 0 r = 1 := by rw [rch]
theorem rch_s0 (s : Nat) : rch s 0 = 1 := by cases s <;> rw [rch]
theorem rch_ss (s r : Nat) : rch (s + 1) (r + 1) = rch s (r + 1) + rch (s + 1) r := by rw [rch]
theorem rch_pos : ∀ s r : Nat, 1 ≤ rch s r
  | 0, r => by rw [rch_z]; exact Nat.le_refl _
  | s + 1, 0 => by rw [rch_s0]; exact Nat.le_refl _
  | s + 1, r + 1 => by rw [rch_ss]; have := rch_pos s (r + 1); omega
termination_by s r => (s, r)
theorem rch_1 : ∀ r : Nat, rch 1 r = r + 1
  | 0 => by rw [rch_s0]
  | r + 1 => by rw [rch_ss, rch_z, rch_1 r]; omega
/-- (s + 1) C(s + 1 + r, r) = (s + 1 + r) C(s + r, r) and its twin by r -/
theorem rch_prod : ∀ s r : Nat, (s + 1) * rch (s + 1) r = (s + 1 + r) * rch s r ∧ r * rch (s + 1) r = (s + 1 + r) * rch (s + 1) (r - 1) - (if r = 0 then (s + 1) else 0)
  | s, 0 => by
    refine ⟨by rw [rch_s0, rch_s0], ?_⟩
    rw [if_pos rfl]
    show 0 * rch (s + 1) 0 = (s + 1 + 0) * rch (s + 1) 0 - (s + 1)
    rw [rch_s0]; omega
  | 0, r + 1 => by
    refine ⟨by rw [rch_1, rch_z]; omega, ?_⟩
    rw [rch_1, if_neg (by omega)]
    show (r + 1) * (r + 1 + 1) = (0 + 1 + (r + 1)) * rch 1 r - 0
    rw [rch_1, Nat.sub_zero, Nat.mul_comm]
    congr 1 <;> omega
  | s + 1, r + 1 => by
    obtain ⟨a1, a2⟩ := rch_prod s (r + 1)
    obtain ⟨b1, b2⟩ := rch_prod (s + 1) r
    rw [if_neg (by omega)] at a2
    have e2 : rch (s + 1 + 1) (r + 1) = rch (s + 1) (r + 1) + rch (s + 1 + 1) r := rch_ss (s + 1) r
    have a2' : (r + 1) * rch (s + 1) (r + 1) = (s + 1 + (r + 1)) * rch (s + 1) r := by simpa using a2
    -- x = rch (s+1) (r+1), y = rch (s+2) r, z = rch (s+1) r
    have b1' : (s + 1 + 1) * rch (s + 1 + 1) r = (s + 1 + 1 + r) * rch (s + 1) r := b1
    have key : (r + 1) * rch (s + 1) (r + 1) = (s + 1 + 1) * rch (s + 1 + 1) r := by
      rw [a2', b1']
      congr 1 <;> omega
    constructor
    · rw [e2, Nat.mul_add]
      rw [← key, ← Nat.add_mul]
    · rw [if_neg (by omega), Nat.sub_zero, e2, Nat.mul_add, key, ← Nat.add_mul]
      show (s + 1 + 1 + (r + 1)) * rch (s + 1 + 1) r = (s + 1 + 1 + (r + 1)) * rch (s + 1 + 1) (r + 1 - 1)
      rw [Nat.add_sub_cancel]
termination_by s r => (s, r)
def rc (s : Nat) (r : Int) : Int := if s = 0 then 1 else if r < 0 then 0 else (rch s r.toNat : Nat)
theorem rc_0 (r : Int) : rc 0 r = 1 := by unfold rc; rw [if_pos rfl]
theorem rc_neg {s : Nat} {r : Int} (h : r < 0) : rc (s + 1) r = 0 := by unfold rc; rw [if_neg (by omega), if_pos h]
theorem rc_nat (s r : Nat) : rc s (r : Int) = (rch s r : Nat) := by
  unfold rc
  by_cases h : s = 0
  · subst h; rw [if_pos rfl, rch_z]; rfl
  · rw [if_neg h, if_neg (by omega), Int.toNat_natCast]
theorem rc_of {s : Nat} {r : Int} (h : 0 ≤ r) : rc s r = (rch s r.toNat : Nat) := by
  have := rc_nat s r.toNat
  rwa [Int.toNat_of_nonneg h] at this
theorem rc_pascal {s : Nat} {r : Int} (h : 0 ≤ r) : rc (s + 1) r = rc s r + rc (s + 1) (r - 1) := by
  rw [rc_of h, rc_of h]
  by_cases h0 : r = 0
  · subst h0
    rw [rc_neg (by omega)]
    show ((rch (s + 1) 0 : Nat) : Int) = (rch s 0 : Nat) + 0
    rw [rch_s0, rch_s0]; rfl
  · have e : r.toNat = (r - 1).toNat + 1 := by omega
    rw [rc_of (s := s + 1) (show 0 ≤ r - 1 by omega), e, rch_ss]
    omega
theorem rc_pos {s : Nat} {r : Int} (h : 0 ≤ r) : 1 ≤ rc s r := by
  rw [rc_of h]
  have := rch_pos s r.toNat
  omega
theorem rc_nn (s : Nat) (r : Int) : 0 ≤ rc s r := by
  unfold rc
  split
  · omega
  · split <;> omega
theorem rc_step (s : Nat) (r : Int) : rc s (r - 1) ≤ rc s r := by
  cases s with
  | zero => rw [rc_0, rc_0]; omega
  | succ s =>
    by_cases h : r < 0
    · rw [rc_neg (by omega), rc_neg h]; omega
    · have := rc_pascal (s := s) (r := r) (by omega)
      have := rc_nn s r
      omega
theorem rc_lt {s : Nat} {r : Int} (h : 0 ≤ r) : rc (s + 1) (r - 1) < rc (s + 1) r := by
  have := rc_pascal (s := s) h
  have := rc_pos (s := s) h
  omega
theorem rc_mono {s : Nat} {r q : Int} (h : r ≤ q) : rc s r ≤ rc s q := by
  obtain ⟨k, rfl⟩ : ∃ k : Nat, q = r + k := ⟨(q - r).toNat, by omega⟩
  clear h
  induction k with
  | zero => simp
  | succ k ih =>
    have := rc_step s (r + (k + 1 : Nat))
    have e : r + ((k + 1 : Nat) : Int) - 1 = r + (k : Int) := by omega
    rw [e] at this
    omega
theorem rc_smaller {s : Nat} {r : Int} (h : 0 ≤ r) : rc s r ≤ rc (s + 1) r := by
  have := rc_pascal (s := s) h
  have := rc_nn (s + 1) (r - 1)
  omega
theorem rc_1 {r : Int} (h : -1 ≤ r) : rc 1 r = r + 1 := by
  by_cases h0 : r < 0
  · rw [rc_neg h0]; omega
  · rw [rc_of (by omega), rch_1]; omega
theorem rc_smono {s q : Nat} {r : Int} (h : 0 ≤ r) (hs : s ≤ q) : rc s r ≤ rc q r := by
  induction q with
  | zero => rw [show s = 0 by omega]; omega
  | succ q ih =>
    by_cases e : s = q + 1
    · rw [e]; omega
    · have := ih (by omega)
      have := rc_smaller (s := q) h
      omega
theorem rc_lin {s : Nat} {r : Int} (h : -1 ≤ r) : r + 1 ≤ rc (s + 1) r := by
  by_cases h0 : r < 0
  · rw [rc_neg h0]; omega
  · have := rc_smono (s := 1) (q := s + 1) (r := r) (by omega) (by omega)
    rw [rc_1 h] at this
    exact this
theorem rc_prod {s : Nat} {r : Int} (h : -1 ≤ r) : rc s r * (r + s + 1) = ((s : Int) + 1) * rc (s + 1) r := by
  by_cases h0 : r < 0
  · have e : r = -1 := by omega
    subst e
    rw [rc_neg (s := s) (by omega)]
    cases s with
    | zero => rw [rc_0]; simp
    | succ s => rw [rc_neg (by omega)]; simp
  · rw [rc_of (by omega), rc_of (by omega)]
    have := (rch_prod s r.toNat).1
    have e : (r + s + 1 : Int) = ((s + 1 + r.toNat : Nat) : Int) := by omega
    rw [e, Int.mul_comm]
    have e2 : ((s : Int) + 1) = ((s + 1 : Nat) : Int) := by omega
    rw [e2, ← Int.natCast_mul, ← Int.natCast_mul, this]
theorem rc_div {s : Nat} {r : Int} (h : -1 ≤ r) : rc s r * (r + s + 1) / ((s : Int) + 1) = rc (s + 1) r := by
  rw [rc_prod h, Int.mul_ediv_cancel_left _ (by omega)]
/-- a form that computes -/
def rcC : Nat → Int → Int
  | 0, _ => 1
  | s + 1, r => rcC s r * (r + s + 1) / ((s : Int) + 1)
theorem rcC_eq {r : Int} (h : -1 ≤ r) : ∀ s : Nat, rcC s r = rc s r
  | 0 => by rw [rc_0]; rfl
  | s + 1 => by rw [rcC, rcC_eq h s, rc_div h]
/-- a bound that suffices for the sizes of products -/
theorem rc_le {r : Int} (h : -1 ≤ r) (hr : r ≤ 2 ^ 110) : ∀ s : Nat, s ≤ 1000 → rc s r ≤ 2 ^ (111 * s)
  | 0, _ => by rw [rc_0]; decide
  | s + 1, hs => by
    have ih := rc_le h hr s (by omega)
    have h1 := rc_prod (s := s) h
    have h0 := rc_nn s r
    have h2 := rc_nn (s + 1) r
    have a : rc (s + 1) r ≤ ((s : Int) + 1) * rc (s + 1) r := by
      have := Int.mul_le_mul_of_nonneg_right (show (1 : Int) ≤ (s : Int) + 1 by omega) h2
      omega
    have b : rc s r * (r + s + 1) ≤ 2 ^ (111 * s) * 2 ^ 111 := by
      refine Int.le_trans (Int.mul_le_mul_of_nonneg_left (show r + s + 1 ≤ 2 ^ 111 by omega) h0) (Int.mul_le_mul_of_nonneg_right ih (by decide))
    have e : (2 : Int) ^ (111 * (s + 1)) = 2 ^ (111 * s) * 2 ^ 111 := by
      rw [Nat.mul_add, Int.pow_add]
    rw [e]
    omega
/-! ### rounds -/
structure IsR (n : Int) (s : Nat) (r : Int) : Prop where
  nn : 0 ≤ r
  hi : n ≤ rc s r
  lo : rc s (r - 1) < n
theorem IsR.le {n q : Int} {s : Nat} {r : Int} (h : IsR n s r) (hq : n ≤ rc s q) : r ≤ q := by
  apply Decidable.byContradiction
  intro c
  have := rc_mono (s := s) (r := q) (q := r - 1) (by omega)
  have := h.lo
  omega
theorem IsR.uniq {n : Int} {s : Nat} {r q : Int} (h : IsR n s r) (g : IsR n s q) : r = q := by
  have := h.le g.hi
  have := g.le h.hi
  omega
def rhoF (n : Int) (s : Nat) : Nat → Int → Int
  | 0, r => r
  | f + 1, r => if n ≤ rc s r then r else rhoF n s f (r + 1)
def rho (n : Int) (s : Nat) : Int := rhoF n s n.toNat 0
theorem rhoF_is {n : Int} {s : Nat} : ∀ (f : Nat) (r : Int), 0 ≤ r → rc (s + 1) (r - 1) < n → n ≤ rc (s + 1) (r + f) → IsR n (s + 1) (rhoF n (s + 1) f r)
  | 0, r, h0, h1, h2 => ⟨h0, by simpa [rhoF] using h2, h1⟩
  | f + 1, r, h0, h1, h2 => by
    unfold rhoF
    by_cases c : n ≤ rc (s + 1) r
    · rw [if_pos c]; exact ⟨h0, c, h1⟩
    · rw [if_neg c]
      refine rhoF_is f (r + 1) (by omega) ?_ ?_
      · rw [show r + 1 - 1 = r by omega]; omega
      · rw [show r + 1 + (f : Int) = r + ((f + 1 : Nat) : Int) by omega]; exact h2
theorem rho_is {n : Int} {s : Nat} (hn : 1 ≤ n) (hs : 1 ≤ s) : IsR n s (rho n s) := by
  obtain ⟨s, rfl⟩ : ∃ k, s = k + 1 := ⟨s - 1, by omega⟩
  refine rhoF_is _ 0 (by omega) ?_ ?_
  · rw [rc_neg (by omega)]; omega
  · have := rc_lin (s := s) (r := 0 + (n.toNat : Int)) (by omega)
    omega
theorem rho_eq {n : Int} {s : Nat} {r : Int} (hn : 1 ≤ n) (hs : 1 ≤ s) (h : IsR n s r) : rho n s = r := (rho_is hn hs).uniq h
theorem rho_lt {n : Int} {s : Nat} (hn : 1 ≤ n) (hs : 1 ≤ s) : rho n s < n := by
  have h := rho_is hn hs
  obtain ⟨s, rfl⟩ : ∃ k, s = k + 1 := ⟨s - 1, by omega⟩
  have := rc_lin (s := s) (r := rho n (s + 1) - 1) (by have := h.nn; omega)
  have := h.lo
  omega
theorem rho_0 {s : Nat} (hs : 1 ≤ s) : rho 1 s = 0 := by
  obtain ⟨s, rfl⟩ : ∃ k, s = k + 1 := ⟨s - 1, by omega⟩
  refine rho_eq (by omega) (by omega) ⟨by omega, rc_pos (by omega), ?_⟩
  rw [rc_neg (by omega)]; omega
theorem rho_pos {n : Int} {s : Nat} (hn : 2 ≤ n) (hs : 1 ≤ s) : 1 ≤ rho n s := by
  have h := rho_is (n := n) (by omega) hs
  apply Decidable.byContradiction
  intro c
  have e : rho n s = 0 := by have := h.nn; omega
  have := h.hi
  rw [e, rc_of (by omega), show (0 : Int).toNat = 0 from rfl, rch_s0] at this
  omega
theorem rho_mono {n m : Int} {s : Nat} (hn : 1 ≤ n) (h : n ≤ m) (hs : 1 ≤ s) : rho n s ≤ rho m s :=
  (rho_is hn hs).le (Int.le_trans h (rho_is (by omega) hs).hi)
theorem rho_smono {n : Int} {s q : Nat} (hn : 1 ≤ n) (hs : 1 ≤ s) (h : s ≤ q) : rho n q ≤ rho n s := by
  have a := rho_is hn hs
  have b := rho_is (s := q) hn (by omega)
  exact b.le (Int.le_trans a.hi (rc_smono a.nn h))
/-! ### the least steps -/
def gg (n : Int) (s : Nat) (k : Int) : Int := k * n - rc (s + 1) (k - 1)
def tt (n : Int) (s : Nat) : Int := gg n s (rho n s)
theorem gg_step {n : Int} {s : Nat} {k : Int} (h : 0 ≤ k) : gg n s (k + 1) = gg n s k + (n - rc s k) := by
  unfold gg
  have := rc_pascal (s := s) (r := k) h
  rw [Int.add_mul, show k + 1 - 1 = k by omega]
  omega
theorem gg_up {n : Int} {s : Nat} {k : Int} (h0 : 0 ≤ k) : ∀ (j : Nat), n ≥ rc s (k + j - 1) → gg n s k ≤ gg n s (k + j) ∧ (n > rc s k → 1 ≤ j → gg n s k < gg n s (k + j))
  | 0, _ => by simp
  | j + 1, h => by
    have e : k + ((j + 1 : Nat) : Int) = (k + j) + 1 := by omega
    rw [e] at h ⊢
    rw [show k + (j : Int) + 1 - 1 = k + j by omega] at h
    have h1 := rc_mono (s := s) (r := k + j - 1) (q := k + j) (by omega)
    have ih := gg_up (n := n) (s := s) h0 j (by omega)
    rw [gg_step (by omega)]
    refine ⟨by have := ih.1; omega, fun c _ => ?_⟩
    cases j with
    | zero => simp at c h ⊢; omega
    | succ j => have := ih.2 c (by omega); omega
theorem gg_down {n : Int} {s : Nat} {k : Int} (h0 : 0 ≤ k) (h : n ≤ rc s k) : ∀ (j : Nat), gg n s (k + j) ≤ gg n s k ∧ (n < rc s (k + j - 1) → 1 ≤ j → gg n s (k + j) < gg n s k)
  | 0 => by simp
  | j + 1 => by
    have e : k + ((j + 1 : Nat) : Int) = (k + j) + 1 := by omega
    rw [e, show k + (j : Int) + 1 - 1 = k + j by omega]
    have h1 := rc_mono (s := s) (r := k) (q := k + j) (by omega)
    have ih := (gg_down (n := n) (s := s) h0 h j).1
    rw [gg_step (by omega)]
    exact ⟨by omega, fun c _ => by omega⟩
/-- tt is the greatest of the lines gg -/
theorem gg_le {n : Int} {s : Nat} {k : Int} (hn : 1 ≤ n) (hs : 1 ≤ s) (hk : 0 ≤ k) : gg n s k ≤ tt n s := by
  have h := rho_is hn hs
  have := h.lo
  have := h.hi
  unfold tt
  by_cases c : k ≤ rho n s
  · obtain ⟨j, e⟩ : ∃ j : Nat, rho n s = k + j := ⟨(rho n s - k).toNat, by omega⟩
    have := (gg_up (n := n) (s := s) hk j (by rw [← e]; omega)).1
    rw [← e] at this
    exact this
  · obtain ⟨j, e⟩ : ∃ j : Nat, k = rho n s + j := ⟨(k - rho n s).toNat, by omega⟩
    have := (gg_down h.nn h.hi j).1
    rw [← e] at this
    exact this
theorem gg_eq {n : Int} {s : Nat} {k : Int} (hn : 1 ≤ n) (hs : 1 ≤ s) (hk : 0 ≤ k) : gg n s k = tt n s ↔ rc s (k - 1) ≤ n ∧ n ≤ rc s k := by
  have h := rho_is hn hs
  have h1 := h.lo
  have h2 := h.hi
  unfold tt
  by_cases c : k ≤ rho n s
  · obtain ⟨j, e⟩ : ∃ j : Nat, rho n s = k + j := ⟨(rho n s - k).toNat, by omega⟩
    have u := gg_up (n := n) (s := s) hk j (by rw [← e]; omega)
    rw [← e] at u
    have m1 := rc_mono (s := s) (r := k - 1) (q := rho n s - 1) (by omega)
    constructor
    · intro q
      refine ⟨by omega, ?_⟩
      apply Decidable.byContradiction
      intro d
      by_cases j0 : j = 0
      · subst j0; rw [show rho n s = k by omega] at h2; omega
      · have := u.2 (by omega) (by omega)
        omega
    · rintro ⟨_, q⟩
      by_cases j0 : j = 0
      · rw [e, j0]; simp
      · -- n > rc s (rho - 1) ≥ rc s k ≥ n
        have m2 := rc_mono (s := s) (r := k) (q := rho n s - 1) (by omega)
        omega
  · obtain ⟨j, e⟩ : ∃ j : Nat, k = rho n s + j := ⟨(k - rho n s).toNat, by omega⟩
    have u := gg_down (n := n) (s := s) h.nn h.hi j
    rw [← e] at u
    have m1 := rc_mono (s := s) (r := rho n s) (q := k) (by omega)
    constructor
    · intro q
      refine ⟨?_, by omega⟩
      apply Decidable.byContradiction
      intro d
      have := u.2 (by omega) (by omega)
      omega
    · rintro ⟨q, _⟩
      -- rc s (k - 1) ≤ n ≤ rc s rho ≤ rc s (k - 1): all steps between are nought
      have z : ∀ i : Nat, i ≤ j → gg n s (rho n s + i) = gg n s (rho n s) := by
        intro i
        induction i with
        | zero => intro _; simp
        | succ i ih =>
          intro hi
          rw [show rho n s + ((i + 1 : Nat) : Int) = (rho n s + i) + 1 by omega, gg_step (by have := h.nn; omega), ih (by omega)]
          have m2 := rc_mono (s := s) (r := rho n s) (q := rho n s + i) (by omega)
          have m3 := rc_mono (s := s) (r := rho n s + i) (q := k - 1) (by omega)
          omega
      rw [e]
      exact z j (Nat.le_refl _)
theorem tt_1 {s : Nat} (hs : 1 ≤ s) : tt 1 s = 0 := by
  unfold tt gg
  rw [rho_0 hs, rc_neg (by omega)]
  omega
/-- one state more: as many steps more as its rounds -/
theorem tt_step {n : Int} {s : Nat} (hn : 1 ≤ n) (hs : 1 ≤ s) : tt (n + 1) s = tt n s + rho (n + 1) s := by
  have h := rho_is (n := n + 1) (by omega) hs
  have e := (gg_eq (n := n) (s := s) (k := rho (n + 1) s) hn hs h.nn).mpr ⟨by have := h.lo; omega, by have := h.hi; omega⟩
  rw [← e]
  show gg (n + 1) s (rho (n + 1) s) = gg n s (rho (n + 1) s) + rho (n + 1) s
  unfold gg
  rw [Int.mul_add]
  omega
theorem tt_nn {n : Int} {s : Nat} (hn : 1 ≤ n) (hs : 1 ≤ s) : 0 ≤ tt n s := by
  have := gg_le (n := n) (s := s) (k := 0) hn hs (by omega)
  unfold gg at this
  rw [rc_neg (by omega)] at this
  omega
/-- more slots: no more steps -/
theorem tt_smono {n : Int} {s : Nat} (hn : 1 ≤ n) (hs : 1 ≤ s) : tt n (s + 1) ≤ tt n s := by
  have h := rho_is (n := n) (s := s + 1) hn (by omega)
  have a := gg_le (n := n) (s := s) (k := rho n (s + 1)) hn hs h.nn
  have : gg n (s + 1) (rho n (s + 1)) ≤ gg n s (rho n (s + 1)) := by
    unfold gg
    by_cases c : rho n (s + 1) - 1 < 0
    · rw [rc_neg c, rc_neg c]; omega
    · have := rc_smaller (s := s + 1) (r := rho n (s + 1) - 1) (by omega)
      omega
  unfold tt at a ⊢
  omega
/-! ### splits -/
/-- the steps of a split at m, less the least -/
def loss (n : Int) (s : Nat) (m : Int) : Int := m + tt (n - m) (s - 1) + tt m s - tt n s
def spLo (n : Int) (s : Nat) : Int := max (max 1 (rc s (rho n s - 2))) (n - rc (s - 1) (rho n s))
def spHi (n : Int) (s : Nat) : Int := min (min (n - 1) (rc s (rho n s - 1))) (n - rc (s - 1) (rho n s - 1))
section
variable {n m : Int} {s : Nat}
theorem split_sum {r : Int} (hr : 1 ≤ r) (hs : 2 ≤ s) : m + gg (n - m) (s - 1) r + gg m s (r - 1) = gg n s r := by
  unfold gg
  have e : s - 1 + 1 = s := by omega
  have := rc_pascal (s := s) (r := r - 1) (by omega)
  have e1 : r * (n - m) = r * n - r * m := Int.mul_sub ..
  have e2 : (r - 1) * m = r * m - m := by rw [Int.sub_mul, Int.one_mul]
  rw [e, e1, e2]
  omega
theorem loss_nn (hn : 2 ≤ n) (hs : 2 ≤ s) (h1 : 1 ≤ m) (h2 : m < n) : 0 ≤ loss n s m := by
  have hr := rho_pos (n := n) (s := s) hn (by omega)
  have a := gg_le (n := n - m) (s := s - 1) (k := rho n s) (by omega) (by omega) (by omega)
  have b := gg_le (n := m) (s := s) (k := rho n s - 1) h1 (by omega) (by omega)
  have c := split_sum (n := n) (m := m) (s := s) hr hs
  unfold loss
  have d : tt n s = gg n s (rho n s) := rfl
  omega
theorem loss_0 (hn : 2 ≤ n) (hs : 2 ≤ s) (h1 : 1 ≤ m) (h2 : m < n) : loss n s m = 0 ↔ spLo n s ≤ m ∧ m ≤ spHi n s := by
  have hr := rho_pos (n := n) (s := s) hn (by omega)
  have a := gg_le (n := n - m) (s := s - 1) (k := rho n s) (by omega) (by omega) (by omega)
  have b := gg_le (n := m) (s := s) (k := rho n s - 1) h1 (by omega) (by omega)
  have a' := gg_eq (n := n - m) (s := s - 1) (k := rho n s) (by omega) (by omega) (by omega)
  have b' := gg_eq (n := m) (s := s) (k := rho n s - 1) h1 (by omega) (by omega)
  have c := split_sum (n := n) (m := m) (s := s) hr hs
  have d : tt n s = gg n s (rho n s) := rfl
  rw [show rho n s - 1 - 1 = rho n s - 2 by omega] at b'
  have e : loss n s m = 0 ↔ gg (n - m) (s - 1) (rho n s) = tt (n - m) (s - 1) ∧ gg m s (rho n s - 1) = tt m s := by
    unfold loss
    constructor
    · intro q
      exact ⟨by omega, by omega⟩
    · rintro ⟨q1, q2⟩
      omega
  rw [e, a', b']
  unfold spLo spHi
  omega
theorem split_range (hn : 2 ≤ n) (hs : 2 ≤ s) : 1 ≤ spLo n s ∧ spLo n s ≤ spHi n s ∧ spHi n s < n := by
  have hr := rho_pos (n := n) (s := s) hn (by omega)
  have h := rho_is (n := n) (s := s) (by omega) (by omega)
  have h1 := h.lo
  have h2 := h.hi
  obtain ⟨s, rfl⟩ : ∃ k, s = k + 2 := ⟨s - 2, by omega⟩
  have e : s + 2 - 1 = s + 1 := by omega
  have p1 := rc_pascal (s := s + 1) (r := rho n (s + 2)) (by omega)
  have p2 := rc_pascal (s := s + 1) (r := rho n (s + 2) - 1) (by omega)
  have q1 := rc_pos (s := s + 2) (r := rho n (s + 2) - 1) (by omega)
  have q2 := rc_pos (s := s + 1) (r := rho n (s + 2)) (by omega)
  have q3 := rc_pos (s := s + 1) (r := rho n (s + 2) - 1) (by omega)
  have m1 := rc_step (s + 2) (rho n (s + 2) - 1)
  have m2 := rc_step (s + 1) (rho n (s + 2))
  rw [show rho n (s + 2) - 1 - 1 = rho n (s + 2) - 2 by omega] at *
  have e2 : s + 1 + 1 = s + 2 := rfl
  rw [e2] at p1 p2
  have z := rc_nn (s + 2) (rho n (s + 2) - 2)
  unfold spLo spHi
  rw [e]
  omega
theorem loss_step (hs : 2 ≤ s) (h1 : 1 ≤ m) (h2 : m + 1 < n) : loss n s (m + 1) = loss n s m + 1 + rho (m + 1) s - rho (n - m) (s - 1) := by
  unfold loss
  have a := tt_step (n := m) (s := s) h1 (by omega)
  have b := tt_step (n := n - (m + 1)) (s := s - 1) (by omega) (by omega)
  rw [show n - (m + 1) + 1 = n - m by omega] at b
  omega
theorem loss_falls (hn : 2 ≤ n) (hs : 2 ≤ s) (h1 : 1 ≤ m) (h2 : m < spLo n s) : loss n s (m + 1) ≤ loss n s m := by
  have R := split_range hn hs
  have h := rho_is (n := n) (s := s) (by omega) (by omega)
  have hr := rho_pos (n := n) (s := s) hn (by omega)
  rw [loss_step hs h1 (by omega)]
  have A := rho_is (n := m + 1) (s := s) (by omega) (by omega)
  have B := rho_is (n := n - m) (s := s - 1) (by omega) (by omega)
  have hlo := h.lo
  have hhi := h.hi
  obtain ⟨s, rfl⟩ : ∃ k, s = k + 2 := ⟨s - 2, by omega⟩
  have e : s + 2 - 1 = s + 1 := by omega
  rw [e] at B ⊢
  have h2' := h2
  unfold spLo at h2
  rw [e] at h2
  by_cases c : m < rc (s + 2) (rho n (s + 2) - 2)
  · have a1 := A.le (q := rho n (s + 2) - 2) (by omega)
    have p2 := rc_pascal (s := s + 1) (r := rho n (s + 2) - 1) (by omega)
    rw [show rho n (s + 2) - 1 - 1 = rho n (s + 2) - 2 by omega, show s + 1 + 1 = s + 2 from rfl] at p2
    have b1 : rho n (s + 2) - 1 < rho (n - m) (s + 1) := by
      apply Decidable.byContradiction
      intro d
      have := rc_mono (s := s + 1) (r := rho (n - m) (s + 1)) (q := rho n (s + 2) - 1) (by omega)
      have := B.hi
      omega
    omega
  · have c2 : m < n - rc (s + 1) (rho n (s + 2)) := by
      apply Decidable.byContradiction
      intro d
      have := Int.max_le.mpr ⟨Int.max_le.mpr ⟨h1, Int.not_lt.mp c⟩, Int.not_lt.mp d⟩
      omega
    have a1 := A.le (q := rho n (s + 2)) (by omega)
    have b1 : rho n (s + 2) < rho (n - m) (s + 1) := by
      apply Decidable.byContradiction
      intro d
      have := rc_mono (s := s + 1) (r := rho (n - m) (s + 1)) (q := rho n (s + 2)) (by omega)
      have := B.hi
      omega
    omega
theorem loss_rises (hn : 2 ≤ n) (hs : 2 ≤ s) (h1 : spHi n s < m) (h2 : m < n) : loss n s (m - 1) ≤ loss n s m := by
  have R := split_range hn hs
  have h := rho_is (n := n) (s := s) (by omega) (by omega)
  have hr := rho_pos (n := n) (s := s) hn (by omega)
  have st := loss_step (n := n) (m := m - 1) hs (by omega) (by omega)
  rw [show m - 1 + 1 = m by omega] at st
  have A := rho_is (n := m) (s := s) (by omega) (by omega)
  have B := rho_is (n := n - (m - 1)) (s := s - 1) (by omega) (by omega)
  have hlo := h.lo
  have hhi := h.hi
  obtain ⟨s, rfl⟩ : ∃ k, s = k + 2 := ⟨s - 2, by omega⟩
  have e : s + 2 - 1 = s + 1 := by omega
  rw [e] at B st
  unfold spHi at h1
  rw [e] at h1
  by_cases c : rc (s + 2) (rho n (s + 2) - 1) < m
  · have a1 : rho n (s + 2) - 1 < rho m (s + 2) := by
      apply Decidable.byContradiction
      intro d
      have := rc_mono (s := s + 2) (r := rho m (s + 2)) (q := rho n (s + 2) - 1) (by omega)
      have := A.hi
      omega
    have p1 := rc_pascal (s := s + 1) (r := rho n (s + 2)) (by omega)
    rw [show s + 1 + 1 = s + 2 from rfl] at p1
    have b1 := B.le (q := rho n (s + 2)) (by omega)
    omega
  · have c2 : n - rc (s + 1) (rho n (s + 2) - 1) < m := by omega
    have b1 := B.le (q := rho n (s + 2) - 1) (by omega)
    have p2 := rc_pascal (s := s + 1) (r := rho n (s + 2) - 1) (by omega)
    rw [show rho n (s + 2) - 1 - 1 = rho n (s + 2) - 2 by omega, show s + 1 + 1 = s + 2 from rfl] at p2
    have a1 : rho n (s + 2) - 2 < rho m (s + 2) := by
      apply Decidable.byContradiction
      intro d
      have := rc_mono (s := s + 2) (r := rho m (s + 2)) (q := rho n (s + 2) - 2) (by omega)
      have := A.hi
      omega
    omega
end
end Bm

namespace Bm
def rcI (s r : Int) : Int := rc s.toNat r
def rhoI (n s : Int) : Int := rho n s.toNat
def ggI (n s r : Int) : Int := r * n - rcI (s + 1) (r - 1)
def ttI (n s : Int) : Int := tt n s.toNat
def lossI (n s m : Int) : Int := m + ttI (n - m) (s - 1) + ttI m s - ttI n s
def loI (n s : Int) : Int := max (max 1 (if rhoI n s > 1 then rcI s (rhoI n s - 2) else 0)) (n - rcI (s - 1) (rhoI n s))
def hiI (n s : Int) : Int := min (min (n - 1) (rcI s (rhoI n s - 1))) (n - rcI (s - 1) (rhoI n s - 1))
section
variable {n s m r : Int}
theorem ttI_eq (hs : 0 ≤ s) : ttI n s = ggI n s (rhoI n s) := by
  unfold ttI tt gg ggI rcI rhoI
  rw [show (s + 1).toNat = s.toNat + 1 by omega]
theorem rhoI_nn (hn : 1 ≤ n) (hs : 1 ≤ s) : 0 ≤ rhoI n s := (rho_is hn (by omega)).nn
theorem rhoI_pos (hn : 2 ≤ n) (hs : 1 ≤ s) : 1 ≤ rhoI n s := rho_pos hn (by omega)
theorem rhoI_lt (hn : 1 ≤ n) (hs : 1 ≤ s) : rhoI n s < n := rho_lt hn (by omega)
theorem lossI_eq (hs : 1 ≤ s) : lossI n s m = loss n s.toNat m := by
  unfold lossI loss ttI
  rw [show (s - 1).toNat = s.toNat - 1 by omega]
theorem loI_eq (hn : 1 ≤ n) (hs : 2 ≤ s) : loI n s = spLo n s.toNat := by
  unfold loI spLo rhoI rcI
  rw [show (s - 1).toNat = s.toNat - 1 by omega]
  by_cases c : rho n s.toNat > 1
  · rw [if_pos c]
  · rw [if_neg c]
    obtain ⟨k, e⟩ : ∃ k, s.toNat = k + 1 := ⟨s.toNat - 1, by omega⟩
    by_cases d : rho n s.toNat = 1
    · rw [d, e, rc_neg (s := k) (r := 1 - 2) (by omega)]
    · have := (rho_is (n := n) (s := s.toNat) hn (by omega)).nn
      have e0 : rho n s.toNat = 0 := by omega
      rw [e0, e, rc_neg (s := k) (r := 0 - 2) (by omega)]
theorem hiI_eq (hs : 2 ≤ s) : hiI n s = spHi n s.toNat := by
  unfold hiI spHi rhoI rcI
  rw [show (s - 1).toNat = s.toNat - 1 by omega]
theorem rangeI (hn : 2 ≤ n) (hs : 2 ≤ s) : 1 ≤ loI n s ∧ loI n s ≤ hiI n s ∧ hiI n s < n := by
  rw [loI_eq (by omega) hs, hiI_eq hs]
  exact split_range hn (by omega)
theorem lossI_0 (hn : 2 ≤ n) (hs : 2 ≤ s) (h1 : 1 ≤ m) (h2 : m < n) : lossI n s m = 0 ↔ loI n s ≤ m ∧ m ≤ hiI n s := by
  rw [loI_eq (by omega) hs, hiI_eq hs, lossI_eq (by omega)]
  exact loss_0 hn (by omega) h1 h2
theorem lossI_nn (hn : 2 ≤ n) (hs : 2 ≤ s) (h1 : 1 ≤ m) (h2 : m < n) : 0 ≤ lossI n s m := by
  rw [lossI_eq (by omega)]
  exact loss_nn hn (by omega) h1 h2
theorem lossI_falls (hn : 2 ≤ n) (hs : 2 ≤ s) (h1 : 1 ≤ m) (h2 : m < loI n s) : lossI n s (m + 1) ≤ lossI n s m := by
  rw [loI_eq (by omega) hs] at h2
  rw [lossI_eq (by omega), lossI_eq (by omega)]
  exact loss_falls hn (by omega) h1 h2
theorem lossI_rises (hn : 2 ≤ n) (hs : 2 ≤ s) (h1 : hiI n s < m) (h2 : m < n) : lossI n s (m - 1) ≤ lossI n s m := by
  rw [hiI_eq hs] at h1
  rw [lossI_eq (by omega), lossI_eq (by omega)]
  exact loss_rises hn (by omega) h1 h2
theorem rcI_le (hs : 0 ≤ s) (hs2 : s ≤ 110) (h : -1 ≤ r) (hr : r ≤ 2 ^ 110) : (rcI s r).natAbs < 2 ^ 12300 := by
  have h0 := rc_nn s.toNat r
  have h1 := rc_le h hr s.toNat (by omega)
  unfold rcI
  have h2 : (2 : Int) ^ (111 * s.toNat) ≤ 2 ^ 12210 := by
    have := Nat.pow_le_pow_right (n := 2) (by decide) (show 111 * s.toNat ≤ 12210 by omega)
    exact_mod_cast this
  have h3 : ((rc s.toNat r).natAbs : Int) ≤ 2 ^ 12210 := by
    rw [Int.natAbs_of_nonneg h0]; exact Int.le_trans h1 h2
  have h4 : (2 : Nat) ^ 12210 < 2 ^ 12300 := Nat.pow_lt_pow_right (by decide) (by decide)
  have h5 : (rc s.toNat r).natAbs ≤ 2 ^ 12210 := by exact_mod_cast h3
  omega
end
end Bm
namespace Bs
open PySem PySem.Spec L2 Bm
open PyProof.Rows hiding St
/-! ### promises -/
def sp_is_int (_ : PySem.W.Frag) : Sp := fun vs H Q _ => ∃ i, vs = [.int i] ∧ Q (.bl true) H
def sp_is_whole (_ : PySem.W.Frag) : Sp := fun vs H Q _ => ∃ v lo hi, vs = [.int v, .int lo, .int hi] ∧ Q (.bl (decide (lo ≤ v ∧ v ≤ hi))) H
def sp_require_length (_ : PySem.W.Frag) : Sp := fun vs H Q _ => ∃ n, vs = [.int n] ∧ 1 ≤ n ∧ n ≤ 1000000000000000000000000000000 ∧ Q .non H
def sp_require_slots (_ : PySem.W.Frag) : Sp := fun vs H Q _ => ∃ s, vs = [.int s] ∧ 1 ≤ s ∧ s ≤ 100 ∧ Q .non H
def sp_require_task (_ : PySem.W.Frag) : Sp := fun vs H Q _ => ∃ n s, vs = [.int n, .int s] ∧ 1 ≤ n ∧ n ≤ 1000000000000000000000000000000 ∧ 1 ≤ s ∧ s ≤ 100 ∧ Q .non H
def sp_reach_of (_ : PySem.W.Frag) : Sp := fun vs H Q _ => ∃ s r, vs = [.int s, .int r] ∧ 0 ≤ s ∧ s ≤ 102 ∧ -1 ≤ r ∧ r ≤ 2 ^ 110 ∧ Q (.int (rcI s r)) H
/-- an answer that stands beside new objects -/
def sp_rounds_of (_ : PySem.W.Frag) : Sp := fun vs H Q _ => ∃ n s, vs = [.int n, .int s] ∧ 1 ≤ n ∧ n ≤ 2 ^ 100 ∧ 1 ≤ s ∧ s ≤ 101 ∧ ∀ H', Same H H' → Q (.int (rhoI n s)) H'
def sp_steps_with (_ : PySem.W.Frag) : Sp := fun vs H Q _ => ∃ n s r, vs = [.int n, .int s, .int r] ∧ 1 ≤ n ∧ n ≤ 2 ^ 100 ∧ 1 ≤ s ∧ s ≤ 101 ∧ 0 ≤ r ∧ r ≤ 2 ^ 110 ∧ Q (.int (ggI n s r)) H
def sp_least_of (_ : PySem.W.Frag) : Sp := fun vs H Q _ => ∃ n s, vs = [.int n, .int s] ∧ 1 ≤ n ∧ n ≤ 2 ^ 100 ∧ 1 ≤ s ∧ s ≤ 101 ∧ ∀ H', Same H H' → Q (.int (ttI n s)) H'
def sp_splits_with (_ : PySem.W.Frag) : Sp := fun vs H Q _ => ∃ n s, vs = [.int n, .int s, .int (rhoI n s)] ∧ 2 ≤ n ∧ n ≤ 2 ^ 100 ∧ 2 ≤ s ∧ s ≤ 100 ∧ ∀ p H', Same H H' → H p = none → H' p = some (.tup [.int (loI n s), .int (hiI n s)]) → Q (.ref p) H'
def sp_best_splits (_ : PySem.W.Frag) : Sp := fun vs H Q _ => ∃ n s, vs = [.int n, .int s] ∧ 1 ≤ n ∧ n ≤ 1000000000000000000000000000000 ∧ 1 ≤ s ∧ s ≤ 100 ∧
  ((n = 1 ∨ s = 1) → ∀ H', Same H H' → Q .non H') ∧ (2 ≤ n → 2 ≤ s → ∀ p H', Same H H' → H p = none → H' p = some (.tup [.int (loI n s), .int (hiI n s)]) → Q (.ref p) H')
def sp_split_loss (_ : PySem.W.Frag) : Sp := fun vs H Q _ => ∃ n s m, vs = [.int n, .int s, .int m] ∧ n ≤ 1000000000000000000000000000000 ∧ 2 ≤ s ∧ s ≤ 100 ∧ 1 ≤ m ∧ m < n ∧ ∀ H', Same H H' → Q (.int (lossI n s m)) H'
/-- the draws of a cell: a list of three ints -/
def Bag (H : Hp) (a : Addr) : Prop := ∃ x y z : Int, H a = some (.lst [.int x, .int y, .int z])
def sp_l_bag (_ : PySem.W.Frag) : Sp := fun vs H Q _ => ∃ c, vs = [.int c] ∧ ∀ p H', Same H H' → H p = none → Bag H' p → Q (.ref p) H'
def sp_l_pick (_ : PySem.W.Frag) : Sp := fun vs H Q _ => ∃ a m, vs = [.ref a, .int m] ∧ 1 ≤ m ∧ m < 2 ^ 200 ∧ Bag H a ∧ ∀ r H', 0 ≤ r → r < m → But a H H' → Bag H' a → Q (.int r) H'
def sp_l_reach (_ : PySem.W.Frag) : Sp := fun vs H Q _ => ∃ s r, vs = [.int s, .int r] ∧ 0 ≤ s ∧ s ≤ 102 ∧ -1 ≤ r ∧ r ≤ 2 ^ 110 ∧ Q (.int (rcI s r)) H
def sp_l_rounds (_ : PySem.W.Frag) : Sp := fun vs H Q _ => ∃ n s, vs = [.int n, .int s] ∧ 1 ≤ n ∧ n ≤ 2 ^ 100 ∧ 1 ≤ s ∧ s ≤ 101 ∧ ∀ H', Same H H' → Q (.int (rhoI n s)) H'
def sp_l_least (_ : PySem.W.Frag) : Sp := fun vs H Q _ => ∃ n s, vs = [.int n, .int s] ∧ 1 ≤ n ∧ n ≤ 2 ^ 100 ∧ 1 ≤ s ∧ s ≤ 101 ∧ ∀ H', Same H H' → Q (.int (ttI n s)) H'
def sp_l_task (_ : PySem.W.Frag) : Sp := fun vs H Q _ => ∃ a, vs = [.ref a] ∧ Bag H a ∧ ∀ n s p H', 1 ≤ n → n ≤ 1000000000000000000000000000000 → 1 ≤ s → s ≤ 100 → But a H H' → Bag H' a → H p = none → H' p = some (.tup [.int n, .int s]) → Q (.ref p) H'
def sp_l_loss (_ : PySem.W.Frag) : Sp := fun vs H Q _ => ∃ n s m, vs = [.int n, .int s, .int m] ∧ n ≤ 1000000000000000000000000000000 ∧ 2 ≤ s ∧ s ≤ 100 ∧ 1 ≤ m ∧ m < n ∧ ∀ H', Same H H' → Q (.int (lossI n s m)) H'
def sp_l_right (_ : PySem.W.Frag) : Sp := fun vs H Q _ => ∃ a, vs = [.ref a] ∧ Bag H a ∧ ∀ H', But a H H' → Bag H' a → Q (.bl true) H'
def sp_law_k11 (K : PySem.W.Frag) : Sp := fun vs H Q _ => ∃ (a : Addr) (ns : List Int), vs = [.ref a] ∧ SqL K H a (ns.map V.int) ∧ ns.length ≤ 63 ∧ ∀ H', Q (.bl true) H'

theorem len_is_int (K : PySem.W.Frag) {vs : List V} {H : Hp} {Q : VK} {E : XK} (h : sp_is_int K vs H Q E) : vs.length = 1 := by
  obtain ⟨_, rfl, _⟩ := h
  rfl
theorem len_is_whole (K : PySem.W.Frag) {vs : List V} {H : Hp} {Q : VK} {E : XK} (h : sp_is_whole K vs H Q E) : vs.length = 3 := by
  obtain ⟨_, _, _, rfl, _⟩ := h
  rfl
theorem len_require_length (K : PySem.W.Frag) {vs : List V} {H : Hp} {Q : VK} {E : XK} (h : sp_require_length K vs H Q E) : vs.length = 1 := by
  obtain ⟨_, rfl, _⟩ := h
  rfl
theorem len_require_slots (K : PySem.W.Frag) {vs : List V} {H : Hp} {Q : VK} {E : XK} (h : sp_require_slots K vs H Q E) : vs.length = 1 := by
  obtain ⟨_, rfl, _⟩ := h
  rfl
theorem len_require_task (K : PySem.W.Frag) {vs : List V} {H : Hp} {Q : VK} {E : XK} (h : sp_require_task K vs H Q E) : vs.length = 2 := by
  obtain ⟨_, _, rfl, _⟩ := h
  rfl
theorem len_reach_of (K : PySem.W.Frag) {vs : List V} {H : Hp} {Q : VK} {E : XK} (h : sp_reach_of K vs H Q E) : vs.length = 2 := by
  obtain ⟨_, _, rfl, _⟩ := h
  rfl
theorem len_rounds_of (K : PySem.W.Frag) {vs : List V} {H : Hp} {Q : VK} {E : XK} (h : sp_rounds_of K vs H Q E) : vs.length = 2 := by
  obtain ⟨_, _, rfl, _⟩ := h
  rfl
theorem len_steps_with (K : PySem.W.Frag) {vs : List V} {H : Hp} {Q : VK} {E : XK} (h : sp_steps_with K vs H Q E) : vs.length = 3 := by
  obtain ⟨_, _, _, rfl, _⟩ := h
  rfl
theorem len_least_of (K : PySem.W.Frag) {vs : List V} {H : Hp} {Q : VK} {E : XK} (h : sp_least_of K vs H Q E) : vs.length = 2 := by
  obtain ⟨_, _, rfl, _⟩ := h
  rfl
theorem len_splits_with (K : PySem.W.Frag) {vs : List V} {H : Hp} {Q : VK} {E : XK} (h : sp_splits_with K vs H Q E) : vs.length = 3 := by
  obtain ⟨_, _, rfl, _⟩ := h
  rfl
theorem len_best_splits (K : PySem.W.Frag) {vs : List V} {H : Hp} {Q : VK} {E : XK} (h : sp_best_splits K vs H Q E) : vs.length = 2 := by
  obtain ⟨_, _, rfl, _⟩ := h
  rfl
theorem len_split_loss (K : PySem.W.Frag) {vs : List V} {H : Hp} {Q : VK} {E : XK} (h : sp_split_loss K vs H Q E) : vs.length = 3 := by
  obtain ⟨_, _, _, rfl, _⟩ := h
  rfl
theorem len_l_bag (K : PySem.W.Frag) {vs : List V} {H : Hp} {Q : VK} {E : XK} (h : sp_l_bag K vs H Q E) : vs.length = 1 := by
  obtain ⟨_, rfl, _⟩ := h
  rfl
theorem len_l_pick (K : PySem.W.Frag) {vs : List V} {H : Hp} {Q : VK} {E : XK} (h : sp_l_pick K vs H Q E) : vs.length = 2 := by
  obtain ⟨_, _, rfl, _⟩ := h
  rfl
theorem len_l_reach (K : PySem.W.Frag) {vs : List V} {H : Hp} {Q : VK} {E : XK} (h : sp_l_reach K vs H Q E) : vs.length = 2 := by
  obtain ⟨_, _, rfl, _⟩ := h
  rfl
theorem len_l_rounds (K : PySem.W.Frag) {vs : List V} {H : Hp} {Q : VK} {E : XK} (h : sp_l_rounds K vs H Q E) : vs.length = 2 := by
  obtain ⟨_, _, rfl, _⟩ := h
  rfl
theorem len_l_least (K : PySem.W.Frag) {vs : List V} {H : Hp} {Q : VK} {E : XK} (h : sp_l_least K vs H Q E) : vs.length = 2 := by
  obtain ⟨_, _, rfl, _⟩ := h
  rfl
theorem len_l_task (K : PySem.W.Frag) {vs : List V} {H : Hp} {Q : VK} {E : XK} (h : sp_l_task K vs H Q E) : vs.length = 1 := by
  obtain ⟨_, rfl, _⟩ := h
  rfl
theorem len_l_loss (K : PySem.W.Frag) {vs : List V} {H : Hp} {Q : VK} {E : XK} (h : sp_l_loss K vs H Q E) : vs.length = 3 := by
  obtain ⟨_, _, _, rfl, _⟩ := h
  rfl
theorem len_l_right (K : PySem.W.Frag) {vs : List V} {H : Hp} {Q : VK} {E : XK} (h : sp_l_right K vs H Q E) : vs.length = 1 := by
  obtain ⟨_, rfl, _⟩ := h
  rfl
theorem len_law_k11 (K : PySem.W.Frag) {vs : List V} {H : Hp} {Q : VK} {E : XK} (h : sp_law_k11 K vs H Q E) : vs.length = 1 := by
  obtain ⟨_, _, rfl, _⟩ := h
  rfl

/-- is_int: slots 0 value -/
abbrev n_is_int : List Str := ["value"]
def t_is_int (K : PySem.W.Frag) : TS :=
  (tRet (tAndV (tCB (rIsi K) (tCons (tVar 0) (tCons (tC (.ty "int")) tNil))) (tNotV (tCB (rIsi K) (tCons (tVar 0) (tCons (tC (.ty "bool")) tNil))))))
/-- is_whole: slots 0 value, 1 low, 2 high -/
abbrev n_is_whole : List Str := ["value", "low", "high"]
def t_is_whole (K : PySem.W.Frag) : TS :=
  (tRet (tAndV (tCall (sp_is_int K) [] E0 (tCons (tVar 0) tNil)) (tChain oLe oLe (tVar 1) (tVar 0) (tVar 2))))
/-- require_length: slots 0 value -/
abbrev n_require_length : List Str := ["value"]
def t_require_length (K : PySem.W.Frag) : TS :=
  (tIfS (tNot (tB (tCall (sp_is_whole K) [] E0 (tCons (tVar 0) (tCons (tC (.int 1)) (tCons (tC (.int 1000000000000000000000000000000)) tNil)))))) tNever tNext)
/-- require_slots: slots 0 value -/
abbrev n_require_slots : List Str := ["value"]
def t_require_slots (K : PySem.W.Frag) : TS :=
  (tIfS (tNot (tB (tCall (sp_is_whole K) [] E0 (tCons (tVar 0) (tCons (tC (.int 1)) (tCons (tC (.int 100)) tNil)))))) tNever tNext)
/-- require_task: slots 0 length, 1 slots -/
abbrev n_require_task : List Str := ["length", "slots"]
def t_require_task (K : PySem.W.Frag) : TS :=
  (tSeq (tDrop (tCall (sp_require_length K) [] E0 (tCons (tVar 0) tNil)))
  (tDrop (tCall (sp_require_slots K) [] E0 (tCons (tVar 1) tNil))))
/-- reach_of: slots 0 slots, 1 rounds, 2 found, 3 turn -/
abbrev n_reach_of : List Str := ["slots", "rounds", "found", "turn"]
def t_reach_of (K : PySem.W.Frag) : TS :=
  (tSeq (tAsg (tC (.int 1)) (gName 2))
  (tSeq (tFor (iRng2 (tCons (tC (.int 1)) (tCons (tOp oAdd (tVar 0) (tC (.int 1))) tNil))) (gName 3)
  (tAsg (tOp oDivP (tOp oMulA (tVar 2) (tOp oAdd (tVar 1) (tVar 3))) (tVar 3)) (gName 2)))
  (tRet (tVar 2))))
/-- rounds_of: slots 0 length, 1 slots, 2 low, 3 high, 4 middle -/
abbrev n_rounds_of : List Str := ["length", "slots", "low", "high", "middle"]
def t_rounds_of (K : PySem.W.Frag) : TS :=
  (tSeq (tAsg (tTup (tCons (tUn uNeg (tC (.int 1))) (tCons (tC (.int 1)) tNil))) (gTup K 2 (gCons (gName 2) (gCons (gName 3) gNil))))
  (tSeq (tWhile (tTest (tOp oLt (tCall (sp_reach_of K) [] E0 (tCons (tVar 1) (tCons (tVar 3) tNil))) (tVar 0)))
  (tPar 2 3 (tCons (tVar 3) (tCons (tOp oMulA (tC (.int 2)) (tVar 3)) tNil))))
  (tSeq (tWhile (tTest (tOp oGt (tOp oSub (tVar 3) (tVar 2)) (tC (.int 1))))
  (tSeq (tAsg (tOp oDivP (tOp oAdd (tVar 2) (tVar 3)) (tC (.int 2))) (gName 4))
  (tIfS (tTest (tOp oLt (tCall (sp_reach_of K) [] E0 (tCons (tVar 1) (tCons (tVar 4) tNil))) (tVar 0))) (tAsg (tVar 4) (gName 2)) (tAsg (tVar 4) (gName 3)))))
  (tRet (tVar 3)))))
/-- steps_with: slots 0 length, 1 slots, 2 rounds -/
abbrev n_steps_with : List Str := ["length", "slots", "rounds"]
def t_steps_with (K : PySem.W.Frag) : TS :=
  (tRet (tOp oSub (tOp oMulA (tVar 2) (tVar 0)) (tCall (sp_reach_of K) [] E0 (tCons (tOp oAdd (tVar 1) (tC (.int 1))) (tCons (tOp oSub (tVar 2) (tC (.int 1))) tNil)))))
/-- least_of: slots 0 length, 1 slots -/
abbrev n_least_of : List Str := ["length", "slots"]
def t_least_of (K : PySem.W.Frag) : TS :=
  (tRet (tCall (sp_steps_with K) [] E0 (tCons (tVar 0) (tCons (tVar 1) (tCons (tCall (sp_rounds_of K) [] E0 (tCons (tVar 0) (tCons (tVar 1) tNil))) tNil)))))
/-- splits_with: slots 0 length, 1 slots, 2 rounds, 3 least -/
abbrev n_splits_with : List Str := ["length", "slots", "rounds", "least"]
def t_splits_with (K : PySem.W.Frag) : TS :=
  (tSeq (tAsg (tCB oMax3 (tCons (tC (.int 1)) (tCons (tIf (tTest (tOp oGt (tVar 2) (tC (.int 1)))) (tCall (sp_reach_of K) [] E0 (tCons (tVar 1) (tCons (tOp oSub (tVar 2) (tC (.int 2))) tNil))) (tC (.int 0))) (tCons (tOp oSub (tVar 0) (tCall (sp_reach_of K) [] E0 (tCons (tOp oSub (tVar 1) (tC (.int 1))) (tCons (tVar 2) tNil)))) tNil)))) (gName 3))
  (tRet (tTup (tCons (tVar 3) (tCons (tCB oMin3 (tCons (tOp oSub (tVar 0) (tC (.int 1))) (tCons (tCall (sp_reach_of K) [] E0 (tCons (tVar 1) (tCons (tOp oSub (tVar 2) (tC (.int 1))) tNil))) (tCons (tOp oSub (tVar 0) (tCall (sp_reach_of K) [] E0 (tCons (tOp oSub (tVar 1) (tC (.int 1))) (tCons (tOp oSub (tVar 2) (tC (.int 1))) tNil)))) tNil)))) tNil)))))
/-- best_splits: slots 0 length, 1 slots -/
abbrev n_best_splits : List Str := ["length", "slots"]
def t_best_splits (K : PySem.W.Frag) : TS :=
  (tSeq (tDrop (tCall (sp_require_task K) [] E0 (tCons (tVar 0) (tCons (tVar 1) tNil))))
  (tSeq (tIfS (tOr (tTest (tOp rEq (tVar 0) (tC (.int 1)))) (tTest (tOp rEq (tVar 1) (tC (.int 1))))) (tRet (tC .non)) tNext)
  (tRet (tCall (sp_splits_with K) [] E0 (tCons (tVar 0) (tCons (tVar 1) (tCons (tCall (sp_rounds_of K) [] E0 (tCons (tVar 0) (tCons (tVar 1) tNil))) tNil)))))))
/-- split_loss: slots 0 length, 1 slots, 2 state, 3 found -/
abbrev n_split_loss : List Str := ["length", "slots", "state", "found"]
def t_split_loss (K : PySem.W.Frag) : TS :=
  (tSeq (tDrop (tCall (sp_require_length K) [] E0 (tCons (tVar 0) tNil)))
  (tSeq (tDrop (tCall (sp_require_slots K) [] E0 (tCons (tVar 1) tNil)))
  (tSeq (tIfS (tTest (tOp rEq (tVar 1) (tC (.int 1)))) tNever tNext)
  (tSeq (tIfS (tNot (tB (tCall (sp_is_whole K) [] E0 (tCons (tVar 2) (tCons (tC (.int 1)) (tCons (tOp oSub (tVar 0) (tC (.int 1))) tNil)))))) tNever tNext)
  (tSeq (tAsg (tOp oAdd (tOp oAdd (tVar 2) (tCall (sp_least_of K) [] E0 (tCons (tOp oSub (tVar 0) (tVar 2)) (tCons (tOp oSub (tVar 1) (tC (.int 1))) tNil)))) (tCall (sp_least_of K) [] E0 (tCons (tVar 2) (tCons (tVar 1) tNil)))) (gName 3))
  (tRet (tOp oSub (tVar 3) (tCall (sp_least_of K) [] E0 (tCons (tVar 0) (tCons (tVar 1) tNil))))))))))
/-- bag: slots 0 l_cell -/
abbrev n_l_bag : List Str := ["_law_cell"]
def t_l_bag (K : PySem.W.Frag) : TS :=
  (tRet (tLst (tCons (tCB oMax2 (tCons (tC (.int 0)) (tCons (tOp oSub (tVar 0) (tOp oPowA (tC (.int 10)) (tC (.int 18)))) tNil))) (tCons (tVar 0) (tCons (tC (.int 0)) tNil)))))
/-- pick: slots 0 l_bag_here, 1 l_many, 2 l_told, 3 l_seed, 4 l_turn, 5 l_first, 6 l_second, 7 l_drawn -/
abbrev n_l_pick : List Str := ["_law_bag_here", "_law_many", "_law_told", "_law_seed", "_law_turn", "_law_first", "_law_second", "_law_drawn"]
def t_l_pick (K : PySem.W.Frag) : TS :=
  (tSeq (tAsg (tOp oAdd (tOp (rIxL K) (tVar 0) (tC (.int 2))) (tC (.int 1))) (gSub (tVar 0) (tC (.int 2)) rSetL))
  (tSeq (tIfS (tTest (tOp oGt (tOp (rIxL K) (tVar 0) (tC (.int 0))) (tC (.int 0)))) (tSeq (tAsg (tOp oModP (tCB oInt (tCons (tOp (rIxL K) (tVar 0) (tC (.int 0))) tNil)) (tVar 1)) (gName 2))
  (tSeq (tAsg (tOp oDivP (tCB oInt (tCons (tOp (rIxL K) (tVar 0) (tC (.int 0))) tNil)) (tVar 1)) (gSub (tVar 0) (tC (.int 0)) rSetL))
  (tRet (tVar 2)))) tNext)
  (tSeq (tPar 3 4 (tCons (tCB oInt (tCons (tOp (rIxL K) (tVar 0) (tC (.int 1))) tNil)) (tCons (tCB oInt (tCons (tOp (rIxL K) (tVar 0) (tC (.int 2))) tNil)) tNil)))
  (tSeq (tAsg (tOp oModP (tCB oInt (tCons (tOp oAdd (tOp oAdd (tOp oMulA (tOp oModP (tVar 3) (tC (.int 2147483629))) (tC (.int 48271))) (tOp oMulA (tVar 4) (tC (.int 69621)))) (tC (.int 12345))) tNil)) (tC (.int 2147483647))) (gName 5))
  (tSeq (tAsg (tOp oModP (tCB oInt (tCons (tOp oAdd (tOp oMulA (tVar 5) (tVar 5)) (tOp oMulA (tVar 4) (tC (.int 40692)))) tNil)) (tC (.int 2147483587))) (gName 6))
  (tSeq (tAsg (tOp oDivP (tCB oInt (tCons (tOp oAdd (tOp oMulA (tVar 5) (tC (.int 2147483587))) (tVar 6)) tNil)) (tC (.int 32))) (gName 7))
  (tSeq (tIfS (tTest (tOp oGt (tVar 1) (tOp oPowA (tC (.int 10)) (tC (.int 15))))) (tAsg (tOp oAdd (tOp oPowA (tVar 7) (tC (.int 8))) (tVar 6)) (gName 7)) tNext)
  (tRet (tOp oModP (tCB oInt (tCons (tVar 7) tNil)) (tVar 1))))))))))
/-- reach: slots 0 l_slots, 1 l_rounds_here, 2 l_found, 3 l_turn -/
abbrev n_l_reach : List Str := ["_law_slots", "_law_rounds_here", "_law_found", "_law_turn"]
def t_l_reach (K : PySem.W.Frag) : TS :=
  (tSeq (tAsg (tC (.int 1)) (gName 2))
  (tSeq (tFor (iRng1 (tCons (tVar 0) tNil)) (gName 3)
  (tAsg (tOp oDivP (tOp oMulA (tVar 2) (tOp oAdd (tOp oAdd (tVar 1) (tVar 3)) (tC (.int 1)))) (tOp oAdd (tVar 3) (tC (.int 1)))) (gName 2)))
  (tRet (tVar 2))))
/-- rounds: slots 0 l_length, 1 l_slots, 2 l_low, 3 l_high, 4 l_middle -/
abbrev n_l_rounds : List Str := ["_law_length", "_law_slots", "_law_low", "_law_high", "_law_middle"]
def t_l_rounds (K : PySem.W.Frag) : TS :=
  (tSeq (tAsg (tTup (tCons (tUn uNeg (tC (.int 1))) (tCons (tC (.int 1)) tNil))) (gTup K 2 (gCons (gName 2) (gCons (gName 3) gNil))))
  (tSeq (tWhile (tTest (tOp oLt (tCall (sp_l_reach K) [] E0 (tCons (tVar 1) (tCons (tVar 3) tNil))) (tVar 0)))
  (tPar 2 3 (tCons (tVar 3) (tCons (tOp oMulA (tC (.int 2)) (tVar 3)) tNil))))
  (tSeq (tWhile (tTest (tOp oGt (tOp oSub (tVar 3) (tVar 2)) (tC (.int 1))))
  (tSeq (tAsg (tOp oDivP (tOp oAdd (tVar 2) (tVar 3)) (tC (.int 2))) (gName 4))
  (tIfS (tTest (tOp oLt (tCall (sp_l_reach K) [] E0 (tCons (tVar 1) (tCons (tVar 4) tNil))) (tVar 0))) (tAsg (tVar 4) (gName 2)) (tAsg (tVar 4) (gName 3)))))
  (tRet (tVar 3)))))
/-- least: slots 0 l_length, 1 l_slots, 2 l_times -/
abbrev n_l_least : List Str := ["_law_length", "_law_slots", "_law_times"]
def t_l_least (K : PySem.W.Frag) : TS :=
  (tSeq (tAsg (tCall (sp_l_rounds K) [] E0 (tCons (tVar 0) (tCons (tVar 1) tNil))) (gName 2))
  (tRet (tOp oSub (tOp oMulA (tVar 2) (tVar 0)) (tCall (sp_l_reach K) [] E0 (tCons (tOp oAdd (tVar 1) (tC (.int 1))) (tCons (tOp oSub (tVar 2) (tC (.int 1))) tNil))))))
/-- task: slots 0 l_bag_here, 1 l_slots, 2 l_length -/
abbrev n_l_task : List Str := ["_law_bag_here", "_law_slots", "_law_length"]
def t_l_task (K : PySem.W.Frag) : TS :=
  (tSeq (tAsg (tOp oAdd (tC (.int 1)) (tCall (sp_l_pick K) [] E0 (tCons (tVar 0) (tCons (tOp (rIxL K) (tLst (tCons (tC (.int 5)) (tCons (tC (.int 100)) tNil))) (tCall (sp_l_pick K) [] E0 (tCons (tVar 0) (tCons (tC (.int 2)) tNil)))) tNil)))) (gName 1))
  (tSeq (tAsg (tOp oAdd (tC (.int 1)) (tCall (sp_l_pick K) [] E0 (tCons (tVar 0) (tCons (tOp (rIxL K) (tLst (tCons (tC (.int 90)) (tCons (tOp oPowA (tC (.int 10)) (tC (.int 12))) (tCons (tOp oPowA (tC (.int 10)) (tC (.int 30))) tNil)))) (tCall (sp_l_pick K) [] E0 (tCons (tVar 0) (tCons (tC (.int 3)) tNil)))) tNil)))) (gName 2))
  (tSeq (tIfS (tTest (tOp rEq (tCall (sp_l_pick K) [] E0 (tCons (tVar 0) (tCons (tC (.int 2)) tNil))) (tC (.int 0)))) (tAsg (tOp oSub (tOp oAdd (tCall (sp_l_reach K) [] E0 (tCons (tVar 1) (tCons (tCall (sp_l_pick K) [] E0 (tCons (tVar 0) (tCons (tC (.int 40)) tNil))) tNil))) (tCall (sp_l_pick K) [] E0 (tCons (tVar 0) (tCons (tC (.int 3)) tNil)))) (tC (.int 1))) (gName 2)) tNext)
  (tRet (tTup (tCons (tCB oMin2 (tCons (tOp oPowA (tC (.int 10)) (tC (.int 30))) (tCons (tCB oMax2 (tCons (tC (.int 1)) (tCons (tVar 2) tNil))) tNil))) (tCons (tVar 1) tNil)))))))
/-- loss: slots 0 l_length, 1 l_slots, 2 l_m, 3 l_found -/
abbrev n_l_loss : List Str := ["_law_length", "_law_slots", "_law_m", "_law_found"]
def t_l_loss (K : PySem.W.Frag) : TS :=
  (tSeq (tAsg (tOp oAdd (tOp oAdd (tVar 2) (tCall (sp_l_least K) [] E0 (tCons (tOp oSub (tVar 0) (tVar 2)) (tCons (tOp oSub (tVar 1) (tC (.int 1))) tNil)))) (tCall (sp_l_least K) [] E0 (tCons (tVar 2) (tCons (tVar 1) tNil)))) (gName 3))
  (tRet (tOp oSub (tVar 3) (tCall (sp_l_least K) [] E0 (tCons (tVar 0) (tCons (tVar 1) tNil))))))
/-- right: slots 0 l_bag_here, 1 l_length, 2 l_slots, 3 l_least_here, 4 l_greatest, 5 l_asked, 6 l_m, 7 l_told, 8 l_near, 9 l_turn -/
abbrev n_l_right : List Str := ["_law_bag_here", "_law_length", "_law_slots", "_law_least_here", "_law_greatest", "_law_asked", "_law_m", "_law_told", "_law_near", "_law_turn"]
def t_l_right (K : PySem.W.Frag) : TS :=
  (tSeq (tAsg (tCall (sp_l_task K) [] E0 (tCons (tVar 0) tNil)) (gTup K 2 (gCons (gName 1) (gCons (gName 2) gNil))))
  (tSeq (tIfS (tOr (tTest (tOp rEq (tVar 1) (tC (.int 1)))) (tTest (tOp rEq (tVar 2) (tC (.int 1))))) (tRet (tOp oIsN (tCall (sp_best_splits K) [] E0 (tCons (tVar 1) (tCons (tVar 2) tNil))) (tC .non))) tNext)
  (tSeq (tAsg (tCall (sp_best_splits K) [] E0 (tCons (tVar 1) (tCons (tVar 2) tNil))) (gTup K 2 (gCons (gName 3) (gCons (gName 4) gNil))))
  (tSeq (tIfS (tNot (tTest (tChain3 oLe oLe oLt (tC (.int 1)) (tVar 3) (tVar 4) (tVar 1)))) (tRet (tC (.bl false))) tNext)
  (tSeq (tAsg (tLst (tCons (tVar 3) (tCons (tVar 4) (tCons (tOp oAdd (tVar 3) (tCall (sp_l_pick K) [] E0 (tCons (tVar 0) (tCons (tOp oAdd (tOp oSub (tVar 4) (tVar 3)) (tC (.int 1))) tNil)))) tNil)))) (gName 5))
  (tSeq (tAsg (tOp rCat (tVar 5) (tLc (iRng1 (tCons (tC (.int 3)) tNil)) (gName 9) tYes (tOp oAdd (tC (.int 1)) (tCall (sp_l_pick K) [] E0 (tCons (tVar 0) (tCons (tOp oSub (tVar 1) (tC (.int 1))) tNil)))) [9])) (gName 5))
  (tSeq (tFor (iList K (tOp rCat (tVar 5) (tLc (iTup K (tTup (tCons (tOp oSub (tVar 3) (tC (.int 1))) (tCons (tOp oAdd (tVar 4) (tC (.int 1))) tNil)))) (gName 6) (tTest (tChain oLt oLt (tC (.int 0)) (tVar 6) (tVar 1))) (tVar 6) [6]))) (gName 6)
  (tSeq (tAsg (tCall (sp_split_loss K) [] E0 (tCons (tVar 1) (tCons (tVar 2) (tCons (tVar 6) tNil)))) (gName 7))
  (tSeq (tIfS (tOr (tTest (tOp rNe (tCB oRepr (tCons (tVar 7) tNil)) (tCB oRepr (tCons (tCall (sp_l_loss K) [] E0 (tCons (tVar 1) (tCons (tVar 2) (tCons (tVar 6) tNil)))) tNil)))) (tTest (tOp rNe (tOp rEq (tVar 7) (tC (.int 0))) (tChain oLe oLe (tVar 3) (tVar 6) (tVar 4))))) (tRet (tC (.bl false))) tNext)
  (tSeq (tAsg (tOp oSub (tOp oAdd (tVar 6) (tCB oInt (tCons (tOp oLt (tVar 6) (tVar 3)) tNil))) (tCB oInt (tCons (tOp oGt (tVar 6) (tVar 4)) tNil))) (gName 8))
  (tIfS (tTest (tOp oGt (tCall (sp_split_loss K) [] E0 (tCons (tVar 1) (tCons (tVar 2) (tCons (tVar 8) tNil)))) (tVar 7))) (tRet (tC (.bl false))) tNext)))))
  (tRet (tC (.bl true))))))))))
/-- law: slots 0 l_script, 1 l_cell, 2 l_bag_here, 3 l_turn -/
abbrev n_law_k11 : List Str := ["_law_script", "_law_cell", "_law_bag_here", "_law_turn"]
def t_law_k11 (K : PySem.W.Frag) : TS :=
  (tSeq (tFor (iList K (tOp rCat (tSl (rSlL K) (tVar 0) tNoPart (tPart (tC (.int 6)))) (tLst (tCons (tC (.int 0)) tNil)))) (gName 1)
  (tSeq (tAsg (tCall (sp_l_bag K) [] E0 (tCons (tVar 1) tNil)) (gName 2))
  (tFor (iRng1 (tCons (tC (.int 3)) tNil)) (gName 3)
  (tIfS (tNot (tB (tCall (sp_l_right K) [] E0 (tCons (tVar 2) tNil)))) (tRet (tC (.bl false))) tNext))))
  (tRet (tAndV (tOp oIsN (tCall (sp_best_splits K) [] E0 (tCons (tOp oPowA (tC (.int 10)) (tC (.int 30))) (tCons (tC (.int 1)) tNil))) (tC .non)) (tOp oGt (tCall (sp_split_loss K) [] E0 (tCons (tOp oPowA (tC (.int 10)) (tC (.int 30))) (tCons (tC (.int 100)) (tCons (tC (.int 1)) tNil)))) (tC (.int 0))))))

end Bs

namespace Bs
open PySem PySem.Spec L2 Bm
open PyProof.Rows hiding St
/-! ### comprehensions, lists of ints -/
section
variable {D : Ends} {σ : L2.St} {H : Hp} {Q : VK} {K : PySem.W.Frag}
theorem r_lc {wi : TI} {g : TG} {tt : TT} {te : TE} {vs : List Nat} (h : wi σ H fun J H1 => ∀ D, H1 D = none → ∃ W : Nat → Nat → Hp → Prop, (∃ m, W 0 m (upd H1 D (.lst []))) ∧ ∀ i m H, W i m H →
  (J.stop i H ∧ Q (.ref D) H) ∨ (J.go i H ∧ ∃ Nx : Hp → Prop, (∀ H', Nx H' → ∃ m', m' < m ∧ W (i + 1) m' H') ∧ ∀ x H', J.yld i H x H' → g x (wipe σ vs) H' fun σ2 H2 => wipe σ2 vs = wipe σ vs ∧ tt σ2 H2 fun b H3 =>
    if b = true then te σ2 H3 fun y H4 => ∃ acc, H4 D = some (.lst acc) ∧ acc.length < sizeLine ∧ Nx (upd H4 D (.lst (acc ++ [y]))) else Nx H3)) : tLc wi g tt te vs σ H Q := h
theorem r_yesT {Q : Bool → Hp → Prop} (h : Q true H) : tYes σ H Q := h
theorem r_same {p : Prop} {x y : L2.St} (e : x = y) (h : p) : x = y ∧ p := ⟨e, h⟩
theorem r_acc {p : Addr} {acc : List V} {v : V} {N : Hp → Prop} (h1 : H p = some (.lst acc)) (h2 : acc.length < 100000) (h3 : N (upd H p (.lst (acc ++ [v])))) : ∃ acc, H p = some (.lst acc) ∧ acc.length < sizeLine ∧ N (upd H p (.lst (acc ++ [v]))) := ⟨acc, h1, sz_lt h2, h3⟩
theorem r_iL {te : TE} {R : It → Hp → Prop} (h : te σ H fun x H1 => ∃ a, x = .ref a ∧ (∃ xs, SqL K H1 a xs) ∧ R (Itl K a) H1) : iList K te σ H R := h
theorem r_iT {te : TE} {R : It → Hp → Prop} (h : te σ H fun x H1 => ∃ a, x = .ref a ∧ (∃ xs, SqT K H1 a xs) ∧ R (Itt K a) H1) : iTup K te σ H R := h
theorem r_refL {p : Addr} {xs : List V} {R : Addr → Prop} (h1 : SqL K H p xs) (h : R p) : ∃ a, V.ref p = .ref a ∧ (∃ xs, SqL K H a xs) ∧ R a := ⟨p, rfl, ⟨xs, h1⟩, h⟩
theorem r_refT {p : Addr} {xs : List V} {R : Addr → Prop} (h1 : SqT K H p xs) (h : R p) : ∃ a, V.ref p = .ref a ∧ (∃ xs, SqT K H a xs) ∧ R a := ⟨p, rfl, ⟨xs, h1⟩, h⟩
theorem r_slL {p : Addr} {xs : List V} {l u : Option Int} (hp : SqL K H p xs) (h : ∀ q, H q = none → Q (.ref q) (upd H q (.lst (cutV xs l u)))) : rSlL K (.ref p) l u H Q := ⟨p, xs, rfl, hp, h⟩
section
variable {A B : Prop} {i : Int} {a : Addr} {b : Bool}
theorem r_nonT (h : A) : if decide (V.non = V.non) = true then A else B := r_yes rfl h
theorem r_nonI (h : B) : if decide (V.int i = V.non) = true then A else B := r_no (fun e => nomatch e) h
theorem r_nonR (h : B) : if decide (V.ref a = V.non) = true then A else B := r_no (fun e => nomatch e) h
theorem r_notT (h : B) : if (!decide (V.non = V.non)) = true then A else B := by rw [decide_eq_true rfl]; exact r_iteNT h
theorem r_notI (h : A) : if (!decide (V.int i = V.non)) = true then A else B := by rw [decide_eq_false (fun e => nomatch e)]; exact r_iteNF h
theorem r_notR (h : A) : if (!decide (V.ref a = V.non)) = true then A else B := by rw [decide_eq_false (fun e => nomatch e)]; exact r_iteNF h
end
theorem r_p64 (h : Q (.int 10000000000000000000000000000000000000000000000000000000000000000) H) : oPowA (.int 10) (.int 64) H Q := ⟨10, 64, rfl, rfl, powS (b := 4) (by decide) (by decide) (by decide) (by decide), h⟩
theorem r_p30 (h : Q (.int 1000000000000000000000000000000) H) : oPowA (.int 10) (.int 30) H Q := ⟨10, 30, rfl, rfl, powS (b := 4) (by decide) (by decide) (by decide) (by decide), h⟩
theorem r_p18 (h : Q (.int 1000000000000000000) H) : oPowA (.int 10) (.int 18) H Q := ⟨10, 18, rfl, rfl, powS (b := 4) (by decide) (by decide) (by decide) (by decide), h⟩
theorem r_p15 (h : Q (.int 1000000000000000) H) : oPowA (.int 10) (.int 15) H Q := ⟨10, 15, rfl, rfl, powS (b := 4) (by decide) (by decide) (by decide) (by decide), h⟩
theorem r_p12 (h : Q (.int 1000000000000) H) : oPowA (.int 10) (.int 12) H Q := ⟨10, 12, rfl, rfl, powS (b := 4) (by decide) (by decide) (by decide) (by decide), h⟩
theorem r_p9 (h : Q (.int 1000000000) H) : oPowA (.int 10) (.int 9) H Q := ⟨10, 9, rfl, rfl, powS (b := 4) (by decide) (by decide) (by decide) (by decide), h⟩
theorem r_p6 (h : Q (.int 1000000) H) : oPowA (.int 10) (.int 6) H Q := ⟨10, 6, rfl, rfl, powS (b := 4) (by decide) (by decide) (by decide) (by decide), h⟩
theorem r_neS {x : Str} (h : Q (.bl false) H) : rNe (.str x) (.str x) H Q := ⟨rfl, by rw [decide_eq_true rfl]; exact h⟩
end
theorem atI_ints {xs : List Int} {i : Int} (h0 : 0 ≤ i) (h1 : i < xs.length) : ∃ v, v ∈ xs ∧ atI (xs.map V.int) i = some (.int v) := by
  have h : i.toNat < xs.length := by omega
  refine ⟨xs[i.toNat], List.getElem_mem h, atI_i h0 ?_⟩
  rw [List.getElem?_map, List.getElem?_eq_getElem h]
  rfl
theorem cut_int {ns : List Int} {l u : Option Int} {x : V} (h : x ∈ cutV (ns.map V.int) l u) : ∃ z ∈ ns, x = .int z := by
  have h1 := List.mem_of_mem_drop (List.mem_of_mem_take h)
  obtain ⟨z, hz, e⟩ := List.mem_map.mp h1
  exact ⟨z, hz, e.symm⟩
/-! ### the draws -/
theorem Bag.ne {H : Hp} {a p : Addr} (g : Bag H a) (h : H p = none) : p ≠ a := by
  rintro rfl
  obtain ⟨x, y, z, e⟩ := g
  rw [h] at e
  cases e
theorem Bag.new {H : Hp} {a p : Addr} {o : HO} (g : Bag H a) (h : H p = none) : Bag (upd H p o) a := by
  obtain ⟨x, y, z, e⟩ := g
  exact ⟨x, y, z, (upd_ne (ne_of_none e h)).trans e⟩
theorem Bag.at {H H' : Hp} {a : Addr} (g : Bag H a) (s : Same H H') : Bag H' a := by
  obtain ⟨x, y, z, e⟩ := g
  exact ⟨x, y, z, s _ _ e⟩
theorem Bag.upd {H : Hp} {a p : Addr} {o : HO} (g : Bag H a) (h : a ≠ p) : Bag (L2.upd H p o) a := by
  obtain ⟨x, y, z, e⟩ := g
  exact ⟨x, y, z, (upd_ne h).trans e⟩
theorem But.free {H H' : Hp} {a p : Addr} (b : But a H H') (h : H' p = none) (n : p ≠ a) : H p = none := by
  cases q : H p with
  | none => rfl
  | some o =>
    rw [b p o n q] at h
    cases h
theorem But.freeB {H H' : Hp} {a p : Addr} (b : But a H H') (h : H' p = none) (g : Bag H' a) : H p = none := b.free h (g.ne h)
end Bs

namespace Bs
open PySem PySem.Spec L2 Bm
open PyProof.Rows hiding St
-- one step of a reading; side conditions; what a heap holds
local macro_rules | `(tactic| walk_at "sc") => `(tactic| (first
  | exact mulL ⟨by omega, by omega⟩ | exact mulR ⟨by omega, by omega⟩ | exact divS (by omega) (by omega) | exact (show (0 : Int) < _ by omega) | exact powS (b := 4) (by decide) (by decide) (by decide) (by decide) | assumption | omega))
local macro_rules | `(tactic| walk_at "ne") => `(tactic| (first
  | assumption | (apply Ne.symm; assumption) | exact ne_none (by assumption) (by walk_at "hp") | exact Ne.symm (ne_none (by assumption) (by walk_at "hp"))))
local macro_rules | `(tactic| walk_at "hp") => `(tactic| (first
  | assumption | exact upd_same | (refine (upd_ne ?k1).trans ?k2; (case k1 => walk_at "ne"); (case k2 => walk_at "hp")) | (refine Same.get (by assumption) ?_; walk_at "hp") | (refine But.get (by assumption) ?k1 ?k2; (case k1 => walk_at "hp"); (case k2 => walk_at "ne"))))
local macro_rules | `(tactic| walk_at "sq") => `(tactic| (first | assumption | exact SqL.of (by walk_at "hp") | exact SqT.of (by walk_at "hp")))
local macro_rules | `(tactic| walk_at "rd1") => `(tactic| (first
  | with_reducible refine r_seq ?_ | with_reducible refine r_asg ?_ | with_reducible refine r_asgG ?_ | with_reducible refine r_op ?_ | with_reducible refine r_var (by with_unfolding_all exact rfl) ?_ | with_reducible refine r_c ?_ | with_reducible refine r_I0 ?_ | with_reducible refine r_p30 ?_ | with_reducible refine r_p18 ?_ | with_reducible refine r_p12 ?_ | with_reducible refine r_p15 ?_ | with_reducible refine r_p9 ?_ | with_reducible refine r_p6 ?_ | with_reducible refine r_p64 ?_ | ((with_reducible refine r_I ?k1 ?k2); (case k1 => walk_at "sc")) | with_reducible refine r_U ?_ | with_reducible refine r_un ?_
  | with_reducible refine r_ret ?_ | with_reducible refine r_ifS ?_ | with_reducible refine r_test ?_ | with_reducible refine r_bl ?_ | with_reducible refine r_cb ?_ | with_reducible refine r_cons ?_ | with_reducible refine r_nil ?_ | with_reducible refine r_intI ?_ | with_reducible refine r_intB ?_ | refine r_max2' ?_ | refine r_min2' ?_ | with_reducible refine r_max3 ?_ | with_reducible refine r_min3 ?_
  | with_reducible refine r_call ?_ | with_reducible refine r_par ?_ | with_reducible refine r_and ?_ | with_reducible refine r_or ?_ | with_reducible refine r_not ?_ | with_reducible refine r_B ?_ | with_reducible refine r_andV ?_ | with_reducible refine r_orV ?_ | with_reducible refine r_notV ?_ | with_reducible refine r_ifE ?_ | with_reducible refine r_eqI ?_ | with_reducible refine r_neI ?_ | with_reducible refine r_eqB ?_ | with_reducible refine r_neB ?_ | with_reducible refine r_isN ?_ | with_reducible refine r_notN ?_
  | with_reducible refine r_chain ?_ | with_reducible refine r_chain3 ?_ | with_reducible refine r_drop ?_ | with_reducible refine r_next ?_ | with_reducible refine r_retN ?_ | with_reducible refine r_brk ?_ | with_reducible refine r_cont ?_ | with_reducible refine r_ex ?_
  | with_reducible refine r_tup ?_ | with_reducible refine r_lst ?_ | ((with_reducible refine r_new ?k1 ?k2); (case k1 => first | decide | exact Nat.le_of_ble_eq_true rfl)) | with_reducible refine r_sub ?_ | with_reducible refine r_gname ?_ | with_reducible refine r_gcons ?_ | with_reducible refine r_gnil ?_ | with_reducible refine r_slice ?_ | with_reducible refine r_noPart ?_ | with_reducible refine r_part ?_
  | with_reducible refine r_gtup (by with_unfolding_all walk_at "sq") (by with_unfolding_all exact rfl) ?_
  | with_reducible refine r_rng1 ?_ | with_reducible refine r_rng2 ?_ | ((with_reducible refine r_r1 ?k1 ?k2 ?k3); (case k1 => omega); (case k2 => omega)) | ((with_reducible refine r_r2 ?k1 ?k2); (case k1 => omega)) | with_reducible refine r_nonT ?_ | with_reducible refine r_nonI ?_ | with_reducible refine r_nonR ?_ | with_reducible refine r_notT ?_ | with_reducible refine r_notI ?_ | with_reducible refine r_notR ?_ | with_reducible refine r_for ?_ | with_reducible refine r_lc ?_ | with_reducible refine r_iL ?_ | with_reducible refine r_iT ?_ | with_reducible refine r_yesT ?_ | with_reducible refine r_same (by with_unfolding_all exact rfl) ?_ | with_reducible refine r_neS ?_ | with_reducible refine r_iteT ?_ | with_reducible refine r_iteF ?_ | with_reducible refine r_iteNT ?_ | with_reducible refine r_iteNF ?_))
local macro_rules | `(tactic| walk_at "rd") => `(tactic| repeat walk_at "rd1")
section
variable (K : PySem.W.Frag) {vs : List V} {H : Hp} {Q : VK} {E : XK}
theorem pure_is_int (h : sp_is_int K vs H Q E) : t_is_int K { nx := fun _ H' => Q .non H', rt := Q } (start n_is_int vs) H := by
  obtain ⟨i, rfl, q⟩ := h
  show t_is_int K _ [some (.int i)] H
  unfold t_is_int
  walk_at "rd"
  refine ⟨.int i, .ty "int", .type "int", .type "int", true, rfl, .ty _, .base (.int i), kit_ty (by decide +kernel), ?_⟩
  walk_at "rd"
  refine ⟨.int i, .ty "bool", .type "int", .type "bool", false, rfl, .ty _, .base (.int i), kit_ty (by decide +kernel), ?_⟩
  walk_at "rd"
  exact q
theorem pure_is_whole (h : sp_is_whole K vs H Q E) : t_is_whole K { nx := fun _ H' => Q .non H', rt := Q } (start n_is_whole vs) H := by
  obtain ⟨v, lo, hi, rfl, q⟩ := h
  show t_is_whole K _ [some (.int v), some (.int lo), some (.int hi)] H
  unfold t_is_whole
  walk_at "rd"
  refine ⟨v, rfl, ?_⟩
  walk_at "rd"
  refine r_ite (fun c => ?_) fun c => ?_
  · walk_at "rd"
    have e : decide (v ≤ hi) = decide (lo ≤ v ∧ v ≤ hi) := decide_eq_decide.mpr ⟨fun d => ⟨c, d⟩, fun d => d.2⟩
    rw [e]
    exact q
  · have e : decide (lo ≤ v ∧ v ≤ hi) = false := decide_eq_false fun d => c d.1
    rw [e] at q
    exact q
theorem pure_require_length (h : sp_require_length K vs H Q E) : t_require_length K { nx := fun _ H' => Q .non H', rt := Q } (start n_require_length vs) H := by
  obtain ⟨n, rfl, h1, h2, q⟩ := h
  show t_require_length K _ [some (.int n)] H
  unfold t_require_length
  walk_at "rd"
  refine ⟨n, _, _, rfl, ?_⟩
  rw [decide_eq_true ⟨h1, h2⟩]
  walk_at "rd"
  exact q
theorem pure_require_slots (h : sp_require_slots K vs H Q E) : t_require_slots K { nx := fun _ H' => Q .non H', rt := Q } (start n_require_slots vs) H := by
  obtain ⟨n, rfl, h1, h2, q⟩ := h
  show t_require_slots K _ [some (.int n)] H
  unfold t_require_slots
  walk_at "rd"
  refine ⟨n, _, _, rfl, ?_⟩
  rw [decide_eq_true ⟨h1, h2⟩]
  walk_at "rd"
  exact q
theorem pure_require_task (h : sp_require_task K vs H Q E) : t_require_task K { nx := fun _ H' => Q .non H', rt := Q } (start n_require_task vs) H := by
  obtain ⟨n, s, rfl, h1, h2, h3, h4, q⟩ := h
  show t_require_task K _ [some (.int n), some (.int s)] H
  unfold t_require_task
  walk_at "rd"
  refine ⟨n, rfl, h1, h2, ?_⟩
  walk_at "rd"
  refine ⟨s, rfl, h3, h4, ?_⟩
  exact q
theorem reach_turn {s r : Int} {i : Nat} (hi : i < s.toNat) (hs : s ≤ 110) (h : -1 ≤ r) (hr : r ≤ 2 ^ 110) : IntMulOk (rcI i r) (r + i + 1) ∧ rcI i r * (r + i + 1) / ((i : Int) + 1) = rcI ((i : Int) + 1) r := by
  constructor
  · exact mulW (a := 12300) (b := 112) (rcI_le (by omega) (by omega) h hr) (by omega) (by decide) (by decide) (by decide)
  · have e := rc_div (s := i) h
    unfold rcI
    rw [Int.toNat_natCast, show ((i : Int) + 1).toNat = i + 1 by omega]
    exact e
theorem pure_reach_of (h : sp_reach_of K vs H Q E) : t_reach_of K { nx := fun _ H' => Q .non H', rt := Q } (start n_reach_of vs) H := by
  obtain ⟨s, r, rfl, h1, h2, h3, h4, q⟩ := h
  show t_reach_of K _ [some (.int s), some (.int r), none, none] H
  unfold t_reach_of
  walk_at "rd"
  refine for_range (fun i σ H' => H' = H ∧ ∃ v, σ = [some (.int s), some (.int r), some (.int (rcI i r)), v]) ⟨rfl, none, ?_⟩ ?_ ?_
  · unfold rcI; rw [show ((0 : Nat) : Int).toNat = 0 from rfl, rc_0]; rfl
  · rintro i σ H' hi ⟨rfl, v, rfl⟩
    have hi' : i < s.toNat := by omega
    obtain ⟨a, b⟩ := reach_turn hi' (by omega) h3 h4
    walk_at "rd"
    refine r_I (by rw [show r + (1 + (i : Int)) = r + i + 1 by omega]; exact a) ?_
    walk_at "rd"
    refine ⟨rfl, some (.int (1 + (i : Int))), ?_⟩
    rw [show r + (1 + (i : Int)) = r + i + 1 by omega, show 1 + (i : Int) = (i : Int) + 1 by omega, b]
    rfl
  · rintro σ H' ⟨rfl, v, rfl⟩
    walk_at "rd"
    rw [show ((s + 1 - 1).toNat : Int) = s by omega]
    exact q
theorem pure_l_reach (h : sp_l_reach K vs H Q E) : t_l_reach K { nx := fun _ H' => Q .non H', rt := Q } (start n_l_reach vs) H := by
  obtain ⟨s, r, rfl, h1, h2, h3, h4, q⟩ := h
  show t_l_reach K _ [some (.int s), some (.int r), none, none] H
  unfold t_l_reach
  walk_at "rd"
  refine for_range (fun i σ H' => H' = H ∧ ∃ v, σ = [some (.int s), some (.int r), some (.int (rcI i r)), v]) ⟨rfl, none, ?_⟩ ?_ ?_
  · unfold rcI; rw [show ((0 : Nat) : Int).toNat = 0 from rfl, rc_0]; rfl
  · rintro i σ H' hi ⟨rfl, v, rfl⟩
    obtain ⟨a, b⟩ := reach_turn hi (by omega) h3 h4
    walk_at "rd"
    refine r_I (by rw [show r + (0 + (i : Int)) + 1 = r + i + 1 by omega]; exact a) ?_
    walk_at "rd"
    refine ⟨rfl, some (.int (0 + (i : Int))), ?_⟩
    rw [show r + (0 + (i : Int)) + 1 = r + i + 1 by omega, show 0 + (i : Int) + 1 = (i : Int) + 1 by omega, b]
    rfl
  · rintro σ H' ⟨rfl, v, rfl⟩
    walk_at "rd"
    rw [show (s.toNat : Int) = s by omega]
    exact q
end
end Bs

namespace Bs
open PySem PySem.Spec L2 Bm
open PyProof.Rows hiding St
-- one step of a reading; side conditions; what a heap holds
local macro_rules | `(tactic| walk_at "sc") => `(tactic| (first
  | exact mulL ⟨by omega, by omega⟩ | exact mulR ⟨by omega, by omega⟩ | exact divS (by omega) (by omega) | exact (show (0 : Int) < _ by omega) | exact powS (b := 4) (by decide) (by decide) (by decide) (by decide) | assumption | omega))
local macro_rules | `(tactic| walk_at "ne") => `(tactic| (first
  | assumption | (apply Ne.symm; assumption) | exact ne_none (by assumption) (by walk_at "hp") | exact Ne.symm (ne_none (by assumption) (by walk_at "hp"))))
local macro_rules | `(tactic| walk_at "hp") => `(tactic| (first
  | assumption | exact upd_same | (refine (upd_ne ?k1).trans ?k2; (case k1 => walk_at "ne"); (case k2 => walk_at "hp")) | (refine Same.get (by assumption) ?_; walk_at "hp") | (refine But.get (by assumption) ?k1 ?k2; (case k1 => walk_at "hp"); (case k2 => walk_at "ne"))))
local macro_rules | `(tactic| walk_at "sq") => `(tactic| (first | assumption | exact SqL.of (by walk_at "hp") | exact SqT.of (by walk_at "hp")))
local macro_rules | `(tactic| walk_at "rd1") => `(tactic| (first
  | with_reducible refine r_seq ?_ | with_reducible refine r_asg ?_ | with_reducible refine r_asgG ?_ | with_reducible refine r_op ?_ | with_reducible refine r_var (by with_unfolding_all exact rfl) ?_ | with_reducible refine r_c ?_ | with_reducible refine r_I0 ?_ | with_reducible refine r_p30 ?_ | with_reducible refine r_p18 ?_ | with_reducible refine r_p12 ?_ | with_reducible refine r_p15 ?_ | with_reducible refine r_p9 ?_ | with_reducible refine r_p6 ?_ | with_reducible refine r_p64 ?_ | ((with_reducible refine r_I ?k1 ?k2); (case k1 => walk_at "sc")) | with_reducible refine r_U ?_ | with_reducible refine r_un ?_
  | with_reducible refine r_ret ?_ | with_reducible refine r_ifS ?_ | with_reducible refine r_test ?_ | with_reducible refine r_bl ?_ | with_reducible refine r_cb ?_ | with_reducible refine r_cons ?_ | with_reducible refine r_nil ?_ | with_reducible refine r_intI ?_ | with_reducible refine r_intB ?_ | refine r_max2' ?_ | refine r_min2' ?_ | with_reducible refine r_max3 ?_ | with_reducible refine r_min3 ?_
  | with_reducible refine r_call ?_ | with_reducible refine r_par ?_ | with_reducible refine r_and ?_ | with_reducible refine r_or ?_ | with_reducible refine r_not ?_ | with_reducible refine r_B ?_ | with_reducible refine r_andV ?_ | with_reducible refine r_orV ?_ | with_reducible refine r_notV ?_ | with_reducible refine r_ifE ?_ | with_reducible refine r_eqI ?_ | with_reducible refine r_neI ?_ | with_reducible refine r_eqB ?_ | with_reducible refine r_neB ?_ | with_reducible refine r_isN ?_ | with_reducible refine r_notN ?_
  | with_reducible refine r_chain ?_ | with_reducible refine r_chain3 ?_ | with_reducible refine r_drop ?_ | with_reducible refine r_next ?_ | with_reducible refine r_retN ?_ | with_reducible refine r_brk ?_ | with_reducible refine r_cont ?_ | with_reducible refine r_ex ?_
  | with_reducible refine r_tup ?_ | with_reducible refine r_lst ?_ | ((with_reducible refine r_new ?k1 ?k2); (case k1 => first | decide | exact Nat.le_of_ble_eq_true rfl)) | with_reducible refine r_sub ?_ | with_reducible refine r_gname ?_ | with_reducible refine r_gcons ?_ | with_reducible refine r_gnil ?_ | with_reducible refine r_slice ?_ | with_reducible refine r_noPart ?_ | with_reducible refine r_part ?_
  | with_reducible refine r_gtup (by with_unfolding_all walk_at "sq") (by with_unfolding_all exact rfl) ?_
  | with_reducible refine r_rng1 ?_ | with_reducible refine r_rng2 ?_ | ((with_reducible refine r_r1 ?k1 ?k2 ?k3); (case k1 => omega); (case k2 => omega)) | ((with_reducible refine r_r2 ?k1 ?k2); (case k1 => omega)) | with_reducible refine r_nonT ?_ | with_reducible refine r_nonI ?_ | with_reducible refine r_nonR ?_ | with_reducible refine r_notT ?_ | with_reducible refine r_notI ?_ | with_reducible refine r_notR ?_ | with_reducible refine r_for ?_ | with_reducible refine r_lc ?_ | with_reducible refine r_iL ?_ | with_reducible refine r_iT ?_ | with_reducible refine r_yesT ?_ | with_reducible refine r_same (by with_unfolding_all exact rfl) ?_ | with_reducible refine r_neS ?_ | with_reducible refine r_iteT ?_ | with_reducible refine r_iteF ?_ | with_reducible refine r_iteNT ?_ | with_reducible refine r_iteNF ?_))
local macro_rules | `(tactic| walk_at "rd") => `(tactic| repeat walk_at "rd1")
section
variable (K : PySem.W.Frag) {vs : List V} {H : Hp} {Q : VK} {E : XK}
/-- the search for the rounds: what holds while the upper bound is doubled, while the gap is halved -/
def Dbl (n s : Int) (H : Hp) (m : Nat) (σ : L2.St) (H' : Hp) : Prop := ∃ lo hi v, σ = [some (.int n), some (.int s), some (.int lo), some (.int hi), v] ∧ Same H H' ∧ -1 ≤ lo ∧ lo < hi ∧ rcI s lo < n ∧ (hi = 1 ∨ hi = 2 * lo) ∧ m = (n - lo).toNat
def Hlv (n s : Int) (H : Hp) (m : Nat) (σ : L2.St) (H' : Hp) : Prop := ∃ lo hi v, σ = [some (.int n), some (.int s), some (.int lo), some (.int hi), v] ∧ Same H H' ∧ -1 ≤ lo ∧ lo < hi ∧ rcI s lo < n ∧ n ≤ rcI s hi ∧ hi ≤ 2 ^ 105 ∧ m = (hi - lo).toNat
theorem rcI_lt {n s lo : Int} (hs : 1 ≤ s) (h : -1 ≤ lo) (hl : rcI s lo < n) : lo + 1 < n := by
  unfold rcI at hl
  obtain ⟨k, e⟩ : ∃ k, s.toNat = k + 1 := ⟨s.toNat - 1, by omega⟩
  rw [e] at hl
  have := rc_lin (s := k) h
  omega
theorem rcI_m1 {s : Int} (hs : 1 ≤ s) : rcI s (-1) = 0 := by
  unfold rcI
  obtain ⟨k, e⟩ : ∃ k, s.toNat = k + 1 := ⟨s.toNat - 1, by omega⟩
  rw [e, rc_neg (by omega)]
theorem rhoI_of {n s hi lo : Int} (hn : 1 ≤ n) (hs : 1 ≤ s) (h : -1 ≤ lo) (h1 : lo < hi) (h2 : ¬ 1 < hi - lo) (h3 : rcI s lo < n) (h4 : n ≤ rcI s hi) : hi = rhoI n s := by
  have e : lo = hi - 1 := by omega
  subst e
  exact (rho_eq hn (by omega) ⟨by omega, h4, h3⟩).symm
theorem pure_rounds_of (h : sp_rounds_of K vs H Q E) : t_rounds_of K { nx := fun _ H' => Q .non H', rt := Q } (start n_rounds_of vs) H := by
  obtain ⟨n, s, rfl, h1, h2, h3, h4, q⟩ := h
  show t_rounds_of K _ [some (.int n), some (.int s), none, none, none] H
  unfold t_rounds_of
  walk_at "rd"
  intro p hp
  walk_at "rd"
  refine r_while (Dbl n s H) _ ⟨-1, 1, none, rfl, Same.new hp, by omega, by omega, by rw [rcI_m1 h3]; omega, .inl rfl, rfl⟩ ?_
  rintro m σ H1 ⟨lo, hi, v, rfl, s1, a1, a2, a3, a4, rfl⟩
  have a5 := rcI_lt h3 a1 a3
  walk_at "rd"
  refine ⟨s, hi, rfl, by omega, by omega, by omega, by omega, ?_⟩
  walk_at "rd"
  refine r_ite (fun c => ?_) fun c => ?_
  · refine r_N ?_
    walk_at "rd"
    refine ⟨(n - hi).toNat, by omega, hi, 2 * hi, v, rfl, s1, by omega, ?_, c, .inr rfl, rfl⟩
    · have : 1 ≤ hi := by
        rcases a4 with e | e
        · omega
        · have : lo ≠ 0 := by rintro rfl; omega
          omega
      omega
  · walk_at "rd"
    refine r_while (Hlv n s H) _ ⟨lo, hi, v, rfl, s1, a1, a2, a3, by omega, by omega, rfl⟩ ?_
    rintro m σ H2 ⟨lo, hi, v, rfl, s2, b1, b2, b3, b4, b5, rfl⟩
    walk_at "rd"
    refine r_ite (fun c => ?_) fun c => ?_
    · refine r_N ?_
      walk_at "rd"
      refine ⟨s, (lo + hi) / 2, rfl, by omega, by omega, by omega, by omega, ?_⟩
      walk_at "rd"
      refine r_ite (fun d => ?_) fun d => ?_
      · walk_at "rd"
        exact ⟨(hi - (lo + hi) / 2).toNat, by omega, _, _, _, rfl, s2, by omega, by omega, d, b4, b5, rfl⟩
      · walk_at "rd"
        exact ⟨((lo + hi) / 2 - lo).toNat, by omega, _, _, _, rfl, s2, by omega, by omega, b3, by omega, by omega, rfl⟩
    · walk_at "rd"
      rw [rhoI_of h1 h3 b1 b2 c b3 b4]
      exact q _ s2
theorem pure_l_rounds (h : sp_l_rounds K vs H Q E) : t_l_rounds K { nx := fun _ H' => Q .non H', rt := Q } (start n_l_rounds vs) H := by
  obtain ⟨n, s, rfl, h1, h2, h3, h4, q⟩ := h
  show t_l_rounds K _ [some (.int n), some (.int s), none, none, none] H
  unfold t_l_rounds
  walk_at "rd"
  intro p hp
  walk_at "rd"
  refine r_while (Dbl n s H) _ ⟨-1, 1, none, rfl, Same.new hp, by omega, by omega, by rw [rcI_m1 h3]; omega, .inl rfl, rfl⟩ ?_
  rintro m σ H1 ⟨lo, hi, v, rfl, s1, a1, a2, a3, a4, rfl⟩
  have a5 := rcI_lt h3 a1 a3
  walk_at "rd"
  refine ⟨s, hi, rfl, by omega, by omega, by omega, by omega, ?_⟩
  walk_at "rd"
  refine r_ite (fun c => ?_) fun c => ?_
  · refine r_N ?_
    walk_at "rd"
    refine ⟨(n - hi).toNat, by omega, hi, 2 * hi, v, rfl, s1, by omega, ?_, c, .inr rfl, rfl⟩
    · have : 1 ≤ hi := by
        rcases a4 with e | e
        · omega
        · have : lo ≠ 0 := by rintro rfl; omega
          omega
      omega
  · walk_at "rd"
    refine r_while (Hlv n s H) _ ⟨lo, hi, v, rfl, s1, a1, a2, a3, by omega, by omega, rfl⟩ ?_
    rintro m σ H2 ⟨lo, hi, v, rfl, s2, b1, b2, b3, b4, b5, rfl⟩
    walk_at "rd"
    refine r_ite (fun c => ?_) fun c => ?_
    · refine r_N ?_
      walk_at "rd"
      refine ⟨s, (lo + hi) / 2, rfl, by omega, by omega, by omega, by omega, ?_⟩
      walk_at "rd"
      refine r_ite (fun d => ?_) fun d => ?_
      · walk_at "rd"
        exact ⟨(hi - (lo + hi) / 2).toNat, by omega, _, _, _, rfl, s2, by omega, by omega, d, b4, b5, rfl⟩
      · walk_at "rd"
        exact ⟨((lo + hi) / 2 - lo).toNat, by omega, _, _, _, rfl, s2, by omega, by omega, b3, by omega, by omega, rfl⟩
    · walk_at "rd"
      rw [rhoI_of h1 h3 b1 b2 c b3 b4]
      exact q _ s2
theorem pure_steps_with (h : sp_steps_with K vs H Q E) : t_steps_with K { nx := fun _ H' => Q .non H', rt := Q } (start n_steps_with vs) H := by
  obtain ⟨n, s, r, rfl, h1, h2, h3, h4, h5, h6, q⟩ := h
  show t_steps_with K _ [some (.int n), some (.int s), some (.int r)] H
  unfold t_steps_with
  walk_at "rd"
  refine r_I (mulW (a := 120) (b := 120) (by omega) (by omega) (by decide) (by decide) (by decide)) ?_
  walk_at "rd"
  refine ⟨s + 1, r - 1, rfl, by omega, by omega, by omega, by omega, ?_⟩
  walk_at "rd"
  exact q
theorem pure_least_of (h : sp_least_of K vs H Q E) : t_least_of K { nx := fun _ H' => Q .non H', rt := Q } (start n_least_of vs) H := by
  obtain ⟨n, s, rfl, h1, h2, h3, h4, q⟩ := h
  show t_least_of K _ [some (.int n), some (.int s)] H
  unfold t_least_of
  walk_at "rd"
  refine ⟨n, s, rfl, h1, h2, h3, h4, fun H' s' => ?_⟩
  walk_at "rd"
  have a := rhoI_nn h1 h3
  have b := rhoI_lt h1 h3
  refine ⟨n, s, rhoI n s, rfl, h1, h2, h3, h4, a, by omega, ?_⟩
  rw [← ttI_eq (by omega)]
  exact q _ s'
theorem pure_l_least (h : sp_l_least K vs H Q E) : t_l_least K { nx := fun _ H' => Q .non H', rt := Q } (start n_l_least vs) H := by
  obtain ⟨n, s, rfl, h1, h2, h3, h4, q⟩ := h
  show t_l_least K _ [some (.int n), some (.int s), none] H
  unfold t_l_least
  walk_at "rd"
  refine ⟨n, s, rfl, h1, h2, h3, h4, fun H' s' => ?_⟩
  have a := rhoI_nn h1 h3
  have b := rhoI_lt h1 h3
  walk_at "rd"
  refine r_I (mulW (a := 120) (b := 120) (by omega) (by omega) (by decide) (by decide) (by decide)) ?_
  walk_at "rd"
  refine ⟨s + 1, rhoI n s - 1, rfl, by omega, by omega, by omega, by omega, ?_⟩
  walk_at "rd"
  have e := ttI_eq (n := n) (s := s) (by omega)
  unfold ggI at e
  rw [← e]
  exact q _ s'
theorem pure_splits_with (h : sp_splits_with K vs H Q E) : t_splits_with K { nx := fun _ H' => Q .non H', rt := Q } (start n_splits_with vs) H := by
  obtain ⟨n, s, rfl, h1, h2, h3, h4, q⟩ := h
  show t_splits_with K _ [some (.int n), some (.int s), some (.int (rhoI n s)), none] H
  have a := rhoI_pos h1 (s := s) (by omega)
  have b := rhoI_lt (n := n) (s := s) (by omega) (by omega)
  unfold t_splits_with
  have step : ∀ (z : Int), z = (if rhoI n s > 1 then rcI s (rhoI n s - 2) else 0) → t_splits_with K { nx := fun _ H' => Q .non H', rt := Q } [some (.int n), some (.int s), some (.int (rhoI n s)), none] H := by
    intro z hz
    unfold t_splits_with
    walk_at "rd"
    refine r_ite (fun c => ?_) fun c => ?_
    all_goals
      walk_at "rd"
      first
        | refine ⟨s, rhoI n s - 2, rfl, by omega, by omega, by omega, by omega, ?_⟩
          walk_at "rd"
        | skip
      refine ⟨s - 1, rhoI n s, rfl, by omega, by omega, by omega, by omega, ?_⟩
      walk_at "rd"
      refine ⟨s, rhoI n s - 1, rfl, by omega, by omega, by omega, by omega, ?_⟩
      walk_at "rd"
      refine ⟨s - 1, rhoI n s - 1, rfl, by omega, by omega, by omega, by omega, ?_⟩
      walk_at "rd"
      intro p hp
      refine q p _ (Same.new hp) hp ?_
      rw [upd_same]
      unfold loI hiI
      first
        | rw [if_pos c]
        | rw [if_neg c]
  exact step _ rfl
theorem pure_best_splits (h : sp_best_splits K vs H Q E) : t_best_splits K { nx := fun _ H' => Q .non H', rt := Q } (start n_best_splits vs) H := by
  obtain ⟨n, s, rfl, h1, h2, h3, h4, q1, q2⟩ := h
  show t_best_splits K _ [some (.int n), some (.int s)] H
  unfold t_best_splits
  walk_at "rd"
  refine ⟨n, s, rfl, h1, h2, h3, h4, ?_⟩
  walk_at "rd"
  refine r_ite (fun c => ?_) fun c => ?_
  · walk_at "rd"
    exact q1 (.inl c) _ (Same.refl _)
  · walk_at "rd"
    refine r_ite (fun d => ?_) fun d => ?_
    · walk_at "rd"
      exact q1 (.inr d) _ (Same.refl _)
    · walk_at "rd"
      refine ⟨n, s, rfl, h1, by omega, h3, by omega, fun H' s' => ?_⟩
      walk_at "rd"
      exact ⟨n, s, rfl, by omega, by omega, by omega, h4, fun p H2 s2 hp e => q2 (by omega) (by omega) p H2 (s'.trans s2) (Same.none s' hp) e⟩
theorem pure_split_loss (h : sp_split_loss K vs H Q E) : t_split_loss K { nx := fun _ H' => Q .non H', rt := Q } (start n_split_loss vs) H := by
  obtain ⟨n, s, m, rfl, h1, h2, h3, h4, h5, q⟩ := h
  show t_split_loss K _ [some (.int n), some (.int s), some (.int m), none] H
  unfold t_split_loss
  walk_at "rd"
  refine ⟨n, rfl, by omega, h1, ?_⟩
  walk_at "rd"
  refine ⟨s, rfl, by omega, h3, ?_⟩
  walk_at "rd"
  refine r_no (by omega) ?_
  walk_at "rd"
  refine ⟨m, 1, n - 1, rfl, ?_⟩
  rw [decide_eq_true ⟨h4, by omega⟩]
  walk_at "rd"
  refine ⟨n - m, s - 1, rfl, by omega, by omega, by omega, by omega, fun H1 s1 => ?_⟩
  walk_at "rd"
  refine ⟨m, s, rfl, by omega, by omega, by omega, by omega, fun H2 s2 => ?_⟩
  walk_at "rd"
  refine ⟨n, s, rfl, by omega, by omega, by omega, by omega, fun H3 s3 => ?_⟩
  walk_at "rd"
  exact q _ ((s1.trans s2).trans s3)
theorem pure_l_loss (h : sp_l_loss K vs H Q E) : t_l_loss K { nx := fun _ H' => Q .non H', rt := Q } (start n_l_loss vs) H := by
  obtain ⟨n, s, m, rfl, h1, h2, h3, h4, h5, q⟩ := h
  show t_l_loss K _ [some (.int n), some (.int s), some (.int m), none] H
  unfold t_l_loss
  walk_at "rd"
  refine ⟨n - m, s - 1, rfl, by omega, by omega, by omega, by omega, fun H1 s1 => ?_⟩
  walk_at "rd"
  refine ⟨m, s, rfl, by omega, by omega, by omega, by omega, fun H2 s2 => ?_⟩
  walk_at "rd"
  refine ⟨n, s, rfl, by omega, by omega, by omega, by omega, fun H3 s3 => ?_⟩
  walk_at "rd"
  exact q _ ((s1.trans s2).trans s3)
end
end Bs

namespace Bs
open PySem PySem.Spec L2 Bm
open PyProof.Rows hiding St
-- one step of a reading; side conditions; what a heap holds
local macro_rules | `(tactic| walk_at "sc") => `(tactic| (first
  | exact mulL ⟨by omega, by omega⟩ | exact mulR ⟨by omega, by omega⟩ | exact divS (by omega) (by omega) | exact (show (0 : Int) < _ by omega) | exact powS (b := 4) (by decide) (by decide) (by decide) (by decide) | assumption | omega))
local macro_rules | `(tactic| walk_at "ne") => `(tactic| (first
  | assumption | (apply Ne.symm; assumption) | exact ne_none (by assumption) (by walk_at "hp") | exact Ne.symm (ne_none (by assumption) (by walk_at "hp"))))
local macro_rules | `(tactic| walk_at "hp") => `(tactic| (first
  | assumption | exact upd_same | (refine (upd_ne ?k1).trans ?k2; (case k1 => walk_at "ne"); (case k2 => walk_at "hp")) | (refine Same.get (by assumption) ?_; walk_at "hp") | (refine But.get (by assumption) ?k1 ?k2; (case k1 => walk_at "hp"); (case k2 => walk_at "ne"))))
local macro_rules | `(tactic| walk_at "sq") => `(tactic| (first | assumption | exact SqL.of (by walk_at "hp") | exact SqT.of (by walk_at "hp")))
local macro_rules | `(tactic| walk_at "rd1") => `(tactic| (first
  | with_reducible refine r_seq ?_ | with_reducible refine r_asg ?_ | with_reducible refine r_asgG ?_ | with_reducible refine r_op ?_ | with_reducible refine r_var (by with_unfolding_all exact rfl) ?_ | with_reducible refine r_c ?_ | with_reducible refine r_I0 ?_ | with_reducible refine r_p30 ?_ | with_reducible refine r_p18 ?_ | with_reducible refine r_p12 ?_ | with_reducible refine r_p15 ?_ | with_reducible refine r_p9 ?_ | with_reducible refine r_p6 ?_ | with_reducible refine r_p64 ?_ | ((with_reducible refine r_I ?k1 ?k2); (case k1 => walk_at "sc")) | with_reducible refine r_U ?_ | with_reducible refine r_un ?_
  | with_reducible refine r_ret ?_ | with_reducible refine r_ifS ?_ | with_reducible refine r_test ?_ | with_reducible refine r_bl ?_ | with_reducible refine r_cb ?_ | with_reducible refine r_cons ?_ | with_reducible refine r_nil ?_ | with_reducible refine r_intI ?_ | with_reducible refine r_intB ?_ | refine r_max2' ?_ | refine r_min2' ?_ | with_reducible refine r_max3 ?_ | with_reducible refine r_min3 ?_
  | with_reducible refine r_call ?_ | with_reducible refine r_par ?_ | with_reducible refine r_and ?_ | with_reducible refine r_or ?_ | with_reducible refine r_not ?_ | with_reducible refine r_B ?_ | with_reducible refine r_andV ?_ | with_reducible refine r_orV ?_ | with_reducible refine r_notV ?_ | with_reducible refine r_ifE ?_ | with_reducible refine r_eqI ?_ | with_reducible refine r_neI ?_ | with_reducible refine r_eqB ?_ | with_reducible refine r_neB ?_ | with_reducible refine r_isN ?_ | with_reducible refine r_notN ?_
  | with_reducible refine r_chain ?_ | with_reducible refine r_chain3 ?_ | with_reducible refine r_drop ?_ | with_reducible refine r_next ?_ | with_reducible refine r_retN ?_ | with_reducible refine r_brk ?_ | with_reducible refine r_cont ?_ | with_reducible refine r_ex ?_
  | with_reducible refine r_tup ?_ | with_reducible refine r_lst ?_ | ((with_reducible refine r_new ?k1 ?k2); (case k1 => first | decide | exact Nat.le_of_ble_eq_true rfl)) | with_reducible refine r_sub ?_ | with_reducible refine r_gname ?_ | with_reducible refine r_gcons ?_ | with_reducible refine r_gnil ?_ | with_reducible refine r_slice ?_ | with_reducible refine r_noPart ?_ | with_reducible refine r_part ?_
  | with_reducible refine r_gtup (by with_unfolding_all walk_at "sq") (by with_unfolding_all exact rfl) ?_
  | with_reducible refine r_rng1 ?_ | with_reducible refine r_rng2 ?_ | ((with_reducible refine r_r1 ?k1 ?k2 ?k3); (case k1 => omega); (case k2 => omega)) | ((with_reducible refine r_r2 ?k1 ?k2); (case k1 => omega)) | with_reducible refine r_nonT ?_ | with_reducible refine r_nonI ?_ | with_reducible refine r_nonR ?_ | with_reducible refine r_notT ?_ | with_reducible refine r_notI ?_ | with_reducible refine r_notR ?_ | with_reducible refine r_for ?_ | with_reducible refine r_lc ?_ | with_reducible refine r_iL ?_ | with_reducible refine r_iT ?_ | with_reducible refine r_yesT ?_ | with_reducible refine r_same (by with_unfolding_all exact rfl) ?_ | with_reducible refine r_neS ?_ | with_reducible refine r_iteT ?_ | with_reducible refine r_iteF ?_ | with_reducible refine r_iteNT ?_ | with_reducible refine r_iteNF ?_))
local macro_rules | `(tactic| walk_at "rd") => `(tactic| repeat walk_at "rd1")
section
variable (K : PySem.W.Frag) {vs : List V} {H : Hp} {Q : VK} {E : XK}
theorem pure_l_bag (h : sp_l_bag K vs H Q E) : t_l_bag K { nx := fun _ H' => Q .non H', rt := Q } (start n_l_bag vs) H := by
  obtain ⟨c, rfl, q⟩ := h
  show t_l_bag K _ [some (.int c)] H
  unfold t_l_bag
  walk_at "rd"
  intro p hp
  exact q p _ (Same.new hp) hp ⟨_, _, _, upd_same⟩
theorem pure_l_pick (h : sp_l_pick K vs H Q E) : t_l_pick K { nx := fun _ H' => Q .non H', rt := Q } (start n_l_pick vs) H := by
  obtain ⟨a, m, rfl, h1, h2, ⟨x, y, z, hb⟩, q⟩ := h
  show t_l_pick K _ [some (.ref a), some (.int m), none, none, none, none, none, none] H
  unfold t_l_pick
  walk_at "rd"
  refine r_ixL (xs := [.int x, .int y, .int z]) (i := 2) (v := .int z) (SqL.of hb) rfl ?_
  walk_at "rd"
  refine r_setL hb (jj := 2) rfl ?_
  walk_at "rd"
  have hb1 : (upd H a (.lst ([V.int x, .int y, .int z].set 2 (.int (z + 1))))) a = some (.lst [.int x, .int y, .int (z + 1)]) := upd_same
  have b1 : But a H (upd H a (.lst ([V.int x, .int y, .int z].set 2 (.int (z + 1))))) := (But.refl a H).upd
  generalize upd H a (.lst ([V.int x, .int y, .int z].set 2 (.int (z + 1)))) = H1 at hb1 b1 ⊢
  refine r_ixL (xs := [.int x, .int y, .int (z + 1)]) (i := 0) (v := .int x) (SqL.of hb1) rfl ?_
  walk_at "rd"
  refine r_ite (fun c => ?_) fun c => ?_
  · walk_at "rd"
    refine r_ixL (xs := [.int x, .int y, .int (z + 1)]) (i := 0) (v := .int x) (SqL.of hb1) rfl ?_
    walk_at "rd"
    refine r_ixL (xs := [.int x, .int y, .int (z + 1)]) (i := 0) (v := .int x) (SqL.of hb1) rfl ?_
    walk_at "rd"
    refine r_setL hb1 (jj := 0) rfl ?_
    walk_at "rd"
    exact q _ _ (Int.emod_nonneg _ (by omega)) (Int.emod_lt_of_pos _ (by omega)) b1.upd ⟨_, _, _, upd_same⟩
  · walk_at "rd"
    refine r_ixL (xs := [.int x, .int y, .int (z + 1)]) (i := 1) (v := .int y) (SqL.of hb1) rfl ?_
    walk_at "rd"
    refine r_ixL (xs := [.int x, .int y, .int (z + 1)]) (i := 2) (v := .int (z + 1)) (SqL.of hb1) rfl ?_
    walk_at "rd"
    refine r_ite (fun d => ?_) fun d => ?_
    · walk_at "rd"
      refine r_I (powS (b := 60) (by decide) (by omega) (by decide) (by decide)) ?_
      walk_at "rd"
      exact q _ _ (Int.emod_nonneg _ (by omega)) (Int.emod_lt_of_pos _ (by omega)) b1 ⟨_, _, _, hb1⟩
    · walk_at "rd"
      exact q _ _ (Int.emod_nonneg _ (by omega)) (Int.emod_lt_of_pos _ (by omega)) b1 ⟨_, _, _, hb1⟩
theorem rcI_small {s r : Int} (h0 : 0 ≤ s) (h1 : s ≤ 100) (h2 : 0 ≤ r) (h3 : r ≤ 2 ^ 110) : 1 ≤ rcI s r := rc_pos h2
theorem pure_l_task (h : sp_l_task K vs H Q E) : t_l_task K { nx := fun _ H' => Q .non H', rt := Q } (start n_l_task vs) H := by
  obtain ⟨a, rfl, hb, q⟩ := h
  show t_l_task K _ [some (.ref a), none, none] H
  unfold t_l_task
  walk_at "rd"
  intro p1 hp1
  have n1 := hb.ne hp1
  walk_at "rd"
  refine ⟨a, 2, rfl, by omega, by omega, hb.new hp1, fun r1 H1 a1 a2 b1 g1 => ?_⟩
  obtain ⟨v1, m1, e1⟩ := atI_ints (xs := [5, 100]) a1 a2
  refine r_ixL (xs := [.int 5, .int 100]) (SqL.of (b1.get upd_same n1)) e1 ?_
  have w1 : 1 ≤ v1 ∧ v1 ≤ 100 := by simp at m1; omega
  walk_at "rd"
  refine ⟨a, v1, rfl, by omega, by omega, g1, fun r2 H2 c1 c2 b2 g2 => ?_⟩
  walk_at "rd"
  intro p2 hp2
  have n2 := g2.ne hp2
  walk_at "rd"
  refine ⟨a, 3, rfl, by omega, by omega, g2.new hp2, fun r3 H3 d1 d2 b3 g3 => ?_⟩
  obtain ⟨v2, m2, e2⟩ := atI_ints (xs := [90, 1000000000000, 1000000000000000000000000000000]) d1 d2
  refine r_ixL (xs := [.int 90, .int 1000000000000, .int 1000000000000000000000000000000]) (SqL.of (b3.get upd_same n2)) e2 ?_
  have w2 : 1 ≤ v2 ∧ v2 ≤ 1000000000000000000000000000000 := by simp at m2; omega
  walk_at "rd"
  refine ⟨a, v2, rfl, by omega, by omega, g3, fun r4 H4 f1 f2 b4 g4 => ?_⟩
  walk_at "rd"
  refine ⟨a, 2, rfl, by omega, by omega, g4, fun r5 H5 _ _ b5 g5 => ?_⟩
  have bt : But a H H5 := (((((But.refl a H).new hp1).trans b1).trans b2).new hp2).trans (b3.trans (b4.trans b5))
  walk_at "rd"
  refine r_ite (fun c => ?_) fun c => ?_
  · walk_at "rd"
    refine ⟨a, 40, rfl, by omega, by omega, g5, fun r6 H6 k1 k2 b6 g6 => ?_⟩
    walk_at "rd"
    refine ⟨1 + r2, r6, rfl, by omega, by omega, by omega, by omega, ?_⟩
    walk_at "rd"
    refine ⟨a, 3, rfl, by omega, by omega, g6, fun r7 H7 l1 l2 b7 g7 => ?_⟩
    walk_at "rd"
    intro p hp
    refine q _ (1 + r2) p _ ?_ ?_ (by omega) (by omega) ((bt.trans (b6.trans b7)).new hp) (g7.new hp) ((bt.trans (b6.trans b7)).freeB hp g7) upd_same <;> omega
  · walk_at "rd"
    intro p hp
    refine q _ (1 + r2) p _ ?_ ?_ (by omega) (by omega) (bt.new hp) (g5.new hp) (bt.freeB hp g5) upd_same <;> omega
/-- ttI's size -/
theorem ttI_le {n s : Int} (hn : 1 ≤ n) (h : n ≤ 2 ^ 101) (hs : 1 ≤ s) : 0 ≤ ttI n s ∧ ttI n s ≤ 2 ^ 202 := by
  refine ⟨tt_nn hn (by omega), ?_⟩
  have a := rhoI_nn hn hs
  have b := rhoI_lt hn hs
  rw [ttI_eq (by omega)]
  unfold ggI
  have c : 0 ≤ rcI (s + 1) (rhoI n s - 1) := rc_nn _ _
  have d : rhoI n s * n ≤ 2 ^ 101 * 2 ^ 101 := Int.le_trans (Int.mul_le_mul_of_nonneg_right (show rhoI n s ≤ 2 ^ 101 by omega) (by omega)) (Int.mul_le_mul_of_nonneg_left h (by decide))
  omega
theorem lossI_le {n s m : Int} (h : n ≤ 2 ^ 100) (hs : 2 ≤ s) (h1 : 1 ≤ m) (h2 : m < n) : (lossI n s m).natAbs.log2 < 1920 := by
  have a := ttI_le (n := n - m) (s := s - 1) (by omega) (by omega) (by omega)
  have b := ttI_le (n := m) (s := s) (by omega) (by omega) (by omega)
  have c := ttI_le (n := n) (s := s) (by omega) (by omega) (by omega)
  refine Nat.lt_of_lt_of_le (PySem.Flt.log2_lt_of (k := 210) (by decide) ?_) (by decide)
  unfold lossI
  omega
/-- a list of ints that are states -/
def Mid (n : Int) (xs : List Int) : Prop := ∀ x ∈ xs, 1 ≤ x ∧ x < n
theorem Mid.app {n : Int} {xs : List Int} {x : Int} (h : Mid n xs) (h1 : 1 ≤ x) (h2 : x < n) : Mid n (xs ++ [x]) := fun y hy => by
  rcases List.mem_append.mp hy with q | q
  · exact h y q
  · rw [List.mem_singleton.mp q]; exact ⟨h1, h2⟩
theorem Mid.cat {n : Int} {xs ys : List Int} (h : Mid n xs) (h2 : Mid n ys) : Mid n (xs ++ ys) := fun y hy => (List.mem_append.mp hy).elim (h y) (h2 y)
theorem near_fact {n s z : Int} (hn : 2 ≤ n) (hs : 2 ≤ s) (h1 : 1 ≤ z) (h2 : z < n) : ∃ m, z + (if decide (z < loI n s) = true then 1 else 0) - (if decide (hiI n s < z) = true then 1 else 0) = m ∧ 1 ≤ m ∧ m < n ∧ lossI n s m ≤ lossI n s z := by
  obtain ⟨R1, R2, R3⟩ := rangeI hn hs
  by_cases c : z < loI n s
  · rw [if_pos (decide_eq_true c), if_neg (by rw [decide_eq_true_eq]; omega)]
    exact ⟨z + 1, by omega, by omega, by omega, lossI_falls hn hs h1 c⟩
  · rw [if_neg (by rw [decide_eq_true_eq]; exact c)]
    by_cases d : hiI n s < z
    · rw [if_pos (decide_eq_true d)]
      exact ⟨z - 1, by omega, by omega, by omega, lossI_rises hn hs d h2⟩
    · rw [if_neg (by rw [decide_eq_true_eq]; exact d)]
      exact ⟨z, by omega, h1, h2, Int.le_refl _⟩
theorem snoc_map (xs : List Int) (x : Int) : xs.map V.int ++ [.int x] = (xs ++ [x]).map V.int := by simp
theorem pure_l_right (h : sp_l_right K vs H Q E) : t_l_right K { nx := fun _ H' => Q .non H', rt := Q } (start n_l_right vs) H := by
  obtain ⟨a, rfl, hb, q⟩ := h
  show t_l_right K _ [some (.ref a), none, none, none, none, none, none, none, none, none] H
  unfold t_l_right
  walk_at "rd"
  refine ⟨a, rfl, hb, fun n s p1 H1 h1 h2 h3 h4 b1 g1 _ e1 => ?_⟩
  walk_at "rd"
  refine r_ite (fun c => ?_) fun c => ?_
  · walk_at "rd"
    refine ⟨n, s, rfl, h1, h2, h3, h4, fun _ H2 s2 => ?_, fun c1 c2 => by omega⟩
    walk_at "rd"
    exact q _ (b1.trans (But.of s2)) (g1.at s2)
  walk_at "rd"
  refine r_ite (fun d => ?_) fun d => ?_
  · walk_at "rd"
    refine ⟨n, s, rfl, h1, h2, h3, h4, fun _ H2 s2 => ?_, fun c1 c2 => by omega⟩
    walk_at "rd"
    exact q _ (b1.trans (But.of s2)) (g1.at s2)
  walk_at "rd"
  have hn : 2 ≤ n := by omega
  have hs : 2 ≤ s := by omega
  obtain ⟨R1, R2, R3⟩ := rangeI hn hs
  refine ⟨n, s, rfl, h1, h2, h3, h4, fun c1 => by omega, fun _ _ p2 H2 s2 _ e2 => ?_⟩
  walk_at "rd"
  refine r_yes R1 ?_
  walk_at "rd"
  refine r_yes R2 ?_
  walk_at "rd"
  rw [decide_eq_true R3]
  walk_at "rd"
  have b2 : But a H H2 := b1.trans (But.of s2)
  have g2 := g1.at s2
  refine ⟨a, hiI n s - loI n s + 1, rfl, by omega, by omega, g2, fun r3 H3 k1 k2 b3 g3 => ?_⟩
  walk_at "rd"
  intro p4 hp4
  walk_at "rd"
  intro D hD
  have nD := (g3.new hp4).ne hD
  have n4 := g3.ne hp4
  have n4D : p4 ≠ D := ne_none hD upd_same
  refine lc_range (fun i H' => But a H H' ∧ Bag H' a ∧ H' p4 = some (.lst ([loI n s, hiI n s, loI n s + r3].map V.int)) ∧ ∃ xs : List Int, H' D = some (.lst (xs.map V.int)) ∧ xs.length = i ∧ Mid n xs) ?_ ?_ ?_
  · refine ⟨(((b2.trans b3).new hp4)).new hD, (g3.new hp4).new hD, ?_, [], upd_same, rfl, fun x hx => nomatch hx⟩
    exact (upd_ne n4D).trans upd_same
  · rintro i H4 hi ⟨b4, g4, e4, xs, e5, e6, e7⟩
    walk_at "rd"
    refine ⟨a, n - 1, rfl, by omega, by omega, g4, fun r5 H5 l1 l2 b5 g5 => ?_⟩
    walk_at "rd"
    refine ⟨_, b5.get e5 nD, sz_lt (by rw [List.length_map]; omega), ?_⟩
    refine ⟨(b4.trans b5).mut ((b2.trans b3).freeB ?_ g3), g5.upd (Ne.symm nD), (upd_ne n4D).trans (b5.get e4 n4), xs ++ [1 + r5], ?_, by simp [e6], e7.app (by omega) (by omega)⟩
    · exact (upd_ne (Ne.symm n4D)).symm.trans hD
    · rw [upd_same, snoc_map]
  · rintro H4 ⟨b4, g4, e4, xs, e5, e6, e7⟩
    refine r_cat e4 e5 (by simp [e6]) ?_
    intro p6 hp6
    have n6 := g4.ne hp6
    walk_at "rd"
    intro p8 hp8
    have n68 : p6 ≠ p8 := ne_none hp8 upd_same
    have n8 := (g4.new hp6).ne hp8
    refine r_refT (SqT.of upd_same) ?_
    intro D2 hD2
    have n6D : p6 ≠ D2 := ne_none hD2 ((upd_ne n68).trans upd_same)
    have n8D : p8 ≠ D2 := ne_none hD2 upd_same
    have nD2 := ((g4.new hp6).new hp8).ne hD2
    refine lc_tup (K := K) (a := p8) (xs := [.int (loI n s - 1), .int (hiI n s + 1)]) (fun i H' => But a H H' ∧ Bag H' a ∧ H' p6 = some (.lst (([loI n s, hiI n s, loI n s + r3] ++ xs).map V.int)) ∧ H' p8 = some (.tup [.int (loI n s - 1), .int (hiI n s + 1)]) ∧
      ∃ zs : List Int, H' D2 = some (.lst (zs.map V.int)) ∧ zs.length ≤ i ∧ Mid n zs) ?_ ?_ ?_ ?_
    · refine ⟨((b4.new hp6).new hp8).new hD2, ((g4.new hp6).new hp8).new hD2, ?_, (upd_ne n8D).trans upd_same, [], upd_same, Nat.le_refl _, fun x hx => nomatch hx⟩
      rw [List.map_append]
      exact (upd_ne n6D).trans ((upd_ne n68).trans upd_same)
    · rintro i H5 _ ⟨_, _, _, e, _⟩
      exact SqT.of e
    · rintro i x H5 hx ⟨b5, g5, f6, f8, zs, f1, f2, f3⟩
      obtain ⟨z, rfl⟩ : ∃ z, x = V.int z := by
        have := List.mem_of_getElem? hx
        simp only [List.mem_cons, List.not_mem_nil, or_false] at this
        rcases this with e | e
        · exact ⟨_, e⟩
        · exact ⟨_, e⟩
      have hi : i < 2 := (List.getElem?_eq_some_iff.mp hx).1
      walk_at "rd"
      refine r_ite (fun k1 => ?_) fun k1 => ?_
      · walk_at "rd"
        refine r_ite (fun k2 => ?_) fun k2 => ?_
        · walk_at "rd"
          refine ⟨_, f1, sz_lt (by rw [List.length_map]; omega), ?_⟩
          refine ⟨b5.mut ((b4.freeB ?_ g4)), g5.upd (Ne.symm nD2), (upd_ne n6D).trans f6, (upd_ne n8D).trans f8, zs ++ [z], ?_, by simp [f2], f3.app (by omega) k2⟩
          · exact ((upd_ne (Ne.symm n6D)).symm.trans ((upd_ne (Ne.symm n8D)).symm.trans hD2))
          · rw [upd_same, snoc_map]
        · exact ⟨b5, g5, f6, f8, zs, f1, by omega, f3⟩
      · walk_at "rd"
        exact ⟨b5, g5, f6, f8, zs, f1, by omega, f3⟩
    · rintro H5 ⟨b5, g5, f6, f8, zs, f1, f2, f3⟩
      refine r_cat f6 f1 (by have h2 : zs.length ≤ 2 := f2; simp only [List.length_map, List.length_append, List.length_cons, List.length_nil, e6]; show 3 + 3 + zs.length ≤ 100000; omega) ?_
      intro p9 hp9
      have n9 := g5.ne hp9
      refine r_refL (SqL.of upd_same) ?_
      rw [← List.map_append]
      have M : Mid n ([loI n s, hiI n s, loI n s + r3] ++ xs ++ zs) := by
        refine Mid.cat (Mid.cat (fun y hy => ?_) e7) f3
        simp only [List.mem_cons, List.not_mem_nil, or_false] at hy
        omega
      generalize [loI n s, hiI n s, loI n s + r3] ++ xs ++ zs = items at M ⊢
      refine for_list (K := K) (a := p9) (xs := items.map V.int) (fun i σ H' => But a H H' ∧ Bag H' a ∧ H' p9 = some (.lst (items.map V.int)) ∧ ∃ v5 v6 v7 v8, σ = [some (.ref a), some (.int n), some (.int s), some (.int (loI n s)), some (.int (hiI n s)), v5, v6, v7, v8, none]) ?_ ?_ ?_ ?_
      · exact ⟨b5.new hp9, g5.new hp9, upd_same, _, _, _, _, rfl⟩
      · rintro i σ H6 _ ⟨_, _, e, _⟩
        exact SqL.of e
      · rintro i x σ H6 hx ⟨b6, g6, e9, v5, v6, v7, v8, rfl⟩
        obtain ⟨z, hz, rfl⟩ : ∃ z ∈ items, x = V.int z := by
          obtain ⟨z, hz, e⟩ := List.mem_map.mp (List.mem_of_getElem? hx)
          exact ⟨z, hz, e.symm⟩
        obtain ⟨z1, z2⟩ := M z hz
        walk_at "rd"
        refine ⟨n, s, z, rfl, h2, hs, h4, z1, z2, fun H7 s7 => ?_⟩
        walk_at "rd"
        refine r_reprI (lossI_le (by omega) hs z1 z2) ?_
        walk_at "rd"
        refine ⟨n, s, z, rfl, h2, hs, h4, z1, z2, fun H8 s8 => ?_⟩
        walk_at "rd"
        refine r_reprI (lossI_le (by omega) hs z1 z2) ?_
        walk_at "rd"
        have k0 := lossI_0 hn hs z1 z2
        refine r_ite (fun k1 => ?_) fun k1 => ?_
        · walk_at "rd"
          have key : decide (lossI n s z = 0) = decide (z ≤ hiI n s) := decide_eq_decide.mpr (by rw [k0]; exact ⟨fun h => h.2, fun h => ⟨k1, h⟩⟩)
          rw [key, beq_self_eq_true]
          walk_at "rd"
          obtain ⟨m, em, m1, m2, m3⟩ := near_fact hn hs z1 z2
          rw [em]
          refine ⟨n, s, m, rfl, h2, hs, h4, m1, m2, fun H9 s9 => ?_⟩
          walk_at "rd"
          refine r_no (by omega) ?_
          walk_at "rd"
          have sx := (s7.trans s8).trans s9
          exact ⟨b6.trans (But.of sx), g6.at sx, sx _ _ e9, _, _, _, _, rfl⟩
        · walk_at "rd"
          have key : decide (lossI n s z = 0) = false := decide_eq_false (by rw [k0]; exact fun h => k1 h.1)
          rw [key, beq_self_eq_true]
          walk_at "rd"
          obtain ⟨m, em, m1, m2, m3⟩ := near_fact hn hs z1 z2
          rw [em]
          refine ⟨n, s, m, rfl, h2, hs, h4, m1, m2, fun H9 s9 => ?_⟩
          walk_at "rd"
          refine r_no (by omega) ?_
          walk_at "rd"
          have sx := (s7.trans s8).trans s9
          exact ⟨b6.trans (But.of sx), g6.at sx, sx _ _ e9, _, _, _, _, rfl⟩
      · rintro σ H6 ⟨b6, g6, e9, v5, v6, v7, v8, rfl⟩
        walk_at "rd"
        exact q _ b6 g6
theorem script_int {K : PySem.W.Frag} {ns : List Int} {i : Nat} {x : V} (h : (cutV (ns.map V.int) none (some 6) ++ [.int 0])[i]? = some x) : ∃ z, x = .int z := by
  rcases List.mem_append.mp (List.mem_of_getElem? h) with q | q
  · obtain ⟨z, _, e⟩ := cut_int q
    exact ⟨z, e⟩
  · exact ⟨0, List.mem_singleton.mp q⟩
theorem pure_law_k11 (h : sp_law_k11 K vs H Q E) : t_law_k11 K { nx := fun _ H' => Q .non H', rt := Q } (start n_law_k11 vs) H := by
  obtain ⟨a, ns, rfl, hS, hl, q⟩ := h
  show t_law_k11 K _ [some (.ref a), none, none, none] H
  unfold t_law_k11
  walk_at "rd"
  refine r_slL hS ?_
  intro p1 hp1
  walk_at "rd"
  intro p2 hp2
  have n12 : p1 ≠ p2 := ne_none hp2 upd_same
  have cl := cutV_length (ns.map V.int) none (some 6)
  rw [List.length_map] at cl
  refine r_cat ((upd_ne n12).trans upd_same) upd_same (by show _ + 1 ≤ 100000; omega) ?_
  intro p3 hp3
  refine r_refL (SqL.of upd_same) ?_
  refine for_list (K := K) (a := p3) (xs := cutV (ns.map V.int) none (some 6) ++ [.int 0]) (fun i σ H' => H' p3 = some (.lst (cutV (ns.map V.int) none (some 6) ++ [.int 0])) ∧ ∃ v1 v2 v3, σ = [some (.ref a), v1, v2, v3]) ?_ ?_ ?_ ?_
  · exact ⟨upd_same, none, none, none, rfl⟩
  · rintro i σ H1 _ ⟨e, _⟩
    exact SqL.of e
  · rintro i x σ H1 hx ⟨e1, v1, v2, v3, rfl⟩
    obtain ⟨z, rfl⟩ := script_int (K := K) hx
    walk_at "rd"
    refine ⟨z, rfl, fun p4 H2 s2 hp4 g2 => ?_⟩
    walk_at "rd"
    have n34 : p3 ≠ p4 := ne_none hp4 e1
    refine for_range (fun i σ H' => H' p3 = some (.lst (cutV (ns.map V.int) none (some 6) ++ [.int 0])) ∧ Bag H' p4 ∧ ∃ v3, σ = [some (.ref a), some (.int z), some (.ref p4), v3]) ?_ ?_ ?_
    · exact ⟨s2 _ _ e1, g2, v3, rfl⟩
    · rintro j σ H3 hj ⟨e3, g3, v3, rfl⟩
      walk_at "rd"
      refine ⟨p4, rfl, g3, fun H4 b4 g4 => ?_⟩
      walk_at "rd"
      exact ⟨b4.get e3 n34, g4, _, rfl⟩
    · rintro σ H3 ⟨e3, g3, v3, rfl⟩
      walk_at "rd"
      exact ⟨e3, _, _, _, rfl⟩
  · rintro σ H1 ⟨e1, v1, v2, v3, rfl⟩
    walk_at "rd"
    refine ⟨_, 1, rfl, by omega, by omega, by omega, by omega, fun _ H2 s2 => ?_, fun _ h => by omega⟩
    walk_at "rd"
    refine ⟨_, 100, 1, rfl, by omega, by omega, by omega, by omega, by omega, fun H3 s3 => ?_⟩
    walk_at "rd"
    have f := lossI_nn (n := 1000000000000000000000000000000) (s := 100) (m := 1) (by omega) (by omega) (by omega) (by omega)
    have g : lossI 1000000000000000000000000000000 100 1 ≠ 0 := by
      rw [Ne, lossI_0 (by omega) (by omega) (by omega) (by omega)]
      rintro ⟨h1, h2⟩
      have R := rho_is (n := 1000000000000000000000000000000) (s := 100) (by omega) (by omega)
      have c2 : rc 100 2 = 5151 := (rcC_eq (by omega) 100).symm.trans (by decide +kernel)
      have r3 : 3 ≤ rho 1000000000000000000000000000000 100 := by
        apply Decidable.byContradiction
        intro c
        have := rc_mono (s := 100) (r := rho 1000000000000000000000000000000 100) (q := 2) (by omega)
        have := R.hi
        omega
      rw [loI_eq (by omega) (by omega)] at h1
      have c1 : rc 100 1 = 101 := (rcC_eq (by omega) 100).symm.trans (by decide +kernel)
      have := rc_mono (s := 100) (r := 1) (q := rho 1000000000000000000000000000000 100 - 2) (by omega)
      unfold spLo at h1
      rw [show Int.toNat 100 = 100 from rfl] at h1
      omega
    rw [decide_eq_true (show (0 : Int) < lossI 1000000000000000000000000000000 100 1 by omega)]
    exact q _
end
end Bs

namespace K11
open PySem PySem.Spec L2 Bs
open PyProof.Rows hiding St

def top (i : Nat) : Stmt := PySem.Challenge.pw_backslots_k11_great_splits.main.body.getD i (.Pass ⟨0, 0, 0, 0⟩)
/-- what the top has left: built-ins that are still so, constants -/
structure Txt (K : PySem.W.Frag) (mg : Str → Option Value) : Prop where
  isinstance : mg "isinstance" = none
  int : mg "int" = none
  bool : mg "bool" = none
  range : mg "range" = none
  max : mg "max" = none
  min : mg "min" = none
  repr : mg "repr" = none
  MOST_LENGTH : ∃ t, mg "MOST_LENGTH" = some (.int 1000000000000000000000000000000 t)
  MOST_SLOTS : ∃ t, mg "MOST_SLOTS" = some (.int 100 t)
section
variable {P : Program} {w : World} {K : PySem.W.Frag} {mg : Str → Option Value} {base : Heap}
abbrev s_is_int : Stmt := top 1
theorem sc_is_int : FnScope ["value"] ["value"] (defScope s_is_int) := ⟨rfl, rfl, rfl, by decide +kernel, rfl, by decide +kernel, by decide +kernel⟩
theorem ok_is_int (T : Txt K mg) (F : Df K ⟨("is_int", none), "is_int", "is_int", defArgs s_is_int, defBody s_is_int, defScope s_is_int, [], []⟩) (g : mg "is_int" = some (.ref (He.ga K "is_int"))) :
    Ok P w K mg base CX0 1 "is_int" ["value"] (sp_is_int K) := by
  refine mk_ok (st := s_is_int) F g (fun _ _ _ _ _ _ us hl => match us, hl with | [_], _ => rfl) sc_is_int (fun vs H Q E h => len_is_int K h) (fun cdv A outer s H vs Q E hr h => ⟨t_is_int K, PSs.nox ?_, pure_is_int K h⟩)
  exact (pss_one (ps_ret (pe_and (pe_callB call_isi (by rfl) T.isinstance (by decide +kernel) (pa_cons (pv 0) (pa_cons (pe_bltn (by rfl) T.int (by decide +kernel) rfl) pa_nil))) (pe_one (pe_not (pe_callB call_isi (by rfl) T.isinstance (by decide +kernel) (pa_cons (pv 0) (pa_cons (pe_bltn (by rfl) T.bool (by decide +kernel) rfl) pa_nil))))))))
abbrev s_is_whole : Stmt := top 2
theorem sc_is_whole : FnScope ["value", "low", "high"] ["value", "low", "high"] (defScope s_is_whole) := ⟨rfl, rfl, rfl, by decide +kernel, rfl, by decide +kernel, by decide +kernel⟩
theorem ok_is_whole (T : Txt K mg) (F : Df K ⟨("is_whole", none), "is_whole", "is_whole", defArgs s_is_whole, defBody s_is_whole, defScope s_is_whole, [], []⟩) (g : mg "is_whole" = some (.ref (He.ga K "is_whole"))) (h_is_int : Ok P w K mg base CX0 1 "is_int" ["value"] (sp_is_int K)) :
    Ok P w K mg base CX0 2 "is_whole" ["value", "low", "high"] (sp_is_whole K) := by
  refine mk_ok (st := s_is_whole) F g (fun _ _ _ _ _ _ us hl => match us, hl with | [_, _, _], _ => rfl) sc_is_whole (fun vs H Q E h => len_is_whole K h) (fun cdv A outer s H vs Q E hr h => ⟨t_is_whole K, PSs.nox ?_, pure_is_whole K h⟩)
  exact (pss_one (ps_ret (pe_and (pe_callO h_is_int (hr.mono (by decide)) rfl pass0 (pa_cons (pv 0) pa_nil)) (pe_one (pe_chain op_le op_le (pv 1) (pv 0) (pv 2))))))
abbrev s_require_length : Stmt := top 11
theorem sc_require_length : FnScope ["value"] ["value"] (defScope s_require_length) := ⟨rfl, rfl, rfl, by decide +kernel, rfl, by decide +kernel, by decide +kernel⟩
theorem ok_require_length (T : Txt K mg) (F : Df K ⟨("require_length", none), "require_length", "require_length", defArgs s_require_length, defBody s_require_length, defScope s_require_length, [], []⟩) (g : mg "require_length" = some (.ref (He.ga K "require_length"))) (h_is_whole : Ok P w K mg base CX0 2 "is_whole" ["value", "low", "high"] (sp_is_whole K)) :
    Ok P w K mg base CX0 3 "require_length" ["value"] (sp_require_length K) := by
  refine mk_ok (st := s_require_length) F g (fun _ _ _ _ _ _ us hl => match us, hl with | [_], _ => rfl) sc_require_length (fun vs H Q E h => len_require_length K h) (fun cdv A outer s H vs Q E hr h => ⟨t_require_length K, PSs.nox ?_, pure_require_length K h⟩)
  exact (pss_one (ps_if (pt_not (pt_val (pe_callO h_is_whole (hr.mono (by decide)) rfl pass0 (pa_cons (pv 0) (pa_cons pe_int (pa_cons (pe_globI T.MOST_LENGTH) pa_nil)))))) (pss_one ps_never) pss_nil))
abbrev s_require_slots : Stmt := top 12
theorem sc_require_slots : FnScope ["value"] ["value"] (defScope s_require_slots) := ⟨rfl, rfl, rfl, by decide +kernel, rfl, by decide +kernel, by decide +kernel⟩
theorem ok_require_slots (T : Txt K mg) (F : Df K ⟨("require_slots", none), "require_slots", "require_slots", defArgs s_require_slots, defBody s_require_slots, defScope s_require_slots, [], []⟩) (g : mg "require_slots" = some (.ref (He.ga K "require_slots"))) (h_is_whole : Ok P w K mg base CX0 2 "is_whole" ["value", "low", "high"] (sp_is_whole K)) :
    Ok P w K mg base CX0 3 "require_slots" ["value"] (sp_require_slots K) := by
  refine mk_ok (st := s_require_slots) F g (fun _ _ _ _ _ _ us hl => match us, hl with | [_], _ => rfl) sc_require_slots (fun vs H Q E h => len_require_slots K h) (fun cdv A outer s H vs Q E hr h => ⟨t_require_slots K, PSs.nox ?_, pure_require_slots K h⟩)
  exact (pss_one (ps_if (pt_not (pt_val (pe_callO h_is_whole (hr.mono (by decide)) rfl pass0 (pa_cons (pv 0) (pa_cons pe_int (pa_cons (pe_globI T.MOST_SLOTS) pa_nil)))))) (pss_one ps_never) pss_nil))
abbrev s_require_task : Stmt := top 13
theorem sc_require_task : FnScope ["length", "slots"] ["length", "slots"] (defScope s_require_task) := ⟨rfl, rfl, rfl, by decide +kernel, rfl, by decide +kernel, by decide +kernel⟩
theorem ok_require_task (T : Txt K mg) (F : Df K ⟨("require_task", none), "require_task", "require_task", defArgs s_require_task, defBody s_require_task, defScope s_require_task, [], []⟩) (g : mg "require_task" = some (.ref (He.ga K "require_task"))) (h_require_length : Ok P w K mg base CX0 3 "require_length" ["value"] (sp_require_length K)) (h_require_slots : Ok P w K mg base CX0 3 "require_slots" ["value"] (sp_require_slots K)) :
    Ok P w K mg base CX0 4 "require_task" ["length", "slots"] (sp_require_task K) := by
  refine mk_ok (st := s_require_task) F g (fun _ _ _ _ _ _ us hl => match us, hl with | [_, _], _ => rfl) sc_require_task (fun vs H Q E h => len_require_task K h) (fun cdv A outer s H vs Q E hr h => ⟨t_require_task K, PSs.nox ?_, pure_require_task K h⟩)
  exact (pss_cons (ps_expr (pe_callO h_require_length (hr.mono (by decide)) rfl pass0 (pa_cons (pv 0) pa_nil)))
  (pss_one (ps_expr (pe_callO h_require_slots (hr.mono (by decide)) rfl pass0 (pa_cons (pv 1) pa_nil)))))
abbrev s_reach_of : Stmt := top 14
theorem sc_reach_of : FnScope ["slots", "rounds", "found", "turn"] ["slots", "rounds"] (defScope s_reach_of) := ⟨rfl, rfl, rfl, by decide +kernel, rfl, by decide +kernel, by decide +kernel⟩
theorem ok_reach_of (T : Txt K mg) (F : Df K ⟨("reach_of", none), "reach_of", "reach_of", defArgs s_reach_of, defBody s_reach_of, defScope s_reach_of, [], []⟩) (g : mg "reach_of" = some (.ref (He.ga K "reach_of"))) :
    Ok P w K mg base CX0 1 "reach_of" ["slots", "rounds"] (sp_reach_of K) := by
  refine mk_ok (st := s_reach_of) F g (fun _ _ _ _ _ _ us hl => match us, hl with | [_, _], _ => rfl) sc_reach_of (fun vs H Q E h => len_reach_of K h) (fun cdv A outer s H vs Q E hr h => ⟨t_reach_of K, PSs.nox ?_, pure_reach_of K h⟩)
  exact (pss_cons (ps_set (i := 2) sc_reach_of.nd rfl (by first | exact Or.inl rfl | exact Or.inr rfl) pe_int)
  (pss_cons (ps_for PassesOwn.never rfl (pi_range2 rfl T.range (pa_cons pe_int (pa_cons (pe_op op_add (pv 0) pe_int) pa_nil))) (pg_name (i := 3) sc_reach_of.nd rfl (by first | exact Or.inl rfl | exact Or.inr rfl))
  (pss_one (ps_set (i := 2) sc_reach_of.nd rfl (by first | exact Or.inl rfl | exact Or.inr rfl) (pe_op op_divP (pe_op op_mulA (pv 2) (pe_op op_add (pv 1) (pv 3))) (pv 3)))))
  (pss_one (ps_ret (pv 2)))))
abbrev s_rounds_of : Stmt := top 15
theorem sc_rounds_of : FnScope ["length", "slots", "low", "high", "middle"] ["length", "slots"] (defScope s_rounds_of) := ⟨rfl, rfl, rfl, by decide +kernel, rfl, by decide +kernel, by decide +kernel⟩
theorem ok_rounds_of (T : Txt K mg) (F : Df K ⟨("rounds_of", none), "rounds_of", "rounds_of", defArgs s_rounds_of, defBody s_rounds_of, defScope s_rounds_of, [], []⟩) (g : mg "rounds_of" = some (.ref (He.ga K "rounds_of"))) (h_reach_of : Ok P w K mg base CX0 1 "reach_of" ["slots", "rounds"] (sp_reach_of K)) :
    Ok P w K mg base CX0 2 "rounds_of" ["length", "slots"] (sp_rounds_of K) := by
  refine mk_ok (st := s_rounds_of) F g (fun _ _ _ _ _ _ us hl => match us, hl with | [_, _], _ => rfl) sc_rounds_of (fun vs H Q E h => len_rounds_of K h) (fun cdv A outer s H vs Q E hr h => ⟨t_rounds_of K, PSs.nox ?_, pure_rounds_of K h⟩)
  exact (pss_cons (ps_asg (pe_tup (pa_cons (pe_un un_neg pe_int) (pa_cons pe_int pa_nil))) (pg_tup rfl (pgs_cons (pg_name (i := 2) sc_rounds_of.nd rfl (by first | exact Or.inl rfl | exact Or.inr rfl)) (pgs_cons (pg_name (i := 3) sc_rounds_of.nd rfl (by first | exact Or.inl rfl | exact Or.inr rfl)) pgs_nil))))
  (pss_cons (ps_while PassesOwn.never (pt_cmpR op_lt (pe_callO h_reach_of (hr.mono (by decide)) rfl pass0 (pa_cons (pv 1) (pa_cons (pv 3) pa_nil))) (pv 0) (nomark _))
  (pss_one (ps_par (i := 2) (j := 3) rfl sc_rounds_of.nd rfl rfl (by decide) rfl rfl (pa_cons (pv 3) (pa_cons (pe_op op_mulA pe_int (pv 3)) pa_nil)) (by rfl))))
  (pss_cons (ps_while PassesOwn.never (pt_cmpR op_gt (pe_op op_sub (pv 3) (pv 2)) pe_int (nomark _))
  (pss_cons (ps_set (i := 4) sc_rounds_of.nd rfl (by first | exact Or.inl rfl | exact Or.inr rfl) (pe_op op_divP (pe_op op_add (pv 2) (pv 3)) pe_int))
  (pss_one (ps_if (pt_cmpR op_lt (pe_callO h_reach_of (hr.mono (by decide)) rfl pass0 (pa_cons (pv 1) (pa_cons (pv 4) pa_nil))) (pv 0) (nomark _)) (pss_one (ps_set (i := 2) sc_rounds_of.nd rfl (by first | exact Or.inl rfl | exact Or.inr rfl) (pv 4))) (pss_one (ps_set (i := 3) sc_rounds_of.nd rfl (by first | exact Or.inl rfl | exact Or.inr rfl) (pv 4)))))))
  (pss_one (ps_ret (pv 3))))))
abbrev s_steps_with : Stmt := top 17
theorem sc_steps_with : FnScope ["length", "slots", "rounds"] ["length", "slots", "rounds"] (defScope s_steps_with) := ⟨rfl, rfl, rfl, by decide +kernel, rfl, by decide +kernel, by decide +kernel⟩
theorem ok_steps_with (T : Txt K mg) (F : Df K ⟨("steps_with", none), "steps_with", "steps_with", defArgs s_steps_with, defBody s_steps_with, defScope s_steps_with, [], []⟩) (g : mg "steps_with" = some (.ref (He.ga K "steps_with"))) (h_reach_of : Ok P w K mg base CX0 1 "reach_of" ["slots", "rounds"] (sp_reach_of K)) :
    Ok P w K mg base CX0 2 "steps_with" ["length", "slots", "rounds"] (sp_steps_with K) := by
  refine mk_ok (st := s_steps_with) F g (fun _ _ _ _ _ _ us hl => match us, hl with | [_, _, _], _ => rfl) sc_steps_with (fun vs H Q E h => len_steps_with K h) (fun cdv A outer s H vs Q E hr h => ⟨t_steps_with K, PSs.nox ?_, pure_steps_with K h⟩)
  exact (pss_one (ps_ret (pe_op op_sub (pe_op op_mulA (pv 2) (pv 0)) (pe_callO h_reach_of (hr.mono (by decide)) rfl pass0 (pa_cons (pe_op op_add (pv 1) pe_int) (pa_cons (pe_op op_sub (pv 2) pe_int) pa_nil))))))
abbrev s_least_of : Stmt := top 18
theorem sc_least_of : FnScope ["length", "slots"] ["length", "slots"] (defScope s_least_of) := ⟨rfl, rfl, rfl, by decide +kernel, rfl, by decide +kernel, by decide +kernel⟩
theorem ok_least_of (T : Txt K mg) (F : Df K ⟨("least_of", none), "least_of", "least_of", defArgs s_least_of, defBody s_least_of, defScope s_least_of, [], []⟩) (g : mg "least_of" = some (.ref (He.ga K "least_of"))) (h_rounds_of : Ok P w K mg base CX0 2 "rounds_of" ["length", "slots"] (sp_rounds_of K)) (h_steps_with : Ok P w K mg base CX0 2 "steps_with" ["length", "slots", "rounds"] (sp_steps_with K)) :
    Ok P w K mg base CX0 3 "least_of" ["length", "slots"] (sp_least_of K) := by
  refine mk_ok (st := s_least_of) F g (fun _ _ _ _ _ _ us hl => match us, hl with | [_, _], _ => rfl) sc_least_of (fun vs H Q E h => len_least_of K h) (fun cdv A outer s H vs Q E hr h => ⟨t_least_of K, PSs.nox ?_, pure_least_of K h⟩)
  exact (pss_one (ps_ret (pe_callO h_steps_with (hr.mono (by decide)) rfl pass0 (pa_cons (pv 0) (pa_cons (pv 1) (pa_cons (pe_callO h_rounds_of (hr.mono (by decide)) rfl pass0 (pa_cons (pv 0) (pa_cons (pv 1) pa_nil))) pa_nil))))))
abbrev s_splits_with : Stmt := top 20
theorem sc_splits_with : FnScope ["length", "slots", "rounds", "least"] ["length", "slots", "rounds"] (defScope s_splits_with) := ⟨rfl, rfl, rfl, by decide +kernel, rfl, by decide +kernel, by decide +kernel⟩
theorem ok_splits_with (T : Txt K mg) (F : Df K ⟨("splits_with", none), "splits_with", "splits_with", defArgs s_splits_with, defBody s_splits_with, defScope s_splits_with, [], []⟩) (g : mg "splits_with" = some (.ref (He.ga K "splits_with"))) (h_reach_of : Ok P w K mg base CX0 1 "reach_of" ["slots", "rounds"] (sp_reach_of K)) :
    Ok P w K mg base CX0 2 "splits_with" ["length", "slots", "rounds"] (sp_splits_with K) := by
  refine mk_ok (st := s_splits_with) F g (fun _ _ _ _ _ _ us hl => match us, hl with | [_, _, _], _ => rfl) sc_splits_with (fun vs H Q E h => len_splits_with K h) (fun cdv A outer s H vs Q E hr h => ⟨t_splits_with K, PSs.nox ?_, pure_splits_with K h⟩)
  exact (pss_cons (ps_set (i := 3) sc_splits_with.nd rfl (by first | exact Or.inl rfl | exact Or.inr rfl) (pe_callB (call_max3 rfl) (by rfl) T.max (by decide +kernel) (pa_cons pe_int (pa_cons (pe_ifExp (pt_cmpR op_gt (pv 2) pe_int (nomark _)) (pe_callO h_reach_of (hr.mono (by decide)) rfl pass0 (pa_cons (pv 1) (pa_cons (pe_op op_sub (pv 2) pe_int) pa_nil))) pe_int) (pa_cons (pe_op op_sub (pv 0) (pe_callO h_reach_of (hr.mono (by decide)) rfl pass0 (pa_cons (pe_op op_sub (pv 1) pe_int) (pa_cons (pv 2) pa_nil)))) pa_nil)))))
  (pss_one (ps_ret (pe_tup (pa_cons (pv 3) (pa_cons (pe_callB (call_min3 rfl) (by rfl) T.min (by decide +kernel) (pa_cons (pe_op op_sub (pv 0) pe_int) (pa_cons (pe_callO h_reach_of (hr.mono (by decide)) rfl pass0 (pa_cons (pv 1) (pa_cons (pe_op op_sub (pv 2) pe_int) pa_nil))) (pa_cons (pe_op op_sub (pv 0) (pe_callO h_reach_of (hr.mono (by decide)) rfl pass0 (pa_cons (pe_op op_sub (pv 1) pe_int) (pa_cons (pe_op op_sub (pv 2) pe_int) pa_nil)))) pa_nil)))) pa_nil))))))
abbrev s_best_splits : Stmt := top 21
theorem sc_best_splits : FnScope ["length", "slots"] ["length", "slots"] (defScope s_best_splits) := ⟨rfl, rfl, rfl, by decide +kernel, rfl, by decide +kernel, by decide +kernel⟩
theorem ok_best_splits (T : Txt K mg) (F : Df K ⟨("best_splits", none), "best_splits", "best_splits", defArgs s_best_splits, defBody s_best_splits, defScope s_best_splits, [], []⟩) (g : mg "best_splits" = some (.ref (He.ga K "best_splits"))) (h_require_task : Ok P w K mg base CX0 4 "require_task" ["length", "slots"] (sp_require_task K)) (h_rounds_of : Ok P w K mg base CX0 2 "rounds_of" ["length", "slots"] (sp_rounds_of K)) (h_splits_with : Ok P w K mg base CX0 2 "splits_with" ["length", "slots", "rounds"] (sp_splits_with K)) :
    Ok P w K mg base CX0 5 "best_splits" ["length", "slots"] (sp_best_splits K) := by
  refine mk_ok (st := s_best_splits) F g (fun _ _ _ _ _ _ us hl => match us, hl with | [_, _], _ => rfl) sc_best_splits (fun vs H Q E h => len_best_splits K h) (fun cdv A outer s H vs Q E hr h => ⟨t_best_splits K, PSs.nox ?_, pure_best_splits K h⟩)
  exact (pss_cons (ps_expr (pe_callO h_require_task (hr.mono (by decide)) rfl pass0 (pa_cons (pv 0) (pa_cons (pv 1) pa_nil))))
  (pss_cons (ps_if (PW.pt (pw_or (pt_cmpR op_eq (pv 0) pe_int (nomark _)) (pw_or1 (pt_cmpR op_eq (pv 1) pe_int (nomark _))))) (pss_one (ps_ret pe_non)) pss_nil)
  (pss_one (ps_ret (pe_callO h_splits_with (hr.mono (by decide)) rfl pass0 (pa_cons (pv 0) (pa_cons (pv 1) (pa_cons (pe_callO h_rounds_of (hr.mono (by decide)) rfl pass0 (pa_cons (pv 0) (pa_cons (pv 1) pa_nil))) pa_nil))))))))
abbrev s_split_loss : Stmt := top 22
theorem sc_split_loss : FnScope ["length", "slots", "state", "found"] ["length", "slots", "state"] (defScope s_split_loss) := ⟨rfl, rfl, rfl, by decide +kernel, rfl, by decide +kernel, by decide +kernel⟩
theorem ok_split_loss (T : Txt K mg) (F : Df K ⟨("split_loss", none), "split_loss", "split_loss", defArgs s_split_loss, defBody s_split_loss, defScope s_split_loss, [], []⟩) (g : mg "split_loss" = some (.ref (He.ga K "split_loss"))) (h_require_length : Ok P w K mg base CX0 3 "require_length" ["value"] (sp_require_length K)) (h_require_slots : Ok P w K mg base CX0 3 "require_slots" ["value"] (sp_require_slots K)) (h_is_whole : Ok P w K mg base CX0 2 "is_whole" ["value", "low", "high"] (sp_is_whole K)) (h_least_of : Ok P w K mg base CX0 3 "least_of" ["length", "slots"] (sp_least_of K)) :
    Ok P w K mg base CX0 4 "split_loss" ["length", "slots", "state"] (sp_split_loss K) := by
  refine mk_ok (st := s_split_loss) F g (fun _ _ _ _ _ _ us hl => match us, hl with | [_, _, _], _ => rfl) sc_split_loss (fun vs H Q E h => len_split_loss K h) (fun cdv A outer s H vs Q E hr h => ⟨t_split_loss K, PSs.nox ?_, pure_split_loss K h⟩)
  exact (pss_cons (ps_expr (pe_callO h_require_length (hr.mono (by decide)) rfl pass0 (pa_cons (pv 0) pa_nil)))
  (pss_cons (ps_expr (pe_callO h_require_slots (hr.mono (by decide)) rfl pass0 (pa_cons (pv 1) pa_nil)))
  (pss_cons (ps_if (pt_cmpR op_eq (pv 1) pe_int (nomark _)) (pss_one ps_never) pss_nil)
  (pss_cons (ps_if (pt_not (pt_val (pe_callO h_is_whole (hr.mono (by decide)) rfl pass0 (pa_cons (pv 2) (pa_cons pe_int (pa_cons (pe_op op_sub (pv 0) pe_int) pa_nil)))))) (pss_one ps_never) pss_nil)
  (pss_cons (ps_set (i := 3) sc_split_loss.nd rfl (by first | exact Or.inl rfl | exact Or.inr rfl) (pe_op op_add (pe_op op_add (pv 2) (pe_callO h_least_of (hr.mono (by decide)) rfl pass0 (pa_cons (pe_op op_sub (pv 0) (pv 2)) (pa_cons (pe_op op_sub (pv 1) pe_int) pa_nil)))) (pe_callO h_least_of (hr.mono (by decide)) rfl pass0 (pa_cons (pv 2) (pa_cons (pv 1) pa_nil)))))
  (pss_one (ps_ret (pe_op op_sub (pv 3) (pe_callO h_least_of (hr.mono (by decide)) rfl pass0 (pa_cons (pv 0) (pa_cons (pv 1) pa_nil)))))))))))
abbrev s_l_bag : Stmt := top 24
theorem sc_l_bag : FnScope ["_law_cell"] ["_law_cell"] (defScope s_l_bag) := ⟨rfl, rfl, rfl, by decide +kernel, rfl, by decide +kernel, by decide +kernel⟩
theorem ok_l_bag (T : Txt K mg) (F : Df K ⟨("_law_bag", none), "_law_bag", "_law_bag", defArgs s_l_bag, defBody s_l_bag, defScope s_l_bag, [], []⟩) (g : mg "_law_bag" = some (.ref (He.ga K "_law_bag"))) :
    Ok P w K mg base CX0 1 "_law_bag" ["_law_cell"] (sp_l_bag K) := by
  refine mk_ok (st := s_l_bag) F g (fun _ _ _ _ _ _ us hl => match us, hl with | [_], _ => rfl) sc_l_bag (fun vs H Q E h => len_l_bag K h) (fun cdv A outer s H vs Q E hr h => ⟨t_l_bag K, PSs.nox ?_, pure_l_bag K h⟩)
  exact (pss_one (ps_ret (pe_lst (pa_cons (pe_callB (call_max2 rfl) (by rfl) T.max (by decide +kernel) (pa_cons pe_int (pa_cons (pe_op op_sub (pv 0) (pe_op op_powA pe_int pe_int)) pa_nil))) (pa_cons (pv 0) (pa_cons pe_int pa_nil))))))
abbrev s_l_pick : Stmt := top 25
theorem sc_l_pick : FnScope ["_law_bag_here", "_law_many", "_law_told", "_law_seed", "_law_turn", "_law_first", "_law_second", "_law_drawn"] ["_law_bag_here", "_law_many"] (defScope s_l_pick) := ⟨rfl, rfl, rfl, by decide +kernel, rfl, by decide +kernel, by decide +kernel⟩
theorem ok_l_pick (T : Txt K mg) (F : Df K ⟨("_law_pick", none), "_law_pick", "_law_pick", defArgs s_l_pick, defBody s_l_pick, defScope s_l_pick, [], []⟩) (g : mg "_law_pick" = some (.ref (He.ga K "_law_pick"))) :
    Ok P w K mg base CX0 1 "_law_pick" ["_law_bag_here", "_law_many"] (sp_l_pick K) := by
  refine mk_ok (st := s_l_pick) F g (fun _ _ _ _ _ _ us hl => match us, hl with | [_, _], _ => rfl) sc_l_pick (fun vs H Q E h => len_l_pick K h) (fun cdv A outer s H vs Q E hr h => ⟨t_l_pick K, PSs.nox ?_, pure_l_pick K h⟩)
  exact (pss_cons (ps_asg (pe_op op_add (pe_ix ix_list (pv 0) pe_int (fun _ _ => rfl)) pe_int) (pg_sub (pv 0) pe_int set_list))
  (pss_cons (ps_if (pt_cmpR op_gt (pe_ix ix_list (pv 0) pe_int (fun _ _ => rfl)) pe_int (nomark _)) (pss_cons (ps_set (i := 2) sc_l_pick.nd rfl (by first | exact Or.inl rfl | exact Or.inr rfl) (pe_op op_modP (pe_callTy call_int1 (by rfl) T.int (by decide +kernel) (pa_cons (pe_ix ix_list (pv 0) pe_int (fun _ _ => rfl)) pa_nil)) (pv 1)))
  (pss_cons (ps_asg (pe_op op_divP (pe_callTy call_int1 (by rfl) T.int (by decide +kernel) (pa_cons (pe_ix ix_list (pv 0) pe_int (fun _ _ => rfl)) pa_nil)) (pv 1)) (pg_sub (pv 0) pe_int set_list))
  (pss_one (ps_ret (pv 2))))) pss_nil)
  (pss_cons (ps_par (i := 3) (j := 4) rfl sc_l_pick.nd rfl rfl (by decide) rfl rfl (pa_cons (pe_callTy call_int1 (by rfl) T.int (by decide +kernel) (pa_cons (pe_ix ix_list (pv 0) pe_int (fun _ _ => rfl)) pa_nil)) (pa_cons (pe_callTy call_int1 (by rfl) T.int (by decide +kernel) (pa_cons (pe_ix ix_list (pv 0) pe_int (fun _ _ => rfl)) pa_nil)) pa_nil)) (by rfl))
  (pss_cons (ps_set (i := 5) sc_l_pick.nd rfl (by first | exact Or.inl rfl | exact Or.inr rfl) (pe_op op_modP (pe_callTy call_int1 (by rfl) T.int (by decide +kernel) (pa_cons (pe_op op_add (pe_op op_add (pe_op op_mulA (pe_op op_modP (pv 3) pe_int) pe_int) (pe_op op_mulA (pv 4) pe_int)) pe_int) pa_nil)) pe_int))
  (pss_cons (ps_set (i := 6) sc_l_pick.nd rfl (by first | exact Or.inl rfl | exact Or.inr rfl) (pe_op op_modP (pe_callTy call_int1 (by rfl) T.int (by decide +kernel) (pa_cons (pe_op op_add (pe_op op_mulA (pv 5) (pv 5)) (pe_op op_mulA (pv 4) pe_int)) pa_nil)) pe_int))
  (pss_cons (ps_set (i := 7) sc_l_pick.nd rfl (by first | exact Or.inl rfl | exact Or.inr rfl) (pe_op op_divP (pe_callTy call_int1 (by rfl) T.int (by decide +kernel) (pa_cons (pe_op op_add (pe_op op_mulA (pv 5) pe_int) (pv 6)) pa_nil)) pe_int))
  (pss_cons (ps_if (pt_cmpR op_gt (pv 1) (pe_op op_powA pe_int pe_int) (nomark _)) (pss_one (ps_set (i := 7) sc_l_pick.nd rfl (by first | exact Or.inl rfl | exact Or.inr rfl) (pe_op op_add (pe_op op_powA (pv 7) pe_int) (pv 6)))) pss_nil)
  (pss_one (ps_ret (pe_op op_modP (pe_callTy call_int1 (by rfl) T.int (by decide +kernel) (pa_cons (pv 7) pa_nil)) (pv 1)))))))))))
abbrev s_l_reach : Stmt := top 26
theorem sc_l_reach : FnScope ["_law_slots", "_law_rounds_here", "_law_found", "_law_turn"] ["_law_slots", "_law_rounds_here"] (defScope s_l_reach) := ⟨rfl, rfl, rfl, by decide +kernel, rfl, by decide +kernel, by decide +kernel⟩
theorem ok_l_reach (T : Txt K mg) (F : Df K ⟨("_law_reach", none), "_law_reach", "_law_reach", defArgs s_l_reach, defBody s_l_reach, defScope s_l_reach, [], []⟩) (g : mg "_law_reach" = some (.ref (He.ga K "_law_reach"))) :
    Ok P w K mg base CX0 1 "_law_reach" ["_law_slots", "_law_rounds_here"] (sp_l_reach K) := by
  refine mk_ok (st := s_l_reach) F g (fun _ _ _ _ _ _ us hl => match us, hl with | [_, _], _ => rfl) sc_l_reach (fun vs H Q E h => len_l_reach K h) (fun cdv A outer s H vs Q E hr h => ⟨t_l_reach K, PSs.nox ?_, pure_l_reach K h⟩)
  exact (pss_cons (ps_set (i := 2) sc_l_reach.nd rfl (by first | exact Or.inl rfl | exact Or.inr rfl) pe_int)
  (pss_cons (ps_for PassesOwn.never rfl (pi_range1 rfl T.range (pa_cons (pv 0) pa_nil)) (pg_name (i := 3) sc_l_reach.nd rfl (by first | exact Or.inl rfl | exact Or.inr rfl))
  (pss_one (ps_set (i := 2) sc_l_reach.nd rfl (by first | exact Or.inl rfl | exact Or.inr rfl) (pe_op op_divP (pe_op op_mulA (pv 2) (pe_op op_add (pe_op op_add (pv 1) (pv 3)) pe_int)) (pe_op op_add (pv 3) pe_int)))))
  (pss_one (ps_ret (pv 2)))))
abbrev s_l_rounds : Stmt := top 27
theorem sc_l_rounds : FnScope ["_law_length", "_law_slots", "_law_low", "_law_high", "_law_middle"] ["_law_length", "_law_slots"] (defScope s_l_rounds) := ⟨rfl, rfl, rfl, by decide +kernel, rfl, by decide +kernel, by decide +kernel⟩
theorem ok_l_rounds (T : Txt K mg) (F : Df K ⟨("_law_rounds", none), "_law_rounds", "_law_rounds", defArgs s_l_rounds, defBody s_l_rounds, defScope s_l_rounds, [], []⟩) (g : mg "_law_rounds" = some (.ref (He.ga K "_law_rounds"))) (h_l_reach : Ok P w K mg base CX0 1 "_law_reach" ["_law_slots", "_law_rounds_here"] (sp_l_reach K)) :
    Ok P w K mg base CX0 2 "_law_rounds" ["_law_length", "_law_slots"] (sp_l_rounds K) := by
  refine mk_ok (st := s_l_rounds) F g (fun _ _ _ _ _ _ us hl => match us, hl with | [_, _], _ => rfl) sc_l_rounds (fun vs H Q E h => len_l_rounds K h) (fun cdv A outer s H vs Q E hr h => ⟨t_l_rounds K, PSs.nox ?_, pure_l_rounds K h⟩)
  exact (pss_cons (ps_asg (pe_tup (pa_cons (pe_un un_neg pe_int) (pa_cons pe_int pa_nil))) (pg_tup rfl (pgs_cons (pg_name (i := 2) sc_l_rounds.nd rfl (by first | exact Or.inl rfl | exact Or.inr rfl)) (pgs_cons (pg_name (i := 3) sc_l_rounds.nd rfl (by first | exact Or.inl rfl | exact Or.inr rfl)) pgs_nil))))
  (pss_cons (ps_while PassesOwn.never (pt_cmpR op_lt (pe_callO h_l_reach (hr.mono (by decide)) rfl pass0 (pa_cons (pv 1) (pa_cons (pv 3) pa_nil))) (pv 0) (nomark _))
  (pss_one (ps_par (i := 2) (j := 3) rfl sc_l_rounds.nd rfl rfl (by decide) rfl rfl (pa_cons (pv 3) (pa_cons (pe_op op_mulA pe_int (pv 3)) pa_nil)) (by rfl))))
  (pss_cons (ps_while PassesOwn.never (pt_cmpR op_gt (pe_op op_sub (pv 3) (pv 2)) pe_int (nomark _))
  (pss_cons (ps_set (i := 4) sc_l_rounds.nd rfl (by first | exact Or.inl rfl | exact Or.inr rfl) (pe_op op_divP (pe_op op_add (pv 2) (pv 3)) pe_int))
  (pss_one (ps_if (pt_cmpR op_lt (pe_callO h_l_reach (hr.mono (by decide)) rfl pass0 (pa_cons (pv 1) (pa_cons (pv 4) pa_nil))) (pv 0) (nomark _)) (pss_one (ps_set (i := 2) sc_l_rounds.nd rfl (by first | exact Or.inl rfl | exact Or.inr rfl) (pv 4))) (pss_one (ps_set (i := 3) sc_l_rounds.nd rfl (by first | exact Or.inl rfl | exact Or.inr rfl) (pv 4)))))))
  (pss_one (ps_ret (pv 3))))))
abbrev s_l_least : Stmt := top 28
theorem sc_l_least : FnScope ["_law_length", "_law_slots", "_law_times"] ["_law_length", "_law_slots"] (defScope s_l_least) := ⟨rfl, rfl, rfl, by decide +kernel, rfl, by decide +kernel, by decide +kernel⟩
theorem ok_l_least (T : Txt K mg) (F : Df K ⟨("_law_least", none), "_law_least", "_law_least", defArgs s_l_least, defBody s_l_least, defScope s_l_least, [], []⟩) (g : mg "_law_least" = some (.ref (He.ga K "_law_least"))) (h_l_rounds : Ok P w K mg base CX0 2 "_law_rounds" ["_law_length", "_law_slots"] (sp_l_rounds K)) (h_l_reach : Ok P w K mg base CX0 1 "_law_reach" ["_law_slots", "_law_rounds_here"] (sp_l_reach K)) :
    Ok P w K mg base CX0 3 "_law_least" ["_law_length", "_law_slots"] (sp_l_least K) := by
  refine mk_ok (st := s_l_least) F g (fun _ _ _ _ _ _ us hl => match us, hl with | [_, _], _ => rfl) sc_l_least (fun vs H Q E h => len_l_least K h) (fun cdv A outer s H vs Q E hr h => ⟨t_l_least K, PSs.nox ?_, pure_l_least K h⟩)
  exact (pss_cons (ps_set (i := 2) sc_l_least.nd rfl (by first | exact Or.inl rfl | exact Or.inr rfl) (pe_callO h_l_rounds (hr.mono (by decide)) rfl pass0 (pa_cons (pv 0) (pa_cons (pv 1) pa_nil))))
  (pss_one (ps_ret (pe_op op_sub (pe_op op_mulA (pv 2) (pv 0)) (pe_callO h_l_reach (hr.mono (by decide)) rfl pass0 (pa_cons (pe_op op_add (pv 1) pe_int) (pa_cons (pe_op op_sub (pv 2) pe_int) pa_nil)))))))
abbrev s_l_task : Stmt := top 29
theorem sc_l_task : FnScope ["_law_bag_here", "_law_slots", "_law_length"] ["_law_bag_here"] (defScope s_l_task) := ⟨rfl, rfl, rfl, by decide +kernel, rfl, by decide +kernel, by decide +kernel⟩
theorem ok_l_task (T : Txt K mg) (F : Df K ⟨("_law_task", none), "_law_task", "_law_task", defArgs s_l_task, defBody s_l_task, defScope s_l_task, [], []⟩) (g : mg "_law_task" = some (.ref (He.ga K "_law_task"))) (h_l_pick : Ok P w K mg base CX0 1 "_law_pick" ["_law_bag_here", "_law_many"] (sp_l_pick K)) (h_l_reach : Ok P w K mg base CX0 1 "_law_reach" ["_law_slots", "_law_rounds_here"] (sp_l_reach K)) :
    Ok P w K mg base CX0 2 "_law_task" ["_law_bag_here"] (sp_l_task K) := by
  refine mk_ok (st := s_l_task) F g (fun _ _ _ _ _ _ us hl => match us, hl with | [_], _ => rfl) sc_l_task (fun vs H Q E h => len_l_task K h) (fun cdv A outer s H vs Q E hr h => ⟨t_l_task K, PSs.nox ?_, pure_l_task K h⟩)
  exact (pss_cons (ps_set (i := 1) sc_l_task.nd rfl (by first | exact Or.inl rfl | exact Or.inr rfl) (pe_op op_add pe_int (pe_callO h_l_pick (hr.mono (by decide)) rfl pass0 (pa_cons (pv 0) (pa_cons (pe_ix ix_list (pe_lst (pa_cons pe_int (pa_cons pe_int pa_nil))) (pe_callO h_l_pick (hr.mono (by decide)) rfl pass0 (pa_cons (pv 0) (pa_cons pe_int pa_nil))) (fun _ _ => rfl)) pa_nil)))))
  (pss_cons (ps_set (i := 2) sc_l_task.nd rfl (by first | exact Or.inl rfl | exact Or.inr rfl) (pe_op op_add pe_int (pe_callO h_l_pick (hr.mono (by decide)) rfl pass0 (pa_cons (pv 0) (pa_cons (pe_ix ix_list (pe_lst (pa_cons pe_int (pa_cons (pe_op op_powA pe_int pe_int) (pa_cons (pe_op op_powA pe_int pe_int) pa_nil)))) (pe_callO h_l_pick (hr.mono (by decide)) rfl pass0 (pa_cons (pv 0) (pa_cons pe_int pa_nil))) (fun _ _ => rfl)) pa_nil)))))
  (pss_cons (ps_if (pt_cmpR op_eq (pe_callO h_l_pick (hr.mono (by decide)) rfl pass0 (pa_cons (pv 0) (pa_cons pe_int pa_nil))) pe_int (nomark _)) (pss_one (ps_set (i := 2) sc_l_task.nd rfl (by first | exact Or.inl rfl | exact Or.inr rfl) (pe_op op_sub (pe_op op_add (pe_callO h_l_reach (hr.mono (by decide)) rfl pass0 (pa_cons (pv 1) (pa_cons (pe_callO h_l_pick (hr.mono (by decide)) rfl pass0 (pa_cons (pv 0) (pa_cons pe_int pa_nil))) pa_nil))) (pe_callO h_l_pick (hr.mono (by decide)) rfl pass0 (pa_cons (pv 0) (pa_cons pe_int pa_nil)))) pe_int))) pss_nil)
  (pss_one (ps_ret (pe_tup (pa_cons (pe_callB (call_min2 rfl) (by rfl) T.min (by decide +kernel) (pa_cons (pe_op op_powA pe_int pe_int) (pa_cons (pe_callB (call_max2 rfl) (by rfl) T.max (by decide +kernel) (pa_cons pe_int (pa_cons (pv 2) pa_nil))) pa_nil))) (pa_cons (pv 1) pa_nil))))))))
abbrev s_l_loss : Stmt := top 30
theorem sc_l_loss : FnScope ["_law_length", "_law_slots", "_law_m", "_law_found"] ["_law_length", "_law_slots", "_law_m"] (defScope s_l_loss) := ⟨rfl, rfl, rfl, by decide +kernel, rfl, by decide +kernel, by decide +kernel⟩
theorem ok_l_loss (T : Txt K mg) (F : Df K ⟨("_law_loss", none), "_law_loss", "_law_loss", defArgs s_l_loss, defBody s_l_loss, defScope s_l_loss, [], []⟩) (g : mg "_law_loss" = some (.ref (He.ga K "_law_loss"))) (h_l_least : Ok P w K mg base CX0 3 "_law_least" ["_law_length", "_law_slots"] (sp_l_least K)) :
    Ok P w K mg base CX0 4 "_law_loss" ["_law_length", "_law_slots", "_law_m"] (sp_l_loss K) := by
  refine mk_ok (st := s_l_loss) F g (fun _ _ _ _ _ _ us hl => match us, hl with | [_, _, _], _ => rfl) sc_l_loss (fun vs H Q E h => len_l_loss K h) (fun cdv A outer s H vs Q E hr h => ⟨t_l_loss K, PSs.nox ?_, pure_l_loss K h⟩)
  exact (pss_cons (ps_set (i := 3) sc_l_loss.nd rfl (by first | exact Or.inl rfl | exact Or.inr rfl) (pe_op op_add (pe_op op_add (pv 2) (pe_callO h_l_least (hr.mono (by decide)) rfl pass0 (pa_cons (pe_op op_sub (pv 0) (pv 2)) (pa_cons (pe_op op_sub (pv 1) pe_int) pa_nil)))) (pe_callO h_l_least (hr.mono (by decide)) rfl pass0 (pa_cons (pv 2) (pa_cons (pv 1) pa_nil)))))
  (pss_one (ps_ret (pe_op op_sub (pv 3) (pe_callO h_l_least (hr.mono (by decide)) rfl pass0 (pa_cons (pv 0) (pa_cons (pv 1) pa_nil)))))))
abbrev s_l_right : Stmt := top 31
theorem sc_l_right : FnScope ["_law_bag_here", "_law_length", "_law_slots", "_law_least_here", "_law_greatest", "_law_asked", "_law_m", "_law_told", "_law_near", "_law_turn"] ["_law_bag_here"] (defScope s_l_right) := ⟨rfl, rfl, rfl, by decide +kernel, rfl, by decide +kernel, by decide +kernel⟩
theorem ok_l_right (T : Txt K mg) (F : Df K ⟨("_law_right", none), "_law_right", "_law_right", defArgs s_l_right, defBody s_l_right, defScope s_l_right, [], []⟩) (g : mg "_law_right" = some (.ref (He.ga K "_law_right"))) (h_l_task : Ok P w K mg base CX0 2 "_law_task" ["_law_bag_here"] (sp_l_task K)) (h_best_splits : Ok P w K mg base CX0 5 "best_splits" ["length", "slots"] (sp_best_splits K)) (h_l_pick : Ok P w K mg base CX0 1 "_law_pick" ["_law_bag_here", "_law_many"] (sp_l_pick K)) (h_split_loss : Ok P w K mg base CX0 4 "split_loss" ["length", "slots", "state"] (sp_split_loss K)) (h_l_loss : Ok P w K mg base CX0 4 "_law_loss" ["_law_length", "_law_slots", "_law_m"] (sp_l_loss K)) :
    Ok P w K mg base CX0 6 "_law_right" ["_law_bag_here"] (sp_l_right K) := by
  refine mk_ok (st := s_l_right) F g (fun _ _ _ _ _ _ us hl => match us, hl with | [_], _ => rfl) sc_l_right (fun vs H Q E h => len_l_right K h) (fun cdv A outer s H vs Q E hr h => ⟨t_l_right K, PSs.nox ?_, pure_l_right K h⟩)
  exact (pss_cons (ps_asg (pe_callO h_l_task (hr.mono (by decide)) rfl pass0 (pa_cons (pv 0) pa_nil)) (pg_tup rfl (pgs_cons (pg_name (i := 1) sc_l_right.nd rfl (by first | exact Or.inl rfl | exact Or.inr rfl)) (pgs_cons (pg_name (i := 2) sc_l_right.nd rfl (by first | exact Or.inl rfl | exact Or.inr rfl)) pgs_nil))))
  (pss_cons (ps_if (PW.pt (pw_or (pt_cmpR op_eq (pv 1) pe_int (nomark _)) (pw_or1 (pt_cmpR op_eq (pv 2) pe_int (nomark _))))) (pss_one (ps_ret (pe_cmpR op_isN (pe_callO h_best_splits (hr.mono (by decide)) rfl pass0 (pa_cons (pv 1) (pa_cons (pv 2) pa_nil))) pe_non (nomark _)))) pss_nil)
  (pss_cons (ps_asg (pe_callO h_best_splits (hr.mono (by decide)) rfl pass0 (pa_cons (pv 1) (pa_cons (pv 2) pa_nil))) (pg_tup rfl (pgs_cons (pg_name (i := 3) sc_l_right.nd rfl (by first | exact Or.inl rfl | exact Or.inr rfl)) (pgs_cons (pg_name (i := 4) sc_l_right.nd rfl (by first | exact Or.inl rfl | exact Or.inr rfl)) pgs_nil))))
  (pss_cons (ps_if (pt_not (pt_chain3 op_le op_le op_lt pe_int (pv 3) (pv 4) (pv 1))) (pss_one (ps_ret pe_bl)) pss_nil)
  (pss_cons (ps_set (i := 5) sc_l_right.nd rfl (by first | exact Or.inl rfl | exact Or.inr rfl) (pe_lst (pa_cons (pv 3) (pa_cons (pv 4) (pa_cons (pe_op op_add (pv 3) (pe_callO h_l_pick (hr.mono (by decide)) rfl pass0 (pa_cons (pv 0) (pa_cons (pe_op op_add (pe_op op_sub (pv 4) (pv 3)) pe_int) pa_nil)))) pa_nil)))))
  (pss_cons (ps_set (i := 5) sc_l_right.nd rfl (by first | exact Or.inl rfl | exact Or.inr rfl) (pe_op op_cat (pv 5) (pe_lc (own := [("_law_turn", 9)]) (g := (gName 9)) (tt := tYes) rfl sc_l_right.nd (pi_range1 rfl T.range (pa_cons pe_int pa_nil)) (blkOk_by (own := [("_law_turn", 9)]) (N := ["_law_bag_here", "_law_length", "_law_slots", "_law_least_here", "_law_greatest", "_law_asked", "_law_m", "_law_told", "_law_near", "_law_turn"]) (sc := defScope s_l_right) (by decide +kernel)) (fun _ _ _ _ _ => (pg_name (i := 9) sc_l_right.nd rfl (by first | exact Or.inl rfl | exact Or.inr rfl))) (fun _ _ _ _ _ => pts_nil) (fun _ _ _ _ _ => (pe_op op_add pe_int (pe_callO h_l_pick (hr.mono (by decide)) rfl pass0 (pa_cons (pv 0) (pa_cons (pe_op op_sub (pv 1) pe_int) pa_nil))))))))
  (pss_cons (ps_for PassesOwn.never rfl (pi_list (pe_op op_cat (pv 5) (pe_lc (own := [("_law_m", 6)]) (g := (gName 6)) (tt := (tTest (tChain oLt oLt (tC (.int 0)) (tVar 6) (tVar 1)))) rfl sc_l_right.nd (pi_tup (pe_tup (pa_cons (pe_op op_sub (pv 3) pe_int) (pa_cons (pe_op op_add (pv 4) pe_int) pa_nil)))) (blkOk_by (own := [("_law_m", 6)]) (N := ["_law_bag_here", "_law_length", "_law_slots", "_law_least_here", "_law_greatest", "_law_asked", "_law_m", "_law_told", "_law_near", "_law_turn"]) (sc := defScope s_l_right) (by decide +kernel)) (fun _ _ _ _ _ => (pg_name (i := 6) sc_l_right.nd rfl (by first | exact Or.inl rfl | exact Or.inr rfl))) (fun _ _ _ _ _ => pts_one (pt_chain op_lt op_lt pe_int (pv 6) (pv 1))) (fun _ _ _ _ _ => (pv 6))))) (pg_name (i := 6) sc_l_right.nd rfl (by first | exact Or.inl rfl | exact Or.inr rfl))
  (pss_cons (ps_set (i := 7) sc_l_right.nd rfl (by first | exact Or.inl rfl | exact Or.inr rfl) (pe_callO h_split_loss (hr.mono (by decide)) rfl pass0 (pa_cons (pv 1) (pa_cons (pv 2) (pa_cons (pv 6) pa_nil)))))
  (pss_cons (ps_if (PW.pt (pw_or (pt_cmpR op_ne (pe_callB call_reprA (by rfl) T.repr (by decide +kernel) (pa_cons (pv 7) pa_nil)) (pe_callB call_reprA (by rfl) T.repr (by decide +kernel) (pa_cons (pe_callO h_l_loss (hr.mono (by decide)) rfl pass0 (pa_cons (pv 1) (pa_cons (pv 2) (pa_cons (pv 6) pa_nil)))) pa_nil)) (nomark _)) (pw_or1 (pt_cmpR op_ne (pe_cmpR op_eq (pv 7) pe_int (nomark _)) (pe_chain op_le op_le (pv 3) (pv 6) (pv 4)) (nomark _))))) (pss_one (ps_ret pe_bl)) pss_nil)
  (pss_cons (ps_set (i := 8) sc_l_right.nd rfl (by first | exact Or.inl rfl | exact Or.inr rfl) (pe_op op_sub (pe_op op_add (pv 6) (pe_callTy call_int1 (by rfl) T.int (by decide +kernel) (pa_cons (pe_cmpR op_lt (pv 6) (pv 3) (nomark _)) pa_nil))) (pe_callTy call_int1 (by rfl) T.int (by decide +kernel) (pa_cons (pe_cmpR op_gt (pv 6) (pv 4) (nomark _)) pa_nil))))
  (pss_one (ps_if (pt_cmpR op_gt (pe_callO h_split_loss (hr.mono (by decide)) rfl pass0 (pa_cons (pv 1) (pa_cons (pv 2) (pa_cons (pv 8) pa_nil)))) (pv 7) (nomark _)) (pss_one (ps_ret pe_bl)) pss_nil))))))
  (pss_one (ps_ret pe_bl)))))))))
abbrev s_law : Stmt := top 32
theorem sc_law : FnScope ["_law_script", "_law_cell", "_law_bag_here", "_law_turn"] ["_law_script"] (defScope s_law) := ⟨rfl, rfl, rfl, by decide +kernel, rfl, by decide +kernel, by decide +kernel⟩
theorem ok_law (T : Txt K mg) (F : Df K ⟨("law", none), "law", "law", defArgs s_law, defBody s_law, defScope s_law, [], []⟩) (g : mg "law" = some (.ref (He.ga K "law"))) (h_l_bag : Ok P w K mg base CX0 1 "_law_bag" ["_law_cell"] (sp_l_bag K)) (h_l_right : Ok P w K mg base CX0 6 "_law_right" ["_law_bag_here"] (sp_l_right K)) (h_best_splits : Ok P w K mg base CX0 5 "best_splits" ["length", "slots"] (sp_best_splits K)) (h_split_loss : Ok P w K mg base CX0 4 "split_loss" ["length", "slots", "state"] (sp_split_loss K)) :
    Ok P w K mg base CX0 7 "law" ["_law_script"] (sp_law_k11 K) := by
  refine mk_ok (st := s_law) F g (fun _ _ _ _ _ _ us hl => match us, hl with | [_], _ => rfl) sc_law (fun vs H Q E h => len_law_k11 K h) (fun cdv A outer s H vs Q E hr h => ⟨t_law_k11 K, PSs.nox ?_, pure_law_k11 K h⟩)
  exact (pss_cons (ps_for PassesOwn.never rfl (pi_list (pe_op op_cat (pe_slice sl_list (pv 0) po_none (po_some pe_int)) (pe_lst (pa_cons pe_int pa_nil)))) (pg_name (i := 1) sc_law.nd rfl (by first | exact Or.inl rfl | exact Or.inr rfl))
  (pss_cons (ps_set (i := 2) sc_law.nd rfl (by first | exact Or.inl rfl | exact Or.inr rfl) (pe_callO h_l_bag (hr.mono (by decide)) rfl pass0 (pa_cons (pv 1) pa_nil)))
  (pss_one (ps_for PassesOwn.never rfl (pi_range1 rfl T.range (pa_cons pe_int pa_nil)) (pg_name (i := 3) sc_law.nd rfl (by first | exact Or.inl rfl | exact Or.inr rfl))
  (pss_one (ps_if (pt_not (pt_val (pe_callO h_l_right (hr.mono (by decide)) rfl pass0 (pa_cons (pv 2) pa_nil)))) (pss_one (ps_ret pe_bl)) pss_nil))))))
  (pss_one (ps_ret (pe_and (pe_cmpR op_isN (pe_callO h_best_splits (hr.mono (by decide)) rfl pass0 (pa_cons (pe_op op_powA pe_int pe_int) (pa_cons pe_int pa_nil))) pe_non (nomark _)) (pe_one (pe_cmpR op_gt (pe_callO h_split_loss (hr.mono (by decide)) rfl pass0 (pa_cons (pe_op op_powA pe_int pe_int) (pa_cons pe_int (pa_cons pe_int pa_nil)))) pe_int (nomark _)))))))
end
/-! ### the head: facts by names, the run -/
abbrev R : PySem.W.OpenRow := PySem.W.OpenLaw.row PySem.Challenge.rw_backslots_k11_great_splits
def mkD (x : Str) (i : Nat) : He.DefD := ⟨(x, none), x, x, defArgs (top i), defBody (top i), defScope (top i), [], []⟩
def fn : List He.DefD := ([mkD "is_int" 1, mkD "is_whole" 2, mkD "require_length" 11, mkD "require_slots" 12, mkD "require_task" 13, mkD "reach_of" 14, mkD "rounds_of" 15, mkD "steps_with" 17, mkD "least_of" 18, mkD "splits_with" 20, mkD "best_splits" 21, mkD "split_loss" 22, mkD "_law_bag" 24, mkD "_law_pick" 25, mkD "_law_reach" 26, mkD "_law_rounds" 27, mkD "_law_least" 28, mkD "_law_task" 29, mkD "_law_loss" 30, mkD "_law_right" 31, mkD "law" 32] : List He.DefD)
def fa : List He.Fa := ([.glo "is_int", .glo "is_whole", .glo "require_length", .glo "require_slots", .glo "require_task", .glo "reach_of", .glo "rounds_of", .glo "steps_with", .glo "least_of", .glo "splits_with", .glo "best_splits", .glo "split_loss", .glo "_law_bag", .glo "_law_pick", .glo "_law_reach", .glo "_law_rounds", .glo "_law_least", .glo "_law_task", .glo "_law_loss", .glo "_law_right", .glo "law", .free "isinstance", .free "int", .free "bool", .free "range", .free "max", .free "min", .free "repr", .int "MOST_LENGTH" 1000000000000000000000000000000, .int "MOST_SLOTS" 100] : List He.Fa)
abbrev hk : PySem.W.Hook := He.hookD 4 fa fn
def ob (s : PySem.W.SharedT) : He.AlD := He.obsDG 4 fa fn (HandSHeadRun.getT s)
theorem ob_eq (s : PySem.W.SharedT) : ob s = hk.obs s.abs := He.obsDG_eq (HandSHeadRun.getT_eq s)
def loose : List PySem.Str := (["is_int", "is_whole", "SlotError", "InvalidLength", "InvalidSlots", "InvalidState", "MOST_LENGTH", "MOST_SLOTS", "require_length", "require_slots", "require_task", "reach_of", "rounds_of", "steps_with", "least_of", "splits_with", "best_splits", "split_loss", "_law_bag", "_law_pick", "_law_reach", "_law_rounds", "_law_least", "_law_task", "_law_loss", "_law_right"] : List PySem.Str)
def steps : Nat := 6000
theorem run (w : World) : HandSHeadRun.RunEq R (PySem.W.view R.prog [32]) hk ob steps loose w := by
  intro os
  kernel_rfl
section
variable {K : PySem.W.Frag} {h : Heap} {mg : Str → Option Value}
theorem df (c : He.SaysD fa fn K) (i : Nat) {d : He.DefD} (e : fn[i]? = some d) : Df K d := c.def_ i e
theorem glo (X : K.In h) (G : h.Ns mainGlobals mg) (c : He.SaysD fa fn K) (i : Nat) {x : Str} (e : fa[i]? = some (.glo x)) : mg x = some (.ref (He.ga K x)) := He.glo_ok X G (c.fact i e)
theorem txt (X : K.In h) (G : h.Ns mainGlobals mg) (c : He.SaysD fa fn K) : Txt K mg where
  isinstance := He.free_ok X G (c.fact 21 (f := .free "isinstance") rfl)
  int := He.free_ok X G (c.fact 22 (f := .free "int") rfl)
  bool := He.free_ok X G (c.fact 23 (f := .free "bool") rfl)
  range := He.free_ok X G (c.fact 24 (f := .free "range") rfl)
  max := He.free_ok X G (c.fact 25 (f := .free "max") rfl)
  min := He.free_ok X G (c.fact 26 (f := .free "min") rfl)
  repr := He.free_ok X G (c.fact 27 (f := .free "repr") rfl)
  MOST_LENGTH := He.int_ok X G (c.fact 28 (f := .int "MOST_LENGTH" 1000000000000000000000000000000) rfl)
  MOST_SLOTS := He.int_ok X G (c.fact 29 (f := .int "MOST_SLOTS" 100) rfl)
end
theorem facts {P : Program} {w : World} {K : PySem.W.Frag} {h : Heap} {mg : Str → Option Value} {f : Addr} (X : K.In h) (G : h.Ns mainGlobals mg) (hfa : mg ("law" : Str) = some (.ref f)) (c : He.SaysD fa fn K) :
    ∃ fd : FuncData, (∀ (s : Shared) (v : Value), BindsTo s fd ⟨[v], []⟩ [("_law_script", v)]) ∧ ∀ base : Heap, K.In base → base.Ns mainGlobals mg → FnOk P w K mg base CX0 7 f fd ["_law_script"] (sp_law_k11 K) := by
  have T := txt X G c
  have e := hfa.symm.trans (glo X G c 20 (x := "law") rfl)
  cases e
  obtain ⟨fd, F⟩ := df c 20 (d := mkD "law" 32) rfl
  have b := FunD.bindsA (ps := ["_law_script"]) F fun _ _ _ _ _ _ us hl => match us, hl with | [_], _ => rfl
  refine ⟨fd, fun s v => b s [v] rfl, fun base _ _ => ?_⟩
  have o_is_int := ok_is_int (P := P) (w := w) (base := base) T (df c 0 (d := mkD "is_int" 1) rfl) (glo X G c 0 (x := "is_int") rfl)
  have o_is_whole := ok_is_whole (P := P) (w := w) (base := base) T (df c 1 (d := mkD "is_whole" 2) rfl) (glo X G c 1 (x := "is_whole") rfl) o_is_int
  have o_require_length := ok_require_length (P := P) (w := w) (base := base) T (df c 2 (d := mkD "require_length" 11) rfl) (glo X G c 2 (x := "require_length") rfl) o_is_whole
  have o_require_slots := ok_require_slots (P := P) (w := w) (base := base) T (df c 3 (d := mkD "require_slots" 12) rfl) (glo X G c 3 (x := "require_slots") rfl) o_is_whole
  have o_require_task := ok_require_task (P := P) (w := w) (base := base) T (df c 4 (d := mkD "require_task" 13) rfl) (glo X G c 4 (x := "require_task") rfl) o_require_length o_require_slots
  have o_reach_of := ok_reach_of (P := P) (w := w) (base := base) T (df c 5 (d := mkD "reach_of" 14) rfl) (glo X G c 5 (x := "reach_of") rfl)
  have o_rounds_of := ok_rounds_of (P := P) (w := w) (base := base) T (df c 6 (d := mkD "rounds_of" 15) rfl) (glo X G c 6 (x := "rounds_of") rfl) o_reach_of
  have o_steps_with := ok_steps_with (P := P) (w := w) (base := base) T (df c 7 (d := mkD "steps_with" 17) rfl) (glo X G c 7 (x := "steps_with") rfl) o_reach_of
  have o_least_of := ok_least_of (P := P) (w := w) (base := base) T (df c 8 (d := mkD "least_of" 18) rfl) (glo X G c 8 (x := "least_of") rfl) o_rounds_of o_steps_with
  have o_splits_with := ok_splits_with (P := P) (w := w) (base := base) T (df c 9 (d := mkD "splits_with" 20) rfl) (glo X G c 9 (x := "splits_with") rfl) o_reach_of
  have o_best_splits := ok_best_splits (P := P) (w := w) (base := base) T (df c 10 (d := mkD "best_splits" 21) rfl) (glo X G c 10 (x := "best_splits") rfl) o_require_task o_rounds_of o_splits_with
  have o_split_loss := ok_split_loss (P := P) (w := w) (base := base) T (df c 11 (d := mkD "split_loss" 22) rfl) (glo X G c 11 (x := "split_loss") rfl) o_require_length o_require_slots o_is_whole o_least_of
  have o_l_bag := ok_l_bag (P := P) (w := w) (base := base) T (df c 12 (d := mkD "_law_bag" 24) rfl) (glo X G c 12 (x := "_law_bag") rfl)
  have o_l_pick := ok_l_pick (P := P) (w := w) (base := base) T (df c 13 (d := mkD "_law_pick" 25) rfl) (glo X G c 13 (x := "_law_pick") rfl)
  have o_l_reach := ok_l_reach (P := P) (w := w) (base := base) T (df c 14 (d := mkD "_law_reach" 26) rfl) (glo X G c 14 (x := "_law_reach") rfl)
  have o_l_rounds := ok_l_rounds (P := P) (w := w) (base := base) T (df c 15 (d := mkD "_law_rounds" 27) rfl) (glo X G c 15 (x := "_law_rounds") rfl) o_l_reach
  have o_l_least := ok_l_least (P := P) (w := w) (base := base) T (df c 16 (d := mkD "_law_least" 28) rfl) (glo X G c 16 (x := "_law_least") rfl) o_l_rounds o_l_reach
  have o_l_task := ok_l_task (P := P) (w := w) (base := base) T (df c 17 (d := mkD "_law_task" 29) rfl) (glo X G c 17 (x := "_law_task") rfl) o_l_pick o_l_reach
  have o_l_loss := ok_l_loss (P := P) (w := w) (base := base) T (df c 18 (d := mkD "_law_loss" 30) rfl) (glo X G c 18 (x := "_law_loss") rfl) o_l_least
  have o_l_right := ok_l_right (P := P) (w := w) (base := base) T (df c 19 (d := mkD "_law_right" 31) rfl) (glo X G c 19 (x := "_law_right") rfl) o_l_task o_best_splits o_l_pick o_split_loss o_l_loss
  have o_law := ok_law (P := P) (w := w) (base := base) T (df c 20 (d := mkD "law" 32) rfl) (glo X G c 20 (x := "law") rfl) o_l_bag o_l_right o_best_splits o_split_loss
  exact fun_same F rfl o_law
end K11
open PySem PySem.W PySem.Calls
open PyProof.Rows hiding St
set_option maxRecDepth 100000 in
set_option maxHeartbeats 0 in
theorem PySem.Challenge.cw_backslots_k11_great_splits_holds : PySem.Challenge.rw_backslots_k11_great_splits.Holds := by
  w_on; o_law
  refine HandSHeadRun.head_any (r := OpenLaw.row PySem.Challenge.rw_backslots_k11_great_splits) (q := view (OpenLaw.row PySem.Challenge.rw_backslots_k11_great_splits).prog [32]) (H := K11.hk) (ob := K11.ob) (M := K11.steps) (loose := K11.loose) (d := HandSHeadRun.topDef (OpenLaw.row PySem.Challenge.rw_backslots_k11_great_splits).prog 32) (kwd := []) K11.ob_eq
    (by kernel_rfl) (fun s => by kernel_rfl) K11.run (by kernel_rfl) (by kernel_rfl) (by kernel_rfl) (by rfl) (by first | assumption | decide +kernel) (by decide +kernel) ⟨rfl, rfl, rfl, rfl, rfl, by decide +kernel⟩ ?hw ?hc
  case hw => w_witness2
  case hc =>
    refine L2.walk_ofE (l := PySem.Challenge.rw_backslots_k11_great_splits) (n := 63) (k := 7) (x := "_law_script") (CX := L2.CX0) rfl (by decide) (by kernel_rfl) ⟨rfl, by decide, by decide⟩ ?F (fun _ _ _ _ z => z)
    intro w mg fa h Y G hmg0
    obtain ⟨K, KX, c⟩ := Y
    have hmg : mg ("law" : PySem.Str) = some (.ref fa) := by
      have e : (HandSHeadRun.topDef (OpenLaw.row PySem.Challenge.rw_backslots_k11_great_splits).prog 32).name = ("law" : PySem.Str) := by kernel_rfl
      rw [← e]
      exact hmg0
    obtain ⟨fd, hb, hF⟩ := K11.facts (P := (PySem.Challenge.rw_backslots_k11_great_splits).prog) (w := w) KX G hmg c
    exact ⟨K, fd, Bs.sp_law_k11 K, KX, hb, fun H a ns hl _ hS => ⟨a, ns, rfl, hS, hl, fun _ => rfl⟩, hF⟩
#print axioms PySem.Challenge.cw_backslots_k11_great_splits_holds



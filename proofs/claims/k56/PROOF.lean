import PyProof.Rows.All
import Wide.All
import OpenK.AllK
import Wide.FinOn
import HandS.ForMost
import HandS.Exc
import HandS.ExcOwn
import HandS.Wide
import HandS.WideBits
import HandS.IsInst
import HandS.NoneIn
import HandS.Walk
import HandS.SortInts
import HandS.Style
import HandS.Flow
import HandS.FStr
import HandS.Conv
import HandS.Finally
import HandS.More
import HandS.TupAny
import HandS.SortKw
import KE.DataMinKey
import HandS.TryMany
import HandS.WordsExc
import HandS.SuiteRaise
import HandS.Deep
import PySem.Challenge.RW_frothwane_k56_whole_the_fewest_films
set_option Elab.async false
set_option linter.all false
set_option maxRecDepth 100000
set_option maxHeartbeats 4000000
namespace Fw
open PySem L2
/-! Fw: short words over the hand layer: readings by steps. -/
/-- nothing tracked stands there -/
def Free (H : Hp) (p : Addr) : Prop := H p = none
section
variable {σ : St} {H : Hp} {Q : VK} {nx bk ct : St → Hp → Prop} {rt : VK}
/-! ### statements -/
theorem r_seq {t u : TS} (h : t ⟨u ⟨nx, rt, bk, ct⟩, rt, bk, ct⟩ σ H) : tSeq t u ⟨nx, rt, bk, ct⟩ σ H := h
theorem r_asg {te : TE} {i : Nat} (h : te σ H (fun x H1 => nx (σ.set i (some x)) H1)) : tAsg te (gName i) ⟨nx, rt, bk, ct⟩ σ H := h
theorem r_asgG {te : TE} {g : TG} (h : te σ H (fun x H1 => g x σ H1 nx)) : tAsg te g ⟨nx, rt, bk, ct⟩ σ H := h
theorem r_ret {te : TE} (h : te σ H rt) : tRet te ⟨nx, rt, bk, ct⟩ σ H := h
theorem r_retN (h : rt .non H) : tRetN ⟨nx, rt, bk, ct⟩ σ H := h
theorem r_if {c : TT} {t u : TS} {D : Ends} (h : c σ H (fun b H1 => if b = true then t D σ H1 else u D σ H1)) : tIfS c t u D σ H := h
theorem r_next (h : nx σ H) : tNext ⟨nx, rt, bk, ct⟩ σ H := h
theorem r_drop {te : TE} (h : te σ H (fun _ H1 => nx σ H1)) : tDrop te ⟨nx, rt, bk, ct⟩ σ H := h
theorem r_break (h : bk σ H) : tBreak ⟨nx, rt, bk, ct⟩ σ H := h
theorem r_cont (h : ct σ H) : tCont ⟨nx, rt, bk, ct⟩ σ H := h
theorem r_par {ta : TA} {i j : Nat} (h : ta σ H (fun vs H1 => ∃ v w, vs = [v, w] ∧ nx ((σ.set i (some v)).set j (some w)) H1)) : tPar i j ta ⟨nx, rt, bk, ct⟩ σ H := h
theorem r_par2 {v w : V} {P : V → V → Prop} (h : P v w) : ∃ v' w', [v, w] = [v', w'] ∧ P v' w' := ⟨v, w, rfl, h⟩
theorem r_aug {te : TE} {ti : TIp} {i : Nat} {x : V} (hx : σ[i]? = some (some x)) (h : te σ H fun y H1 => ti x y H1 fun z H2 => nx (σ.set i (some z)) H2) : tAug i te ti ⟨nx, rt, bk, ct⟩ σ H := ⟨x, hx, h⟩
/-! ### expressions -/
theorem r_var {i : Nat} {v : V} (e : σ[i]? = some (some v)) (h : Q v H) : tVar i σ H Q := ⟨v, e, h⟩
theorem r_c {v : V} (h : Q v H) : tC v σ H Q := h
theorem r_op {r : R2} {ta tb : TE} (h : ta σ H fun x H1 => tb σ H1 fun y H2 => r x y H2 Q) : tOp r ta tb σ H Q := h
theorem r_un {r : V → Hp → VK → Prop} {ta : TE} (h : ta σ H fun x H1 => r x H1 Q) : tUn r ta σ H Q := h
theorem r_U {g : Int → V} {i : Int} (h : Q (g i) H) : rU g (.int i) H Q := ⟨i, rfl, h⟩
theorem r_I0 {g : Int → Int → V} {i j : Int} (h : Q (g i j) H) : rI0 g (.int i) (.int j) H Q := ⟨i, j, rfl, rfl, h⟩
theorem r_I {C : Int → Int → Prop} {g : Int → Int → V} {i j : Int} (hc : C i j) (h : Q (g i j) H) : rI C g (.int i) (.int j) H Q := ⟨i, j, rfl, rfl, hc, h⟩
theorem r_eq {x y : V} (hs : scal x y = true) (h : Q (.bl (decide (x = y))) H) : rEq x y H Q := ⟨hs, h⟩
theorem r_ne {x y : V} (hs : scal x y = true) (h : Q (.bl (!decide (x = y))) H) : rNe x y H Q := ⟨hs, h⟩
theorem r_nil {R : List V → Hp → Prop} (h : R [] H) : tNil σ H R := h
theorem r_cons {R : List V → Hp → Prop} {ta : TE} {tr : TA} (h : ta σ H fun x H1 => tr σ H1 fun xs H2 => R (x :: xs) H2) : tCons ta tr σ H R := h
theorem r_tup {t : TA} (h : t σ H fun xs H1 => xs.length ≤ sizeLine ∧ ∀ p, Free H1 p → Q (.ref p) (upd H1 p (.tup xs))) : tTup t σ H Q := h
theorem r_lst {t : TA} (h : t σ H fun xs H1 => xs.length ≤ sizeLine ∧ ∀ p, Free H1 p → Q (.ref p) (upd H1 p (.lst xs))) : tLst t σ H Q := h
theorem r_call {sp : Sp} {E : XK} {t : TA} (h : t σ H fun vs H1 => sp vs H1 Q E) : tCall sp [] E t σ H Q := by
  unfold tCall
  have e : (fun (vs : List V) (H1 : Hp) => sp (vs ++ []) H1 Q E) = fun vs H1 => sp vs H1 Q E := by
    funext vs H1
    rw [List.append_nil]
  rw [e]
  exact h
theorem r_cb {r : List V → Hp → VK → Prop} {t : TA} (h : t σ H fun vs H1 => r vs H1 Q) : tCB r t σ H Q := h
/-! ### tests -/
variable {R : Bool → Hp → Prop}
theorem r_test {t : TE} (h : t σ H fun x H1 => ∃ k, x = .bl k ∧ R k H1) : tTest t σ H R := h
theorem r_B {t : TE} (h : t σ H fun x H1 => ∃ k, x = .bl k ∧ R k H1) : tB t σ H R := h
theorem r_bl {b : Bool} {P : Bool → Prop} (h : P b) : ∃ k, V.bl b = .bl k ∧ P k := ⟨b, rfl, h⟩
theorem r_and {t u : TT} (h : t σ H fun c H1 => if c = true then u σ H1 R else R false H1) : tAnd t u σ H R := h
theorem r_or {t u : TT} (h : t σ H fun c H1 => if c = true then R true H1 else u σ H1 R) : tOr t u σ H R := h
theorem r_not {t : TT} (h : t σ H fun c H1 => R (!c) H1) : tNot t σ H R := h
theorem r_andV {ta tb : TE} (h : ta σ H fun x H1 => ∃ c, x = .bl c ∧ if c = true then tb σ H1 Q else Q (.bl false) H1) : tAndV ta tb σ H Q := h
theorem r_orV {ta tb : TE} (h : ta σ H fun x H1 => ∃ c, x = .bl c ∧ if c = true then Q (.bl true) H1 else tb σ H1 Q) : tOrV ta tb σ H Q := h
theorem r_notV {ta : TE} (h : ta σ H fun x H1 => ∃ c, x = .bl c ∧ Q (.bl (!c)) H1) : tNotV ta σ H Q := h
theorem r_ifE {t : TT} {ta tb : TE} (h : t σ H fun c H1 => if c = true then ta σ H1 Q else tb σ H1 Q) : tIf t ta tb σ H Q := h
theorem r_or2 {t u : TT} (b1 b2 : Bool) (h1 : ∀ R : Bool → Hp → Prop, R b1 H → t σ H R) (h2 : b1 = false → ∀ R : Bool → Hp → Prop, R b2 H → u σ H R) (h : R (b1 || b2) H) : tOr t u σ H R := by
  refine h1 _ ?_
  cases b1 with
  | true => rw [if_pos rfl]; exact h
  | false => rw [if_neg Bool.false_ne_true]; exact h2 rfl _ h
theorem r_and2 {t u : TT} (b1 b2 : Bool) (h1 : ∀ R : Bool → Hp → Prop, R b1 H → t σ H R) (h2 : b1 = true → ∀ R : Bool → Hp → Prop, R b2 H → u σ H R) (h : R (b1 && b2) H) : tAnd t u σ H R := by
  refine h1 _ ?_
  cases b1 with
  | true => rw [if_pos rfl]; exact h2 rfl _ h
  | false => rw [if_neg Bool.false_ne_true]; exact h
/-! ### branches -/
theorem iteD {c A B : Prop} [Decidable c] (h1 : c → A) (h2 : ¬ c → B) : if decide c = true then A else B := by
  by_cases h : c
  · rw [decide_eq_true h, if_pos rfl]; exact h1 h
  · rw [decide_eq_false h, if_neg Bool.false_ne_true]; exact h2 h
theorem iteN {c A B : Prop} [Decidable c] (h1 : ¬ c → A) (h2 : c → B) : if (!decide c) = true then A else B := by
  by_cases h : c
  · rw [decide_eq_true h, Bool.not_true, if_neg Bool.false_ne_true]; exact h2 h
  · rw [decide_eq_false h, Bool.not_false, if_pos rfl]; exact h1 h
theorem iteI {a b : Int} {A B : Prop} (h1 : a = b → A) (h2 : a ≠ b → B) : if decide (V.int a = V.int b) = true then A else B :=
  iteD (fun h => h1 (by injection h)) (fun h => h2 fun e => h (by rw [e]))
theorem iteNI {a b : Int} {A B : Prop} (h1 : a ≠ b → A) (h2 : a = b → B) : if (!decide (V.int a = V.int b)) = true then A else B :=
  iteN (fun h => h1 fun e => h (by rw [e])) (fun h => h2 (by injection h))
theorem iteNt {A B : Prop} (h : B) : if (!true) = true then A else B := iteF h
theorem iteNf {A B : Prop} (h : A) : if (!false) = true then A else B := iteT h
theorem iteNN {A B : Prop} (h : A) : if decide (V.non = V.non) = true then A else B := iteD (fun _ => h) (fun z => absurd rfl z)
theorem iteRN {a : Addr} {A B : Prop} (h : B) : if decide (V.ref a = V.non) = true then A else B := iteD (fun z => nomatch z) (fun _ => h)
theorem iteNNn {A B : Prop} (h : B) : if (!decide (V.non = V.non)) = true then A else B := iteN (fun z => absurd rfl z) (fun _ => h)
theorem iteRNn {a : Addr} {A B : Prop} (h : A) : if (!decide (V.ref a = V.non)) = true then A else B := iteN (fun _ => h) (fun z => nomatch z)
theorem iteB {b : Bool} {A B : Prop} (h1 : b = true → A) (h2 : b = false → B) : if b = true then A else B := by
  cases b with
  | true => rw [if_pos rfl]; exact h1 rfl
  | false => rw [if_neg Bool.false_ne_true]; exact h2 rfl
theorem iteNB {b : Bool} {A B : Prop} (h1 : b = false → A) (h2 : b = true → B) : if (!b) = true then A else B := by
  cases b with
  | true => exact iteF (h2 rfl)
  | false => exact iteT (h1 rfl)
/-! ### loops -/
theorem r_while {c : TT} {tb : TS} (Pv : St → Hp → Prop) (μ : St → Hp → Nat) (h0 : Pv σ H)
    (hs : ∀ σ H, Pv σ H → c σ H fun b H1 => if b = true then ∃ N : St → Hp → Prop, (∀ σ' H', N σ' H' → Pv σ' H' ∧ μ σ' H' < μ σ H) ∧ tb ⟨N, rt, nx, N⟩ σ H1 else nx σ H1)
    (mono : ∀ σ H R R', (∀ b H1, R b H1 → R' b H1) → c σ H R → c σ H R') : tWhile c tb ⟨nx, rt, bk, ct⟩ σ H := by
  refine ⟨fun m σ H => m = μ σ H ∧ Pv σ H, ⟨_, rfl, h0⟩, ?_⟩
  rintro m σ H ⟨rfl, p⟩
  refine mono σ H _ _ (fun b H1 q => ?_) (hs σ H p)
  cases b with
  | true =>
    obtain ⟨N, hN, q⟩ := q
    exact ⟨N, fun σ' H' n => ⟨_, (hN σ' H' n).2, rfl, (hN σ' H' n).1⟩, q⟩
  | false => exact q
theorem r_wT {tb : TS} {P : St → Hp → Prop} {m : Nat} {μ : St → Hp → Nat} (h : tb ⟨fun σ' H' => P σ' H' ∧ μ σ' H' < m, rt, nx, fun σ' H' => P σ' H' ∧ μ σ' H' < m⟩ σ H) :
    ∃ N : St → Hp → Prop, (∀ σ' H', N σ' H' → P σ' H' ∧ μ σ' H' < m) ∧ tb ⟨N, rt, nx, N⟩ σ H := ⟨_, fun _ _ q => q, h⟩
/-- a test that changes nothing, for while -/
def MonoT (c : TT) : Prop := ∀ σ H R R', (∀ b H1, R b H1 → R' b H1) → c σ H R → c σ H R'
def MonoE (t : TE) : Prop := ∀ σ H (Q Q' : VK), (∀ v H1, Q v H1 → Q' v H1) → t σ H Q → t σ H Q'
def MonoR (r : R2) : Prop := ∀ x y H (Q Q' : VK), (∀ v H1, Q v H1 → Q' v H1) → r x y H Q → r x y H Q'
theorem mono_test {t : TE} (h : MonoE t) : MonoT (tTest t) := fun σ H R R' k q => h σ H _ _ (fun v H1 ⟨b, e, z⟩ => ⟨b, e, k _ _ z⟩) q
theorem mono_op {r : R2} {ta tb : TE} (hr : MonoR r) (ha : MonoE ta) (hb : MonoE tb) : MonoE (tOp r ta tb) := fun σ H Q Q' k q => ha σ H _ _ (fun v H1 z => hb σ H1 _ _ (fun w H2 z => hr v w H2 Q Q' k z) z) q
theorem mono_var {i : Nat} : MonoE (tVar i) := fun σ H Q Q' k ⟨v, e, z⟩ => ⟨v, e, k _ _ z⟩
theorem mono_c {v : V} : MonoE (tC v) := fun σ H Q Q' k z => k _ _ z
theorem mono_I0 {g : Int → Int → V} : MonoR (rI0 g) := fun x y H Q Q' k ⟨i, j, e1, e2, z⟩ => ⟨i, j, e1, e2, k _ _ z⟩
theorem mono_ne : MonoR rNe := fun x y H Q Q' k ⟨e1, z⟩ => ⟨e1, k _ _ z⟩
theorem mono_eq : MonoR rEq := fun x y H Q Q' k ⟨e1, z⟩ => ⟨e1, k _ _ z⟩
/-- a for over whatever walks -/
theorem r_for {wi : TI} {g : TG} {tb : TS} (h : wi σ H fun J H1 => ∃ W : Nat → Nat → St → Hp → Prop, (∃ m, W 0 m σ H1) ∧ ∀ i m σ H, W i m σ H →
    (J.stop i H ∧ nx σ H) ∨ (J.go i H ∧ ∃ N : St → Hp → Prop, (∀ σ' H', N σ' H' → ∃ m', m' < m ∧ W (i + 1) m' σ' H') ∧ ∀ x H', J.yld i H x H' → g x σ H' fun σ2 H2 => tb ⟨N, rt, nx, N⟩ σ2 H2)) :
    tFor wi g tb ⟨nx, rt, bk, ct⟩ σ H := h
/-- .. by an invariant -/
theorem r_it {J : It} {n : Nat} {G : Hp → Prop} {Y : Nat → Hp → V → Hp → Prop} (w : Walk J n G Y) {g : TG} {tb : TS} (Pv : Nat → St → Hp → Prop) (h0 : Pv 0 σ H) (hG : ∀ i σ H, i ≤ n → Pv i σ H → G H)
    (hs : ∀ i x σ H H', i < n → Pv i σ H → Y i H x H' → g x σ H' fun σ2 H2 => tb ⟨Pv (i + 1), rt, nx, Pv (i + 1)⟩ σ2 H2) (hd : ∀ σ H, Pv n σ H → nx σ H) :
    ∃ W : Nat → Nat → St → Hp → Prop, (∃ m, W 0 m σ H) ∧ ∀ i m σ H, W i m σ H →
      (J.stop i H ∧ nx σ H) ∨ (J.go i H ∧ ∃ N : St → Hp → Prop, (∀ σ' H', N σ' H' → ∃ m', m' < m ∧ W (i + 1) m' σ' H') ∧ ∀ x H', J.yld i H x H' → g x σ H' fun σ2 H2 => tb ⟨N, rt, nx, N⟩ σ2 H2) :=
  for_it (D := ⟨nx, rt, fun _ _ => False, fun _ _ => False⟩) w Pv h0 hG hs hd
/-! ### targets -/
theorem g_name {i : Nat} {v : V} {R : St → Hp → Prop} (h : R (σ.set i (some v)) H) : gName i v σ H R := h
theorem g_nil {R : St → Hp → Prop} (h : R σ H) : gNil [] σ H R := ⟨rfl, h⟩
theorem g_cons {t : TG} {u : TGs} {v : V} {r : List V} {R : St → Hp → Prop} (h : t v σ H fun σ' H' => u r σ' H' R) : gCons t u (v :: r) σ H R := ⟨v, r, rfl, h⟩
theorem g_tup {K : PySem.W.Frag} {n : Nat} {t : TGs} {a : Addr} {xs : List V} {R : St → Hp → Prop} (ha : SqT K H a xs) (hl : xs.length = n) (h : t xs σ H R) : gTup K n t (.ref a) σ H R := ⟨a, xs, rfl, ha, hl, h⟩
theorem g_unl {K : PySem.W.Frag} {n : Nat} {t : TGs} {a : Addr} {xs : List V} {R : St → Hp → Prop} (ha : SqL K H a xs) (hl : xs.length = n) (h : t xs σ H R) : gUnl K n t (.ref a) σ H R := ⟨a, xs, rfl, ha, hl, h⟩
end
/-! ### a statement, then the rest, with a word between them -/
def tCut (t u : TS) : TS := fun D σ H => ∃ Mid : St → Hp → Prop, t { D with nx := Mid } σ H ∧ ∀ σ' H', Mid σ' H' → u D σ' H'
theorem pss_cut {X : Cx} {st : Stmt} {rest : List Stmt} {t u : TS} (h1 : PS X st t) (h2 : PSs X rest u) : PSs X (st :: rest) (tCut t u) := by
  refine ⟨fun pins s σ H D I h => ?_⟩
  obtain ⟨Mid, h, k⟩ := h
  refine wpAny_execs_cons (thn (h1.run pins s σ H { D with nx := Mid } I h) fun f s1 q => ?_)
  cases f with
  | next =>
    obtain ⟨σ', H', I', q⟩ := q
    exact h2.run pins s1 σ' H' D I' (k σ' H' q)
  | ret v => exact q
  | brk => exact q
  | cont => exact q
theorem r_cut {σ : St} {H : Hp} {nx bk ct : St → Hp → Prop} {rt : VK} {t u : TS} (Mid : St → Hp → Prop) (h1 : t ⟨Mid, rt, bk, ct⟩ σ H) (h2 : ∀ σ' H', Mid σ' H' → u ⟨nx, rt, bk, ct⟩ σ' H') : tCut t u ⟨nx, rt, bk, ct⟩ σ H := ⟨Mid, h1, h2⟩
/-! ### readings by name -/
abbrev rAddI : R2 := rI0 fun i j => .int (i + j)
abbrev rSubI : R2 := rI0 fun i j => .int (i - j)
abbrev rMulI : R2 := rI CMul fun i j => .int (i * j)
abbrev rMulX : R2 := rI CMulX fun i j => .int (i * j)
abbrev rDivW : R2 := rI CDivW fun i j => .int (i / j)
abbrev rModI : R2 := rI (fun _ j => 0 < j) fun i j => .int (i % j)
abbrev rPowI : R2 := rI CPow fun i j => .int (i ^ j.toNat)
abbrev rLtI : R2 := rI0 fun i j => .bl (decide (i < j))
abbrev rLeI : R2 := rI0 fun i j => .bl (decide (i ≤ j))
abbrev rGtI : R2 := rI0 fun i j => .bl (decide (j < i))
abbrev rGeI : R2 := rI0 fun i j => .bl (decide (j ≤ i))
abbrev rNegI : V → Hp → VK → Prop := rU fun i => .int (-i)
def rAddS : R2 := fun x y H Q => ∃ i j, x = .str i ∧ y = .str j ∧ i.length + j.length ≤ sizeLine ∧ Q (.str (i ++ j)) H
def rIsN : R2 := fun x y H Q => y = .non ∧ Q (.bl (decide (x = .non))) H
def rNotN : R2 := fun x y H Q => y = .non ∧ Q (.bl (!decide (x = .non))) H
def rAbs : List V → Hp → VK → Prop := fun xs H Q => ∃ i, xs = [.int i] ∧ Q (.int (if i < 0 then -i else i)) H
def rMax2 : List V → Hp → VK → Prop := fun xs H Q => ∃ i j, xs = [.int i, .int j] ∧ Q (.int (if j > i then j else i)) H
def rMin2 : List V → Hp → VK → Prop := fun xs H Q => ∃ i j, xs = [.int i, .int j] ∧ Q (.int (if j < i then j else i)) H
def rLenSeq (K : PySem.W.Frag) : List V → Hp → VK → Prop := fun xs H Q => ∃ p ys, xs = [.ref p] ∧ (SqL K H p ys ∨ SqT K H p ys) ∧ Q (.int ys.length) H
def rLenStr : List V → Hp → VK → Prop := fun xs H Q => ∃ z, xs = [.str z] ∧ z.length ≤ sizeLine ∧ Q (.int z.length) H
def rStrInt : List V → Hp → VK → Prop := fun xs H Q => ∃ i, xs = [.int i] ∧ i.natAbs.log2 < 1920 ∧ Q (.str (toString i)) H
def rListOf (K : PySem.W.Frag) : List V → Hp → VK → Prop := fun xs H Q => ∃ p ys, xs = [.ref p] ∧ (SqL K H p ys ∨ SqT K H p ys) ∧ ∀ l, H l = none → Q (.ref l) (upd H l (.lst ys))
def rTupleOf (K : PySem.W.Frag) : List V → Hp → VK → Prop := fun xs H Q => ∃ p ys, xs = [.ref p] ∧ ((SqL K H p ys ∧ ∀ l, H l = none → Q (.ref l) (upd H l (.tup ys))) ∨ (SqT K H p ys ∧ Q (.ref p) H))
section
variable {σ : St} {H : Hp} {Q : VK} {K : PySem.W.Frag}
theorem r_addS {a b : Str} (hl : a.length + b.length ≤ sizeLine) (h : Q (.str (a ++ b)) H) : rAddS (.str a) (.str b) H Q := ⟨a, b, rfl, rfl, hl, h⟩
theorem r_isN {x : V} (h : Q (.bl (decide (x = .non))) H) : rIsN x .non H Q := ⟨rfl, h⟩
theorem r_notN {x : V} (h : Q (.bl (!decide (x = .non))) H) : rNotN x .non H Q := ⟨rfl, h⟩
theorem r_abs {i : Int} (h : Q (.int (if i < 0 then -i else i)) H) : rAbs [.int i] H Q := ⟨i, rfl, h⟩
theorem r_max2 {i j : Int} (h : Q (.int (if j > i then j else i)) H) : rMax2 [.int i, .int j] H Q := ⟨i, j, rfl, h⟩
theorem r_min2 {i j : Int} (h : Q (.int (if j < i then j else i)) H) : rMin2 [.int i, .int j] H Q := ⟨i, j, rfl, h⟩
theorem r_lenL {p : Addr} {ys : List V} (hs : SqL K H p ys) (h : Q (.int ys.length) H) : rLenSeq K [.ref p] H Q := ⟨p, ys, rfl, .inl hs, h⟩
theorem r_lenT {p : Addr} {ys : List V} (hs : SqT K H p ys) (h : Q (.int ys.length) H) : rLenSeq K [.ref p] H Q := ⟨p, ys, rfl, .inr hs, h⟩
theorem r_lenStr {z : Str} (hl : z.length ≤ sizeLine) (h : Q (.int z.length) H) : rLenStr [.str z] H Q := ⟨z, rfl, hl, h⟩
theorem r_strInt {i : Int} (hl : i.natAbs.log2 < 1920) (h : Q (.str (toString i)) H) : rStrInt [.int i] H Q := ⟨i, rfl, hl, h⟩
theorem r_listL {p : Addr} {ys : List V} (hs : SqL K H p ys) (h : ∀ l, Free H l → Q (.ref l) (upd H l (.lst ys))) : rListOf K [.ref p] H Q := ⟨p, ys, rfl, .inl hs, h⟩
theorem r_listT {p : Addr} {ys : List V} (hs : SqT K H p ys) (h : ∀ l, Free H l → Q (.ref l) (upd H l (.lst ys))) : rListOf K [.ref p] H Q := ⟨p, ys, rfl, .inr hs, h⟩
theorem r_tupleL {p : Addr} {ys : List V} (hs : SqL K H p ys) (h : ∀ l, Free H l → Q (.ref l) (upd H l (.tup ys))) : rTupleOf K [.ref p] H Q := ⟨p, ys, rfl, .inl ⟨hs, h⟩⟩
theorem r_ixL {p : Addr} {xs : List V} {i : Int} {v : V} (hs : SqL K H p xs) (ha : atI xs i = some v) (h : Q v H) : rIxL K (.ref p) (.int i) H Q := ⟨p, xs, i, v, rfl, rfl, hs, ha, h⟩
theorem r_ixT {p : Addr} {xs : List V} {i : Int} {v : V} (hs : SqT K H p xs) (ha : atI xs i = some v) (h : Q v H) : rIxT K (.ref p) (.int i) H Q := ⟨p, xs, i, v, rfl, rfl, hs, ha, h⟩
theorem r_isi {x c : V} {t u : Value} {b : Bool} (hc : ClsV c u) (ht : TyX K H x t) (hk : PySem.W.kitOne K t u = some b) (h : Q (.bl b) H) : rIsi K [x, c] H Q := ⟨x, c, t, u, b, rfl, hc, ht, hk, h⟩
theorem r_lenOk {xs : List V} {P : Prop} (hl : xs.length ≤ sizeLine) (h : P) : xs.length ≤ sizeLine ∧ P := ⟨hl, h⟩
end
/-! ### heaps -/
section
variable {H H1 : Hp} {p q : Addr} {o u : HO}
theorem same_new (s : Same H H1) (h : Free H1 p) : Same H (upd H1 p o) := fun b x e => by
  have z := s b x e
  rw [upd_ne (ne_of_none z h)]
  exact z
theorem same_mut (s : Same H H1) (h : Free H p) : Same H (upd H1 p o) := fun b x e => by
  rw [upd_ne (ne_of_none e h)]
  exact s b x e
theorem at_new (h : H q = some u) (hp : Free H p) : upd H p o q = some u := by
  rw [upd_ne (ne_of_none h hp)]
  exact h
theorem at_ne (h : H q = some u) (hp : q ≠ p) : upd H p o q = some u := by
  rw [upd_ne hp]
  exact h
theorem same_free (s : Same H H1) (h : Free H1 p) : Free H p := s.free h
theorem same_tup {K : PySem.W.Frag} {a : Addr} {xs : List V} (e : Same H H1) (h : SqT K H a xs) : SqT K H1 a xs := by
  rcases h with (h | ⟨o, h⟩) | h
  · exact .inl (.inl (e _ _ h))
  · exact .inl (.inr ⟨o, e _ _ h⟩)
  · exact .inr h
theorem same_rd {a : Addr} (e : Same H H1) (h : Rd H a u) : Rd H1 a u := by
  rcases h with h | ⟨o, h⟩
  · exact .inl (e _ _ h)
  · exact .inr ⟨o, e _ _ h⟩
end
/-! ### facts of a heap, looked for: the fact first, then that it is kept -/
section
variable {H H' H0 : Hp} {a p q : Addr} {o u u0 : HO} {K : PySem.W.Frag} {xs ys : List V}
def Keep (H0 H : Hp) (a : Addr) : Prop := ∀ u, H0 a = some u → H a = some u
theorem keep_refl : Keep H H a := fun _ h => h
theorem keep_new (hp : Free H p) (k : Keep H0 H a) : Keep H0 (upd H p o) a := fun u h => at_new (k u h) hp
theorem keep_ne (hn : a ≠ p) (k : Keep H0 H a) : Keep H0 (upd H p o) a := fun u h => at_ne (k u h) hn
theorem keep_same (s : Same H H') (k : Keep H0 H a) : Keep H0 H' a := fun u h => s a u (k u h)
theorem back_new (hp : Free H p) (h : H a = some u) : upd H p o a = some u := at_new h hp
theorem back_ne (hn : a ≠ p) (h : H a = some u) : upd H p o a = some u := at_ne h hn
theorem back_same (s : Same H H') (h : H a = some u) : H' a = some u := s a u h
theorem at_keep (h : H0 a = some u) (k : Keep H0 H a) : H a = some u := k u h
theorem ne_fresh (h : H a = some u) (h0 : Free H p) : a ≠ p := ne_of_none h h0
theorem ne_fresh' (h : H p = some u) (h0 : Free H a) : a ≠ p := (ne_of_none h h0).symm
theorem lst_same (s : Same H H') (h : SqL K H a xs) : SqL K H' a xs := s.seq h
def KeepT (K : PySem.W.Frag) (H0 H : Hp) (a : Addr) (xs : List V) : Prop := SqT K H0 a xs → SqT K H a xs
theorem keepT_refl : KeepT K H H a xs := fun h => h
theorem keepT_new (hp : Free H p) (k : KeepT K H0 H a xs) : KeepT K H0 (upd H p o) a xs := fun h => same_tup (same_new (Same.refl H) hp) (k h)
theorem keepT_same (s : Same H H') (k : KeepT K H0 H a xs) : KeepT K H0 H' a xs := fun h => same_tup s (k h)
theorem keepT_mut (hp : H p = some u) (hm : Mut (some u)) (k : KeepT K H0 H a xs) : KeepT K H0 (upd H p o) a xs := fun h => by
  rcases k h with (h | ⟨ob, h⟩) | h
  · exact .inl (.inl (at_ne h fun e => by subst e; rw [hp] at h; cases h; exact hm))
  · exact .inl (.inr ⟨ob, at_ne h fun e => by subst e; rw [hp] at h; cases h; exact hm⟩)
  · exact .inr h
theorem tup_keep (h : SqT K H0 a xs) (k : KeepT K H0 H a xs) : SqT K H a xs := k h
theorem free_of (s : Same H0 H) (h : Free H p) : Free H0 p := s.free h
theorem same_tr {H1 : Hp} (t : Same H1 H') (s : Same H H1) : Same H H' := s.trans t
end
theorem size1000 {n : Nat} (h : n ≤ 1000000) : n ≤ sizeLine := Nat.le_trans h (by decide)
theorem size1000l {n : Nat} (h : n < 1000000) : n < sizeLine := Nat.lt_of_lt_of_le h (by decide)
theorem log2_mono {a b : Nat} (h : a ≤ b) : a.log2 ≤ b.log2 := by
  by_cases ha : a = 0
  · subst ha; rw [Nat.log2_zero]; exact Nat.zero_le _
  · have hb : b ≠ 0 := by omega
    have h1 := Nat.log2_self_le ha
    have h2 := (Nat.log2_lt hb (k := b.log2 + 1)).mp (Nat.lt_succ_self _)
    exact Nat.lt_succ_iff.mp ((Nat.log2_lt ha).mpr (Nat.lt_of_le_of_lt h h2))
theorem divW_le {i z : Int} (B : Nat) (h0 : 0 < z) (h1 : z ≤ (B : Int)) (hB : B.log2 < 9000) : CDivW i z :=
  ⟨h0, Nat.lt_of_le_of_lt (log2_mono (show z.natAbs ≤ B by omega)) hB⟩
theorem map_get {α β : Type} {f : α → β} {l : List α} {i : Nat} {y : β} (h : (l.map f)[i]? = some y) : ∃ x, l[i]? = some x ∧ y = f x := by
  rw [List.getElem?_map] at h
  cases e : l[i]? with
  | none => rw [e] at h; cases h
  | some x => rw [e] at h; exact ⟨x, rfl, (Option.some.inj h).symm⟩
/-- a list just grown -/
theorem r_append {K : PySem.W.Frag} {σ : St} {H : Hp} {Q : VK} {l : Addr} {xs : List V} {tr : TA} (hl : H l = some (.lst xs)) (h : tr σ H fun vs H2 => rAppend (.ref l) vs H2 Q) :
    tyV K "list" (.ref l) H ∧ tr σ H fun vs H2 => rAppend (.ref l) vs H2 Q := ⟨Or.inl ⟨rfl, xs, SqL.of hl⟩, h⟩
theorem r_bm {K : PySem.W.Frag} {T : String} {r : V → List V → Hp → VK → Prop} {to : TE} {t : TA} {σ : St} {H : Hp} {Q : VK} (h : to σ H fun x H1 => tyV K T x H1 ∧ t σ H1 fun xs H2 => r x xs H2 Q) : tBM K T r to t σ H Q := h
theorem r_app {H : Hp} {Q : VK} {l : Addr} {xs : List V} {y : V} (hl : H l = some (.lst xs)) (hz : xs.length < sizeLine) (h : Q .non (upd H l (.lst (xs ++ [y])))) : rAppend (.ref l) [y] H Q := ⟨l, xs, y, rfl, rfl, hl, hz, h⟩
theorem dp_ints {K : PySem.W.Frag} {H : Hp} : ∀ ns : List Int, DpAll K H (ns.map V.int) (ns.map PyData.int)
  | [] => .nil
  | n :: r => .cons (.int n) (dp_ints r)
theorem r_eqD {K : PySem.W.Frag} {H : Hp} {Q : VK} {x y : V} {d e : PyData} (hd : Dp K H x d) (he : Dp K H y e) (sd : SeqAt.shaped d = true) (se : SeqAt.shaped e = true) (h : Q (.bl (PyData.eqv d e)) H) : rEqD K x y H Q := ⟨d, e, hd, he, sd, se, h⟩
theorem r_neD {K : PySem.W.Frag} {H : Hp} {Q : VK} {x y : V} {d e : PyData} (hd : Dp K H x d) (he : Dp K H y e) (sd : SeqAt.shaped d = true) (se : SeqAt.shaped e = true) (h : Q (.bl (!PyData.eqv d e)) H) : rNeD K x y H Q := ⟨d, e, hd, he, sd, se, h⟩
/-! ### f-strings -/
def tJoin (ts : List TE) : TE := fun σ H Q => tJs ts Str.empty σ H fun out H1 => Q (.str out) H1
section
variable {σ : St} {H : Hp} {Q : VK}
theorem r_join {ts : List TE} (h : tJs ts Str.empty σ H fun out H1 => Q (.str out) H1) : tJoin ts σ H Q := h
theorem r_jsNil {acc : Str} {R : Str → Hp → Prop} (h : R acc H) : tJs [] acc σ H R := h
theorem r_jsCons {t : TE} {ts : List TE} {acc : Str} {R : Str → Hp → Prop} (h : t σ H fun x H1 => ∃ y : Str, x = .str y ∧ (acc ++ y).length ≤ sizeLine ∧ tJs ts (acc ++ y) σ H1 R) : tJs (t :: ts) acc σ H R := h
theorem r_jsStr {z acc : Str} {P : Str → Prop} (hl : (acc ++ z).length ≤ sizeLine) (h : P z) : ∃ y : Str, V.str z = .str y ∧ (acc ++ y).length ≤ sizeLine ∧ P y := ⟨z, rfl, hl, h⟩
theorem r_fmt {te : TE} (h : te σ H fun x H1 => (∃ y : Str, x = .str y ∧ y.length ≤ sizeLine ∧ Q (.str y) H1) ∨ ∃ i : Int, x = .int i ∧ i.natAbs.log2 < 1920 ∧ Q (.str (toString i)) H1) : tFmt te σ H Q := h
theorem r_fmtI {i : Int} {P : Str → Prop} (hl : i.natAbs.log2 < 1920) (h : P (toString i)) : (∃ y : Str, V.int i = .str y ∧ y.length ≤ sizeLine ∧ P y) ∨ ∃ j : Int, V.int i = .int j ∧ j.natAbs.log2 < 1920 ∧ P (toString j) := .inr ⟨i, rfl, hl, h⟩
theorem r_fmtS {z : Str} {P : Str → Prop} (hl : z.length ≤ sizeLine) (h : P z) : (∃ y : Str, V.str z = .str y ∧ y.length ≤ sizeLine ∧ P y) ∨ ∃ j : Int, V.str z = .int j ∧ j.natAbs.log2 < 1920 ∧ P (toString j) := .inl ⟨z, rfl, hl, h⟩
end
/-! ### in, ranges, op= -/
abbrev ipAdd : TIp := ipI fun i j => i + j
abbrev ipSub : TIp := ipI fun i j => i - j
section
variable {H : Hp} {Q : VK} {K : PySem.W.Frag}
theorem r_ipI {f : Int → Int → Int} {i j : Int} (h : Q (.int (f i j)) H) : ipI f (.int i) (.int j) H Q := ⟨i, j, rfl, rfl, h⟩
theorem r_inT {neg : Bool} {x : V} {p : Addr} {xs : List V} (hs : SqT K H p xs) (hx : flatV x = true) (hf : xs.all flatV = true) (h : Q (.bl (if neg then !inV x xs else inV x xs)) H) : rIn K neg x (.ref p) H Q := ⟨p, xs, rfl, .inr hs, hx, hf, h⟩
theorem r_inL {neg : Bool} {x : V} {p : Addr} {xs : List V} (hs : SqL K H p xs) (hx : flatV x = true) (hf : xs.all flatV = true) (h : Q (.bl (if neg then !inV x xs else inV x xs)) H) : rIn K neg x (.ref p) H Q := ⟨p, xs, rfl, .inl hs, hx, hf, h⟩
theorem r_rng {j : Int} {R : Int → Prop} (h1 : -4611686018427387904 ≤ j) (h2 : j < 4611686018427387904) (h : R j) : ∃ j' : Int, [V.int j] = [.int j'] ∧ -4611686018427387904 ≤ j' ∧ j' < 4611686018427387904 ∧ R j' := ⟨j, rfl, h1, h2, h⟩
end
theorem inV_ints (k : Int) (ks : List Int) : inV (.int k) (ks.map V.int) = ks.any (fun y => y == k) := by
  unfold inV
  induction ks with
  | nil => rfl
  | cons a r ih => rw [List.map_cons, List.any_cons, List.any_cons, ih]; rfl
theorem canAll : ∀ {ds : List PyData}, (∀ d ∈ ds, d.canLay0 = true ∧ d.depth ≤ 60) → PyData.canLayAll0 ds = true ∧ PyData.depthAll ds ≤ 60
  | [], _ => ⟨by simp only [PyData.canLayAll0], by simp only [PyData.depthAll]; omega⟩
  | d :: r, h => by
    have h1 := h d List.mem_cons_self
    have h2 := canAll (ds := r) fun x hx => h x (List.mem_cons_of_mem _ hx)
    simp only [PyData.canLayAll0, PyData.depthAll, h1.1, h2.1]
    exact ⟨rfl, by have := h1.2; have := h2.2; omega⟩
theorem shaped_list {ds : List PyData} (h : ∀ d ∈ ds, d.canLay0 = true ∧ d.depth ≤ 60) : SeqAt.shaped (.list ds) = true := by
  obtain ⟨h1, h2⟩ := canAll h
  show (PyData.canLay0 (.list ds) && decide (PyData.depth (.list ds) ≤ 64)) = true
  rw [Bool.and_eq_true]
  exact ⟨by simp only [PyData.canLay0]; exact h1, decide_eq_true (by simp only [PyData.depth]; omega)⟩
theorem shaped_tup {ds : List PyData} (h : ∀ d ∈ ds, d.canLay0 = true ∧ d.depth ≤ 60) : SeqAt.shaped (.tuple ds) = true := by
  obtain ⟨h1, h2⟩ := canAll h
  show (PyData.canLay0 (.tuple ds) && decide (PyData.depth (.tuple ds) ≤ 64)) = true
  rw [Bool.and_eq_true]
  exact ⟨by simp only [PyData.canLay0]; exact h1, decide_eq_true (by simp only [PyData.depth]; omega)⟩
theorem eqv_same {d : PyData} (h : SeqAt.shaped d = true) : PyData.eqv d d = true := SeqAt.eqv_refl d (SeqAt.canLay_of_shaped h)
/-! ### what is walked -/
section
variable {σ : St} {H : Hp} {K : PySem.W.Frag} {R : It → Hp → Prop}
theorem r_iEnum {ta : TA} (h : ta σ H fun vs H1 => ∃ a xs, vs = [.ref a] ∧ SqL K H1 a xs ∧ R (Ite K a) H1) : iEnum K ta σ H R := h
theorem r_iList {tl : TE} (h : tl σ H fun x H1 => ∃ a, x = .ref a ∧ (∃ xs, SqL K H1 a xs) ∧ R (Itl K a) H1) : iList K tl σ H R := h
theorem r_iTup {tl : TE} (h : tl σ H fun x H1 => ∃ a, x = .ref a ∧ (∃ xs, SqT K H1 a xs) ∧ R (Itt K a) H1) : iTup K tl σ H R := h
theorem r_iRng1 {ta : TA} (h : ta σ H fun vs H1 => ∃ j : Int, vs = [.int j] ∧ -(2 ^ 62) ≤ j ∧ j < 2 ^ 62 ∧ R (Itr 0 j.toNat) H1) : iRng1 ta σ H R := h
theorem r_iZip {ta : TA} (h : ta σ H fun vs H1 => ∃ a b xs ys, vs = [.ref a, .ref b] ∧ SqL K H1 a xs ∧ SqL K H1 b ys ∧ R (Itz K a b) H1) : iZip K ta σ H R := h
end
/-! ### isinstance -/
section
variable {H : Hp} {Q : VK} {K : PySem.W.Frag}
theorem isi_int {i : Int} (h : Q (.bl true) H) : rIsi K [.int i, .ty "int"] H Q := ⟨_, _, _, _, true, rfl, .ty _, .base (.int i), kit_ty (by decide +kernel), h⟩
theorem isi_intb {i : Int} (h : Q (.bl false) H) : rIsi K [.int i, .ty "bool"] H Q := ⟨_, _, _, _, false, rfl, .ty _, .base (.int i), kit_ty (by decide +kernel), h⟩
theorem isi_bool {b : Bool} (h : Q (.bl true) H) : rIsi K [.bl b, .ty "bool"] H Q := ⟨_, _, _, _, true, rfl, .ty _, .base (.bl b), kit_ty (by decide +kernel), h⟩
theorem isi_str {z : Str} (h : Q (.bl true) H) : rIsi K [.str z, .ty "str"] H Q := ⟨_, _, _, _, true, rfl, .ty _, .base (.str z), kit_ty (by decide +kernel), h⟩
theorem isi_tup {a : Addr} {xs : List V} (e : H a = some (.tup xs)) (h : Q (.bl true) H) : rIsi K [.ref a, .ty "tuple"] H Q := ⟨_, _, _, _, true, rfl, .ty _, .base (.tup e), kit_ty (by decide +kernel), h⟩
theorem isi_lst {a : Addr} {xs : List V} (e : H a = some (.lst xs)) (h : Q (.bl true) H) : rIsi K [.ref a, .ty "list"] H Q := ⟨_, _, _, _, true, rfl, .ty _, .base (.lst e), kit_ty (by decide +kernel), h⟩
theorem isi_dict {a : Addr} {xs : List (Key × V)} (e : H a = some (.dK xs)) (h : Q (.bl true) H) : rIsi K [.ref a, .ty "dict"] H Q := ⟨_, _, _, _, true, rfl, .ty _, .base (.dK e), kit_ty (by decide +kernel), h⟩
end
/-! ### defs -/
structure Gx where
  K : PySem.W.Frag
  ad : Str → Addr
/-- a def of the top as it stands -/
def FnIs (K : PySem.W.Frag) (mg : Str → Option Value) (x : Str) (st : Stmt) (ps : List Str) : Prop := ∃ (f : Addr) (fd : FuncData), mg x = some (.ref f) ∧ Fun K x x st f fd ∧ Binds K fd ps []
/-- a def with its promise -/
def Df (P : Program) (w : World) (K : PySem.W.Frag) (mg : Str → Option Value) (base : Heap) (CX : CXT) (x : Str) (k : Nat) (ps : List Str) (sp : Sp) : Prop :=
  ∃ (f : Addr) (fd : FuncData), mg x = some (.ref f) ∧ PySem.W.keepIn K (.ref f) = true ∧ Binds K fd ps [] ∧ FnOk P w K mg base CX k f fd ps sp
section
variable {P : Program} {w : World} {K : PySem.W.Frag} {mg : Str → Option Value} {base : Heap}
theorem Df.of {x : Str} {st : Stmt} {N ps : List Str} {k : Nat} {sp : Sp} (F : FnIs K mg x st ps) (S : FnScope N ps (defScope st)) (len : ∀ vs H Q E, sp vs H Q E → vs.length = ps.length)
    (hbody : ∀ (f : Addr) (cdv : Value) (A : Around) (outer : List Env) (s : Shared) (H : Hp) (vs : List V) (Q : VK) (E : XK), Room k (A.deeper (PyProof.Rows.envOfC x (defScope st) s.heap.objs.size f cdv)) → sp vs H Q E →
      ∃ t, PSs (cxOf CX0 P w K mg base N x (defScope st) f cdv A outer s H E).nox (defBody st) t ∧ t ⟨fun _ H' => Q .non H', Q, fun _ _ => False, fun _ _ => False⟩ (start N vs) H) : Df P w K mg base CX0 x (k + 1) ps sp := by
  obtain ⟨f, fd, hm, hf, hb⟩ := F
  exact ⟨f, fd, hm, hf.kp, hb, hf.ok S len fun cdv A outer s H vs Q E hr h => hbody f cdv A outer s H vs Q E hr h⟩
theorem fnis_mk {h : Heap} {x : Str} {st : Stmt} {ps : List Str} {f : Addr} {oc : Value} {od an : Option Addr} {osl : Array (Option Value)} {kV doc pm cdv ct : Value} (X : K.In h) (G : h.Ns mainGlobals mg) (a : PySem.W.nsIn K mainGlobals x = some (some (.ref f)))
    (l : K.lookup f = some ⟨oc, od, .func (PySem.W.fnOf x x (defArgs st) (defBody st) (defScope st) .none kV doc pm an cdv ct), osl⟩) (c : PySem.W.codeIn K cdv x = true) (k : PySem.W.keepIn K (.ref f) = true)
    (hb : ∀ (kV doc pm : Value) (an : Option Addr) (cdv ct : Value) (us : List Value), us.length = ps.length → bindArgs (PySem.W.fnOf x x (defArgs st) (defBody st) (defScope st) .none kV doc pm an cdv ct) ⟨us, []⟩ = pure (ps.zip us)) : FnIs K mg x st ps :=
  ⟨f, _, PySem.W.mg_of X G a, fun_mk l c k, (fun_mk (st := st) l c k).binds hb⟩
theorem Df.up {CX : CXT} {x : Str} {j k : Nat} {ps : List Str} {sp : Sp} (D : Df P w K mg base CX x j ps sp) (h : j ≤ k) : Df P w K mg base CX x k ps sp := by
  obtain ⟨f, fd, hm, hk, hb, ok⟩ := D
  exact ⟨f, fd, hm, hk, hb, ok.mono h⟩
end
section
variable {X : Cx} {CX : CXT} {j k : Nat} {ps : List Str} {sp : Sp} {E : XK} {x : Str} {p pos : Pos} {e : Expr} {es : List Expr} {t : TA}
theorem pe_df (D : Df X.prog X.w X.K X.mg X.base CX x k ps sp) (hr : Room j X.A) (hk : k ≤ j) (hx : Passes CX X E) (ha : PA X (e :: es) t) (hg : Gl X x := by rfl) (hdb : (x == ("__debug__" : Str)) = false := by decide)
    (he : starEach (e :: es) X.env = (false, eval e X.env) :: starEach es X.env := by rfl) (hpl : (backTo pos (starEach es X.env)).any (·.1) = false := by rfl) : PE X (.Call (.Name x p) (e :: es) [] pos) (tCall sp [] E t) := by
  obtain ⟨f, fd, hm, hkp, hb, ok⟩ := D
  exact pe_call (ok.mono hk) hr hg hm hkp hb .nil hx ha hdb he hpl
end

local macro_rules | `(tactic| walk_at "sd") => `(tactic| first
  | assumption
  | (show (0 : Int) < _; first | decide | omega)
  | exact Or.inr ⟨by decide, by decide⟩
  | exact Or.inl ⟨by decide, by decide⟩
  | exact ⟨by decide, by decide, by decide⟩
  | exact ⟨by decide, by decide +kernel⟩
  | exact Or.inl ⟨by omega, by omega⟩
  | exact Or.inr ⟨by omega, by omega⟩)
local macro_rules | `(tactic| walk_at "hp1") => `(tactic| first
  | with_reducible assumption
  | with_reducible exact upd_same
  | ((with_reducible refine back_new ?hn ?_); (case hn => with_reducible assumption))
  | ((with_reducible refine back_ne ?hn ?_); (case hn => walk_at "ne"))
  | ((with_reducible refine back_same (H := ?Hb) ?hn ?_); (case hn => with_reducible assumption)))
local macro_rules | `(tactic| walk_at "hp") => `(tactic| ((repeat walk_at "hp1"); done))
local macro_rules | `(tactic| walk_at "ne") => `(tactic| first
  | with_reducible assumption
  | (with_reducible apply Ne.symm; with_reducible assumption)
  | ((with_reducible refine ne_fresh (H := ?Hb) (u := ?ub) ?h1 ?h0); (case h0 => with_reducible assumption); (case h1 => walk_at "hp"))
  | ((with_reducible refine ne_fresh' (H := ?Hb) (u := ?ub) ?h1 ?h0); (case h0 => with_reducible assumption); (case h1 => walk_at "hp")))
local macro_rules | `(tactic| walk_at "fr") => `(tactic| first
  | with_reducible assumption
  | ((with_reducible refine free_of (H := ?Hb) ?hs ?hn); (case hn => with_reducible assumption); (case hs => walk_at "sm")))
local macro_rules | `(tactic| walk_at "sm1") => `(tactic| first
  | with_reducible exact Same.refl _
  | with_reducible assumption
  | ((with_reducible refine same_new ?_ ?hn); (case hn => with_reducible assumption))
  | ((with_reducible refine same_mut ?_ ?hn); (case hn => walk_at "fr"))
  | ((with_reducible refine same_tr (H1 := ?Hb) ?hn ?_); (case hn => with_reducible assumption)))
local macro_rules | `(tactic| walk_at "sm") => `(tactic| ((repeat walk_at "sm1"); done))
local macro_rules | `(tactic| walk_at "kt1") => `(tactic| first
  | with_reducible exact keepT_refl
  | ((with_reducible refine keepT_new ?hn ?_); (case hn => with_reducible assumption))
  | ((with_reducible refine keepT_mut (u := ?ub) ?hn ?hm ?_); (case hn => walk_at "hp"); (case hm => exact True.intro))
  | ((with_reducible refine keepT_same (H := ?Hb) ?hn ?_); (case hn => with_reducible assumption)))
local macro_rules | `(tactic| walk_at "kt") => `(tactic| ((repeat walk_at "kt1"); done))
local macro_rules | `(tactic| walk_at "sq") => `(tactic| first
  | with_reducible assumption
  | ((with_reducible refine SqT.of ?ho); (case ho => walk_at "hp"))
  | ((with_reducible refine SqL.of ?ho); (case ho => walk_at "hp"))
  | ((with_reducible refine tup_keep (H0 := ?Hb) ?hb ?hk); (case hb => with_reducible assumption); (case hk => walk_at "kt"))
  | ((with_reducible refine lst_same (H := ?Hb) ?hs ?hb); (case hb => with_reducible assumption); (case hs => walk_at "sm")))
local macro_rules | `(tactic| walk_at "dp") => `(tactic| first
  | with_reducible exact Dp.int _
  | with_reducible exact Dp.bl _
  | with_reducible exact Dp.str _
  | with_reducible exact Dp.non
  | with_reducible exact DpAll.nil
  | with_reducible exact dp_ints _
  | ((with_reducible refine DpAll.cons (d := ?dd) (ds := ?de) ?d1 ?d2); (case d1 => walk_at "dp"); (case d2 => walk_at "dp"))
  | ((with_reducible refine Dp.tup (xs := ?dx) (ds := ?de) ?ds ?da); (case ds => walk_at "sq"); (case da => walk_at "dp"))
  | ((with_reducible refine Dp.lst (xs := ?dx) (ds := ?de) ?ds ?da); (case ds => walk_at "sq"); (case da => walk_at "dp")))
local macro_rules | `(tactic| walk_at "st") => `(tactic| first
  | with_reducible refine r_seq ?_
  | (with_reducible refine r_asg ?_)
  | ((with_reducible refine r_var (v := ?v) ?hv ?_); (case hv => exact rfl))
  | with_reducible refine r_op ?_
  | with_reducible refine r_c ?_
  | with_reducible refine r_I0 ?_
  | ((with_reducible refine r_I ?hc ?_); (case hc => walk_at "sd"))
  | with_reducible refine r_test ?_
  | with_reducible refine r_bl ?_
  | with_reducible refine r_if ?_
  | with_reducible refine r_next ?_
  | with_reducible refine r_ret ?_
  | with_reducible refine r_cons ?_
  | with_reducible refine r_nil ?_
  | with_reducible refine r_call ?_
  | with_reducible refine r_cb ?_
  | with_reducible refine r_abs ?_
  | with_reducible refine r_max2 ?_
  | with_reducible refine r_min2 ?_
  | with_reducible refine r_un ?_
  | with_reducible refine r_U ?_
  | with_reducible refine r_par ?_
  | with_reducible refine r_par2 ?_
  | with_reducible refine r_B ?_
  | with_reducible refine r_and ?_
  | with_reducible refine r_or ?_
  | with_reducible refine r_not ?_
  | with_reducible refine r_andV ?_
  | with_reducible refine r_orV ?_
  | with_reducible refine r_notV ?_
  | with_reducible refine r_ifE ?_
  | with_reducible refine r_drop ?_
  | with_reducible refine r_tup ?_
  | with_reducible refine r_lst ?_
  | with_reducible refine r_for ?_
  | with_reducible refine g_name ?_
  | with_reducible refine g_nil ?_
  | with_reducible refine g_cons ?_
  | with_reducible refine iteT ?_
  | with_reducible refine iteF ?_
  | with_reducible refine iteNt ?_
  | with_reducible refine iteNf ?_
  | with_reducible refine iteNN ?_
  | with_reducible refine iteRN ?_
  | with_reducible refine iteNNn ?_
  | with_reducible refine iteRNn ?_
  | ((with_reducible refine r_eq ?hs ?_); (case hs => rfl))
  | ((with_reducible refine r_ne ?hs ?_); (case hs => rfl))
  | with_reducible refine r_asgG ?_
  | with_reducible refine r_isN ?_
  | ((with_reducible refine r_ixT (v := ?v) (xs := ?xs) ?hs ?ha ?_); (case hs => walk_at "sq"); (case ha => exact rfl))
  | ((with_reducible refine r_ixL (v := ?v) (xs := ?xs) ?hs ?ha ?_); (case hs => walk_at "sq"); (case ha => exact rfl))
  | with_reducible refine r_bm ?_
  | ((with_reducible refine r_lenL (ys := ?ys) ?hs ?_); (case hs => walk_at "sq"))
  | ((with_reducible refine r_lenT (ys := ?ys) ?hs ?_); (case hs => walk_at "sq"))
  | with_reducible refine isi_int ?_
  | with_reducible refine isi_intb ?_
  | with_reducible refine isi_bool ?_
  | with_reducible refine isi_str ?_
  | ((with_reducible refine isi_tup (xs := ?xs) ?he ?_); (case he => walk_at "hp"))
  | ((with_reducible refine isi_lst (xs := ?xs) ?he ?_); (case he => walk_at "hp"))
  | ((with_reducible refine isi_dict (xs := ?xs) ?he ?_); (case he => walk_at "hp"))
  | ((with_reducible refine r_eqD (d := ?d) (e := ?e) ?h1 ?h2 ?h3 ?h4 ?_); (case h1 => walk_at "dp"); (case h2 => walk_at "dp"); (case h3 => exact rfl); (case h4 => exact rfl))
  | ((with_reducible refine r_neD (d := ?d) (e := ?e) ?h1 ?h2 ?h3 ?h4 ?_); (case h1 => walk_at "dp"); (case h2 => walk_at "dp"); (case h3 => exact rfl); (case h4 => exact rfl))
  | ((with_reducible refine r_inT (xs := ?xs) ?hs ?hx ?hf ?_); (case hs => walk_at "sq"); (case hx => exact rfl); (case hf => exact rfl))
  | ((with_reducible refine r_inL (xs := ?xs) ?hs ?hx ?hf ?_); (case hs => walk_at "sq"); (case hx => exact rfl); (case hf => exact rfl))
  | ((with_reducible refine r_aug (x := ?x) ?hx ?_); (case hx => exact rfl))
  | with_reducible refine r_ipI ?_
  | with_reducible refine r_join ?_
  | with_reducible refine r_jsNil ?_
  | with_reducible refine r_jsCons ?_
  | with_reducible refine r_fmt ?_
  | with_reducible refine r_iEnum ?_
  | with_reducible refine r_iList ?_
  | with_reducible refine r_iTup ?_
  | with_reducible refine r_iRng1 ?_
  | with_reducible refine r_iZip ?_
  | ((with_reducible refine r_append (xs := ?xs) ?hl ?_); (case hl => walk_at "hp"))
  | ((with_reducible refine r_app (xs := ?xs) ?hl ?hz ?_); (case hl => walk_at "hp"); (case hz => walk_at "sz"))
  | with_reducible refine r_notN ?_)
local macro_rules | `(tactic| walk_at "go") => `(tactic| ((repeat walk_at "st"); try dsimp only [List.set, Int.reduceToNat, Int.reducePow]))
local macro_rules | `(tactic| walk_at "sz") => `(tactic| first
  | (refine size1000l ?_; omega)
  | (refine size1000 ?_; omega)
  | (refine size1000 ?_; simp only [List.length_cons, List.length_nil]; decide)
  | (refine size1000l ?_; simp only [List.length_cons, List.length_nil]; decide)
  | (refine size1000 ?_; simp only [List.length_cons, List.length_nil, List.length_map, List.length_append]; omega)
  | (refine size1000l ?_; simp only [List.length_cons, List.length_nil, List.length_map, List.length_append]; omega))
abbrev Body (t : TS) (N : List Str) (vs : List V) (H : Hp) (Q : VK) : Prop := t ⟨fun _ H' => Q .non H', Q, fun _ _ => False, fun _ _ => False⟩ (start N vs) H
/-! ### seed -/
def seed (c : Int) : Int :=
  if 1000000000000000000 ≤ c then c else (c * 48271 + 7919) % 2147483647 * 16807 % 2147483629 * 2147483399 + (c * 69621 + 104729) % 2147483587 * 40692 % 2147483399
def sp_l_seed (G : Gx) : Sp := fun vs H Q _ => ∃ c : Int, vs = [.int c] ∧ Q (.int (seed c)) H
theorem len_l_seed {G : Gx} : ∀ vs H Q E, sp_l_seed G vs H Q E → vs.length = 1 := by rintro vs H Q E ⟨c, rfl, _⟩; rfl
/-! _law_seed: slots _law_cell_here, _law_one, _law_two -/
def t_l_seed (G : Gx) : TS :=
  (tSeq (tIfS (tTest (tOp rGeI (tVar 0) (tOp rPowI (tC (.int 10)) (tC (.int 18))))) (tRet (tVar 0)) tNext)
  (tSeq (tAsg (tOp rModI (tOp rMulI (tOp rModI (tOp rAddI (tOp rMulI (tVar 0) (tC (.int 48271))) (tC (.int 7919))) (tC (.int 2147483647))) (tC (.int 16807))) (tC (.int 2147483629))) (gName 1))
  (tSeq (tAsg (tOp rModI (tOp rMulI (tOp rModI (tOp rAddI (tOp rMulI (tVar 0) (tC (.int 69621))) (tC (.int 104729))) (tC (.int 2147483587))) (tC (.int 40692))) (tC (.int 2147483399))) (gName 2))
  (tRet (tOp rAddI (tOp rMulI (tVar 1) (tC (.int 2147483399))) (tVar 2))))))
theorem pow18 : (10 : Int) ^ Int.toNat 18 = 10 ^ 18 := rfl
theorem pure_l_seed {G : Gx} {vs : List V} {H : Hp} {Q : VK} {E : XK} (h : sp_l_seed G vs H Q E) : Body (t_l_seed G) ["_law_cell_here", "_law_one", "_law_two"] vs H Q := by
  obtain ⟨c, rfl, k⟩ := h
  show t_l_seed G _ [some (.int c), none, none] H
  unfold t_l_seed
  walk_at "go"
  refine iteD (fun h => ?_) (fun h => ?_)
  · walk_at "go"
    unfold seed at k
    rw [if_pos h] at k
    exact k
  · have e1 : (0 : Int) ≤ (c * 48271 + 7919) % 2147483647 := Int.emod_nonneg _ (by decide)
    have e2 : (c * 48271 + 7919) % 2147483647 < 2147483647 := Int.emod_lt_of_pos _ (by decide)
    walk_at "go"
    unfold seed at k
    rw [if_neg h] at k
    exact k

/-! ### digits -/
def digSt (c : Int) (zs : List Int) : Nat → Int × List Int
  | 0 => (seed c, [])
  | i + 1 =>
    let s := digSt c zs i
    let z := zs.getD i 1
    let r := if s.1 < z then seed (s.1 + 131 * (i : Int) + c % 1009) else s.1
    (r / z, s.2 ++ [r % z])
def digits (c : Int) (zs : List Int) : List Int := (digSt c zs zs.length).2
theorem digSt_len (c : Int) (zs : List Int) : ∀ i, (digSt c zs i).2.length = i
  | 0 => rfl
  | i + 1 => by
    show ((digSt c zs i).2 ++ [_]).length = i + 1
    rw [List.length_append, digSt_len c zs i]
    rfl
theorem digits_len (c : Int) (zs : List Int) : (digits c zs).length = zs.length := digSt_len c zs _
theorem digSt_get (c : Int) (zs : List Int) : ∀ n j, j < n → ∃ r, (digSt c zs n).2[j]? = some (r % zs.getD j 1)
  | 0, j, h => absurd h (Nat.not_lt_zero _)
  | n + 1, j, h => by
    have hl := digSt_len c zs n
    show ∃ r, ((digSt c zs n).2 ++ [_])[j]? = some (r % zs.getD j 1)
    by_cases e : j = n
    · subst e
      refine ⟨if (digSt c zs j).1 < zs.getD j 1 then seed ((digSt c zs j).1 + 131 * (j : Int) + c % 1009) else (digSt c zs j).1, ?_⟩
      rw [List.getElem?_append_right (by omega), hl, Nat.sub_self]
      rfl
    · rw [List.getElem?_append_left (by omega)]
      exact digSt_get c zs n j (by omega)
theorem digits_get (c : Int) (zs : List Int) (j : Nat) (z : Int) (h : zs[j]? = some z) (hz : 0 < z) : ∃ d, (digits c zs)[j]? = some d ∧ 0 ≤ d ∧ d < z := by
  have hj : j < zs.length := (List.getElem?_eq_some_iff.mp h).1
  obtain ⟨r, e⟩ := digSt_get c zs zs.length j hj
  have ez : zs.getD j 1 = z := by rw [List.getD_eq_getElem?_getD, h]; rfl
  rw [ez] at e
  exact ⟨r % z, e, Int.emod_nonneg _ (by omega), Int.emod_lt_of_pos _ hz⟩
def sp_l_digits (G : Gx) : Sp := fun vs H Q _ => ∃ (c : Int) (a : Addr) (zs : List Int), vs = [.int c, .ref a] ∧ SqL G.K H a (zs.map V.int) ∧ (∀ z ∈ zs, 0 < z ∧ z ≤ (10 : Int) ^ 60) ∧ zs.length ≤ 1000 ∧
  ∀ p H', Same H H' → Free H p → H' p = some (.lst ((digits c zs).map V.int)) → Q (.ref p) H'
theorem len_l_digits {G : Gx} : ∀ vs H Q E, sp_l_digits G vs H Q E → vs.length = 2 := by rintro vs H Q E ⟨c, a, zs, rfl, _⟩; rfl
/-! _law_digits: slots _law_cell_here, _law_sizes, _law_rest, _law_found, _law_k, _law_size -/
def t_l_digits (G : Gx) : TS :=
  (tSeq (tAsg (tCall (sp_l_seed G) [] E0 (tCons (tVar 0) tNil)) (gName 2))
  (tSeq (tAsg (tLst tNil) (gName 3))
  (tSeq (tFor (iEnum G.K (tCons (tVar 1) tNil)) (gTup G.K 2 (gCons (gName 4) (gCons (gName 5) gNil)))
  (tSeq (tIfS (tTest (tOp rLtI (tVar 2) (tVar 5))) (tAsg (tCall (sp_l_seed G) [] E0 (tCons (tOp rAddI (tOp rAddI (tVar 2) (tOp rMulI (tC (.int 131)) (tVar 4))) (tOp rModI (tVar 0) (tC (.int 1009)))) tNil)) (gName 2)) tNext)
  (tSeq (tDrop (tBM G.K "list" rAppend (tVar 3) (tCons (tOp rModI (tVar 2) (tVar 5)) tNil)))
  (tAsg (tOp rDivW (tVar 2) (tVar 5)) (gName 2)))))
  (tRet (tVar 3)))))
theorem div60 {i z : Int} (h0 : 0 < z) (h1 : z ≤ (10 : Int) ^ 60) : CDivW i z := divW_le (10 ^ 60) h0 h1 (by decide +kernel)
theorem pure_l_digits {G : Gx} {vs : List V} {H : Hp} {Q : VK} {E : XK} (h : sp_l_digits G vs H Q E) : Body (t_l_digits G) ["_law_cell_here", "_law_sizes", "_law_rest", "_law_found", "_law_k", "_law_size"] vs H Q := by
  obtain ⟨c, a, zs, rfl, hS, hz, hl, k⟩ := h
  show t_l_digits G _ [some (.int c), some (.ref a), none, none, none, none] H
  unfold t_l_digits
  walk_at "go"
  refine ⟨_, rfl, ?_⟩
  walk_at "go"
  refine ⟨by decide, fun p hp => ?_⟩
  walk_at "go"
  refine ⟨a, zs.map V.int, rfl, (same_new (Same.refl H) hp).seq hS, ?_⟩
  refine r_it walk_enum (fun i σ H' => ∃ u v, σ = [some (.int c), some (.ref a), some (.int (digSt c zs i).1), some (.ref p), u, v] ∧ Same H H' ∧ H' p = some (.lst ((digSt c zs i).2.map V.int)))
    ⟨none, none, rfl, same_new (Same.refl H) hp, upd_same⟩ (fun i σ H' _ ⟨_, _, _, s, _⟩ => s.seq hS) ?_ ?_
  · rintro i x σ H1 H2 hi ⟨u, v, rfl, s, hpl⟩ ⟨T, x1, y1, rfl, hT, rfl, e1, e2⟩
    cases e1
    obtain ⟨z, ez, rfl⟩ := map_get e2
    obtain ⟨hz0, hz1⟩ := hz z (List.mem_of_getElem? ez)
    have eg : zs.getD i 1 = z := by rw [List.getD_eq_getElem?_getD, ez]; rfl
    have hpl2 : upd H1 T (.tup [.int (i : Nat), .int z]) p = some (.lst ((digSt c zs i).2.map V.int)) := at_new hpl hT
    have s2 : Same H (upd H1 T (.tup [.int (i : Nat), .int z])) := same_new s hT
    have hpn : ∀ r : Int, (digSt c zs (i + 1)) = ((if (digSt c zs i).1 < z then seed ((digSt c zs i).1 + 131 * (i : Int) + c % 1009) else (digSt c zs i).1) / z, (digSt c zs i).2 ++ [(if (digSt c zs i).1 < z then seed ((digSt c zs i).1 + 131 * (i : Int) + c % 1009) else (digSt c zs i).1) % z]) := fun _ => by
      show (_, _) = _
      rw [eg]
    refine g_tup (SqT.of upd_same) rfl ?_
    have hln : (digSt c zs i).2.length < 1000000 := by
      rw [digSt_len]
      rw [List.length_map] at hi
      omega
    have fin : ∀ r : Int, r = (if (digSt c zs i).1 < z then seed ((digSt c zs i).1 + 131 * (i : Int) + c % 1009) else (digSt c zs i).1) →
        ∃ u v, [some (V.int c), some (V.ref a), some (V.int (r / z)), some (V.ref p), some (V.int (i : Nat)), some (V.int z)] = [some (.int c), some (.ref a), some (.int (digSt c zs (i + 1)).1), some (.ref p), u, v] ∧
          Same H (upd (upd H1 T (.tup [.int (i : Nat), .int z])) p (.lst ((digSt c zs i).2.map V.int ++ [.int (r % z)]))) ∧ upd (upd H1 T (.tup [.int (i : Nat), .int z])) p (.lst ((digSt c zs i).2.map V.int ++ [.int (r % z)])) p = some (.lst ((digSt c zs (i + 1)).2.map V.int)) := by
      rintro r rfl
      rw [hpn 0]
      refine ⟨_, _, rfl, same_mut s2 hp, ?_⟩
      rw [upd_same, List.map_append]
      rfl
    walk_at "go"
    refine iteD (fun hc => ?_) (fun hc => ?_)
    · walk_at "go"
      refine ⟨_, rfl, ?_⟩
      walk_at "go"
      refine r_I (div60 hz0 hz1) ?_
      exact fin _ (by rw [if_pos hc])
    · walk_at "go"
      refine r_I (div60 hz0 hz1) ?_
      exact fin _ (by rw [if_neg hc])
  · rintro σ H1 ⟨u, v, rfl, s, hpl⟩
    walk_at "go"
    rw [List.length_map] at hpl
    exact k p H1 s hp hpl

/-! ### cell -/
def sp_l_cell (G : Gx) : Sp := fun vs H Q _ => ∃ (a : Addr) (ns : List Int) (j : Nat), vs = [.ref a, .int (j : Int)] ∧ SqL G.K H a (ns.map V.int) ∧ Q (.int (ns.getD j 0)) H
theorem len_l_cell {G : Gx} : ∀ vs H Q E, sp_l_cell G vs H Q E → vs.length = 2 := by rintro vs H Q E ⟨a, ns, j, rfl, _⟩; rfl
/-! _law_cell: slots _law_script, _law_place -/
def t_l_cell (G : Gx) : TS :=
  (tSeq (tIfS (tTest (tOp rLtI (tVar 1) (tCB (rLenSeq G.K) (tCons (tVar 0) tNil)))) (tRet (tOp (rIxL G.K) (tVar 0) (tVar 1))) tNext)
  (tRet (tC (.int 0))))
theorem pure_l_cell {G : Gx} {vs : List V} {H : Hp} {Q : VK} {E : XK} (h : sp_l_cell G vs H Q E) : Body (t_l_cell G) ["_law_script", "_law_place"] vs H Q := by
  obtain ⟨a, ns, j, rfl, hS, k⟩ := h
  show t_l_cell G _ [some (.ref a), some (.int j)] H
  unfold t_l_cell
  walk_at "go"
  rw [List.length_map]
  refine iteD (fun h => ?_) (fun h => ?_)
  · have hj : j < ns.length := by omega
    walk_at "go"
    refine r_ixL hS (atI_nat (v := .int (ns.getD j 0)) ?_) k
    rw [List.getElem?_map, List.getElem?_eq_getElem hj, List.getD_eq_getElem?_getD, List.getElem?_eq_getElem hj]
    rfl
  · walk_at "go"
    have e : ns.getD j 0 = 0 := by rw [List.getD_eq_getElem?_getD, List.getElem?_eq_none (by omega)]; rfl
    rw [e] at k
    exact k
/-! ### whole -/
def sp_l_whole (G : Gx) : Sp := fun vs H Q _ => ∃ (i : Int), vs = [.int i] ∧ Q (.bl true) H
theorem len_l_whole {G : Gx} : ∀ vs H Q E, sp_l_whole G vs H Q E → vs.length = 1 := by rintro vs H Q E ⟨a, rfl, _⟩; rfl
/-! _law_whole: slots _law_thing -/
def t_l_whole (G : Gx) : TS :=
  (tRet (tAndV (tCB (rIsi G.K) (tCons (tVar 0) (tCons (tC (.ty "int")) tNil))) (tNotV (tCB (rIsi G.K) (tCons (tVar 0) (tCons (tC (.ty "bool")) tNil))))))
theorem pure_l_whole {G : Gx} {vs : List V} {H : Hp} {Q : VK} {E : XK} (h : sp_l_whole G vs H Q E) : Body (t_l_whole G) ["_law_thing"] vs H Q := by
  obtain ⟨i, rfl, k⟩ := h
  show t_l_whole G _ [some (.int i)] H
  unfold t_l_whole
  walk_at "go"
  exact k
/-! ### gcd -/
def sp_l_gcd (G : Gx) : Sp := fun vs H Q _ => ∃ (m n : Nat), vs = [.int (m : Int), .int (n : Int)] ∧ Q (.int (Nat.gcd m n : Nat)) H
theorem len_l_gcd {G : Gx} : ∀ vs H Q E, sp_l_gcd G vs H Q E → vs.length = 2 := by rintro vs H Q E ⟨m, n, rfl, _⟩; rfl
/-! _law_gcd: slots _law_one, _law_two -/
def t_l_gcd (G : Gx) : TS :=
  (tSeq (tWhile (tTest (tOp rGtI (tVar 1) (tC (.int 0)))) (tPar 0 1 (tCons (tVar 1) (tCons (tOp rModI (tVar 0) (tVar 1)) tNil))))
  (tRet (tVar 0)))
theorem pure_l_gcd {G : Gx} {vs : List V} {H : Hp} {Q : VK} {E : XK} (h : sp_l_gcd G vs H Q E) : Body (t_l_gcd G) ["_law_one", "_law_two"] vs H Q := by
  obtain ⟨m, n, rfl, k⟩ := h
  show t_l_gcd G _ [some (.int m), some (.int n)] H
  unfold t_l_gcd
  walk_at "go"
  refine r_while (fun σ H' => H' = H ∧ ∃ x y : Nat, σ = [some (.int x), some (.int y)] ∧ Nat.gcd x y = Nat.gcd m n) (fun σ _ => match σ with | [_, some (.int y)] => y.toNat | _ => 0) ⟨rfl, m, n, rfl, rfl⟩ ?_
    (mono_test (mono_op mono_I0 mono_var mono_c))
  rintro σ H' ⟨rfl, x, y, rfl, e⟩
  walk_at "go"
  refine iteD (fun h => ?_) (fun h => ?_)
  · refine r_wT (P := fun σ H1 => H1 = H' ∧ ∃ x y : Nat, σ = [some (.int x), some (.int y)] ∧ Nat.gcd x y = Nat.gcd m n) (μ := fun σ _ => match σ with | [_, some (.int y)] => y.toNat | _ => 0) ?_
    walk_at "go"
    have hy : 0 < y := by omega
    refine ⟨⟨rfl, y, x % y, rfl, ?_⟩, ?_⟩
    · rw [← e, Nat.gcd_comm x y, Nat.gcd_rec y x, Nat.gcd_comm]
    · show ((x : Int) % (y : Int)).toNat < ((y : Nat) : Int).toNat
      have := Nat.mod_lt x hy
      omega
  · walk_at "go"
    have hy : y = 0 := by omega
    subst hy
    rw [Nat.gcd_zero_right] at e
    rw [← e] at k
    exact k
/-! ### common -/
def sp_p_common (G : Gx) : Sp := sp_l_gcd G
theorem len_p_common {G : Gx} : ∀ vs H Q E, sp_p_common G vs H Q E → vs.length = 2 := len_l_gcd
/-! common: slots one, two -/
def t_p_common (G : Gx) : TS :=
  (tSeq (tWhile (tTest (tOp rGtI (tVar 0) (tC (.int 0)))) (tPar 0 1 (tCons (tOp rModI (tVar 1) (tVar 0)) (tCons (tVar 0) tNil))))
  (tRet (tVar 1)))
theorem pure_p_common {G : Gx} {vs : List V} {H : Hp} {Q : VK} {E : XK} (h : sp_p_common G vs H Q E) : Body (t_p_common G) ["one", "two"] vs H Q := by
  obtain ⟨m, n, rfl, k⟩ := h
  show t_p_common G _ [some (.int m), some (.int n)] H
  unfold t_p_common
  walk_at "go"
  refine r_while (fun σ H' => H' = H ∧ ∃ x y : Nat, σ = [some (.int x), some (.int y)] ∧ Nat.gcd x y = Nat.gcd m n) (fun σ _ => match σ with | [some (.int x), _] => x.toNat | _ => 0) ⟨rfl, m, n, rfl, rfl⟩ ?_
    (mono_test (mono_op mono_I0 mono_var mono_c))
  rintro σ H' ⟨rfl, x, y, rfl, e⟩
  walk_at "go"
  refine iteD (fun h => ?_) (fun h => ?_)
  · refine r_wT (P := fun σ H1 => H1 = H' ∧ ∃ x y : Nat, σ = [some (.int x), some (.int y)] ∧ Nat.gcd x y = Nat.gcd m n) (μ := fun σ _ => match σ with | [some (.int x), _] => x.toNat | _ => 0) ?_
    walk_at "go"
    have hy : 0 < x := by omega
    refine ⟨⟨rfl, y % x, x, rfl, ?_⟩, ?_⟩
    · rw [← e, Nat.gcd_rec x y]
    · show ((y : Int) % (x : Int)).toNat < ((x : Nat) : Int).toNat
      have := Nat.mod_lt y hy
      omega
  · walk_at "go"
    have hy : x = 0 := by omega
    subst hy
    rw [Nat.gcd_zero_left] at e
    rw [← e] at k
    exact k
/-! ### amounts in lowest terms -/
def amt (num den : Int) : Int × Int :=
  if den < 0 then (-num / (Nat.gcd num.natAbs den.natAbs : Nat), -den / (Nat.gcd num.natAbs den.natAbs : Nat)) else (num / (Nat.gcd num.natAbs den.natAbs : Nat), den / (Nat.gcd num.natAbs den.natAbs : Nat))
def sp_p_amount (G : Gx) : Sp := fun vs H Q _ => ∃ (num den : Int), vs = [.int num, .int den] ∧ den ≠ 0 ∧ den.natAbs.log2 < 9000 ∧
  ∀ p H', Same H H' → Free H p → H' p = some (.tup [.int (amt num den).1, .int (amt num den).2]) → Q (.ref p) H'
theorem len_p_amount {G : Gx} : ∀ vs H Q E, sp_p_amount G vs H Q E → vs.length = 2 := by rintro vs H Q E ⟨m, n, rfl, _⟩; rfl
theorem abs_if (i : Int) : (if i < 0 then -i else i) = (i.natAbs : Int) := by
  split <;> omega
theorem gcd_divW {i : Int} {m n : Nat} (h0 : n ≠ 0) (h : n.log2 < 9000) : CDivW i ((Nat.gcd m n : Nat) : Int) := by
  have h1 : 0 < Nat.gcd m n := Nat.gcd_pos_of_pos_right _ (by omega)
  have h2 : Nat.gcd m n ≤ n := Nat.gcd_le_right _ (by omega)
  exact ⟨by omega, Nat.lt_of_le_of_lt (log2_mono (by simpa using h2)) h⟩
/-! amount: slots num, den, by -/
def t_p_amount (G : Gx) : TS :=
  (tSeq (tIfS (tTest (tOp rLtI (tVar 1) (tC (.int 0)))) (tPar 0 1 (tCons (tUn rNegI (tVar 0)) (tCons (tUn rNegI (tVar 1)) tNil))) tNext)
  (tSeq (tAsg (tCall (sp_p_common G) [] E0 (tCons (tCB rAbs (tCons (tVar 0) tNil)) (tCons (tVar 1) tNil))) (gName 2))
  (tRet (tTup (tCons (tOp rDivW (tVar 0) (tVar 2)) (tCons (tOp rDivW (tVar 1) (tVar 2)) tNil))))))
theorem pure_p_amount {G : Gx} {vs : List V} {H : Hp} {Q : VK} {E : XK} (h : sp_p_amount G vs H Q E) : Body (t_p_amount G) ["num", "den", "by"] vs H Q := by
  obtain ⟨num, den, rfl, h0, hs, k⟩ := h
  show t_p_amount G _ [some (.int num), some (.int den), none] H
  unfold t_p_amount
  walk_at "go"
  unfold amt at k
  refine iteD (fun h => ?_) (fun h => ?_)
  · rw [if_pos h] at k
    walk_at "go"
    rw [abs_if]
    refine ⟨num.natAbs, den.natAbs, by rw [Int.natAbs_neg, Int.ofNat_natAbs_of_nonpos (by omega : den ≤ 0)], ?_⟩
    walk_at "go"
    refine r_I (gcd_divW (by omega) hs) ?_
    walk_at "go"
    refine r_I (gcd_divW (by omega) hs) ?_
    walk_at "go"
    exact ⟨by walk_at "sz", fun p hp => k p _ (same_new (Same.refl H) hp) hp upd_same⟩
  · rw [if_neg h] at k
    walk_at "go"
    rw [abs_if]
    refine ⟨num.natAbs, den.natAbs, by rw [Int.natAbs_of_nonneg (by omega : 0 ≤ den)], ?_⟩
    walk_at "go"
    refine r_I (gcd_divW (by omega) hs) ?_
    walk_at "go"
    refine r_I (gcd_divW (by omega) hs) ?_
    walk_at "go"
    exact ⟨by walk_at "sz", fun p hp => k p _ (same_new (Same.refl H) hp) hp upd_same⟩

/-! ### what holds of amt -/
theorem amt_spec {num den : Int} (h : den ≠ 0) : 1 ≤ (amt num den).2 ∧ Nat.gcd (amt num den).1.natAbs (amt num den).2.natAbs = 1 ∧ (amt num den).1 * den = num * (amt num den).2 := by
  have key : ∀ n d : Int, 0 < d → 1 ≤ d / (Nat.gcd n.natAbs d.natAbs : Nat) ∧ Nat.gcd (n / (Nat.gcd n.natAbs d.natAbs : Nat)).natAbs (d / (Nat.gcd n.natAbs d.natAbs : Nat)).natAbs = 1 ∧
      n / (Nat.gcd n.natAbs d.natAbs : Nat) * d = n * (d / (Nat.gcd n.natAbs d.natAbs : Nat)) := by
    intro n d hd
    have hg : 0 < Int.gcd n d := Int.gcd_pos_of_ne_zero_right _ (by omega)
    have e : (Nat.gcd n.natAbs d.natAbs) = Int.gcd n d := rfl
    rw [e]
    have d1 : (Int.gcd n d : Int) ∣ n := Int.gcd_dvd_left ..
    have d2 : (Int.gcd n d : Int) ∣ d := Int.gcd_dvd_right ..
    obtain ⟨a, ha⟩ := d1
    obtain ⟨b, hb⟩ := d2
    have g0 : (Int.gcd n d : Int) ≠ 0 := by omega
    have ea : n / (Int.gcd n d : Int) = a := by
      conv => lhs; arg 1; rw [ha]
      exact Int.mul_ediv_cancel_left _ g0
    have eb : d / (Int.gcd n d : Int) = b := by
      conv => lhs; arg 1; rw [hb]
      exact Int.mul_ediv_cancel_left _ g0
    have hz := Int.gcd_ediv_gcd_ediv_gcd hg
    rw [ea, eb] at hz ⊢
    refine ⟨?_, hz, ?_⟩
    · rcases Int.lt_or_le 0 b with q | q
      · omega
      · have : d ≤ 0 := by
          rw [hb]
          exact Int.mul_nonpos_of_nonneg_of_nonpos (by omega) q
        omega
    · generalize (Int.gcd n d : Int) = g at ha hb
      subst ha hb
      rw [Int.mul_comm g a, Int.mul_assoc]
  unfold amt
  by_cases c : den < 0
  · rw [if_pos c]
    have k := key (-num) (-den) (by omega)
    rw [Int.natAbs_neg, Int.natAbs_neg] at k
    refine ⟨k.1, k.2.1, ?_⟩
    have k3 := k.2.2
    rw [Int.mul_neg, Int.neg_mul] at k3
    exact Int.neg_inj.mp k3
  · rw [if_neg c]
    exact key num den (by omega)
theorem amt_zero {den : Int} (h : den ≠ 0) : amt 0 den = (0, 1) := by
  unfold amt
  have e : Nat.gcd (0 : Int).natAbs den.natAbs = den.natAbs := Nat.gcd_zero_left _
  rw [e]
  by_cases c : den < 0
  · rw [if_pos c]
    have e2 : ((den.natAbs : Nat) : Int) = -den := by omega
    rw [e2, Int.neg_zero, Int.zero_ediv, Int.ediv_self (by omega)]
  · rw [if_neg c]
    have e2 : ((den.natAbs : Nat) : Int) = den := by omega
    rw [e2, Int.zero_ediv, Int.ediv_self (by omega)]
theorem div_abs_le (a : Int) (g : Nat) : (a / (g : Int)).natAbs ≤ a.natAbs := by
  by_cases h : g = 0
  · subst h
    rw [Int.natCast_zero, Int.ediv_zero]
    exact Nat.zero_le _
  · rcases Int.le_total 0 a with q | q
    · have := Int.ediv_le_self (g : Int) q
      have := Int.ediv_nonneg q (Int.natCast_nonneg g)
      omega
    · have h1 : a ≤ a / (g : Int) := by
        rw [Int.le_ediv_iff_mul_le (by omega)]
        have : a * (g : Int) ≤ a * 1 := Int.mul_le_mul_of_nonpos_left q (by omega)
        omega
      have h2 : a / (g : Int) ≤ 0 := by
        have := Int.ediv_le_ediv (c := (g : Int)) (by omega) q
        rw [Int.zero_ediv] at this
        exact this
      omega
theorem amt_le (num den : Int) : (amt num den).1.natAbs ≤ num.natAbs ∧ (amt num den).2.natAbs ≤ den.natAbs := by
  unfold amt
  by_cases c : den < 0
  · rw [if_pos c]
    have h1 := div_abs_le (-num) (Nat.gcd num.natAbs den.natAbs)
    have h2 := div_abs_le (-den) (Nat.gcd num.natAbs den.natAbs)
    rw [Int.natAbs_neg] at h1 h2
    exact ⟨h1, h2⟩
  · rw [if_neg c]
    exact ⟨div_abs_le _ _, div_abs_le _ _⟩

/-! ### call words -/
theorem c_seed {G : Gx} {c : Int} {H : Hp} {Q : VK} {E : XK} (h : Q (.int (seed c)) H) : sp_l_seed G [.int c] H Q E := ⟨c, rfl, h⟩
theorem c_cell {G : Gx} {a : Addr} {ns : List Int} {i : Int} {H : Hp} {Q : VK} {E : XK} (hs : SqL G.K H a (ns.map V.int)) (h0 : 0 ≤ i) (h : Q (.int (ns.getD i.toNat 0)) H) : sp_l_cell G [.ref a, .int i] H Q E :=
  ⟨a, ns, i.toNat, by rw [Int.toNat_of_nonneg h0], hs, h⟩
theorem c_whole {G : Gx} {i : Int} {H : Hp} {Q : VK} {E : XK} (h : Q (.bl true) H) : sp_l_whole G [.int i] H Q E := ⟨i, rfl, h⟩
theorem c_digits1 {G : Gx} {c z0 : Int} {a : Addr} {H : Hp} {Q : VK} {E : XK} (hs : SqL G.K H a [.int z0]) (hz0 : 0 < z0 ∧ z0 ≤ (10 : Int) ^ 60)
    (h : ∀ (d0 : Int) (q : Addr) (H' : Hp), digits c [z0] = [d0] → 0 ≤ d0 → d0 < z0 → Same H H' → Free H q → H' q = some (.lst [.int d0]) → Q (.ref q) H') : sp_l_digits G [.int c, .ref a] H Q E := by
  refine ⟨c, a, [z0], rfl, hs, ?_, by show 1 ≤ 1000; decide, fun q H1 s hq e => ?_⟩
  · intro z hz
    simp only [List.mem_cons, List.not_mem_nil, or_false] at hz
    rcases hz with rfl
    · exact hz0
  · have hl := digits_len c [z0]
    obtain ⟨y0, e0, a0, b0⟩ := digits_get c [z0] 0 z0 rfl hz0.1
    have ed : digits c [z0] = [y0] := by
      generalize digits c [z0] = l at *
      match l, hl with
      | [x0], _ =>
        obtain rfl : x0 = y0 := Option.some.inj e0
        rfl
    rw [ed] at e
    exact h y0 q H1 ed a0 b0 s hq e
theorem c_digits2 {G : Gx} {c z0 z1 : Int} {a : Addr} {H : Hp} {Q : VK} {E : XK} (hs : SqL G.K H a [.int z0, .int z1]) (hz0 : 0 < z0 ∧ z0 ≤ (10 : Int) ^ 60) (hz1 : 0 < z1 ∧ z1 ≤ (10 : Int) ^ 60)
    (h : ∀ (d0 d1 : Int) (q : Addr) (H' : Hp), digits c [z0, z1] = [d0, d1] → 0 ≤ d0 → d0 < z0 → 0 ≤ d1 → d1 < z1 → Same H H' → Free H q → H' q = some (.lst [.int d0, .int d1]) → Q (.ref q) H') : sp_l_digits G [.int c, .ref a] H Q E := by
  refine ⟨c, a, [z0, z1], rfl, hs, ?_, by show 2 ≤ 1000; decide, fun q H1 s hq e => ?_⟩
  · intro z hz
    simp only [List.mem_cons, List.not_mem_nil, or_false] at hz
    rcases hz with rfl | rfl
    · exact hz0
    · exact hz1
  · have hl := digits_len c [z0, z1]
    obtain ⟨y0, e0, a0, b0⟩ := digits_get c [z0, z1] 0 z0 rfl hz0.1
    obtain ⟨y1, e1, a1, b1⟩ := digits_get c [z0, z1] 1 z1 rfl hz1.1
    have ed : digits c [z0, z1] = [y0, y1] := by
      generalize digits c [z0, z1] = l at *
      match l, hl with
      | [x0, x1], _ =>
        obtain rfl : x0 = y0 := Option.some.inj e0
        obtain rfl : x1 = y1 := Option.some.inj e1
        rfl
    rw [ed] at e
    exact h y0 y1 q H1 ed a0 b0 a1 b1 s hq e
theorem c_digits3 {G : Gx} {c z0 z1 z2 : Int} {a : Addr} {H : Hp} {Q : VK} {E : XK} (hs : SqL G.K H a [.int z0, .int z1, .int z2]) (hz0 : 0 < z0 ∧ z0 ≤ (10 : Int) ^ 60) (hz1 : 0 < z1 ∧ z1 ≤ (10 : Int) ^ 60) (hz2 : 0 < z2 ∧ z2 ≤ (10 : Int) ^ 60)
    (h : ∀ (d0 d1 d2 : Int) (q : Addr) (H' : Hp), digits c [z0, z1, z2] = [d0, d1, d2] → 0 ≤ d0 → d0 < z0 → 0 ≤ d1 → d1 < z1 → 0 ≤ d2 → d2 < z2 → Same H H' → Free H q → H' q = some (.lst [.int d0, .int d1, .int d2]) → Q (.ref q) H') : sp_l_digits G [.int c, .ref a] H Q E := by
  refine ⟨c, a, [z0, z1, z2], rfl, hs, ?_, by show 3 ≤ 1000; decide, fun q H1 s hq e => ?_⟩
  · intro z hz
    simp only [List.mem_cons, List.not_mem_nil, or_false] at hz
    rcases hz with rfl | rfl | rfl
    · exact hz0
    · exact hz1
    · exact hz2
  · have hl := digits_len c [z0, z1, z2]
    obtain ⟨y0, e0, a0, b0⟩ := digits_get c [z0, z1, z2] 0 z0 rfl hz0.1
    obtain ⟨y1, e1, a1, b1⟩ := digits_get c [z0, z1, z2] 1 z1 rfl hz1.1
    obtain ⟨y2, e2, a2, b2⟩ := digits_get c [z0, z1, z2] 2 z2 rfl hz2.1
    have ed : digits c [z0, z1, z2] = [y0, y1, y2] := by
      generalize digits c [z0, z1, z2] = l at *
      match l, hl with
      | [x0, x1, x2], _ =>
        obtain rfl : x0 = y0 := Option.some.inj e0
        obtain rfl : x1 = y1 := Option.some.inj e1
        obtain rfl : x2 = y2 := Option.some.inj e2
        rfl
    rw [ed] at e
    exact h y0 y1 y2 q H1 ed a0 b0 a1 b1 a2 b2 s hq e
theorem c_digits4 {G : Gx} {c z0 z1 z2 z3 : Int} {a : Addr} {H : Hp} {Q : VK} {E : XK} (hs : SqL G.K H a [.int z0, .int z1, .int z2, .int z3]) (hz0 : 0 < z0 ∧ z0 ≤ (10 : Int) ^ 60) (hz1 : 0 < z1 ∧ z1 ≤ (10 : Int) ^ 60) (hz2 : 0 < z2 ∧ z2 ≤ (10 : Int) ^ 60) (hz3 : 0 < z3 ∧ z3 ≤ (10 : Int) ^ 60)
    (h : ∀ (d0 d1 d2 d3 : Int) (q : Addr) (H' : Hp), digits c [z0, z1, z2, z3] = [d0, d1, d2, d3] → 0 ≤ d0 → d0 < z0 → 0 ≤ d1 → d1 < z1 → 0 ≤ d2 → d2 < z2 → 0 ≤ d3 → d3 < z3 → Same H H' → Free H q → H' q = some (.lst [.int d0, .int d1, .int d2, .int d3]) → Q (.ref q) H') : sp_l_digits G [.int c, .ref a] H Q E := by
  refine ⟨c, a, [z0, z1, z2, z3], rfl, hs, ?_, by show 4 ≤ 1000; decide, fun q H1 s hq e => ?_⟩
  · intro z hz
    simp only [List.mem_cons, List.not_mem_nil, or_false] at hz
    rcases hz with rfl | rfl | rfl | rfl
    · exact hz0
    · exact hz1
    · exact hz2
    · exact hz3
  · have hl := digits_len c [z0, z1, z2, z3]
    obtain ⟨y0, e0, a0, b0⟩ := digits_get c [z0, z1, z2, z3] 0 z0 rfl hz0.1
    obtain ⟨y1, e1, a1, b1⟩ := digits_get c [z0, z1, z2, z3] 1 z1 rfl hz1.1
    obtain ⟨y2, e2, a2, b2⟩ := digits_get c [z0, z1, z2, z3] 2 z2 rfl hz2.1
    obtain ⟨y3, e3, a3, b3⟩ := digits_get c [z0, z1, z2, z3] 3 z3 rfl hz3.1
    have ed : digits c [z0, z1, z2, z3] = [y0, y1, y2, y3] := by
      generalize digits c [z0, z1, z2, z3] = l at *
      match l, hl with
      | [x0, x1, x2, x3], _ =>
        obtain rfl : x0 = y0 := Option.some.inj e0
        obtain rfl : x1 = y1 := Option.some.inj e1
        obtain rfl : x2 = y2 := Option.some.inj e2
        obtain rfl : x3 = y3 := Option.some.inj e3
        rfl
    rw [ed] at e
    exact h y0 y1 y2 y3 q H1 ed a0 b0 a1 b1 a2 b2 a3 b3 s hq e
theorem c_digits5 {G : Gx} {c z0 z1 z2 z3 z4 : Int} {a : Addr} {H : Hp} {Q : VK} {E : XK} (hs : SqL G.K H a [.int z0, .int z1, .int z2, .int z3, .int z4]) (hz0 : 0 < z0 ∧ z0 ≤ (10 : Int) ^ 60) (hz1 : 0 < z1 ∧ z1 ≤ (10 : Int) ^ 60) (hz2 : 0 < z2 ∧ z2 ≤ (10 : Int) ^ 60) (hz3 : 0 < z3 ∧ z3 ≤ (10 : Int) ^ 60) (hz4 : 0 < z4 ∧ z4 ≤ (10 : Int) ^ 60)
    (h : ∀ (d0 d1 d2 d3 d4 : Int) (q : Addr) (H' : Hp), digits c [z0, z1, z2, z3, z4] = [d0, d1, d2, d3, d4] → 0 ≤ d0 → d0 < z0 → 0 ≤ d1 → d1 < z1 → 0 ≤ d2 → d2 < z2 → 0 ≤ d3 → d3 < z3 → 0 ≤ d4 → d4 < z4 → Same H H' → Free H q → H' q = some (.lst [.int d0, .int d1, .int d2, .int d3, .int d4]) → Q (.ref q) H') : sp_l_digits G [.int c, .ref a] H Q E := by
  refine ⟨c, a, [z0, z1, z2, z3, z4], rfl, hs, ?_, by show 5 ≤ 1000; decide, fun q H1 s hq e => ?_⟩
  · intro z hz
    simp only [List.mem_cons, List.not_mem_nil, or_false] at hz
    rcases hz with rfl | rfl | rfl | rfl | rfl
    · exact hz0
    · exact hz1
    · exact hz2
    · exact hz3
    · exact hz4
  · have hl := digits_len c [z0, z1, z2, z3, z4]
    obtain ⟨y0, e0, a0, b0⟩ := digits_get c [z0, z1, z2, z3, z4] 0 z0 rfl hz0.1
    obtain ⟨y1, e1, a1, b1⟩ := digits_get c [z0, z1, z2, z3, z4] 1 z1 rfl hz1.1
    obtain ⟨y2, e2, a2, b2⟩ := digits_get c [z0, z1, z2, z3, z4] 2 z2 rfl hz2.1
    obtain ⟨y3, e3, a3, b3⟩ := digits_get c [z0, z1, z2, z3, z4] 3 z3 rfl hz3.1
    obtain ⟨y4, e4, a4, b4⟩ := digits_get c [z0, z1, z2, z3, z4] 4 z4 rfl hz4.1
    have ed : digits c [z0, z1, z2, z3, z4] = [y0, y1, y2, y3, y4] := by
      generalize digits c [z0, z1, z2, z3, z4] = l at *
      match l, hl with
      | [x0, x1, x2, x3, x4], _ =>
        obtain rfl : x0 = y0 := Option.some.inj e0
        obtain rfl : x1 = y1 := Option.some.inj e1
        obtain rfl : x2 = y2 := Option.some.inj e2
        obtain rfl : x3 = y3 := Option.some.inj e3
        obtain rfl : x4 = y4 := Option.some.inj e4
        rfl
    rw [ed] at e
    exact h y0 y1 y2 y3 y4 q H1 ed a0 b0 a1 b1 a2 b2 a3 b3 a4 b4 s hq e
theorem c_digits6 {G : Gx} {c z0 z1 z2 z3 z4 z5 : Int} {a : Addr} {H : Hp} {Q : VK} {E : XK} (hs : SqL G.K H a [.int z0, .int z1, .int z2, .int z3, .int z4, .int z5]) (hz0 : 0 < z0 ∧ z0 ≤ (10 : Int) ^ 60) (hz1 : 0 < z1 ∧ z1 ≤ (10 : Int) ^ 60) (hz2 : 0 < z2 ∧ z2 ≤ (10 : Int) ^ 60) (hz3 : 0 < z3 ∧ z3 ≤ (10 : Int) ^ 60) (hz4 : 0 < z4 ∧ z4 ≤ (10 : Int) ^ 60) (hz5 : 0 < z5 ∧ z5 ≤ (10 : Int) ^ 60)
    (h : ∀ (d0 d1 d2 d3 d4 d5 : Int) (q : Addr) (H' : Hp), digits c [z0, z1, z2, z3, z4, z5] = [d0, d1, d2, d3, d4, d5] → 0 ≤ d0 → d0 < z0 → 0 ≤ d1 → d1 < z1 → 0 ≤ d2 → d2 < z2 → 0 ≤ d3 → d3 < z3 → 0 ≤ d4 → d4 < z4 → 0 ≤ d5 → d5 < z5 → Same H H' → Free H q → H' q = some (.lst [.int d0, .int d1, .int d2, .int d3, .int d4, .int d5]) → Q (.ref q) H') : sp_l_digits G [.int c, .ref a] H Q E := by
  refine ⟨c, a, [z0, z1, z2, z3, z4, z5], rfl, hs, ?_, by show 6 ≤ 1000; decide, fun q H1 s hq e => ?_⟩
  · intro z hz
    simp only [List.mem_cons, List.not_mem_nil, or_false] at hz
    rcases hz with rfl | rfl | rfl | rfl | rfl | rfl
    · exact hz0
    · exact hz1
    · exact hz2
    · exact hz3
    · exact hz4
    · exact hz5
  · have hl := digits_len c [z0, z1, z2, z3, z4, z5]
    obtain ⟨y0, e0, a0, b0⟩ := digits_get c [z0, z1, z2, z3, z4, z5] 0 z0 rfl hz0.1
    obtain ⟨y1, e1, a1, b1⟩ := digits_get c [z0, z1, z2, z3, z4, z5] 1 z1 rfl hz1.1
    obtain ⟨y2, e2, a2, b2⟩ := digits_get c [z0, z1, z2, z3, z4, z5] 2 z2 rfl hz2.1
    obtain ⟨y3, e3, a3, b3⟩ := digits_get c [z0, z1, z2, z3, z4, z5] 3 z3 rfl hz3.1
    obtain ⟨y4, e4, a4, b4⟩ := digits_get c [z0, z1, z2, z3, z4, z5] 4 z4 rfl hz4.1
    obtain ⟨y5, e5, a5, b5⟩ := digits_get c [z0, z1, z2, z3, z4, z5] 5 z5 rfl hz5.1
    have ed : digits c [z0, z1, z2, z3, z4, z5] = [y0, y1, y2, y3, y4, y5] := by
      generalize digits c [z0, z1, z2, z3, z4, z5] = l at *
      match l, hl with
      | [x0, x1, x2, x3, x4, x5], _ =>
        obtain rfl : x0 = y0 := Option.some.inj e0
        obtain rfl : x1 = y1 := Option.some.inj e1
        obtain rfl : x2 = y2 := Option.some.inj e2
        obtain rfl : x3 = y3 := Option.some.inj e3
        obtain rfl : x4 = y4 := Option.some.inj e4
        obtain rfl : x5 = y5 := Option.some.inj e5
        rfl
    rw [ed] at e
    exact h y0 y1 y2 y3 y4 y5 q H1 ed a0 b0 a1 b1 a2 b2 a3 b3 a4 b4 a5 b5 s hq e
theorem c_digits7 {G : Gx} {c z0 z1 z2 z3 z4 z5 z6 : Int} {a : Addr} {H : Hp} {Q : VK} {E : XK} (hs : SqL G.K H a [.int z0, .int z1, .int z2, .int z3, .int z4, .int z5, .int z6]) (hz0 : 0 < z0 ∧ z0 ≤ (10 : Int) ^ 60) (hz1 : 0 < z1 ∧ z1 ≤ (10 : Int) ^ 60) (hz2 : 0 < z2 ∧ z2 ≤ (10 : Int) ^ 60) (hz3 : 0 < z3 ∧ z3 ≤ (10 : Int) ^ 60) (hz4 : 0 < z4 ∧ z4 ≤ (10 : Int) ^ 60) (hz5 : 0 < z5 ∧ z5 ≤ (10 : Int) ^ 60) (hz6 : 0 < z6 ∧ z6 ≤ (10 : Int) ^ 60)
    (h : ∀ (d0 d1 d2 d3 d4 d5 d6 : Int) (q : Addr) (H' : Hp), digits c [z0, z1, z2, z3, z4, z5, z6] = [d0, d1, d2, d3, d4, d5, d6] → 0 ≤ d0 → d0 < z0 → 0 ≤ d1 → d1 < z1 → 0 ≤ d2 → d2 < z2 → 0 ≤ d3 → d3 < z3 → 0 ≤ d4 → d4 < z4 → 0 ≤ d5 → d5 < z5 → 0 ≤ d6 → d6 < z6 → Same H H' → Free H q → H' q = some (.lst [.int d0, .int d1, .int d2, .int d3, .int d4, .int d5, .int d6]) → Q (.ref q) H') : sp_l_digits G [.int c, .ref a] H Q E := by
  refine ⟨c, a, [z0, z1, z2, z3, z4, z5, z6], rfl, hs, ?_, by show 7 ≤ 1000; decide, fun q H1 s hq e => ?_⟩
  · intro z hz
    simp only [List.mem_cons, List.not_mem_nil, or_false] at hz
    rcases hz with rfl | rfl | rfl | rfl | rfl | rfl | rfl
    · exact hz0
    · exact hz1
    · exact hz2
    · exact hz3
    · exact hz4
    · exact hz5
    · exact hz6
  · have hl := digits_len c [z0, z1, z2, z3, z4, z5, z6]
    obtain ⟨y0, e0, a0, b0⟩ := digits_get c [z0, z1, z2, z3, z4, z5, z6] 0 z0 rfl hz0.1
    obtain ⟨y1, e1, a1, b1⟩ := digits_get c [z0, z1, z2, z3, z4, z5, z6] 1 z1 rfl hz1.1
    obtain ⟨y2, e2, a2, b2⟩ := digits_get c [z0, z1, z2, z3, z4, z5, z6] 2 z2 rfl hz2.1
    obtain ⟨y3, e3, a3, b3⟩ := digits_get c [z0, z1, z2, z3, z4, z5, z6] 3 z3 rfl hz3.1
    obtain ⟨y4, e4, a4, b4⟩ := digits_get c [z0, z1, z2, z3, z4, z5, z6] 4 z4 rfl hz4.1
    obtain ⟨y5, e5, a5, b5⟩ := digits_get c [z0, z1, z2, z3, z4, z5, z6] 5 z5 rfl hz5.1
    obtain ⟨y6, e6, a6, b6⟩ := digits_get c [z0, z1, z2, z3, z4, z5, z6] 6 z6 rfl hz6.1
    have ed : digits c [z0, z1, z2, z3, z4, z5, z6] = [y0, y1, y2, y3, y4, y5, y6] := by
      generalize digits c [z0, z1, z2, z3, z4, z5, z6] = l at *
      match l, hl with
      | [x0, x1, x2, x3, x4, x5, x6], _ =>
        obtain rfl : x0 = y0 := Option.some.inj e0
        obtain rfl : x1 = y1 := Option.some.inj e1
        obtain rfl : x2 = y2 := Option.some.inj e2
        obtain rfl : x3 = y3 := Option.some.inj e3
        obtain rfl : x4 = y4 := Option.some.inj e4
        obtain rfl : x5 = y5 := Option.some.inj e5
        obtain rfl : x6 = y6 := Option.some.inj e6
        rfl
    rw [ed] at e
    exact h y0 y1 y2 y3 y4 y5 y6 q H1 ed a0 b0 a1 b1 a2 b2 a3 b3 a4 b4 a5 b5 a6 b6 s hq e
theorem c_digits8 {G : Gx} {c z0 z1 z2 z3 z4 z5 z6 z7 : Int} {a : Addr} {H : Hp} {Q : VK} {E : XK} (hs : SqL G.K H a [.int z0, .int z1, .int z2, .int z3, .int z4, .int z5, .int z6, .int z7]) (hz0 : 0 < z0 ∧ z0 ≤ (10 : Int) ^ 60) (hz1 : 0 < z1 ∧ z1 ≤ (10 : Int) ^ 60) (hz2 : 0 < z2 ∧ z2 ≤ (10 : Int) ^ 60) (hz3 : 0 < z3 ∧ z3 ≤ (10 : Int) ^ 60) (hz4 : 0 < z4 ∧ z4 ≤ (10 : Int) ^ 60) (hz5 : 0 < z5 ∧ z5 ≤ (10 : Int) ^ 60) (hz6 : 0 < z6 ∧ z6 ≤ (10 : Int) ^ 60) (hz7 : 0 < z7 ∧ z7 ≤ (10 : Int) ^ 60)
    (h : ∀ (d0 d1 d2 d3 d4 d5 d6 d7 : Int) (q : Addr) (H' : Hp), digits c [z0, z1, z2, z3, z4, z5, z6, z7] = [d0, d1, d2, d3, d4, d5, d6, d7] → 0 ≤ d0 → d0 < z0 → 0 ≤ d1 → d1 < z1 → 0 ≤ d2 → d2 < z2 → 0 ≤ d3 → d3 < z3 → 0 ≤ d4 → d4 < z4 → 0 ≤ d5 → d5 < z5 → 0 ≤ d6 → d6 < z6 → 0 ≤ d7 → d7 < z7 → Same H H' → Free H q → H' q = some (.lst [.int d0, .int d1, .int d2, .int d3, .int d4, .int d5, .int d6, .int d7]) → Q (.ref q) H') : sp_l_digits G [.int c, .ref a] H Q E := by
  refine ⟨c, a, [z0, z1, z2, z3, z4, z5, z6, z7], rfl, hs, ?_, by show 8 ≤ 1000; decide, fun q H1 s hq e => ?_⟩
  · intro z hz
    simp only [List.mem_cons, List.not_mem_nil, or_false] at hz
    rcases hz with rfl | rfl | rfl | rfl | rfl | rfl | rfl | rfl
    · exact hz0
    · exact hz1
    · exact hz2
    · exact hz3
    · exact hz4
    · exact hz5
    · exact hz6
    · exact hz7
  · have hl := digits_len c [z0, z1, z2, z3, z4, z5, z6, z7]
    obtain ⟨y0, e0, a0, b0⟩ := digits_get c [z0, z1, z2, z3, z4, z5, z6, z7] 0 z0 rfl hz0.1
    obtain ⟨y1, e1, a1, b1⟩ := digits_get c [z0, z1, z2, z3, z4, z5, z6, z7] 1 z1 rfl hz1.1
    obtain ⟨y2, e2, a2, b2⟩ := digits_get c [z0, z1, z2, z3, z4, z5, z6, z7] 2 z2 rfl hz2.1
    obtain ⟨y3, e3, a3, b3⟩ := digits_get c [z0, z1, z2, z3, z4, z5, z6, z7] 3 z3 rfl hz3.1
    obtain ⟨y4, e4, a4, b4⟩ := digits_get c [z0, z1, z2, z3, z4, z5, z6, z7] 4 z4 rfl hz4.1
    obtain ⟨y5, e5, a5, b5⟩ := digits_get c [z0, z1, z2, z3, z4, z5, z6, z7] 5 z5 rfl hz5.1
    obtain ⟨y6, e6, a6, b6⟩ := digits_get c [z0, z1, z2, z3, z4, z5, z6, z7] 6 z6 rfl hz6.1
    obtain ⟨y7, e7, a7, b7⟩ := digits_get c [z0, z1, z2, z3, z4, z5, z6, z7] 7 z7 rfl hz7.1
    have ed : digits c [z0, z1, z2, z3, z4, z5, z6, z7] = [y0, y1, y2, y3, y4, y5, y6, y7] := by
      generalize digits c [z0, z1, z2, z3, z4, z5, z6, z7] = l at *
      match l, hl with
      | [x0, x1, x2, x3, x4, x5, x6, x7], _ =>
        obtain rfl : x0 = y0 := Option.some.inj e0
        obtain rfl : x1 = y1 := Option.some.inj e1
        obtain rfl : x2 = y2 := Option.some.inj e2
        obtain rfl : x3 = y3 := Option.some.inj e3
        obtain rfl : x4 = y4 := Option.some.inj e4
        obtain rfl : x5 = y5 := Option.some.inj e5
        obtain rfl : x6 = y6 := Option.some.inj e6
        obtain rfl : x7 = y7 := Option.some.inj e7
        rfl
    rw [ed] at e
    exact h y0 y1 y2 y3 y4 y5 y6 y7 q H1 ed a0 b0 a1 b1 a2 b2 a3 b3 a4 b4 a5 b5 a6 b6 a7 b7 s hq e
local macro_rules | `(tactic| walk_at "st") => `(tactic| first
  | with_reducible refine c_seed ?_
  | ((with_reducible refine c_cell (ns := ?ns) ?hs ?h0 ?_); (case hs => walk_at "sq"); (case h0 => first | decide | omega))
  | with_reducible refine c_whole ?_)
/-! ### number: something below 10 ** 60 -/
def sp_l_number (G : Gx) : Sp := fun vs H Q _ => ∃ (c : Int), vs = [.int c] ∧ ∀ (n : Int) H', Same H H' → n.natAbs < 10 ^ 60 → Q (.int n) H'
theorem len_l_number {G : Gx} : ∀ vs H Q E, sp_l_number G vs H Q E → vs.length = 1 := by rintro vs H Q E ⟨m, rfl, _⟩; rfl
/-! _law_number: slots _law_cell_here, _law_low, _law_high, _law_size, _law_sign, _law_number_here -/
def t_l_number (G : Gx) : TS :=
  (tSeq (tAsg (tCall (sp_l_digits G) [] E0 (tCons (tVar 0) (tCons (tLst (tCons (tOp rPowI (tC (.int 10)) (tC (.int 9))) (tCons (tOp rPowI (tC (.int 10)) (tC (.int 50))) (tCons (tC (.int 5)) (tCons (tC (.int 2)) tNil))))) tNil))) (gUnl G.K 4 (gCons (gName 1) (gCons (gName 2) (gCons (gName 3) (gCons (gName 4) gNil))))))
  (tSeq (tAsg (tOp (rIxL G.K) (tLst (tCons (tOp rModI (tVar 1) (tC (.int 10))) (tCons (tOp rModI (tVar 1) (tC (.int 1000))) (tCons (tVar 1) (tCons (tVar 2) (tCons (tOp rSubI (tOp rSubI (tOp rPowI (tC (.int 10)) (tC (.int 60))) (tC (.int 1))) (tOp rModI (tVar 1) (tC (.int 4)))) tNil)))))) (tVar 3)) (gName 5))
  (tSeq (tIfS (tTest (tOp rEq (tVar 4) (tC (.int 1)))) (tRet (tOp rSubI (tC (.int 0)) (tVar 5))) tNext)
  (tRet (tVar 5)))))
theorem four {l : List Int} (h : l.length = 4) : ∃ a b c d, l = [a, b, c, d] := by
  match l, h with
  | [a, b, c, d], _ => exact ⟨a, b, c, d, rfl⟩
theorem pure_l_number {G : Gx} {vs : List V} {H : Hp} {Q : VK} {E : XK} (h : sp_l_number G vs H Q E) : Body (t_l_number G) ["_law_cell_here", "_law_low", "_law_high", "_law_size", "_law_sign", "_law_number_here"] vs H Q := by
  obtain ⟨c, rfl, k⟩ := h
  show t_l_number G _ [some (.int c), none, none, none, none, none] H
  unfold t_l_number
  walk_at "go"
  refine ⟨by walk_at "sz", fun p hp => ?_⟩
  walk_at "go"
  refine ⟨c, p, [1000000000, 100000000000000000000000000000000000000000000000000, 5, 2], rfl, SqL.of upd_same, by decide, by decide, fun q H1 s1 hq e1 => ?_⟩
  have hl := digits_len c [1000000000, 100000000000000000000000000000000000000000000000000, 5, 2]
  have g0 := digits_get c [1000000000, 100000000000000000000000000000000000000000000000000, 5, 2] 0 _ rfl (by decide)
  have g1 := digits_get c [1000000000, 100000000000000000000000000000000000000000000000000, 5, 2] 1 _ rfl (by decide)
  have g2 := digits_get c [1000000000, 100000000000000000000000000000000000000000000000000, 5, 2] 2 _ rfl (by decide)
  generalize digits c [1000000000, 100000000000000000000000000000000000000000000000000, 5, 2] = ds at *
  obtain ⟨x0, x1, x2, x3, rfl⟩ := four hl
  obtain ⟨y0, e0, a0, b0⟩ := g0
  obtain ⟨y1, e1', a1, b1⟩ := g1
  obtain ⟨y2, e2, a2, b2⟩ := g2
  obtain rfl : x0 = y0 := Option.some.inj e0
  obtain rfl : x1 = y1 := Option.some.inj e1'
  obtain rfl : x2 = y2 := Option.some.inj e2
  refine g_unl (SqL.of e1) rfl ?_
  dsimp only [List.map]
  walk_at "go"
  refine ⟨by walk_at "sz", fun r hr => ?_⟩
  walk_at "go"
  have s2 : Same H (upd H1 r (.lst [.int (x0 % 10), .int (x0 % 1000), .int x0, .int x1, .int (1000000000000000000000000000000000000000000000000000000000000 - 1 - x0 % 4)])) :=
    same_new (Same.trans (same_new (Same.refl H) hp) s1) hr
  have fin : ∀ n : Int, n.natAbs < 10 ^ 60 → atI [V.int (x0 % 10), .int (x0 % 1000), .int x0, .int x1, .int (1000000000000000000000000000000000000000000000000000000000000 - 1 - x0 % 4)] x2 = some (.int n) → ∃ n, n.natAbs < 10 ^ 60 ∧ atI [V.int (x0 % 10), .int (x0 % 1000), .int x0, .int x1, .int (1000000000000000000000000000000000000000000000000000000000000 - 1 - x0 % 4)] x2 = some (.int n) := fun n h1 h2 => ⟨n, h1, h2⟩
  obtain ⟨n, hn, hat⟩ : ∃ n : Int, n.natAbs < 10 ^ 60 ∧ atI [V.int (x0 % 10), .int (x0 % 1000), .int x0, .int x1, .int (1000000000000000000000000000000000000000000000000000000000000 - 1 - x0 % 4)] x2 = some (.int n) := by
    rcases (show x2 = 0 ∨ x2 = 1 ∨ x2 = 2 ∨ x2 = 3 ∨ x2 = 4 by omega) with rfl | rfl | rfl | rfl | rfl
    · exact ⟨_, by omega, rfl⟩
    · exact ⟨_, by omega, rfl⟩
    · exact ⟨_, by omega, rfl⟩
    · exact ⟨_, by omega, rfl⟩
    · exact ⟨_, by omega, rfl⟩
  refine r_ixL (SqL.of upd_same) hat ?_
  walk_at "go"
  refine iteI (fun h => ?_) (fun h => ?_)
  · walk_at "go"
    exact k _ _ s2 (by rw [Int.zero_sub, Int.natAbs_neg]; exact hn)
  · walk_at "go"
    exact k _ _ s2 hn
/-! ### is_amount -/
def sp_l_is_amount (G : Gx) : Sp := fun vs H Q _ => ∃ (p : Addr) (a b : Int), vs = [.ref p] ∧ H p = some (.tup [.int a, .int b]) ∧ 1 ≤ b ∧ Nat.gcd a.natAbs b.natAbs = 1 ∧ Q (.bl true) H
theorem len_l_is_amount {G : Gx} : ∀ vs H Q E, sp_l_is_amount G vs H Q E → vs.length = 1 := by rintro vs H Q E ⟨m, a, b, rfl, _⟩; rfl
/-! _law_is_amount: slots _law_found -/
def t_l_is_amount (G : Gx) : TS :=
  (tSeq (tIfS (tOr (tNot (tB (tCB (rIsi G.K) (tCons (tVar 0) (tCons (tC (.ty "tuple")) tNil))))) (tTest (tOp rNe (tCB (rLenSeq G.K) (tCons (tVar 0) tNil)) (tC (.int 2))))) (tRet (tC (.bl false))) tNext)
  (tSeq (tIfS (tOr (tNot (tB (tCall (sp_l_whole G) [] E0 (tCons (tOp (rIxT G.K) (tVar 0) (tC (.int 0))) tNil)))) (tOr (tNot (tB (tCall (sp_l_whole G) [] E0 (tCons (tOp (rIxT G.K) (tVar 0) (tC (.int 1))) tNil)))) (tTest (tOp rLtI (tOp (rIxT G.K) (tVar 0) (tC (.int 1))) (tC (.int 1)))))) (tRet (tC (.bl false))) tNext)
  (tRet (tOp rEq (tCall (sp_l_gcd G) [] E0 (tCons (tCB rAbs (tCons (tOp (rIxT G.K) (tVar 0) (tC (.int 0))) tNil)) (tCons (tOp (rIxT G.K) (tVar 0) (tC (.int 1))) tNil))) (tC (.int 1))))))
theorem pure_l_is_amount {G : Gx} {vs : List V} {H : Hp} {Q : VK} {E : XK} (h : sp_l_is_amount G vs H Q E) : Body (t_l_is_amount G) ["_law_found"] vs H Q := by
  obtain ⟨p, a, b, rfl, hp, hb, hg, k⟩ := h
  show t_l_is_amount G _ [some (.ref p)] H
  unfold t_l_is_amount
  walk_at "go"
  refine iteNS rfl ?_
  walk_at "go"
  refine iteD (fun h => absurd h (by omega)) (fun h => ?_)
  walk_at "go"
  rw [abs_if]
  refine ⟨a.natAbs, b.natAbs, by rw [Int.natAbs_of_nonneg (by omega : 0 ≤ b)], ?_⟩
  walk_at "go"
  rw [hg]
  exact k
theorem c_isamt {G : Gx} {p : Addr} {a b : Int} {H : Hp} {Q : VK} {E : XK} (hp : H p = some (.tup [.int a, .int b])) (h1 : 1 ≤ b) (h2 : Nat.gcd a.natAbs b.natAbs = 1) (h : Q (.bl true) H) : sp_l_is_amount G [.ref p] H Q E := ⟨p, a, b, rfl, hp, h1, h2, h⟩

theorem mulX60 {i j : Int} (h1 : i.natAbs < 10 ^ 60) (h2 : j.natAbs < 10 ^ 60) : CMulX i j :=
  mulx_ok (a := 200) (b := 200) (Nat.lt_of_lt_of_le h1 (by decide)) (Nat.lt_of_lt_of_le h2 (by decide)) (by decide)
theorem log60 {i : Int} (h1 : i.natAbs < 10 ^ 60) : i.natAbs.log2 < 9000 := Nat.lt_of_le_of_lt (log2_mono (Nat.le_of_lt h1)) (by decide +kernel)
def spLaw (G : Gx) : Sp := fun vs H Q _ => ∃ (a : Addr) (ns : List Int), vs = [.ref a] ∧ SqL G.K H a (ns.map V.int) ∧ ns.length ≤ 63 ∧ ∀ H', Q (.bl true) H'
theorem len_p_law {G : Gx} : ∀ vs H Q E, spLaw G vs H Q E → vs.length = 1 := by rintro vs H Q E ⟨m, a, rfl, _⟩; rfl
/-! ### lowest -/
def sp_l_lowest (G : Gx) : Sp := sp_p_amount G
theorem len_l_lowest {G : Gx} : ∀ vs H Q E, sp_l_lowest G vs H Q E → vs.length = 2 := len_p_amount
/-! _law_lowest: slots _law_num, _law_den, _law_by -/
def t_l_lowest (G : Gx) : TS :=
  (tSeq (tIfS (tTest (tOp rLtI (tVar 1) (tC (.int 0)))) (tPar 0 1 (tCons (tOp rSubI (tC (.int 0)) (tVar 0)) (tCons (tOp rSubI (tC (.int 0)) (tVar 1)) tNil))) tNext)
  (tSeq (tAsg (tCall (sp_l_gcd G) [] E0 (tCons (tCB rAbs (tCons (tVar 0) tNil)) (tCons (tVar 1) tNil))) (gName 2))
  (tRet (tTup (tCons (tOp rDivW (tVar 0) (tVar 2)) (tCons (tOp rDivW (tVar 1) (tVar 2)) tNil))))))
theorem pure_l_lowest {G : Gx} {vs : List V} {H : Hp} {Q : VK} {E : XK} (h : sp_l_lowest G vs H Q E) : Body (t_l_lowest G) ["_law_num", "_law_den", "_law_by"] vs H Q := by
  obtain ⟨num, den, rfl, h0, hs, k⟩ := h
  show t_l_lowest G _ [some (.int num), some (.int den), none] H
  unfold t_l_lowest
  walk_at "go"
  unfold amt at k
  refine iteD (fun h => ?_) (fun h => ?_)
  · rw [if_pos h] at k
    walk_at "go"
    rw [abs_if]
    refine ⟨num.natAbs, den.natAbs, by rw [Int.zero_sub, Int.zero_sub, Int.natAbs_neg, Int.ofNat_natAbs_of_nonpos (by omega : den ≤ 0)], ?_⟩
    rw [Int.zero_sub, Int.zero_sub]
    walk_at "go"
    refine r_I (gcd_divW (by omega) hs) ?_
    walk_at "go"
    refine r_I (gcd_divW (by omega) hs) ?_
    walk_at "go"
    exact ⟨by walk_at "sz", fun p hp => k p _ (same_new (Same.refl H) hp) hp upd_same⟩
  · rw [if_neg h] at k
    walk_at "go"
    rw [abs_if]
    refine ⟨num.natAbs, den.natAbs, by rw [Int.natAbs_of_nonneg (by omega : 0 ≤ den)], ?_⟩
    walk_at "go"
    refine r_I (gcd_divW (by omega) hs) ?_
    walk_at "go"
    refine r_I (gcd_divW (by omega) hs) ?_
    walk_at "go"
    exact ⟨by walk_at "sz", fun p hp => k p _ (same_new (Same.refl H) hp) hp upd_same⟩
/-! ### drawn_amount -/
structure Low (x y : Int) : Prop where
  one : 1 ≤ y
  gcd : Nat.gcd x.natAbs y.natAbs = 1
theorem amt_low {num den : Int} (h : den ≠ 0) : Low (amt num den).1 (amt num den).2 := ⟨(amt_spec h).1, (amt_spec h).2.1⟩
def sp_l_drawn_amount (G : Gx) : Sp := fun vs H Q _ => ∃ (c d : Int), vs = [.int c, .int d] ∧ ∀ (x y : Int) p H', Low x y → x.natAbs < 10 ^ 60 → y.natAbs < 10 ^ 60 → Same H H' → Free H p → H' p = some (.tup [.int x, .int y]) → Q (.ref p) H'
theorem len_l_drawn_amount {G : Gx} : ∀ vs H Q E, sp_l_drawn_amount G vs H Q E → vs.length = 2 := by rintro vs H Q E ⟨c, d, rfl, _⟩; rfl
/-! _law_drawn_amount: slots _law_one, _law_two, _law_den -/
def t_l_drawn_amount (G : Gx) : TS :=
  (tSeq (tAsg (tCall (sp_l_number G) [] E0 (tCons (tVar 1) tNil)) (gName 2))
  (tCut (tIfS (tTest (tOp rEq (tVar 2) (tC (.int 0)))) (tAsg (tC (.int 1)) (gName 2)) tNext)
  (tRet (tCall (sp_l_lowest G) [] E0 (tCons (tCall (sp_l_number G) [] E0 (tCons (tVar 0) tNil)) (tCons (tVar 2) tNil))))))
theorem pure_l_drawn_amount {G : Gx} {vs : List V} {H : Hp} {Q : VK} {E : XK} (h : sp_l_drawn_amount G vs H Q E) : Body (t_l_drawn_amount G) ["_law_one", "_law_two", "_law_den"] vs H Q := by
  obtain ⟨c, d, rfl, k⟩ := h
  show t_l_drawn_amount G _ [some (.int c), some (.int d), none] H
  unfold t_l_drawn_amount
  walk_at "go"
  refine ⟨_, rfl, fun den H1 s1 hd => ?_⟩
  refine r_cut (fun σ H' => ∃ den : Int, σ = [some (.int c), some (.int d), some (.int den)] ∧ den ≠ 0 ∧ den.natAbs < 10 ^ 60 ∧ Same H H') ?_ ?_
  · walk_at "go"
    refine iteI (fun h => ?_) (fun h => ?_)
    · walk_at "go"
      exact ⟨1, rfl, by decide, by decide, s1⟩
    · walk_at "go"
      exact ⟨den, rfl, h, hd, s1⟩
  clear hd s1 den H1
  rintro σ H1 ⟨den, rfl, hd0, hd, s1⟩
  walk_at "go"
  refine ⟨_, rfl, fun num H2 s2 hn => ?_⟩
  walk_at "go"
  obtain ⟨l1, l2⟩ := amt_le num den
  refine ⟨num, den, rfl, hd0, log60 hd, fun p H3 s3 hp e => ?_⟩
  have s := s1.trans s2
  exact k _ _ p H3 (amt_low hd0) (Nat.lt_of_le_of_lt l1 hn) (Nat.lt_of_le_of_lt l2 hd) (s.trans s3) (s.free hp) e
/-! ### plus, minus, times -/
theorem mulX_n {i j : Int} {n : Nat} (h1 : i.natAbs < 2 ^ n) (h2 : j.natAbs < 2 ^ n) (hn : n ≤ 4000) : CMulX i j := mulx_ok h1 h2 (by omega)
theorem log_mul {i j : Int} {n : Nat} (h1 : i.natAbs < 2 ^ n) (h2 : j.natAbs < 2 ^ n) (hn : n ≤ 4000) : (i * j).natAbs.log2 < 9000 := by
  have h := wide_lt h1 h2
  by_cases z : (i * j).natAbs = 0
  · rw [z]
    decide
  · have := (Nat.log2_lt z).mpr h
    omega
/-- an amount that is read: b is not nought -/
structure AmtAt (K : PySem.W.Frag) (H : Hp) (n : Nat) (p : Addr) (a b : Int) : Prop where
  at_ : SqT K H p [.int a, .int b]
  ne : b ≠ 0
  la : a.natAbs < 2 ^ n
  lb : b.natAbs < 2 ^ n
def sp_2 (G : Gx) (f : Int → Int → Int → Int → Int × Int) : Sp := fun vs H Q _ => ∃ (p q : Addr) (a b c d : Int) (n : Nat), vs = [.ref p, .ref q] ∧ n ≤ 4000 ∧ AmtAt G.K H n p a b ∧ AmtAt G.K H n q c d ∧
  ∀ r H', Same H H' → Free H r → H' r = some (.tup [.int (f a b c d).1, .int (f a b c d).2]) → Q (.ref r) H'
def amtPlus (a b c d : Int) : Int × Int := amt (a * d + c * b) (b * d)
def amtMinus (a b c d : Int) : Int × Int := amt (a * d - c * b) (b * d)
def amtTimes (a b m : Int) : Int × Int := amt (a * m) b
def sp_p_plus (G : Gx) : Sp := sp_2 G amtPlus
def sp_p_minus (G : Gx) : Sp := sp_2 G amtMinus
theorem len_p_plus {G : Gx} : ∀ vs H Q E, sp_p_plus G vs H Q E → vs.length = 2 := by rintro vs H Q E ⟨p, q, a, b, c, d, n, rfl, _⟩; rfl
theorem len_p_minus {G : Gx} : ∀ vs H Q E, sp_p_minus G vs H Q E → vs.length = 2 := by rintro vs H Q E ⟨p, q, a, b, c, d, n, rfl, _⟩; rfl
def sp_p_times (G : Gx) : Sp := fun vs H Q _ => ∃ (p : Addr) (a b m : Int) (n : Nat), vs = [.ref p, .int m] ∧ n ≤ 4000 ∧ AmtAt G.K H n p a b ∧ m.natAbs < 2 ^ n ∧
  ∀ r H', Same H H' → Free H r → H' r = some (.tup [.int (amtTimes a b m).1, .int (amtTimes a b m).2]) → Q (.ref r) H'
theorem len_p_times {G : Gx} : ∀ vs H Q E, sp_p_times G vs H Q E → vs.length = 2 := by rintro vs H Q E ⟨p, a, b, m, n, rfl, _⟩; rfl
/-! plus: slots one, other -/
def t_p_plus (G : Gx) : TS :=
  (tRet (tCall (sp_p_amount G) [] E0 (tCons (tOp rAddI (tOp rMulX (tOp (rIxT G.K) (tVar 0) (tC (.int 0))) (tOp (rIxT G.K) (tVar 1) (tC (.int 1)))) (tOp rMulX (tOp (rIxT G.K) (tVar 1) (tC (.int 0))) (tOp (rIxT G.K) (tVar 0) (tC (.int 1))))) (tCons (tOp rMulX (tOp (rIxT G.K) (tVar 0) (tC (.int 1))) (tOp (rIxT G.K) (tVar 1) (tC (.int 1)))) tNil))))
/-! minus: slots one, other -/
def t_p_minus (G : Gx) : TS :=
  (tRet (tCall (sp_p_amount G) [] E0 (tCons (tOp rSubI (tOp rMulX (tOp (rIxT G.K) (tVar 0) (tC (.int 0))) (tOp (rIxT G.K) (tVar 1) (tC (.int 1)))) (tOp rMulX (tOp (rIxT G.K) (tVar 1) (tC (.int 0))) (tOp (rIxT G.K) (tVar 0) (tC (.int 1))))) (tCons (tOp rMulX (tOp (rIxT G.K) (tVar 0) (tC (.int 1))) (tOp (rIxT G.K) (tVar 1) (tC (.int 1)))) tNil))))
/-! times: slots one, many -/
def t_p_times (G : Gx) : TS :=
  (tRet (tCall (sp_p_amount G) [] E0 (tCons (tOp rMulX (tOp (rIxT G.K) (tVar 0) (tC (.int 0))) (tVar 1)) (tCons (tOp (rIxT G.K) (tVar 0) (tC (.int 1))) tNil))))
theorem pure_p_plus {G : Gx} {vs : List V} {H : Hp} {Q : VK} {E : XK} (h : sp_p_plus G vs H Q E) : Body (t_p_plus G) ["one", "other"] vs H Q := by
  obtain ⟨p, q, a, b, c, d, n, rfl, hn, ⟨hp, b0, la, lb⟩, ⟨hq, d0, lc, ld⟩, k⟩ := h
  show t_p_plus G _ [some (.ref p), some (.ref q)] H
  unfold t_p_plus
  walk_at "go"
  refine r_I (mulX_n la ld hn) ?_
  walk_at "go"
  refine r_I (mulX_n lc lb hn) ?_
  walk_at "go"
  refine r_I (mulX_n lb ld hn) ?_
  walk_at "go"
  exact ⟨_, _, rfl, Int.mul_ne_zero b0 d0, log_mul lb ld hn, fun r H' s hr e => k r H' s hr e⟩
theorem pure_p_minus {G : Gx} {vs : List V} {H : Hp} {Q : VK} {E : XK} (h : sp_p_minus G vs H Q E) : Body (t_p_minus G) ["one", "other"] vs H Q := by
  obtain ⟨p, q, a, b, c, d, n, rfl, hn, ⟨hp, b0, la, lb⟩, ⟨hq, d0, lc, ld⟩, k⟩ := h
  show t_p_minus G _ [some (.ref p), some (.ref q)] H
  unfold t_p_minus
  walk_at "go"
  refine r_I (mulX_n la ld hn) ?_
  walk_at "go"
  refine r_I (mulX_n lc lb hn) ?_
  walk_at "go"
  refine r_I (mulX_n lb ld hn) ?_
  walk_at "go"
  exact ⟨_, _, rfl, Int.mul_ne_zero b0 d0, log_mul lb ld hn, fun r H' s hr e => k r H' s hr e⟩
theorem log_lt {i : Int} {n : Nat} (h1 : i.natAbs < 2 ^ n) (hn : n ≤ 8000) : i.natAbs.log2 < 9000 := by
  by_cases z : i.natAbs = 0
  · rw [z]
    decide
  · have := (Nat.log2_lt z).mpr h1
    omega
theorem pure_p_times {G : Gx} {vs : List V} {H : Hp} {Q : VK} {E : XK} (h : sp_p_times G vs H Q E) : Body (t_p_times G) ["one", "many"] vs H Q := by
  obtain ⟨p, a, b, m, n, rfl, hn, ⟨hp, b0, la, lb⟩, hm, k⟩ := h
  show t_p_times G _ [some (.ref p), some (.int m)] H
  unfold t_p_times
  walk_at "go"
  refine r_I (mulX_n la hm hn) ?_
  walk_at "go"
  exact ⟨_, _, rfl, b0, log_lt lb (by omega), fun r H' s hr e => k r H' s hr e⟩
/-! ### below -/
def sp_p_below (G : Gx) : Sp := fun vs H Q _ => ∃ (p q : Addr) (a b c d : Int) (n : Nat), vs = [.ref p, .ref q] ∧ n ≤ 4000 ∧ AmtAt G.K H n p a b ∧ AmtAt G.K H n q c d ∧ Q (.bl (decide (a * d < c * b))) H
theorem len_p_below {G : Gx} : ∀ vs H Q E, sp_p_below G vs H Q E → vs.length = 2 := by rintro vs H Q E ⟨p, q, a, b, c, d, n, rfl, _⟩; rfl
/-! below: slots one, other -/
def t_p_below (G : Gx) : TS :=
  (tRet (tOp rLtI (tOp rMulX (tOp (rIxT G.K) (tVar 0) (tC (.int 0))) (tOp (rIxT G.K) (tVar 1) (tC (.int 1)))) (tOp rMulX (tOp (rIxT G.K) (tVar 1) (tC (.int 0))) (tOp (rIxT G.K) (tVar 0) (tC (.int 1))))))
theorem pure_p_below {G : Gx} {vs : List V} {H : Hp} {Q : VK} {E : XK} (h : sp_p_below G vs H Q E) : Body (t_p_below G) ["one", "other"] vs H Q := by
  obtain ⟨p, q, a, b, c, d, n, rfl, hn, ⟨hp, b0, la, lb⟩, ⟨hq, d0, lc, ld⟩, k⟩ := h
  show t_p_below G _ [some (.ref p), some (.ref q)] H
  unfold t_p_below
  walk_at "go"
  refine r_I (mulX_n la ld hn) ?_
  walk_at "go"
  refine r_I (mulX_n lc lb hn) ?_
  walk_at "go"
  exact k

/-! Ps: the keys of a dict in their order. -/
def putS (S : List Int) (k : Int) : List Int := if k ∈ S then S else S ++ [k]
section
variable {S : List Int} {k : Int}
theorem mem_putS {x : Int} : x ∈ putS S k ↔ x ∈ S ∨ x = k := by
  unfold putS
  by_cases h : k ∈ S
  · rw [if_pos h]
    exact ⟨.inl, fun z => z.elim id fun e => e ▸ h⟩
  · rw [if_neg h, List.mem_append, List.mem_singleton]
theorem nd_putS (h : S.Nodup) : (putS S k).Nodup := by
  unfold putS
  by_cases hk : k ∈ S
  · rw [if_pos hk]; exact h
  · rw [if_neg hk]
    refine List.nodup_append.mpr ⟨h, List.Pairwise.cons (fun _ z => nomatch z) .nil, fun x hx y hy => ?_⟩
    rw [List.mem_singleton.mp hy]
    exact fun e => hk (e ▸ hx)
theorem len_putS : (putS S k).length ≤ S.length + 1 := by
  unfold putS
  split
  · omega
  · rw [List.length_append]; exact Nat.le_refl _
theorem putS_in (h : k ∈ S) : putS S k = S := if_pos h
theorem putS_out (h : k ∉ S) : putS S k = S ++ [k] := if_neg h
end
def fset (f : Int → Int) (k v : Int) : Int → Int := fun z => if z = k then v else f z
/-- three keys in turn -/
def putS3 (S : List Int) (x y z : Int) : List Int := putS (putS (putS S x) y) z
theorem mem_putS3 {S : List Int} {x y z w : Int} : w ∈ putS3 S x y z ↔ w ∈ S ∨ w = x ∨ w = y ∨ w = z := by
  unfold putS3
  rw [mem_putS, mem_putS, mem_putS, or_assoc, or_assoc]
theorem nd_putS3 {S : List Int} {x y z : Int} (h : S.Nodup) : (putS3 S x y z).Nodup := nd_putS (nd_putS (nd_putS h))
theorem len_putS3 {S : List Int} {x y z : Int} : (putS3 S x y z).length ≤ S.length + 3 := by
  have a := len_putS (S := putS (putS S x) y) (k := z)
  have b := len_putS (S := putS S x) (k := y)
  have c := len_putS (S := S) (k := x)
  unfold putS3
  omega

/-! Eqv: classes of a finite set under steps; permutations; counting classes. Plain Lean. -/
/-! ### lists -/
theorem sub_len {α : Type} [DecidableEq α] : ∀ {l m : List α}, l.Nodup → (∀ x ∈ l, x ∈ m) → l.length ≤ m.length
  | [], _, _, _ => Nat.zero_le _
  | a :: l, m, h, hs => by
    obtain ⟨h1, h2⟩ := List.nodup_cons.mp h
    have ha : a ∈ m := hs a List.mem_cons_self
    have q := sub_len (l := l) (m := m.erase a) h2 fun x hx => by
      have hne : x ≠ a := fun e => h1 (e ▸ hx)
      exact (List.mem_erase_of_ne hne).mpr (hs x (List.mem_cons_of_mem _ hx))
    have e := List.length_erase_of_mem ha
    have : 0 < m.length := List.length_pos_of_mem ha
    rw [List.length_cons]
    omega
/-! ### the equivalence that steps make -/
inductive Eqv (r : Int → Int → Prop) : Int → Int → Prop where
  | refl (x : Int) : Eqv r x x
  | step {x y : Int} (h : r x y) : Eqv r x y
  | symm {x y : Int} (h : Eqv r x y) : Eqv r y x
  | trans {x y z : Int} (h : Eqv r x y) (g : Eqv r y z) : Eqv r x z
section
variable {r r' : Int → Int → Prop} {x y z : Int}
theorem Eqv.map {f : Int → Int} (h : ∀ x y, r x y → Eqv r' (f x) (f y)) : Eqv r x y → Eqv r' (f x) (f y) := fun e => by
  induction e with
  | refl x => exact .refl _
  | step q => exact h _ _ q
  | symm _ ih => exact ih.symm
  | trans _ _ i1 i2 => exact i1.trans i2
theorem Eqv.mono (h : ∀ x y, r x y → Eqv r' x y) : Eqv r x y → Eqv r' x y := Eqv.map (f := id) h
theorem Eqv.inv {A : Int → Prop} (h : ∀ x y, r x y → (A x ↔ A y)) : Eqv r x y → (A x ↔ A y) := fun e => by
  induction e with
  | refl x => exact Iff.rfl
  | step q => exact h _ _ q
  | symm _ ih => exact ih.symm
  | trans _ _ i1 i2 => exact i1.trans i2
end
/-! ### how many classes -/
def Cls (S : List Int) (r : Int → Int → Prop) (n : Nat) : Prop :=
  ∃ R : List Int, R.length = n ∧ (∀ x ∈ R, x ∈ S) ∧ (∀ x ∈ S, ∃ y ∈ R, Eqv r x y) ∧ R.Pairwise fun x y => ¬ Eqv r x y
theorem cls_exists (r : Int → Int → Prop) : ∀ S : List Int, ∃ n, Cls S r n
  | [] => ⟨0, [], rfl, fun x h => h, fun x h => absurd h (List.not_mem_nil), List.Pairwise.nil⟩
  | a :: S => by
    obtain ⟨n, R, h1, h2, h3, h4⟩ := cls_exists r S
    by_cases c : ∃ y ∈ R, Eqv r a y
    · refine ⟨n, R, h1, fun x hx => List.mem_cons_of_mem _ (h2 x hx), fun x hx => ?_, h4⟩
      rcases List.mem_cons.mp hx with rfl | hx
      · exact c
      · exact h3 x hx
    · refine ⟨n + 1, a :: R, by rw [List.length_cons, h1], fun x hx => ?_, fun x hx => ?_, List.pairwise_cons.mpr ⟨fun y hy e => c ⟨y, hy, e⟩, h4⟩⟩
      · rcases List.mem_cons.mp hx with rfl | hx
        · exact List.mem_cons_self
        · exact List.mem_cons_of_mem _ (h2 x hx)
      · rcases List.mem_cons.mp hx with rfl | hx
        · exact ⟨x, List.mem_cons_self, .refl _⟩
        · obtain ⟨y, hy, e⟩ := h3 x hx
          exact ⟨y, List.mem_cons_of_mem _ hy, e⟩
theorem cls_le {S : List Int} {r : Int → Int → Prop} : ∀ {R R2 : List Int}, R.Pairwise (fun x y => ¬ Eqv r x y) → (∀ x ∈ R, ∃ y ∈ R2, Eqv r x y) → R.length ≤ R2.length
  | [], _, _, _ => Nat.zero_le _
  | a :: R, R2, h, hc => by
    obtain ⟨h1, h2⟩ := List.pairwise_cons.mp h
    obtain ⟨b, hb, e⟩ := hc a List.mem_cons_self
    have q := cls_le (S := S) (R := R) (R2 := R2.erase b) h2 fun x hx => by
      obtain ⟨y, hy, e2⟩ := hc x (List.mem_cons_of_mem _ hx)
      have hne : y ≠ b := fun z => h1 x hx (e.trans (by rw [← z]; exact e2.symm))
      exact ⟨y, (List.mem_erase_of_ne hne).mpr hy, e2⟩
    have e := List.length_erase_of_mem hb
    have : 0 < R2.length := List.length_pos_of_mem hb
    rw [List.length_cons]
    omega
theorem cls_unique {S : List Int} {r : Int → Int → Prop} {n m : Nat} (h : Cls S r n) (g : Cls S r m) : n = m := by
  obtain ⟨R, h1, h2, h3, h4⟩ := h
  obtain ⟨R2, g1, g2, g3, g4⟩ := g
  have a := cls_le (S := S) h4 fun x hx => g3 x (h2 x hx)
  have b := cls_le (S := S) g4 fun x hx => h3 x (g2 x hx)
  omega
/-- the same classes by maps to and fro -/
theorem cls_maps {S S' : List Int} {r r' : Int → Int → Prop} {n : Nat} (f g : Int → Int) (hf : ∀ x y, r x y → Eqv r' (f x) (f y)) (hg : ∀ x y, r' x y → Eqv r (g x) (g y)) (mf : ∀ x ∈ S, f x ∈ S') (mg : ∀ y ∈ S', g y ∈ S)
    (fg : ∀ y ∈ S', Eqv r' (f (g y)) y) (gf : ∀ x ∈ S, Eqv r (g (f x)) x) (h : Cls S r n) : Cls S' r' n := by
  obtain ⟨R, h1, h2, h3, h4⟩ := h
  refine ⟨R.map f, by rw [List.length_map, h1], fun y hy => ?_, fun y hy => ?_, ?_⟩
  · obtain ⟨x, hx, rfl⟩ := List.mem_map.mp hy
    exact mf x (h2 x hx)
  · obtain ⟨x, hx, e⟩ := h3 (g y) (mg y hy)
    exact ⟨f x, List.mem_map_of_mem hx, (fg y hy).symm.trans (Eqv.map hf e)⟩
  · rw [List.pairwise_map]
    refine List.Pairwise.imp_of_mem (fun {a b} ha hb hne e => hne ?_) h4
    exact (gf a (h2 a ha)).symm.trans ((Eqv.map hg e).trans (gf b (h2 b hb)))
theorem cls_same {S S' : List Int} {r r' : Int → Int → Prop} {n : Nat} (hS : ∀ x, x ∈ S ↔ x ∈ S') (hf : ∀ x y, r x y → Eqv r' x y) (hg : ∀ x y, r' x y → Eqv r x y) (h : Cls S r n) : Cls S' r' n :=
  cls_maps id id hf hg (fun x => (hS x).mp) (fun x => (hS x).mpr) (fun _ _ => .refl _) (fun _ _ => .refl _) h
/-- one pair more -/
def plusPair (r : Int → Int → Prop) (a b : Int) : Int → Int → Prop := fun x y => r x y ∨ (x = a ∧ y = b)
theorem eqv_pair {r : Int → Int → Prop} {a b x y : Int} (h : Eqv (plusPair r a b) x y) : Eqv r x y ∨ ((Eqv r x a ∨ Eqv r x b) ∧ (Eqv r y a ∨ Eqv r y b)) := by
  induction h with
  | refl x => exact .inl (.refl _)
  | step q =>
    rcases q with q | ⟨rfl, rfl⟩
    · exact .inl (.step q)
    · exact .inr ⟨.inl (.refl _), .inr (.refl _)⟩
  | symm _ ih =>
    rcases ih with q | ⟨q1, q2⟩
    · exact .inl q.symm
    · exact .inr ⟨q2, q1⟩
  | trans _ _ i1 i2 =>
    rcases i1 with q | ⟨q1, q2⟩
    · rcases i2 with p | ⟨p1, p2⟩
      · exact .inl (q.trans p)
      · exact .inr ⟨p1.imp (fun z => q.trans z) (fun z => q.trans z), p2⟩
    · rcases i2 with p | ⟨p1, p2⟩
      · exact .inr ⟨q1, q2.imp (fun z => p.symm.trans z) (fun z => p.symm.trans z)⟩
      · exact .inr ⟨q1, p2⟩
theorem nodup_of {r : Int → Int → Prop} {R : List Int} (h : R.Pairwise fun x y => ¬ Eqv r x y) : R.Nodup := h.imp (fun {a b} (hne : ¬ Eqv r a b) (e : a = b) => hne (by rw [e]; exact .refl _))
theorem pair_of {r : Int → Int → Prop} {R : List Int} (h : R.Pairwise fun x y => ¬ Eqv r x y) {x y : Int} (hx : x ∈ R) (hy : y ∈ R) (e : Eqv r x y) : x = y := by
  induction R with
  | nil => exact absurd hx List.not_mem_nil
  | cons a R ih =>
    obtain ⟨h1, h2⟩ := List.pairwise_cons.mp h
    rcases List.mem_cons.mp hx with ex | mx
    · rcases List.mem_cons.mp hy with ey | my
      · rw [ex, ey]
      · exact absurd (ex ▸ e) (h1 y my)
    · rcases List.mem_cons.mp hy with ey | my
      · exact absurd (ey ▸ e.symm) (h1 x mx)
      · exact ih h2 mx my
theorem cls_merge {S : List Int} {r : Int → Int → Prop} {a b : Int} {n : Nat} (ha : a ∈ S) (hb : b ∈ S) (hne : ¬ Eqv r a b) (h : Cls S r (n + 1)) : Cls S (plusPair r a b) n := by
  obtain ⟨R, h1, h2, h3, h4⟩ := h
  obtain ⟨ra, hra, ea⟩ := h3 a ha
  obtain ⟨rb, hrb, eb⟩ := h3 b hb
  have hab : ra ≠ rb := fun z => hne (ea.trans (z ▸ eb.symm))
  have up : ∀ {x y}, Eqv r x y → Eqv (plusPair r a b) x y := fun e => Eqv.mono (fun _ _ q => .step (.inl q)) e
  have ab : Eqv (plusPair r a b) a b := .step (.inr ⟨rfl, rfl⟩)
  have nd := nodup_of h4
  refine ⟨R.erase rb, by rw [List.length_erase_of_mem hrb, h1]; rfl, fun x hx => h2 x (List.mem_of_mem_erase hx), fun x hx => ?_, ?_⟩
  · obtain ⟨y, hy, e⟩ := h3 x hx
    by_cases c : y = rb
    · subst c
      exact ⟨ra, (List.mem_erase_of_ne hab).mpr hra, (up e).trans ((up eb).symm.trans (ab.symm.trans (up ea)))⟩
    · exact ⟨y, (List.mem_erase_of_ne c).mpr hy, up e⟩
  · have h5 : (R.erase rb).Pairwise fun x y => ¬ Eqv r x y := h4.sublist List.erase_sublist
    refine List.Pairwise.imp_of_mem (fun {x y} hx hy hn e => ?_) h5
    have only : ∀ z ∈ R.erase rb, (Eqv r z a ∨ Eqv r z b) → z = ra := fun z hz q => by
      have hzR := List.mem_of_mem_erase hz
      rcases q with q | q
      · exact pair_of h4 hzR hra (q.trans ea)
      · have e2 := pair_of h4 hzR hrb (q.trans eb)
        rw [e2] at hz
        exact absurd hz (List.Nodup.not_mem_erase nd)
    rcases eqv_pair e with q | ⟨q1, q2⟩
    · exact hn q
    · have e1 := only x hx q1
      have e2 := only y hy q2
      subst e1
      subst e2
      exact hn (.refl _)
theorem cls_pair_in {S : List Int} {r : Int → Int → Prop} {a b : Int} {n : Nat} (hab : Eqv r a b) : Cls S r n ↔ Cls S (plusPair r a b) n := by
  have f : ∀ x y, r x y → Eqv (plusPair r a b) x y := fun x y q => .step (.inl q)
  have g : ∀ x y, plusPair r a b x y → Eqv r x y := fun x y q => by
    rcases q with q | ⟨rfl, rfl⟩
    · exact .step q
    · exact hab
  exact ⟨cls_same (fun _ => Iff.rfl) f g, cls_same (fun _ => Iff.rfl) g f⟩
/-- a one is the only class: all are equivalent -/
theorem cls_one {S : List Int} {r : Int → Int → Prop} (h : Cls S r 1) {x y : Int} (hx : x ∈ S) (hy : y ∈ S) : Eqv r x y := by
  obtain ⟨R, h1, h2, h3, h4⟩ := h
  match R, h1 with
  | [a], _ =>
    obtain ⟨u, hu, e⟩ := h3 x hx
    obtain ⟨v, hv, e2⟩ := h3 y hy
    rw [List.mem_singleton.mp hu] at e
    rw [List.mem_singleton.mp hv] at e2
    exact e.trans e2.symm
/-! ### a permutation of a finite set -/
def iter (f : Int → Int) : Nat → Int → Int
  | 0, x => x
  | n + 1, x => f (iter f n x)
structure Perm1 (S : List Int) (f : Int → Int) : Prop where
  mem : ∀ x ∈ S, f x ∈ S
  inj : ∀ x ∈ S, ∀ y ∈ S, f x = f y → x = y
section
variable {S : List Int} {f : Int → Int}
theorem iter_mem (P : Perm1 S f) {x : Int} (hx : x ∈ S) : ∀ n, iter f n x ∈ S
  | 0 => hx
  | n + 1 => P.mem _ (iter_mem P hx n)
theorem iter_add (f : Int → Int) (x : Int) (m : Nat) : ∀ n, iter f (n + m) x = iter f n (iter f m x)
  | 0 => by rw [Nat.zero_add]; rfl
  | n + 1 => by rw [Nat.succ_add]; exact congrArg f (iter_add f x m n)
theorem iter_inj (P : Perm1 S f) : ∀ (n : Nat) {x y : Int}, x ∈ S → y ∈ S → iter f n x = iter f n y → x = y
  | 0, _, _, _, _, e => e
  | n + 1, x, y, hx, hy, e => iter_inj P n hx hy (P.inj _ (iter_mem P hx n) _ (iter_mem P hy n) e)
/-- one comes back, within as many steps as there are -/
theorem iter_back (P : Perm1 S f) {x : Int} (hx : x ∈ S) : ∃ n, n < S.length ∧ iter f (n + 1) x = x := by
  by_cases c : ∃ n, n < S.length ∧ iter f (n + 1) x = x
  · exact c
  · exfalso
    have key : ∀ m, m ≤ S.length → ((List.range (m + 1)).map fun i => iter f i x).Nodup := by
      intro m hm
      rw [List.nodup_iff_pairwise_ne, List.pairwise_map]
      refine List.Pairwise.imp_of_mem (fun {i j} hi hj hlt e => ?_) (List.pairwise_lt_range (n := m + 1))
      have hj' := List.mem_range.mp hj
      obtain ⟨k, hk⟩ : ∃ k, j = (k + 1) + i := ⟨j - i - 1, by omega⟩
      rw [hk, Nat.add_comm (k + 1) i, iter_add] at e
      have e2 := iter_inj P i hx (iter_mem P hx (k + 1)) e
      exact c ⟨k, by omega, e2.symm⟩
    have nd := key S.length (Nat.le_refl _)
    have := sub_len nd fun y hy => by
      obtain ⟨i, _, rfl⟩ := List.mem_map.mp hy
      exact iter_mem P hx i
    rw [List.length_map, List.length_range] at this
    omega
/-- the first return -/
theorem iter_first (P : Perm1 S f) {x : Int} (hx : x ∈ S) : ∃ n, n < S.length ∧ iter f (n + 1) x = x ∧ ∀ i, i < n → iter f (i + 1) x ≠ x := by
  obtain ⟨n, h1, h2⟩ := iter_back P hx
  have key : ∀ n, n < S.length → iter f (n + 1) x = x → ∃ m, m < S.length ∧ iter f (m + 1) x = x ∧ ∀ i, i < m → iter f (i + 1) x ≠ x := by
    intro n
    induction n using Nat.strongRecOn with
    | ind n ih =>
      intro h1 h2
      by_cases c : ∃ i, i < n ∧ iter f (i + 1) x = x
      · obtain ⟨i, hi, e⟩ := c
        exact ih i hi (by omega) e
      · exact ⟨n, h1, h2, fun i hi e => c ⟨i, hi, e⟩⟩
  exact key n h1 h2
def fstep (S : List Int) (f : Int → Int) : Int → Int → Prop := fun x y => x ∈ S ∧ y = f x
theorem fstep_iter (P : Perm1 S f) {x : Int} (hx : x ∈ S) : ∀ n, Eqv (fstep S f) x (iter f n x)
  | 0 => .refl _
  | n + 1 => (fstep_iter P hx n).trans (.step ⟨iter_mem P hx n, rfl⟩)
/-- what is equivalent to x is come to by steps from x -/
theorem eqv_iter (P : Perm1 S f) {x y : Int} (hx : x ∈ S) (e : Eqv (fstep S f) x y) : ∃ n, n < S.length ∧ iter f n x = y := by
  obtain ⟨p, hp, hb, hf⟩ := iter_first P hx
  have per : ∀ n, ∃ m, m ≤ p ∧ iter f n x = iter f m x := by
    intro n
    induction n with
    | zero => exact ⟨0, Nat.zero_le _, rfl⟩
    | succ n ih =>
      obtain ⟨m, hm, e⟩ := ih
      by_cases c : m = p
      · subst c
        refine ⟨0, Nat.zero_le _, ?_⟩
        show f (iter f n x) = x
        rw [e]
        exact hb
      · refine ⟨m + 1, by omega, ?_⟩
        show f (iter f n x) = f (iter f m x)
        rw [e]
  have inv : (∃ n, iter f n x = x) ↔ (∃ n, iter f n x = y) := by
    refine Eqv.inv (A := fun y => ∃ n, iter f n x = y) (fun a b q => ?_) e
    obtain ⟨ha, rfl⟩ := q
    constructor
    · rintro ⟨n, hn⟩
      exact ⟨n + 1, by show f _ = f a; rw [hn]⟩
    · rintro ⟨n, hn⟩
      obtain ⟨m, hm, e2⟩ := per n
      cases m with
      | zero =>
        refine ⟨p, ?_⟩
        have e3 : f (iter f p x) = f a := hb.trans (e2.symm.trans hn)
        exact P.inj _ (iter_mem P hx p) _ ha e3
      | succ m =>
        refine ⟨m, ?_⟩
        have e3 : f (iter f m x) = f a := e2.symm.trans hn
        exact P.inj _ (iter_mem P hx m) _ ha e3
  obtain ⟨n, hn⟩ := inv.mp ⟨0, rfl⟩
  obtain ⟨m, hm, e2⟩ := per n
  exact ⟨m, by omega, e2.symm.trans hn⟩
/-- round the class from f x to x, without a step from x -/
theorem cyc_back (P : Perm1 S f) {x : Int} (hx : x ∈ S) {R : Int → Int → Prop} (rr : ∀ z, R z z) (rt : ∀ {a b c}, R a b → R b c → R a c) (h : ∀ z ∈ S, z ≠ x → Eqv (fstep S f) x z → R z (f z)) : R (f x) x := by
  obtain ⟨p, hp, hb, hf⟩ := iter_first P hx
  have key : ∀ i, i ≤ p → R (f x) (iter f (i + 1) x) := by
    intro i
    induction i with
    | zero => exact fun _ => rr _
    | succ i ih =>
      intro hi
      exact rt (ih (by omega)) (h _ (iter_mem P hx _) (hf i (by omega)) (fstep_iter P hx _))
  have q := key p (Nat.le_refl _)
  rw [hb] at q
  exact q
/-- two images changed for one another -/
def swapF (f : Int → Int) (a b : Int) : Int → Int := fun x => if x = a then f b else if x = b then f a else f x
theorem swap_perm (P : Perm1 S f) {a b : Int} (ha : a ∈ S) (hb : b ∈ S) : Perm1 S (swapF f a b) := by
  refine ⟨fun x hx => ?_, fun x hx y hy e => ?_⟩
  · unfold swapF
    split
    · exact P.mem _ hb
    · split
      · exact P.mem _ ha
      · exact P.mem _ hx
  · unfold swapF at e
    by_cases x1 : x = a
    · rw [if_pos x1] at e
      by_cases y1 : y = a
      · rw [x1, y1]
      · rw [if_neg y1] at e
        by_cases y2 : y = b
        · rw [if_pos y2] at e
          have := P.inj _ hb _ ha e
          rw [x1, y2, this]
        · rw [if_neg y2] at e
          exact absurd (P.inj _ hb _ hy e).symm y2
    · rw [if_neg x1] at e
      by_cases x2 : x = b
      · rw [if_pos x2] at e
        by_cases y1 : y = a
        · rw [if_pos y1] at e
          have := P.inj _ ha _ hb e
          rw [x2, y1, this]
        · rw [if_neg y1] at e
          by_cases y2 : y = b
          · rw [x2, y2]
          · rw [if_neg y2] at e
            exact absurd (P.inj _ ha _ hy e).symm y1
      · rw [if_neg x2] at e
        by_cases y1 : y = a
        · rw [if_pos y1] at e
          exact absurd (P.inj _ hx _ hb e) x2
        · rw [if_neg y1] at e
          by_cases y2 : y = b
          · rw [if_pos y2] at e
            exact absurd (P.inj _ hx _ ha e) x1
          · rw [if_neg y2] at e
            exact P.inj _ hx _ hy e
theorem swap_join (P : Perm1 S f) {a b : Int} (ha : a ∈ S) (hb : b ∈ S) (hne : ¬ Eqv (fstep S f) a b) : Eqv (fstep S (swapF f a b)) a b := by
  have hab : a ≠ b := fun e => hne (e ▸ .refl _)
  -- b's own class from f b to b
  have q : Eqv (fstep S (swapF f a b)) (f b) b := cyc_back P hb (R := Eqv (fstep S (swapF f a b))) .refl .trans fun z hz hzb e => .step ⟨hz, by
    have hza : z ≠ a := fun c => hne (c ▸ e.symm)
    unfold swapF
    rw [if_neg hza, if_neg hzb]⟩
  exact (Eqv.step ⟨ha, by unfold swapF; rw [if_pos rfl]⟩ : Eqv (fstep S (swapF f a b)) a (f b)).trans q
theorem swap_split (P : Perm1 S f) {a b : Int} (ha : a ∈ S) (hb : b ∈ S) (hab : a ≠ b) (e : Eqv (fstep S f) a b) : ¬ Eqv (fstep S (swapF f a b)) a b := by
  have P' := swap_perm P ha hb
  obtain ⟨n, hn, en⟩ := eqv_iter P ha e
  -- the least k with iter (k + 1) a = b
  have key : ∀ n, iter f n a = b → ∃ k, iter f (k + 1) a = b ∧ ∀ i, i < k → iter f (i + 1) a ≠ b := by
    intro n
    induction n using Nat.strongRecOn with
    | ind n ih =>
      intro h
      cases n with
      | zero => exact absurd h hab
      | succ n =>
        by_cases c : ∃ i, i < n ∧ iter f (i + 1) a = b
        · obtain ⟨i, hi, e⟩ := c
          exact ih (i + 1) (by omega) e
        · exact ⟨n, h, fun i hi e => c ⟨i, hi, e⟩⟩
  obtain ⟨k, hk, hmin⟩ := key n en
  -- a itself does not come on the way
  have noA : ∀ i, i ≤ k → iter f (i + 1) a ≠ a := by
    intro i hi ea
    by_cases c : i = k
    · subst c
      exact hab (ea.symm.trans hk)
    · have : iter f (k - i) a = b := by
        have e1 : k + 1 = (k - i) + (i + 1) := by omega
        rw [e1, iter_add, ea] at hk
        exact hk
      obtain ⟨m, hm⟩ : ∃ m, k - i = m + 1 := ⟨k - i - 1, by omega⟩
      rw [hm] at this
      exact hmin m (by omega) this
  intro e'
  have inv : (∃ i, i ≤ k ∧ iter f (i + 1) a = a) ↔ (∃ i, i ≤ k ∧ iter f (i + 1) a = b) := by
    refine Eqv.inv (A := fun y => ∃ i, i ≤ k ∧ iter f (i + 1) a = y) (fun x y q => ?_) e'
    obtain ⟨hx, rfl⟩ := q
    have swb : swapF f a b b = f a := by unfold swapF; rw [if_neg (Ne.symm hab), if_pos rfl]
    have sw : ∀ i, i < k → swapF f a b (iter f (i + 1) a) = iter f (i + 2) a := fun i hi => by
      unfold swapF
      rw [if_neg (noA i (by omega)), if_neg (hmin i hi)]
      rfl
    constructor
    · rintro ⟨i, hi, e⟩
      by_cases c : i = k
      · subst c
        refine ⟨0, Nat.zero_le _, ?_⟩
        rw [← e, hk, swb]
        rfl
      · refine ⟨i + 1, by omega, ?_⟩
        rw [← e, sw i (by omega)]
    · rintro ⟨i, hi, e⟩
      cases i with
      | zero =>
        refine ⟨k, Nat.le_refl _, ?_⟩
        rw [hk]
        exact P'.inj _ hb _ hx (swb.trans e)
      | succ i =>
        refine ⟨i, by omega, ?_⟩
        exact P'.inj _ (iter_mem P ha _) _ hx ((sw i (by omega)).trans e)
  obtain ⟨i, hi, e2⟩ := inv.mpr ⟨k, Nat.le_refl _, hk⟩
  exact noA i hi e2
/-- the pair thrown in, the swap makes no difference -/
theorem swap_pair {a b : Int} (ha : a ∈ S) (hb : b ∈ S) {x y : Int} : Eqv (plusPair (fstep S f) a b) x y ↔ Eqv (plusPair (fstep S (swapF f a b)) a b) x y := by
  have ab : ∀ r, Eqv (plusPair r a b) a b := fun r => .step (.inr ⟨rfl, rfl⟩)
  constructor
  · refine Eqv.mono fun x y q => ?_
    rcases q with ⟨hx, rfl⟩ | q
    · by_cases c1 : x = a
      · subst c1
        by_cases c2 : x = b
        · subst c2
          exact .step (.inl ⟨hx, by unfold swapF; rw [if_pos rfl]⟩)
        · exact (ab _).trans (.step (.inl ⟨hb, by unfold swapF; rw [if_neg (Ne.symm c2), if_pos rfl]⟩))
      · by_cases c2 : x = b
        · subst c2
          exact (ab _).symm.trans (.step (.inl ⟨ha, by unfold swapF; rw [if_pos rfl]⟩))
        · exact .step (.inl ⟨hx, by unfold swapF; rw [if_neg c1, if_neg c2]⟩)
    · exact .step (.inr q)
  · refine Eqv.mono fun x y q => ?_
    rcases q with ⟨hx, rfl⟩ | q
    · unfold swapF
      by_cases c1 : x = a
      · subst c1
        rw [if_pos rfl]
        exact (ab _).trans (.step (.inl ⟨hb, rfl⟩))
      · rw [if_neg c1]
        by_cases c2 : x = b
        · subst c2
          rw [if_pos rfl]
          exact (ab _).symm.trans (.step (.inl ⟨ha, rfl⟩))
        · rw [if_neg c2]
          exact .step (.inl ⟨hx, rfl⟩)
    · exact .step (.inr q)
theorem swap_down (P : Perm1 S f) {a b : Int} {n : Nat} (ha : a ∈ S) (hb : b ∈ S) (hne : ¬ Eqv (fstep S f) a b) (h : Cls S (fstep S f) (n + 1)) : Cls S (fstep S (swapF f a b)) n := by
  have h1 := cls_merge ha hb hne h
  rw [cls_pair_in (swap_join P ha hb hne)]
  exact cls_same (fun _ => Iff.rfl) (fun x y q => (swap_pair ha hb).mp (.step q)) (fun x y q => (swap_pair ha hb).mpr (.step q)) h1
theorem swap_up (P : Perm1 S f) {a b : Int} {n : Nat} (ha : a ∈ S) (hb : b ∈ S) (hab : a ≠ b) (e : Eqv (fstep S f) a b) (h : Cls S (fstep S f) n) : Cls S (fstep S (swapF f a b)) (n + 1) := by
  obtain ⟨m, hm⟩ := cls_exists (fstep S (swapF f a b)) S
  have hs := swap_split P ha hb hab e
  have h1 := (cls_pair_in e).mp h
  have h2 : Cls S (plusPair (fstep S (swapF f a b)) a b) n := cls_same (fun _ => Iff.rfl) (fun x y q => (swap_pair ha hb).mp (.step q)) (fun x y q => (swap_pair ha hb).mpr (.step q)) h1
  cases m with
  | zero =>
    obtain ⟨R, g1, _, g3, _⟩ := hm
    obtain ⟨y, hy, _⟩ := g3 a ha
    rw [List.length_eq_zero_iff.mp g1] at hy
    exact absurd hy List.not_mem_nil
  | succ m =>
    have h3 := cls_merge ha hb hs hm
    rw [cls_unique h2 h3]
    exact hm
end

/-! WebM: webs as maps: ends, the next end, the other end; films pushed, pulled; a film cut; a corner mended. Plain Lean. -/
def ot (x : Int) : Int := if x % 2 = 0 then x + 1 else x - 1
theorem ot_ot (x : Int) : ot (ot x) = x := by
  unfold ot
  split <;> split <;> omega
theorem ot_ne (x : Int) : ot x ≠ x := by
  unfold ot
  split <;> omega
theorem ot_div (x : Int) : ot x / 2 = x / 2 := by
  unfold ot
  split <;> omega
theorem ot_even (f : Int) : ot (2 * f) = 2 * f + 1 := by
  unfold ot
  rw [if_pos (by omega)]
theorem ot_odd (f : Int) : ot (2 * f + 1) = 2 * f := by
  unfold ot
  rw [if_neg (by omega)]
  omega
theorem ot_pos {x : Int} (h : 0 ≤ x) : 0 ≤ ot x := by
  unfold ot
  split <;> omega
theorem ot_or {x y : Int} (h : x / 2 = y / 2) : x = y ∨ x = ot y := by
  unfold ot
  split <;> omega
structure Map (S : List Int) (al nx : Int → Int) : Prop where
  nd : S.Nodup
  ca : ∀ x ∈ S, al x ∈ S
  cn : ∀ x ∈ S, nx x ∈ S
  aa : ∀ x ∈ S, al (al x) = x
  n3 : ∀ x ∈ S, nx (nx (nx x)) = x
  n1 : ∀ x ∈ S, nx x ≠ x
def face (al nx : Int → Int) : Int → Int := fun x => nx (al x)
def cs (S : List Int) (al nx : Int → Int) : Int → Int → Prop := fun x y => x ∈ S ∧ (y = al x ∨ y = nx x)
section
variable {S : List Int} {al nx : Int → Int}
theorem Map.ninj (M : Map S al nx) {x y : Int} (hx : x ∈ S) (hy : y ∈ S) (e : nx x = nx y) : x = y := by
  rw [← M.n3 x hx, ← M.n3 y hy, e]
theorem Map.ainj (M : Map S al nx) {x y : Int} (hx : x ∈ S) (hy : y ∈ S) (e : al x = al y) : x = y := by
  rw [← M.aa x hx, ← M.aa y hy, e]
theorem Map.n2 (M : Map S al nx) {x : Int} (hx : x ∈ S) : nx (nx x) ≠ x := fun e => by
  have h := M.n3 x hx
  rw [e] at h
  exact M.n1 x hx h
theorem Map.n12 (M : Map S al nx) {x : Int} (hx : x ∈ S) : nx (nx x) ≠ nx x := M.n1 _ (M.cn x hx)
theorem Map.perm (M : Map S al nx) : Perm1 S (face al nx) :=
  ⟨fun x hx => M.cn _ (M.ca x hx), fun x hx y hy e => M.ainj hx hy (M.ninj (M.ca x hx) (M.ca y hy) e)⟩
theorem Map.same {nx' : Int → Int} {S' : List Int} (M : Map S al nx) (nd : S'.Nodup) (hS : ∀ x, x ∈ S' ↔ x ∈ S) (h : ∀ x ∈ S, nx' x = nx x) : Map S' al nx' := by
  refine ⟨nd, fun x hx => (hS _).mpr (M.ca x ((hS x).mp hx)), fun x hx => ?_, fun x hx => M.aa x ((hS x).mp hx), fun x hx => ?_, fun x hx => ?_⟩
  · have hx := (hS x).mp hx
    rw [h x hx]
    exact (hS _).mpr (M.cn x hx)
  · have hx := (hS x).mp hx
    rw [h x hx, h _ (M.cn x hx), h _ (M.cn _ (M.cn x hx))]
    exact M.n3 x hx
  · have hx := (hS x).mp hx
    rw [h x hx]
    exact M.n1 x hx
end
/-! ### a film cut: its ends lead back -/
def cutA (al : Int → Int) (e o : Int) : Int → Int := fun z => if z = e then e else if z = o then o else al z
section
variable {S : List Int} {al nx : Int → Int} {e o : Int}
theorem cut_map (M : Map S al nx) (he : e ∈ S) (ho : o ∈ S) (h1 : al e = o) (h2 : al o = e) : Map S (cutA al e o) nx := by
  refine ⟨M.nd, fun x hx => ?_, M.cn, fun x hx => ?_, M.n3, M.n1⟩
  · unfold cutA
    split
    · exact he
    · split
      · exact ho
      · exact M.ca x hx
  · by_cases c1 : x = e
    · subst c1
      unfold cutA
      rw [if_pos rfl, if_pos rfl]
    · by_cases c2 : x = o
      · subst c2
        unfold cutA
        rw [if_neg c1, if_pos rfl, if_neg c1, if_pos rfl]
      · have e1 : cutA al e o x = al x := by unfold cutA; rw [if_neg c1, if_neg c2]
        have n1 : al x ≠ e := fun z => c2 (M.ainj hx ho (z.trans h2.symm))
        have n2 : al x ≠ o := fun z => c1 (M.ainj hx he (z.trans h1.symm))
        rw [e1]
        unfold cutA
        rw [if_neg n1, if_neg n2]
        exact M.aa x hx
theorem cut_face (h1 : al e = o) (h2 : al o = e) : face (cutA al e o) nx = swapF (face al nx) e o := by
  funext z
  unfold face cutA swapF
  by_cases c1 : z = e
  · rw [if_pos c1, if_pos c1]
    show nx e = nx (al o)
    rw [h2]
  · rw [if_neg c1, if_neg c1]
    by_cases c2 : z = o
    · rw [if_pos c2, if_pos c2]
      show nx o = nx (al e)
      rw [h1]
    · rw [if_neg c2, if_neg c2]
theorem cut_cls {n : Nat} (M : Map S al nx) (he : e ∈ S) (ho : o ∈ S) (h1 : al e = o) (h2 : al o = e) (hne : ¬ Eqv (fstep S (face al nx)) e o) (h : Cls S (fstep S (face al nx)) (n + 1)) : Cls S (fstep S (face (cutA al e o) nx)) n := by
  rw [cut_face h1 h2]
  exact swap_down M.perm he ho hne h
/-- with unlike faces on its hands a film may be cut: all stays connected -/
theorem cut_conn (M : Map S al nx) (he : e ∈ S) (ho : o ∈ S) (h1 : al e = o) (h2 : al o = e) (hne : ¬ Eqv (fstep S (face al nx)) e o) {x y : Int} (h : Eqv (cs S al nx) x y) : Eqv (cs S (cutA al e o) nx) x y := by
  have st : ∀ z ∈ S, Eqv (cs S (cutA al e o) nx) z (nx z) := fun z hz => .step ⟨hz, .inr rfl⟩
  have eo : Eqv (cs S (cutA al e o) nx) e o := by
    have q : Eqv (cs S (cutA al e o) nx) (face al nx e) e := cyc_back M.perm he (R := Eqv (cs S (cutA al e o) nx)) .refl .trans fun z hz hze hq => by
      have hzo : z ≠ o := fun c => hne (c ▸ hq)
      have e1 : cutA al e o z = al z := by unfold cutA; rw [if_neg hze, if_neg hzo]
      exact (Eqv.step ⟨hz, .inl e1.symm⟩ : Eqv (cs S (cutA al e o) nx) z (al z)).trans (st _ (M.ca z hz))
    have q2 : face al nx e = nx o := by unfold face; rw [h1]
    rw [q2] at q
    exact ((st o ho).trans q).symm
  refine Eqv.mono (fun x y q => ?_) h
  obtain ⟨hx, q | q⟩ := q
  · subst q
    by_cases c1 : x = e
    · rw [c1, h1]
      exact eo
    · by_cases c2 : x = o
      · rw [c2, h2]
        exact eo.symm
      · exact .step ⟨hx, .inl (by unfold cutA; rw [if_neg c1, if_neg c2])⟩
  · exact .step ⟨hx, .inr q⟩
end
/-! ### a corner mended: t leads back, y's film goes on as x's -/
def mendS (S : List Int) (t y g : Int) : List Int := S.filter fun z => decide (z ≠ t ∧ z ≠ y ∧ z ≠ g)
def mendN (nx : Int → Int) (x g : Int) : Int → Int := fun z => if z = x then nx g else if nx z = g then x else nx z
structure Mend (S : List Int) (al nx : Int → Int) (t x y g : Int) : Prop where
  M : Map S al nx
  ht : t ∈ S
  hy : y ∈ S
  tt : al t = t
  yg : al y = g
  cor : (nx t = x ∧ nx x = y ∧ nx y = t) ∨ (nx t = y ∧ nx y = x ∧ nx x = t)
  gy : g ≠ y
  gx : g ≠ x
theorem mem_mendS {S : List Int} {t y g z : Int} : z ∈ mendS S t y g ↔ z ∈ S ∧ z ≠ t ∧ z ≠ y ∧ z ≠ g := by
  unfold mendS
  rw [List.mem_filter, decide_eq_true_eq]
section
variable {S : List Int} {al nx : Int → Int} {t x y g : Int}
structure MendFacts (S : List Int) (al nx : Int → Int) (t x y g p q : Int) : Prop where
  hx : x ∈ S
  hg : g ∈ S
  hp : p ∈ S
  hq : q ∈ S
  gp : nx g = p
  pq : nx p = q
  qg : nx q = g
  gy' : al g = y
  tx : t ≠ x
  ty : t ≠ y
  xy : x ≠ y
  gt : g ≠ t
  pt : p ≠ t
  px : p ≠ x
  py : p ≠ y
  pg : p ≠ g
  qt : q ≠ t
  qx : q ≠ x
  qy : q ≠ y
  qg' : q ≠ g
  qp : q ≠ p
theorem Mend.facts (D : Mend S al nx t x y g) : MendFacts S al nx t x y g (nx g) (nx (nx g)) := by
  obtain ⟨M, ht, hy, tt, yg, cor, gy, gx⟩ := D
  have hg : g ∈ S := yg ▸ M.ca y hy
  have gy' : al g = y := by rw [← yg]; exact M.aa y hy
  have hp := M.cn g hg
  have hq := M.cn _ hp
  have gt : g ≠ t := fun z => by
    rw [z, tt] at gy'
    rw [z] at gy
    exact gy gy'
  have qg := M.n3 g hg
  -- corners apart: what leads to t, x, y are themselves
  have apart : ∀ z ∈ S, z ≠ t → z ≠ x → z ≠ y → nx z ≠ t ∧ nx z ≠ x ∧ nx z ≠ y := by
    intro z hz z1 z2 z3
    rcases cor with ⟨c1, c2, c3⟩ | ⟨c1, c2, c3⟩
    · have hx : x ∈ S := c1 ▸ M.cn t ht
      exact ⟨fun q => z3 (M.ninj hz hy (q.trans c3.symm)), fun q => z1 (M.ninj hz ht (q.trans c1.symm)), fun q => z2 (M.ninj hz hx (q.trans c2.symm))⟩
    · have hx : x ∈ S := c2 ▸ M.cn y hy
      exact ⟨fun q => z2 (M.ninj hz hx (q.trans c3.symm)), fun q => z3 (M.ninj hz hy (q.trans c2.symm)), fun q => z1 (M.ninj hz ht (q.trans c1.symm))⟩
  have a1 := apart g hg gt gx gy
  have a2 := apart _ hp a1.1 a1.2.1 a1.2.2
  have hx : x ∈ S := by
    rcases cor with ⟨c1, c2, c3⟩ | ⟨c1, c2, c3⟩
    · exact c1 ▸ M.cn t ht
    · exact c2 ▸ M.cn y hy
  have dis : t ≠ x ∧ t ≠ y ∧ x ≠ y := by
    rcases cor with ⟨c1, c2, c3⟩ | ⟨c1, c2, c3⟩
    · refine ⟨fun z => M.n1 t ht (c1.trans z.symm), fun z => M.n1 y hy (c3.trans z), fun z => M.n1 x hx (c2.trans z.symm)⟩
    · refine ⟨fun z => M.n1 x hx (c3.trans z), fun z => M.n1 t ht (c1.trans z.symm), fun z => M.n1 y hy (c2.trans z)⟩
  exact ⟨hx, hg, hp, hq, rfl, rfl, qg, gy', dis.1, dis.2.1, dis.2.2, gt, a1.1, a1.2.1, a1.2.2, M.n1 g hg, a2.1, a2.2.1, a2.2.2, M.n2 hg, M.n12 hg⟩
theorem mendN_x : mendN nx x g x = nx g := by unfold mendN; rw [if_pos rfl]
theorem mendN_q {q : Int} (h1 : q ≠ x) (h2 : nx q = g) : mendN nx x g q = x := by unfold mendN; rw [if_neg h1, if_pos h2]
theorem mendN_o {z : Int} (h1 : z ≠ x) (h2 : nx z ≠ g) : mendN nx x g z = nx z := by unfold mendN; rw [if_neg h1, if_neg h2]
theorem mend_map (D : Mend S al nx t x y g) : Map (mendS S t y g) al (mendN nx x g) := by
  have F := D.facts
  obtain ⟨M, ht, hy, tt, yg, cor, gy, gx⟩ := D
  generalize nx g = p at F
  generalize nx p = q at F
  have hN : ∀ z ∈ mendS S t y g, z ≠ x → z ≠ q → mendN nx x g z = nx z ∧ nx z ∈ mendS S t y g := by
    intro z hz z1 z2
    obtain ⟨zS, z3, z4, z5⟩ := mem_mendS.mp hz
    have n1 : nx z ≠ g := fun e => z2 (M.ninj zS F.hq (e.trans F.qg.symm))
    refine ⟨mendN_o z1 n1, mem_mendS.mpr ⟨M.cn z zS, fun e => ?_, fun e => ?_, n1⟩⟩
    · rcases cor with ⟨c1, c2, c3⟩ | ⟨c1, c2, c3⟩
      · exact z4 (M.ninj zS hy (e.trans c3.symm))
      · exact z1 (M.ninj zS F.hx (e.trans c3.symm))
    · rcases cor with ⟨c1, c2, c3⟩ | ⟨c1, c2, c3⟩
      · exact z1 (M.ninj zS F.hx (e.trans c2.symm))
      · exact z3 (M.ninj zS ht (e.trans c1.symm))
  have mx : x ∈ mendS S t y g := mem_mendS.mpr ⟨F.hx, F.tx.symm, F.xy, gx.symm⟩
  have mp : p ∈ mendS S t y g := mem_mendS.mpr ⟨F.hp, F.pt, F.py, F.pg⟩
  have mq : q ∈ mendS S t y g := mem_mendS.mpr ⟨F.hq, F.qt, F.qy, F.qg'⟩
  have ex : mendN nx x g x = p := mendN_x.trans F.gp
  have eq : mendN nx x g q = x := mendN_q F.qx F.qg
  have ep : mendN nx x g p = q := (mendN_o F.px (by rw [F.pq]; exact F.qg')).trans F.pq
  refine ⟨M.nd.filter _, fun z hz => ?_, fun z hz => ?_, fun z hz => M.aa z (mem_mendS.mp hz).1, fun z hz => ?_, fun z hz => ?_⟩
  · obtain ⟨zS, z3, z4, z5⟩ := mem_mendS.mp hz
    refine mem_mendS.mpr ⟨M.ca z zS, fun e => z3 (M.ainj zS ht (e.trans tt.symm)), fun e => z5 (M.ainj zS F.hg (e.trans F.gy'.symm)), fun e => z4 (M.ainj zS hy (e.trans yg.symm))⟩
  · by_cases z1 : z = x
    · rw [z1, ex]; exact mp
    · by_cases z2 : z = q
      · rw [z2, eq]; exact mx
      · rw [(hN z hz z1 z2).1]; exact (hN z hz z1 z2).2
  · by_cases z1 : z = x
    · rw [z1, ex, ep, eq]
    · by_cases z2 : z = q
      · rw [z2, eq, ex, ep]
      · by_cases z3 : z = p
        · rw [z3, ep, eq, ex]
        · have zS := (mem_mendS.mp hz).1
          have h1 := hN z hz z1 z2
          have w1 : nx z ≠ x := fun e => by
            rcases cor with ⟨c1, c2, c3⟩ | ⟨c1, c2, c3⟩
            · exact (mem_mendS.mp hz).2.1 (M.ninj zS ht (e.trans c1.symm))
            · exact (mem_mendS.mp hz).2.2.1 (M.ninj zS hy (e.trans c2.symm))
          have w2 : nx z ≠ q := fun e => z3 (M.ninj zS F.hp (e.trans F.pq.symm))
          have w3 : nx z ≠ p := fun e => (mem_mendS.mp hz).2.2.2 (M.ninj zS F.hg (e.trans F.gp.symm))
          have h2 := hN (nx z) h1.2 w1 w2
          have zS' := M.cn z zS
          have v1 : nx (nx z) ≠ x := fun e => by
            rcases cor with ⟨c1, c2, c3⟩ | ⟨c1, c2, c3⟩
            · exact (mem_mendS.mp h1.2).2.1 (M.ninj zS' ht (e.trans c1.symm))
            · exact (mem_mendS.mp h1.2).2.2.1 (M.ninj zS' hy (e.trans c2.symm))
          have v2 : nx (nx z) ≠ q := fun e => w3 (M.ninj zS' F.hp (e.trans F.pq.symm))
          have h3 := hN (nx (nx z)) h2.2 v1 v2
          rw [h1.1, h2.1, h3.1]
          exact M.n3 z zS
  · by_cases z1 : z = x
    · rw [z1, ex]; exact F.px
    · by_cases z2 : z = q
      · rw [z2, eq]; exact F.qx.symm
      · rw [(hN z hz z1 z2).1]; exact M.n1 z (mem_mendS.mp hz).1
theorem len_ne {S : List Int} (nd : S.Nodup) {a : Int} (ha : a ∈ S) : (S.filter fun z => decide (z ≠ a)).length + 1 = S.length := by
  induction S with
  | nil => exact absurd ha List.not_mem_nil
  | cons b S ih =>
    obtain ⟨h1, h2⟩ := List.nodup_cons.mp nd
    by_cases c : b = a
    · subst c
      have e : (S.filter fun z => decide (z ≠ b)) = S := List.filter_eq_self.mpr fun z hz => decide_eq_true fun q => h1 (q ▸ hz)
      rw [List.filter_cons, if_neg (by simp), e, List.length_cons]
    · have ha' : a ∈ S := (List.mem_cons.mp ha).resolve_left (Ne.symm c)
      rw [List.filter_cons, if_pos (by simp [c]), List.length_cons, List.length_cons, ih h2 ha']
theorem len_ne3 {S : List Int} (nd : S.Nodup) {a b c : Int} (ha : a ∈ S) (hb : b ∈ S) (hc : c ∈ S) (ab : a ≠ b) (ac : a ≠ c) (bc : b ≠ c) : (S.filter fun z => decide (z ≠ a ∧ z ≠ b ∧ z ≠ c)).length + 3 = S.length := by
  have e : (S.filter fun z => decide (z ≠ a ∧ z ≠ b ∧ z ≠ c)) = ((S.filter fun z => decide (z ≠ a)).filter fun z => decide (z ≠ b)).filter fun z => decide (z ≠ c) := by
    rw [List.filter_filter, List.filter_filter]
    refine List.filter_congr fun z _ => ?_
    by_cases h1 : z = a <;> by_cases h2 : z = b <;> by_cases h3 : z = c <;> simp [h1, h2, h3]
  have n1 := nd.filter (fun z => decide (z ≠ a))
  have n2 := n1.filter (fun z => decide (z ≠ b))
  have m1 : b ∈ S.filter fun z => decide (z ≠ a) := List.mem_filter.mpr ⟨hb, decide_eq_true ab.symm⟩
  have m2 : c ∈ (S.filter fun z => decide (z ≠ a)).filter fun z => decide (z ≠ b) := List.mem_filter.mpr ⟨List.mem_filter.mpr ⟨hc, decide_eq_true ac.symm⟩, decide_eq_true bc.symm⟩
  have l1 := len_ne nd ha
  have l2 := len_ne n1 m1
  have l3 := len_ne n2 m2
  rw [e]
  omega
theorem mend_len (D : Mend S al nx t x y g) : (mendS S t y g).length + 3 = S.length := by
  have F := D.facts
  exact len_ne3 D.M.nd D.ht D.hy F.hg F.ty F.gt.symm D.gy.symm
theorem mend_cls {n : Nat} (D : Mend S al nx t x y g) (h : Cls S (fstep S (face al nx)) n) : Cls (mendS S t y g) (fstep (mendS S t y g) (face al (mendN nx x g))) n := by
  have F := D.facts
  have M' := mend_map D
  obtain ⟨M, ht, hy, tt, yg, cor, gy, gx⟩ := D
  generalize nx g = p at F
  generalize nx p = q at F
  have mx : x ∈ mendS S t y g := mem_mendS.mpr ⟨F.hx, F.tx.symm, F.xy, gx.symm⟩
  have mp : p ∈ mendS S t y g := mem_mendS.mpr ⟨F.hp, F.pt, F.py, F.pg⟩
  have ex : mendN nx x g x = p := mendN_x.trans F.gp
  have eq : mendN nx x g q = x := mendN_q F.qx F.qg
  -- steps of the old map
  have s_t : Eqv (fstep S (face al nx)) t (nx t) := .step ⟨ht, by unfold face; rw [tt]⟩
  have s_y : Eqv (fstep S (face al nx)) y p := .step ⟨hy, by unfold face; rw [yg, F.gp]⟩
  have s_g : Eqv (fstep S (face al nx)) g (nx y) := .step ⟨F.hg, by unfold face; rw [F.gy']⟩
  have tx_or : Eqv (fstep S (face al nx)) g x ∧ ((nx t = x ∧ nx x = y ∧ Eqv (fstep S (face al nx)) t x) ∨ (nx t = y ∧ nx x = t ∧ Eqv (fstep S (face al nx)) t p)) := by
    rcases cor with ⟨c1, c2, c3⟩ | ⟨c1, c2, c3⟩
    · rw [c1] at s_t
      rw [c3] at s_g
      exact ⟨s_g.trans s_t, .inl ⟨c1, c2, s_t⟩⟩
    · rw [c1] at s_t
      rw [c2] at s_g
      exact ⟨s_g, .inr ⟨c1, c3, s_t.trans s_y⟩⟩
  obtain ⟨s_gx, tc⟩ := tx_or
  let w : Int := if nx t = x then x else p
  let f : Int → Int := fun z => if z = t then w else if z = y then p else if z = g then x else z
  have fw : w ∈ mendS S t y g ∧ Eqv (fstep S (face al nx)) t w := by
    rcases tc with ⟨c1, _, c3⟩ | ⟨c1, _, c3⟩
    · have e : w = x := if_pos c1
      rw [e]
      exact ⟨mx, c3⟩
    · have e : w = p := if_neg (by rw [c1]; exact F.xy.symm)
      rw [e]
      exact ⟨mp, c3⟩
  have f_t : f t = w := if_pos rfl
  have f_y : f y = p := by show (if y = t then w else if y = y then p else _) = p; rw [if_neg F.ty.symm, if_pos rfl]
  have f_g : f g = x := by show (if g = t then w else if g = y then p else if g = g then x else g) = x; rw [if_neg F.gt, if_neg gy, if_pos rfl]
  have f_o : ∀ z, z ≠ t → z ≠ y → z ≠ g → f z = z := fun z z1 z2 z3 => by show (if z = t then w else if z = y then p else if z = g then x else z) = z; rw [if_neg z1, if_neg z2, if_neg z3]
  have al_in : ∀ z ∈ S, z ≠ t → z ≠ y → z ≠ g → al z ≠ t ∧ al z ≠ y ∧ al z ≠ g := fun z zS z3 z4 z5 =>
    ⟨fun e => z3 (M.ainj zS ht (e.trans tt.symm)), fun e => z5 (M.ainj zS F.hg (e.trans F.gy'.symm)), fun e => z4 (M.ainj zS hy (e.trans yg.symm))⟩
  refine cls_maps f id (fun z v hz => ?_) (fun z v hz => ?_) (fun z hz => ?_) (fun z hz => (mem_mendS.mp hz).1) (fun z hz => ?_) (fun z hz => ?_) h
  · obtain ⟨zS, rfl⟩ := hz
    by_cases z1 : z = t
    · rw [z1, f_t]
      show Eqv _ w (f (nx (al t)))
      rw [tt]
      rcases tc with ⟨c1, _, _⟩ | ⟨c1, _, _⟩
      · have e : w = x := if_pos c1
        rw [e, c1, f_o x F.tx.symm F.xy gx.symm]
        exact .refl _
      · have e : w = p := if_neg (by rw [c1]; exact F.xy.symm)
        rw [e, c1, f_y]
        exact .refl _
    · by_cases z2 : z = y
      · rw [z2, f_y]
        show Eqv _ p (f (nx (al y)))
        rw [yg, F.gp, f_o p F.pt F.py F.pg]
        exact .refl _
      · by_cases z3 : z = g
        · rw [z3, f_g]
          show Eqv _ x (f (nx (al g)))
          rw [F.gy']
          rcases cor with ⟨c1, c2, c3⟩ | ⟨c1, c2, c3⟩
          · rw [c3, f_t]
            have e : w = x := if_pos c1
            rw [e]
            exact .refl _
          · rw [c2, f_o x F.tx.symm F.xy gx.symm]
            exact .refl _
        · have zm : z ∈ mendS S t y g := mem_mendS.mpr ⟨zS, z1, z2, z3⟩
          rw [f_o z z1 z2 z3]
          show Eqv _ z (f (nx (al z)))
          obtain ⟨a1, a2, a3⟩ := al_in z zS z1 z2 z3
          have haS := M.ca z zS
          have st : Eqv (fstep (mendS S t y g) (face al (mendN nx x g))) z (mendN nx x g (al z)) := .step ⟨zm, rfl⟩
          by_cases b1 : al z = x
          · rw [b1] at st ⊢
            rw [ex] at st
            rcases tc with ⟨_, c2, _⟩ | ⟨c1, c2, _⟩
            · rw [c2, f_y]
              exact st
            · rw [c2, f_t]
              have e : w = p := if_neg (by rw [c1]; exact F.xy.symm)
              rw [e]
              exact st
          · by_cases b2 : al z = q
            · rw [b2] at st ⊢
              rw [eq] at st
              rw [F.qg, f_g]
              exact st
            · have n1 : nx (al z) ≠ g := fun e => b2 (M.ninj haS F.hq (e.trans F.qg.symm))
              rw [mendN_o b1 n1] at st
              have n2 : nx (al z) ≠ t := fun e => by
                rcases cor with ⟨c1, c2, c3⟩ | ⟨c1, c2, c3⟩
                · exact a2 (M.ninj haS hy (e.trans c3.symm))
                · exact b1 (M.ninj haS F.hx (e.trans c3.symm))
              have n3 : nx (al z) ≠ y := fun e => by
                rcases cor with ⟨c1, c2, c3⟩ | ⟨c1, c2, c3⟩
                · exact b1 (M.ninj haS F.hx (e.trans c2.symm))
                · exact a1 (M.ninj haS ht (e.trans c1.symm))
              rw [f_o _ n2 n3 n1]
              exact st
  · obtain ⟨zm, rfl⟩ := hz
    obtain ⟨zS, z1, z2, z3⟩ := mem_mendS.mp zm
    show Eqv _ z (mendN nx x g (al z))
    have haS := M.ca z zS
    have st : Eqv (fstep S (face al nx)) z (nx (al z)) := .step ⟨zS, rfl⟩
    by_cases b1 : al z = x
    · rw [b1] at st ⊢
      rw [ex]
      rcases tc with ⟨_, c2, _⟩ | ⟨c1, c2, c3⟩
      · rw [c2] at st
        exact st.trans s_y
      · rw [c2] at st
        exact st.trans c3
    · by_cases b2 : al z = q
      · rw [b2] at st ⊢
        rw [eq]
        rw [F.qg] at st
        exact st.trans s_gx
      · have n1 : nx (al z) ≠ g := fun e => b2 (M.ninj haS F.hq (e.trans F.qg.symm))
        rw [mendN_o b1 n1]
        exact st
  · by_cases z1 : z = t
    · rw [z1, f_t]; exact fw.1
    · by_cases z2 : z = y
      · rw [z2, f_y]; exact mp
      · by_cases z3 : z = g
        · rw [z3, f_g]; exact mx
        · rw [f_o z z1 z2 z3]; exact mem_mendS.mpr ⟨hz, z1, z2, z3⟩
  · obtain ⟨zS, z1, z2, z3⟩ := mem_mendS.mp hz
    show Eqv _ (f z) z
    rw [f_o z z1 z2 z3]
    exact .refl _
  · show Eqv _ (f z) z
    by_cases z1 : z = t
    · rw [z1, f_t]; exact fw.2.symm
    · by_cases z2 : z = y
      · rw [z2, f_y]; exact s_y.symm
      · by_cases z3 : z = g
        · rw [z3, f_g]; exact s_gx.symm
        · rw [f_o z z1 z2 z3]; exact .refl _
theorem mend_conn (D : Mend S al nx t x y g) (h : ∀ u ∈ S, ∀ v ∈ S, Eqv (cs S al nx) u v) : ∀ u ∈ mendS S t y g, ∀ v ∈ mendS S t y g, Eqv (cs (mendS S t y g) al (mendN nx x g)) u v := by
  have F := D.facts
  obtain ⟨M, ht, hy, tt, yg, cor, gy, gx⟩ := D
  generalize nx g = p at F
  generalize nx p = q at F
  have mx : x ∈ mendS S t y g := mem_mendS.mpr ⟨F.hx, F.tx.symm, F.xy, gx.symm⟩
  let f : Int → Int := fun z => if z = t ∨ z = y ∨ z = g then x else z
  have f_b : ∀ z, (z = t ∨ z = y ∨ z = g) → f z = x := fun z hz => if_pos hz
  have f_o : ∀ z, z ≠ t → z ≠ y → z ≠ g → f z = z := fun z z1 z2 z3 => if_neg fun q => by
    rcases q with q | q | q
    · exact z1 q
    · exact z2 q
    · exact z3 q
  have fx : f x = x := f_o x F.tx.symm F.xy gx.symm
  have key : ∀ u v, Eqv (cs S al nx) u v → Eqv (cs (mendS S t y g) al (mendN nx x g)) (f u) (f v) := by
    intro u v e
    refine Eqv.map (fun z v hz => ?_) e
    obtain ⟨zS, q | q⟩ := hz
    · subst q
      by_cases z1 : z = t
      · rw [z1, tt]; exact .refl _
      · by_cases z2 : z = y
        · rw [z2, yg, f_b y (.inr (.inl rfl)), f_b g (.inr (.inr rfl))]; exact .refl _
        · by_cases z3 : z = g
          · rw [z3, F.gy', f_b y (.inr (.inl rfl)), f_b g (.inr (.inr rfl))]; exact .refl _
          · rw [f_o z z1 z2 z3, f_o (al z) (fun e => z1 (M.ainj zS ht (e.trans tt.symm))) (fun e => z3 (M.ainj zS F.hg (e.trans F.gy'.symm))) (fun e => z2 (M.ainj zS hy (e.trans yg.symm)))]
            exact .step ⟨mem_mendS.mpr ⟨zS, z1, z2, z3⟩, .inl rfl⟩
    · subst q
      have corner : ∀ z, z = t ∨ z = x ∨ z = y → f z = x ∧ f (nx z) = x := by
        intro z hz
        have hfz : f z = x := by
          rcases hz with hz | hz | hz
          · exact f_b z (.inl hz)
          · rw [hz]; exact fx
          · exact f_b z (.inr (.inl hz))
        refine ⟨hfz, ?_⟩
        rcases cor with ⟨c1, c2, c3⟩ | ⟨c1, c2, c3⟩
        · rcases hz with hz | hz | hz
          · rw [hz, c1]; exact fx
          · rw [hz, c2]; exact f_b y (.inr (.inl rfl))
          · rw [hz, c3]; exact f_b t (.inl rfl)
        · rcases hz with hz | hz | hz
          · rw [hz, c1]; exact f_b y (.inr (.inl rfl))
          · rw [hz, c3]; exact f_b t (.inl rfl)
          · rw [hz, c2]; exact fx
      by_cases zc : z = t ∨ z = x ∨ z = y
      · obtain ⟨h1, h2⟩ := corner z zc
        rw [h1, h2]
        exact .refl _
      · have z1 : z ≠ t := fun e => zc (.inl e)
        have z2 : z ≠ x := fun e => zc (.inr (.inl e))
        have z3 : z ≠ y := fun e => zc (.inr (.inr e))
        by_cases z4 : z = g
        · rw [z4, f_b g (.inr (.inr rfl)), F.gp, f_o p F.pt F.py F.pg]
          exact .step ⟨mx, .inr (mendN_x.trans F.gp).symm⟩
        · have zm : z ∈ mendS S t y g := mem_mendS.mpr ⟨zS, z1, z3, z4⟩
          rw [f_o z z1 z3 z4]
          by_cases z5 : z = q
          · rw [z5, F.qg, f_b g (.inr (.inr rfl))]
            exact .step ⟨z5 ▸ zm, .inr (mendN_q F.qx F.qg).symm⟩
          · have n1 : nx z ≠ g := fun e => z5 (M.ninj zS F.hq (e.trans F.qg.symm))
            have n2 : nx z ≠ t := fun e => by
              rcases cor with ⟨c1, c2, c3⟩ | ⟨c1, c2, c3⟩
              · exact z3 (M.ninj zS hy (e.trans c3.symm))
              · exact z2 (M.ninj zS F.hx (e.trans c3.symm))
            have n3 : nx z ≠ y := fun e => by
              rcases cor with ⟨c1, c2, c3⟩ | ⟨c1, c2, c3⟩
              · exact z2 (M.ninj zS F.hx (e.trans c2.symm))
              · exact z1 (M.ninj zS ht (e.trans c1.symm))
            rw [f_o _ n2 n3 n1]
            exact .step ⟨zm, .inr (mendN_o z2 n1).symm⟩
  intro u hu v hv
  obtain ⟨uS, u1, u2, u3⟩ := mem_mendS.mp hu
  obtain ⟨vS, v1, v2, v3⟩ := mem_mendS.mp hv
  have q := key u v (h u uS v vS)
  rw [f_o u u1 u2 u3, f_o v v1 v2 v3] at q
  exact q
end

/-! WebD: webs and the deeds at them: each gives a web. Plain Lean. -/
abbrev Rim (S : List Int) (nx : Int → Int) : Int → Int → Prop := Eqv (fstep S (face ot nx))
structure Web (S : List Int) (nx : Int → Int) : Prop where
  map : Map S ot nx
  ne : S ≠ []
  conn : ∀ x ∈ S, ∀ y ∈ S, Eqv (cs S ot nx) x y
  eul : ∃ n, Cls S (fstep S (face ot nx)) n ∧ 6 * n = S.length
  pos : ∀ x ∈ S, 0 ≤ x
/-- the same web with its ends in another order -/
theorem Web.same {S S' : List Int} {nx nx' : Int → Int} (W : Web S nx) (nd : S'.Nodup) (hS : ∀ x, x ∈ S' ↔ x ∈ S) (h : ∀ x ∈ S, nx' x = nx x) : Web S' nx' := by
  obtain ⟨n, hn, hl⟩ := W.eul
  have M' := W.map.same nd hS h
  have fs1 : ∀ x y, fstep S (face ot nx) x y → Eqv (fstep S' (face ot nx')) x y := fun x y ⟨hx, e⟩ => .step ⟨(hS x).mpr hx, by rw [e]; exact (h _ (W.map.ca x hx)).symm⟩
  have fs2 : ∀ x y, fstep S' (face ot nx') x y → Eqv (fstep S (face ot nx)) x y := fun x y ⟨hx, e⟩ => .step ⟨(hS x).mp hx, by rw [e]; exact h _ (W.map.ca x ((hS x).mp hx))⟩
  have len : S'.length = S.length := Nat.le_antisymm (sub_len nd fun x hx => (hS x).mp hx) (sub_len W.map.nd fun x hx => (hS x).mpr hx)
  refine ⟨M', ?_, fun x hx y hy => ?_, ⟨n, cls_same (fun x => (hS x).symm) fs1 fs2 hn, by rw [len]; exact hl⟩, fun x hx => W.pos x ((hS x).mp hx)⟩
  · obtain ⟨a, ha⟩ := List.exists_mem_of_ne_nil _ W.ne
    exact List.ne_nil_of_mem ((hS a).mpr ha)
  · refine Eqv.mono (fun u v q => ?_) (W.conn x ((hS x).mp hx) y ((hS y).mp hy))
    obtain ⟨hu, q | q⟩ := q
    · exact .step ⟨(hS u).mpr hu, .inl q⟩
    · exact .step ⟨(hS u).mpr hu, .inr (by rw [h u hu]; exact q)⟩
/-- corners seated anew among themselves -/
theorem reseat_map {S : List Int} {al nx nx' : Int → Int} {U : Int → Prop} (M : Map S al nx) (uS : ∀ x, U x → x ∈ S) (un : ∀ x, U x → U (nx x)) (off : ∀ x ∈ S, ¬ U x → nx' x = nx x)
    (u1 : ∀ x, U x → U (nx' x)) (u3 : ∀ x, U x → nx' (nx' (nx' x)) = x) (u0 : ∀ x, U x → nx' x ≠ x) : Map S al nx' := by
  have nu : ∀ x ∈ S, ¬ U x → ¬ U (nx x) := fun x hx h q => h (by rw [← M.n3 x hx]; exact un _ (un _ q))
  refine ⟨M.nd, M.ca, fun x hx => ?_, M.aa, fun x hx => ?_, fun x hx => ?_⟩
  · by_cases c : U x
    · exact uS _ (u1 x c)
    · rw [off x hx c]; exact M.cn x hx
  · by_cases c : U x
    · exact u3 x c
    · have c1 := nu x hx c
      have c2 := nu _ (M.cn x hx) c1
      rw [off x hx c, off _ (M.cn x hx) c1, off _ (M.cn _ (M.cn x hx)) c2]
      exact M.n3 x hx
  · by_cases c : U x
    · exact u0 x c
    · rw [off x hx c]; exact M.n1 x hx
def seatF (f : Int → Int) (x y z : Int) : Int → Int := fset (fset (fset f x y) y z) z x
theorem fset_same {f : Int → Int} {k v : Int} : fset f k v k = v := by unfold fset; rw [if_pos rfl]
theorem fset_ne {f : Int → Int} {k v z : Int} (h : z ≠ k) : fset f k v z = f z := by unfold fset; rw [if_neg h]
section
variable {f : Int → Int} {x y z w : Int}
theorem seat_1 (h1 : x ≠ y) (h2 : x ≠ z) : seatF f x y z x = y := by unfold seatF; rw [fset_ne h2, fset_ne h1, fset_same]
theorem seat_2 (h1 : y ≠ z) : seatF f x y z y = z := by unfold seatF; rw [fset_ne h1, fset_same]
theorem seat_3 : seatF f x y z z = x := by unfold seatF; rw [fset_same]
theorem seat_o (h1 : w ≠ x) (h2 : w ≠ y) (h3 : w ≠ z) : seatF f x y z w = f w := by unfold seatF; rw [fset_ne h3, fset_ne h2, fset_ne h1]
end
/-! ### a film pushed, pulled -/
structure Film (S : List Int) (nx : Int → Int) (e o a b c d : Int) : Prop where
  M : Map S ot nx
  he : e ∈ S
  ho : o ∈ S
  ha : a ∈ S
  hb : b ∈ S
  hc : c ∈ S
  hd : d ∈ S
  eo : ot e = o
  oe : ot o = e
  ea : nx e = a
  ab : nx a = b
  be : nx b = e
  oc : nx o = c
  cd : nx c = d
  do_ : nx d = o
  n_eo : e ≠ o
  n_ea : e ≠ a
  n_eb : e ≠ b
  n_ec : e ≠ c
  n_ed : e ≠ d
  n_oa : o ≠ a
  n_ob : o ≠ b
  n_oc : o ≠ c
  n_od : o ≠ d
  n_ab : a ≠ b
  n_ac : a ≠ c
  n_ad : a ≠ d
  n_bc : b ≠ c
  n_bd : b ≠ d
  n_cd : c ≠ d
/-- a film that doesn't lead back to its own corner -/
theorem film_of {S : List Int} {nx : Int → Int} {e : Int} (M : Map S ot nx) (he : e ∈ S) (h1 : nx e ≠ ot e) (h2 : nx (nx e) ≠ ot e) : Film S nx e (ot e) (nx e) (nx (nx e)) (nx (ot e)) (nx (nx (ot e))) := by
  have ho := M.ca e he
  have ha := M.cn e he
  have hb := M.cn _ ha
  have hc := M.cn _ ho
  have hd := M.cn _ hc
  have be := M.n3 e he
  have do_ := M.n3 _ ho
  -- what stands at the one corner doesn't stand at the other
  have ap : ∀ z ∈ S, z ≠ e → z ≠ nx e → z ≠ nx (nx e) → nx z ≠ e ∧ nx z ≠ nx e ∧ nx z ≠ nx (nx e) := fun z hz z1 z2 z3 =>
    ⟨fun q => z3 (M.ninj hz hb (q.trans be.symm)), fun q => z1 (M.ninj hz he q), fun q => z2 (M.ninj hz ha q)⟩
  have o1 : ot e ≠ e := ot_ne e
  have p1 := ap _ ho o1 h1.symm h2.symm
  have p2 := ap _ hc p1.1 p1.2.1 p1.2.2
  exact ⟨M, he, ho, ha, hb, hc, hd, rfl, ot_ot e, rfl, rfl, be, rfl, rfl, do_, o1.symm, (M.n1 e he).symm, (M.n2 he).symm, p1.1.symm, p2.1.symm, h1.symm, h2.symm, (M.n1 _ ho).symm, (M.n2 ho).symm, (M.n1 _ ha).symm, p1.2.1.symm, p2.2.1.symm, p1.2.2.symm, p2.2.2.symm, (M.n1 _ hc).symm⟩
def pushF (nx : Int → Int) (e : Int) : Int → Int := seatF (seatF nx e (nx (nx e)) (nx (ot e))) (ot e) (nx (nx (ot e))) (nx e)
def pullF (nx : Int → Int) (e : Int) : Int → Int := seatF (seatF nx e (nx (nx (ot e))) (nx e)) (ot e) (nx (nx e)) (nx (ot e))
section
variable {S : List Int} {nx : Int → Int} {e o a b c d : Int}
/-- the ends of the two corners -/
def Six (e o a b c d : Int) (z : Int) : Prop := z = e ∨ z = o ∨ z = a ∨ z = b ∨ z = c ∨ z = d
theorem six_no {z : Int} (h : ¬ Six e o a b c d z) : z ≠ e ∧ z ≠ o ∧ z ≠ a ∧ z ≠ b ∧ z ≠ c ∧ z ≠ d :=
  ⟨fun q => h (.inl q), fun q => h (.inr (.inl q)), fun q => h (.inr (.inr (.inl q))), fun q => h (.inr (.inr (.inr (.inl q)))), fun q => h (.inr (.inr (.inr (.inr (.inl q))))), fun q => h (.inr (.inr (.inr (.inr (.inr q)))))⟩
/-- two corners seated anew: everything that is asked of it, at once. nx' on the six ends is given; p, q: where e and o are put in -/
theorem reseat_web {nx' : Int → Int} (F : Film S nx e o a b c d) (W : Web S nx) (off : ∀ z, ¬ Six e o a b c d z → nx' z = nx z)
    (h : (nx' e = b ∧ nx' b = c ∧ nx' c = e ∧ nx' o = d ∧ nx' d = a ∧ nx' a = o) ∨ (nx' e = d ∧ nx' d = a ∧ nx' a = e ∧ nx' o = b ∧ nx' b = c ∧ nx' c = o)) :
    Web S nx' ∧ ∀ x ∈ S, ∀ y ∈ S, x ≠ e → x ≠ o → y ≠ e → y ≠ o → (Rim S nx x y ↔ Rim S nx' x y) := by
  have M := F.M
  have uS : ∀ z, Six e o a b c d z → z ∈ S := by
    rintro z (rfl | rfl | rfl | rfl | rfl | rfl)
    · exact F.he
    · exact F.ho
    · exact F.ha
    · exact F.hb
    · exact F.hc
    · exact F.hd
  have un : ∀ z, Six e o a b c d z → Six e o a b c d (nx z) := by
    rintro z (rfl | rfl | rfl | rfl | rfl | rfl)
    · rw [F.ea]; exact .inr (.inr (.inl rfl))
    · rw [F.oc]; exact .inr (.inr (.inr (.inr (.inl rfl))))
    · rw [F.ab]; exact .inr (.inr (.inr (.inl rfl)))
    · rw [F.be]; exact .inl rfl
    · rw [F.cd]; exact .inr (.inr (.inr (.inr (.inr rfl))))
    · rw [F.do_]; exact .inr (.inl rfl)
  have six_e : Six e o a b c d e := .inl rfl
  have six_o : Six e o a b c d o := .inr (.inl rfl)
  have six_a : Six e o a b c d a := .inr (.inr (.inl rfl))
  have six_b : Six e o a b c d b := .inr (.inr (.inr (.inl rfl)))
  have six_c : Six e o a b c d c := .inr (.inr (.inr (.inr (.inl rfl))))
  have six_d : Six e o a b c d d := .inr (.inr (.inr (.inr (.inr rfl))))
  have M' : Map S ot nx' := by
    refine reseat_map M uS un (fun z _ q => off z q) ?_ ?_ ?_
    · rcases h with ⟨h1, h2, h3, h4, h5, h6⟩ | ⟨h1, h2, h3, h4, h5, h6⟩
      · rintro z (rfl | rfl | rfl | rfl | rfl | rfl)
        · rw [h1]; exact six_b
        · rw [h4]; exact six_d
        · rw [h6]; exact six_o
        · rw [h2]; exact six_c
        · rw [h3]; exact six_e
        · rw [h5]; exact six_a
      · rintro z (rfl | rfl | rfl | rfl | rfl | rfl)
        · rw [h1]; exact six_d
        · rw [h4]; exact six_b
        · rw [h3]; exact six_e
        · rw [h5]; exact six_c
        · rw [h6]; exact six_o
        · rw [h2]; exact six_a
    · rcases h with ⟨h1, h2, h3, h4, h5, h6⟩ | ⟨h1, h2, h3, h4, h5, h6⟩
      · rintro z (rfl | rfl | rfl | rfl | rfl | rfl)
        · rw [h1, h2, h3]
        · rw [h4, h5, h6]
        · rw [h6, h4, h5]
        · rw [h2, h3, h1]
        · rw [h3, h1, h2]
        · rw [h5, h6, h4]
      · rintro z (rfl | rfl | rfl | rfl | rfl | rfl)
        · rw [h1, h2, h3]
        · rw [h4, h5, h6]
        · rw [h3, h1, h2]
        · rw [h5, h6, h4]
        · rw [h6, h4, h5]
        · rw [h2, h3, h1]
    · rcases h with ⟨h1, h2, h3, h4, h5, h6⟩ | ⟨h1, h2, h3, h4, h5, h6⟩
      · rintro z (rfl | rfl | rfl | rfl | rfl | rfl)
        · rw [h1]; exact F.n_eb.symm
        · rw [h4]; exact F.n_od.symm
        · rw [h6]; exact F.n_oa
        · rw [h2]; exact F.n_bc.symm
        · rw [h3]; exact F.n_ec
        · rw [h5]; exact F.n_ad
      · rintro z (rfl | rfl | rfl | rfl | rfl | rfl)
        · rw [h1]; exact F.n_ed.symm
        · rw [h4]; exact F.n_ob.symm
        · rw [h3]; exact F.n_ea
        · rw [h5]; exact F.n_bc.symm
        · rw [h6]; exact F.n_oc
        · rw [h2]; exact F.n_ad
  -- the new faces by steps
  have st' : ∀ z ∈ S, Eqv (fstep S (face ot nx')) z (nx' (ot z)) := fun z hz => .step ⟨hz, rfl⟩
  have st : ∀ z ∈ S, Eqv (fstep S (face ot nx)) z (nx (ot z)) := fun z hz => .step ⟨hz, rfl⟩
  let f : Int → Int := fun z => if z = e then c else if z = o then a else z
  have f_e : f e = c := if_pos rfl
  have f_o : f o = a := by show (if o = e then c else if o = o then a else o) = a; rw [if_neg F.n_eo.symm, if_pos rfl]
  have f_z : ∀ z, z ≠ e → z ≠ o → f z = z := fun z z1 z2 => by show (if z = e then c else if z = o then a else z) = z; rw [if_neg z1, if_neg z2]
  -- where e and o are put in anew
  obtain ⟨p, q, hp, hq, pe, po, qe, qo, ge, go, he', ho', hb', hd', ha', hc'⟩ : ∃ p q, p ∈ S ∧ q ∈ S ∧ p ≠ e ∧ p ≠ o ∧ q ≠ e ∧ q ≠ o ∧ Eqv (fstep S (face ot nx')) e p ∧ Eqv (fstep S (face ot nx')) o q ∧
      (∀ z ∈ S, ot z = c → ∃ s, nx' (ot z) = s ∧ (s = e ∧ p = d ∨ s = o ∧ q = d)) ∧ (∀ z ∈ S, ot z = a → ∃ s, nx' (ot z) = s ∧ (s = e ∧ p = b ∨ s = o ∧ q = b)) ∧ nx' b = c ∧ nx' d = a ∧ (nx' e = q) ∧ (nx' o = p) := by
    rcases h with ⟨h1, h2, h3, h4, h5, h6⟩ | ⟨h1, h2, h3, h4, h5, h6⟩
    · refine ⟨d, b, F.hd, F.hb, F.n_ed.symm, F.n_od.symm, F.n_eb.symm, F.n_ob.symm, ?_, ?_, fun z hz q => ⟨e, by rw [q, h3], .inl ⟨rfl, rfl⟩⟩, fun z hz q => ⟨o, by rw [q, h6], .inr ⟨rfl, rfl⟩⟩, h2, h5, h1, h4⟩
      · have := st' e F.he; rw [F.eo, h4] at this; exact this
      · have := st' o F.ho; rw [F.oe, h1] at this; exact this
    · refine ⟨b, d, F.hb, F.hd, F.n_eb.symm, F.n_ob.symm, F.n_ed.symm, F.n_od.symm, ?_, ?_, fun z hz q => ⟨o, by rw [q, h6], .inr ⟨rfl, rfl⟩⟩, fun z hz q => ⟨e, by rw [q, h3], .inl ⟨rfl, rfl⟩⟩, h5, h2, h1, h4⟩
      · have := st' e F.he; rw [F.eo, h4] at this; exact this
      · have := st' o F.ho; rw [F.oe, h1] at this; exact this
  let g : Int → Int := fun z => if z = e then p else if z = o then q else z
  have g_e : g e = p := if_pos rfl
  have g_o : g o = q := by show (if o = e then p else if o = o then q else o) = q; rw [if_neg F.n_eo.symm, if_pos rfl]
  have g_z : ∀ z, z ≠ e → z ≠ o → g z = z := fun z z1 z2 => by show (if z = e then p else if z = o then q else z) = z; rw [if_neg z1, if_neg z2]
  have other_side : ∀ z ∈ S, z ≠ e → z ≠ o → ot z ≠ e ∧ ot z ≠ o := fun z hz z1 z2 => ⟨fun q => z2 (M.ainj hz F.ho (q.trans F.oe.symm)), fun q => z1 (M.ainj hz F.he (q.trans F.eo.symm))⟩
  have hf : ∀ x y, fstep S (face ot nx) x y → Eqv (fstep S (face ot nx')) (f x) (f y) := by
    rintro z v ⟨hz, rfl⟩
    show Eqv _ (f z) (f (nx (ot z)))
    by_cases z1 : z = e
    · rw [z1, f_e, F.eo, F.oc, f_z c F.n_ec.symm F.n_oc.symm]; exact .refl _
    · by_cases z2 : z = o
      · rw [z2, f_o, F.oe, F.ea, f_z a F.n_ea.symm F.n_oa.symm]; exact .refl _
      · rw [f_z z z1 z2]
        have sz := st' z hz
        obtain ⟨w1, w2⟩ := other_side z hz z1 z2
        by_cases c1 : ot z = a
        · obtain ⟨s, es, q1⟩ := ho' z hz c1
          rw [es] at sz
          rw [c1, F.ab, f_z b F.n_eb.symm F.n_ob.symm]
          rcases q1 with ⟨rfl, rfl⟩ | ⟨rfl, rfl⟩
          · exact sz.trans ge
          · exact sz.trans go
        · by_cases c2 : ot z = b
          · rw [c2, hb'] at sz
            rw [c2, F.be, f_e]
            exact sz
          · by_cases c3 : ot z = c
            · obtain ⟨s, es, q1⟩ := he' z hz c3
              rw [es] at sz
              rw [c3, F.cd, f_z d F.n_ed.symm F.n_od.symm]
              rcases q1 with ⟨rfl, rfl⟩ | ⟨rfl, rfl⟩
              · exact sz.trans ge
              · exact sz.trans go
            · by_cases c4 : ot z = d
              · rw [c4, hd'] at sz
                rw [c4, F.do_, f_o]
                exact sz
              · have nsix : ¬ Six e o a b c d (ot z) := by
                  rintro (q | q | q | q | q | q)
                  · exact w1 q
                  · exact w2 q
                  · exact c1 q
                  · exact c2 q
                  · exact c3 q
                  · exact c4 q
                rw [off _ nsix] at sz
                have n1 : nx (ot z) ≠ e := fun q => c2 (M.ninj (M.ca z hz) F.hb (q.trans F.be.symm))
                have n2 : nx (ot z) ≠ o := fun q => c4 (M.ninj (M.ca z hz) F.hd (q.trans F.do_.symm))
                rw [f_z _ n1 n2]
                exact sz
  have hg : ∀ x y, fstep S (face ot nx') x y → Eqv (fstep S (face ot nx)) (g x) (g y) := by
    rintro z v ⟨hz, rfl⟩
    show Eqv _ (g z) (g (nx' (ot z)))
    by_cases z1 : z = e
    · rw [z1, g_e, F.eo, hc', g_z p pe po]; exact .refl _
    · by_cases z2 : z = o
      · rw [z2, g_o, F.oe, ha', g_z q qe qo]; exact .refl _
      · rw [g_z z z1 z2]
        have sz := st z hz
        obtain ⟨w1, w2⟩ := other_side z hz z1 z2
        by_cases c1 : ot z = a
        · obtain ⟨s, es, q1⟩ := ho' z hz c1
          rw [es]
          rw [c1, F.ab] at sz
          rcases q1 with ⟨rfl, e2⟩ | ⟨rfl, e2⟩
          · rw [g_e, e2]; exact sz
          · rw [g_o, e2]; exact sz
        · by_cases c2 : ot z = b
          · rw [c2, F.be] at sz
            rw [c2, hb', g_z c F.n_ec.symm F.n_oc.symm]
            have s2 := st e F.he
            rw [F.eo, F.oc] at s2
            exact sz.trans s2
          · by_cases c3 : ot z = c
            · obtain ⟨s, es, q1⟩ := he' z hz c3
              rw [es]
              rw [c3, F.cd] at sz
              rcases q1 with ⟨rfl, e2⟩ | ⟨rfl, e2⟩
              · rw [g_e, e2]; exact sz
              · rw [g_o, e2]; exact sz
            · by_cases c4 : ot z = d
              · rw [c4, F.do_] at sz
                rw [c4, hd', g_z a F.n_ea.symm F.n_oa.symm]
                have s2 := st o F.ho
                rw [F.oe, F.ea] at s2
                exact sz.trans s2
              · have nsix : ¬ Six e o a b c d (ot z) := by
                  rintro (q | q | q | q | q | q)
                  · exact w1 q
                  · exact w2 q
                  · exact c1 q
                  · exact c2 q
                  · exact c3 q
                  · exact c4 q
                rw [off _ nsix]
                have n1 : nx (ot z) ≠ e := fun q => c2 (M.ninj (M.ca z hz) F.hb (q.trans F.be.symm))
                have n2 : nx (ot z) ≠ o := fun q => c4 (M.ninj (M.ca z hz) F.hd (q.trans F.do_.symm))
                rw [g_z _ n1 n2]
                exact sz
  have s_ec : Eqv (fstep S (face ot nx)) e c := by have := st e F.he; rw [F.eo, F.oc] at this; exact this
  have s_oa : Eqv (fstep S (face ot nx)) o a := by have := st o F.ho; rw [F.oe, F.ea] at this; exact this
  obtain ⟨n, hn, hl⟩ := W.eul
  refine ⟨⟨M', W.ne, ?_, ⟨n, cls_maps f g hf hg ?_ ?_ ?_ ?_ hn, hl⟩, W.pos⟩, ?_⟩
  · -- connected
    have c_st : ∀ z ∈ S, Eqv (cs S ot nx') z (nx' z) := fun z hz => .step ⟨hz, .inr rfl⟩
    have c_eo : Eqv (cs S ot nx') e o := .step ⟨F.he, .inl F.eo.symm⟩
    have all : ∀ z, Six e o a b c d z → Eqv (cs S ot nx') e z := by
      rcases h with ⟨h1, h2, h3, h4, h5, h6⟩ | ⟨h1, h2, h3, h4, h5, h6⟩
      · have k1 := c_st e F.he; rw [h1] at k1
        have k2 := c_st b F.hb; rw [h2] at k2
        have k3 := c_st o F.ho; rw [h4] at k3
        have k4 := c_st d F.hd; rw [h5] at k4
        rintro z (rfl | rfl | rfl | rfl | rfl | rfl)
        · exact .refl _
        · exact c_eo
        · exact c_eo.trans (k3.trans k4)
        · exact k1
        · exact k1.trans k2
        · exact c_eo.trans k3
      · have k1 := c_st e F.he; rw [h1] at k1
        have k2 := c_st d F.hd; rw [h2] at k2
        have k3 := c_st o F.ho; rw [h4] at k3
        have k4 := c_st b F.hb; rw [h5] at k4
        rintro z (rfl | rfl | rfl | rfl | rfl | rfl)
        · exact .refl _
        · exact c_eo
        · exact k1.trans k2
        · exact c_eo.trans k3
        · exact c_eo.trans (k3.trans k4)
        · exact k1
    intro x hx y hy
    refine Eqv.mono (fun u v q => ?_) (W.conn x hx y hy)
    obtain ⟨hu, q | q⟩ := q
    · exact .step ⟨hu, .inl q⟩
    · subst q
      by_cases s6 : Six e o a b c d u
      · exact (all u s6).symm.trans (all _ (un u s6))
      · rw [← off u s6]
        exact c_st u hu
  · intro z hz
    by_cases z1 : z = e
    · rw [z1, f_e]; exact F.hc
    · by_cases z2 : z = o
      · rw [z2, f_o]; exact F.ha
      · rw [f_z z z1 z2]; exact hz
  · intro z hz
    by_cases z1 : z = e
    · rw [z1, g_e]; exact hp
    · by_cases z2 : z = o
      · rw [z2, g_o]; exact hq
      · rw [g_z z z1 z2]; exact hz
  · intro z hz
    by_cases z1 : z = e
    · rw [z1, g_e, f_z p pe po]; exact ge.symm
    · by_cases z2 : z = o
      · rw [z2, g_o, f_z q qe qo]; exact go.symm
      · rw [g_z z z1 z2, f_z z z1 z2]; exact .refl _
  · intro z hz
    by_cases z1 : z = e
    · rw [z1, f_e, g_z c F.n_ec.symm F.n_oc.symm]; exact s_ec.symm
    · by_cases z2 : z = o
      · rw [z2, f_o, g_z a F.n_ea.symm F.n_oa.symm]; exact s_oa.symm
      · rw [f_z z z1 z2, g_z z z1 z2]; exact .refl _
  · intro x hx y hy x1 x2 y1 y2
    constructor
    · intro q
      have := Eqv.map hf q
      rw [f_z x x1 x2, f_z y y1 y2] at this
      exact this
    · intro q
      have := Eqv.map hg q
      rw [g_z x x1 x2, g_z y y1 y2] at this
      exact this
theorem push_vals (F : Film S nx e o a b c d) : (pushF nx e e = b ∧ pushF nx e b = c ∧ pushF nx e c = e ∧ pushF nx e o = d ∧ pushF nx e d = a ∧ pushF nx e a = o) ∧ ∀ z, ¬ Six e o a b c d z → pushF nx e z = nx z := by
  have E : pushF nx e = seatF (seatF nx e b c) o d a := by unfold pushF; rw [F.eo, F.ea, F.ab, F.oc, F.cd]
  rw [E]
  refine ⟨⟨?_, ?_, ?_, seat_1 F.n_od F.n_oa, seat_2 F.n_ad.symm, seat_3⟩, fun z hz => ?_⟩
  · rw [seat_o F.n_eo F.n_ed F.n_ea, seat_1 F.n_eb F.n_ec]
  · rw [seat_o F.n_ob.symm F.n_bd F.n_ab.symm, seat_2 F.n_bc]
  · rw [seat_o F.n_oc.symm F.n_cd F.n_ac.symm, seat_3]
  · obtain ⟨z1, z2, z3, z4, z5, z6⟩ := six_no hz
    rw [seat_o z2 z6 z3, seat_o z1 z4 z5]
theorem pull_vals (F : Film S nx e o a b c d) : (pullF nx e e = d ∧ pullF nx e d = a ∧ pullF nx e a = e ∧ pullF nx e o = b ∧ pullF nx e b = c ∧ pullF nx e c = o) ∧ ∀ z, ¬ Six e o a b c d z → pullF nx e z = nx z := by
  have E : pullF nx e = seatF (seatF nx e d a) o b c := by unfold pullF; rw [F.eo, F.ea, F.ab, F.oc, F.cd]
  rw [E]
  refine ⟨⟨?_, ?_, ?_, seat_1 F.n_ob F.n_oc, seat_2 F.n_bc, seat_3⟩, fun z hz => ?_⟩
  · rw [seat_o F.n_eo F.n_eb F.n_ec, seat_1 F.n_ed F.n_ea]
  · rw [seat_o F.n_od.symm F.n_bd.symm F.n_cd.symm, seat_2 F.n_ad.symm]
  · rw [seat_o F.n_oa.symm F.n_ab F.n_ac, seat_3]
  · obtain ⟨z1, z2, z3, z4, z5, z6⟩ := six_no hz
    rw [seat_o z2 z4 z5, seat_o z1 z6 z3]
end
theorem push_web {S : List Int} {nx : Int → Int} {e : Int} (W : Web S nx) (he : e ∈ S) (h1 : nx e ≠ ot e) (h2 : nx (nx e) ≠ ot e) : Web S (pushF nx e) :=
  (reseat_web (film_of W.map he h1 h2) W (push_vals (film_of W.map he h1 h2)).2 (.inl (push_vals (film_of W.map he h1 h2)).1)).1
theorem pull_web {S : List Int} {nx : Int → Int} {e : Int} (W : Web S nx) (he : e ∈ S) (h1 : nx e ≠ ot e) (h2 : nx (nx e) ≠ ot e) : Web S (pullF nx e) :=
  (reseat_web (film_of W.map he h1 h2) W (pull_vals (film_of W.map he h1 h2)).2 (.inr (pull_vals (film_of W.map he h1 h2)).1)).1

/-! WebE: films burst. Plain Lean. -/
theorem min_max (u v : Int) : (min u v = u ∧ max u v = v) ∨ (min u v = v ∧ max u v = u) := by
  by_cases h : u ≤ v
  · exact .inl ⟨by omega, by omega⟩
  · exact .inr ⟨by omega, by omega⟩
def mX (nx : Int → Int) (t : Int) : Int := min (nx t) (nx (nx t))
def mY (nx : Int → Int) (t : Int) : Int := max (nx t) (nx (nx t))
def m1S (S : List Int) (nx : Int → Int) (t : Int) : List Int := mendS S t (mY nx t) (ot (mY nx t))
def m1N (nx : Int → Int) (t : Int) : Int → Int := mendN nx (mX nx t) (ot (mY nx t))
section
variable {S : List Int} {al nx : Int → Int} {t : Int}
theorem mXY (nx : Int → Int) (t : Int) : (mX nx t = nx t ∧ mY nx t = nx (nx t)) ∨ (mX nx t = nx (nx t) ∧ mY nx t = nx t) := min_max _ _
theorem mend_mk (M : Map S al nx) (ht : t ∈ S) (tt : al t = t) (h1 : al (nx t) = ot (nx t)) (h2 : al (nx (nx t)) = ot (nx (nx t))) (hl : ot (nx t) ≠ nx (nx t)) : Mend S al nx t (mX nx t) (mY nx t) (ot (mY nx t)) := by
  have ha := M.cn t ht
  have hb := M.cn _ ha
  have h3 := M.n3 t ht
  rcases mXY nx t with ⟨ex, ey⟩ | ⟨ex, ey⟩
  · rw [ex, ey]
    exact ⟨M, ht, hb, tt, h2, .inl ⟨rfl, rfl, h3⟩, ot_ne _, fun z => hl ((congrArg ot z).symm.trans (ot_ot _))⟩
  · rw [ex, ey]
    exact ⟨M, ht, ha, tt, h1, .inr ⟨rfl, rfl, h3⟩, ot_ne _, hl⟩
end
theorem map_al {S : List Int} {al al' nx : Int → Int} (M : Map S al nx) (h : ∀ x ∈ S, al' x = al x) : Map S al' nx :=
  ⟨M.nd, fun x hx => by rw [h x hx]; exact M.ca x hx, M.cn, fun x hx => by rw [h x hx, h _ (M.ca x hx)]; exact M.aa x hx, M.n3, M.n1⟩
theorem cls_al {S : List Int} {al al' nx : Int → Int} {n : Nat} (h : ∀ x ∈ S, al' x = al x) (c : Cls S (fstep S (face al nx)) n) : Cls S (fstep S (face al' nx)) n :=
  cls_same (fun _ => Iff.rfl) (fun x y ⟨hx, e⟩ => .step ⟨hx, by rw [e]; unfold face; rw [h x hx]⟩) (fun x y ⟨hx, e⟩ => .step ⟨hx, by rw [e]; unfold face; rw [h x hx]⟩) c
theorem conn_al {S : List Int} {al al' nx : Int → Int} (h : ∀ x ∈ S, al' x = al x) {u v : Int} (c : Eqv (cs S al nx) u v) : Eqv (cs S al' nx) u v :=
  Eqv.mono (fun x y ⟨hx, q⟩ => .step ⟨hx, q.imp (fun z => by rw [h x hx]; exact z) id⟩) c
/-- a web of six ends has one rim -/
theorem six_ends {S : List Int} {nx : Int → Int} (W : Web S nx) (l : List Int) (hl : l.length = 6) (x0 : Int) (h0 : x0 ∈ S) (h0l : x0 ∈ l) (cl : ∀ x ∈ l, ot x ∈ l ∧ nx x ∈ l) (clb : ∀ x ∈ S, (ot x ∈ l → x ∈ l) ∧ (nx x ∈ l → x ∈ l)) {u v : Int} (hu : u ∈ S) (hv : v ∈ S) : Rim S nx u v := by
  obtain ⟨n, hn, hl6⟩ := W.eul
  have sub : ∀ x ∈ S, x ∈ l := fun x hx => by
    have q := Eqv.inv (A := fun z => z ∈ l) (fun a b q => ?_) (W.conn x0 h0 x hx)
    · exact q.mp h0l
    · obtain ⟨ha, q | q⟩ := q
      · subst q
        exact ⟨fun z => (cl a z).1, fun z => (clb a ha).1 z⟩
      · subst q
        exact ⟨fun z => (cl a z).2, fun z => (clb a ha).2 z⟩
  have len := sub_len W.map.nd sub
  have pos : 0 < S.length := List.length_pos_of_mem h0
  have n1 : n = 1 := by omega
  rw [n1] at hn
  exact cls_one hn hu hv
/-! ### a film that doesn't lead back -/
def burstS (S : List Int) (nx : Int → Int) (e : Int) : List Int := m1S (m1S S nx e) (m1N nx e) (ot e)
def burstN (nx : Int → Int) (e : Int) : Int → Int := m1N (m1N nx e) (ot e)
structure Burst (S : List Int) (nx : Int → Int) (e : Int) : Prop where
  D1 : Mend S (cutA ot e (ot e)) nx e (mX nx e) (mY nx e) (ot (mY nx e))
  D2 : Mend (m1S S nx e) (cutA ot e (ot e)) (m1N nx e) (ot e) (mX (m1N nx e) (ot e)) (mY (m1N nx e) (ot e)) (ot (mY (m1N nx e) (ot e)))
  web : Web (burstS S nx e) (burstN nx e)
  len : (burstS S nx e).length + 6 = S.length
theorem burst_web {S : List Int} {nx : Int → Int} {e : Int} (W : Web S nx) (he : e ∈ S) (h1 : nx e ≠ ot e) (h2 : nx (nx e) ≠ ot e) (hr : ¬ Rim S nx e (ot e)) : Burst S nx e := by
  have F := film_of W.map he h1 h2
  generalize ho_ : ot e = o at *
  generalize ha_ : nx e = a at *
  generalize hb_ : nx a = b at *
  generalize hc_ : nx o = c at *
  generalize hd_ : nx c = d at *
  have M := W.map
  have st : ∀ z ∈ S, Rim S nx z (nx (ot z)) := fun z hz => .step ⟨hz, rfl⟩
  have s_e : Rim S nx e c := by have := st e he; rw [F.eo, F.oc] at this; exact this
  have s_o : Rim S nx o a := by have := st o F.ho; rw [F.oe, F.ea] at this; exact this
  -- no loop beside
  have hab : ot a ≠ b := fun z => hr (by
    have s1 := st a F.ha
    rw [z, F.be] at s1
    exact (s_o.trans s1).symm)
  have hcd : ot c ≠ d := fun z => hr (by
    have s1 := st c F.hc
    rw [z, F.do_] at s1
    exact s_e.trans s1)
  -- the two films c, d aren't the two films a, b
  have hnot1 : ¬ (ot c = a ∧ ot d = b) := fun ⟨z1, z2⟩ => hr (by
    have s1 := st c F.hc
    rw [z1, F.ab] at s1
    have s2 := st b F.hb
    have e2 : ot b = d := by rw [← z2, ot_ot]
    rw [e2, F.do_] at s2
    exact s_e.trans (s1.trans s2))
  have hnot2 : ¬ (ot c = b ∧ ot d = a) := fun ⟨z1, z2⟩ => hr (by
    have oa : ot a = d := by rw [← z2, ot_ot]
    have ob : ot b = c := by rw [← z1, ot_ot]
    refine six_ends W [e, o, a, b, c, d] rfl e he List.mem_cons_self (fun x hx => ?_) (fun x hx => ⟨fun q => ?_, fun q => ?_⟩) he F.ho
    · simp only [List.mem_cons, List.not_mem_nil, or_false] at hx ⊢
      rcases hx with rfl | rfl | rfl | rfl | rfl | rfl
      · rw [F.eo, F.ea]; simp
      · rw [F.oe, F.oc]; simp
      · rw [oa, F.ab]; simp
      · rw [ob, F.be]; simp
      · rw [z1, F.cd]; simp
      · rw [z2, F.do_]; simp
    · simp only [List.mem_cons, List.not_mem_nil, or_false] at q ⊢
      have back : x = ot (ot x) := (ot_ot x).symm
      rcases q with q | q | q | q | q | q
      · rw [back, q, F.eo]; simp
      · rw [back, q, F.oe]; simp
      · rw [back, q, oa]; simp
      · rw [back, q, ob]; simp
      · rw [back, q, z1]; simp
      · rw [back, q, z2]; simp
    · simp only [List.mem_cons, List.not_mem_nil, or_false] at q ⊢
      rcases q with q | q | q | q | q | q
      · rw [M.ninj hx F.hb (q.trans F.be.symm)]; simp
      · rw [M.ninj hx F.hd (q.trans F.do_.symm)]; simp
      · rw [M.ninj hx F.he (q.trans F.ea.symm)]; simp
      · rw [M.ninj hx F.ha (q.trans F.ab.symm)]; simp
      · rw [M.ninj hx F.ho (q.trans F.oc.symm)]; simp
      · rw [M.ninj hx F.hc (q.trans F.cd.symm)]; simp)
  have Mc := cut_map M he F.ho F.eo F.oe
  have alz : ∀ z, z ≠ e → z ≠ o → cutA ot e o z = ot z := fun z z1 z2 => by unfold cutA; rw [if_neg z1, if_neg z2]
  have ale : cutA ot e o e = e := by unfold cutA; rw [if_pos rfl]
  have alo : cutA ot e o o = o := by unfold cutA; rw [if_neg F.n_eo.symm, if_pos rfl]
  have D1 : Mend S (cutA ot e o) nx e (mX nx e) (mY nx e) (ot (mY nx e)) := mend_mk Mc he ale (by rw [F.ea]; exact alz a F.n_ea.symm F.n_oa.symm) (by rw [F.ea, F.ab]; exact alz b F.n_eb.symm F.n_ob.symm) (by rw [F.ea, F.ab]; exact hab)
  have M1 := mend_map D1
  -- the second corner
  have xy : (mX nx e = a ∧ mY nx e = b) ∨ (mX nx e = b ∧ mY nx e = a) := by
    have q := mXY nx e
    rw [F.ea, F.ab] at q
    exact q
  have oS1 : o ∈ m1S S nx e := mem_mendS.mpr ⟨F.ho, F.n_eo.symm, by rcases xy with ⟨_, q⟩ | ⟨_, q⟩ <;> rw [q]; exact F.n_ob; exact F.n_oa, fun z => by
    have : ot o = mY nx e := by rw [z, ot_ot]
    rw [F.oe] at this
    rcases xy with ⟨_, q⟩ | ⟨_, q⟩
    · rw [q] at this; exact F.n_eb this
    · rw [q] at this; exact F.n_ea this⟩
  have ox : o ≠ mX nx e := by rcases xy with ⟨q, _⟩ | ⟨q, _⟩ <;> rw [q]; exact F.n_oa; exact F.n_ob
  have cx : c ≠ mX nx e := by rcases xy with ⟨q, _⟩ | ⟨q, _⟩ <;> rw [q]; exact F.n_ac.symm; exact F.n_bc.symm
  have c1S := M1.cn o oS1
  have d1S := M1.cn _ c1S
  have cd1 : (m1N nx e o = c ∧ m1N nx e (m1N nx e o) = d) ∨ (c = ot (mY nx e) ∧ m1N nx e o = mX nx e ∧ m1N nx e (m1N nx e o) = d) ∨ (d = ot (mY nx e) ∧ m1N nx e o = c ∧ m1N nx e (m1N nx e o) = mX nx e) := by
    by_cases k1 : c = ot (mY nx e)
    · have e1 : m1N nx e o = mX nx e := mendN_q ox (by rw [F.oc]; exact k1)
      refine .inr (.inl ⟨k1, e1, ?_⟩)
      rw [e1]
      show mendN nx (mX nx e) (ot (mY nx e)) (mX nx e) = d
      rw [mendN_x, ← k1, F.cd]
    · have e1 : m1N nx e o = c := (mendN_o ox (by rw [F.oc]; exact k1)).trans F.oc
      by_cases k2 : d = ot (mY nx e)
      · refine .inr (.inr ⟨k2, e1, ?_⟩)
        rw [e1]
        exact mendN_q cx (by rw [F.cd]; exact k2)
      · refine .inl ⟨e1, ?_⟩
        rw [e1]
        exact (mendN_o cx (by rw [F.cd]; exact k2)).trans F.cd
  have hl2 : ot (m1N nx e o) ≠ m1N nx e (m1N nx e o) := by
    rcases cd1 with ⟨k1, k2⟩ | ⟨k0, k1, k2⟩ | ⟨k0, k1, k2⟩
    · rw [k2, k1]; exact hcd
    · rw [k2, k1]
      intro z
      have od : ot d = mX nx e := by rw [← z, ot_ot]
      have oc : ot c = mY nx e := by rw [k0, ot_ot]
      rcases xy with ⟨q1, q2⟩ | ⟨q1, q2⟩
      · exact hnot2 ⟨oc.trans q2, od.trans q1⟩
      · exact hnot1 ⟨oc.trans q2, od.trans q1⟩
    · rw [k2, k1]
      intro z
      have od : ot d = mY nx e := by rw [k0, ot_ot]
      rcases xy with ⟨q1, q2⟩ | ⟨q1, q2⟩
      · exact hnot1 ⟨z.trans q1, od.trans q2⟩
      · exact hnot2 ⟨z.trans q1, od.trans q2⟩
  have al_in : ∀ z ∈ m1S S nx e, z ≠ o → cutA ot e o z = ot z := fun z hz z1 => alz z (mem_mendS.mp hz).2.1 z1
  have D2 : Mend (m1S S nx e) (cutA ot e o) (m1N nx e) o (mX (m1N nx e) o) (mY (m1N nx e) o) (ot (mY (m1N nx e) o)) :=
    mend_mk M1 oS1 alo (al_in _ c1S (M1.n1 o oS1)) (al_in _ d1S (M1.n2 oS1)) hl2
  have M2 := mend_map D2
  have len1 := mend_len D1
  have len2 := mend_len D2
  obtain ⟨n, hn, hl⟩ := W.eul
  have npos : ∃ k, n = k + 1 := by
    cases n with
    | zero =>
      obtain ⟨R, g1, _, g3, _⟩ := hn
      obtain ⟨y, hy, _⟩ := g3 e he
      rw [List.length_eq_zero_iff.mp g1] at hy
      exact absurd hy List.not_mem_nil
    | succ k => exact ⟨k, rfl⟩
  obtain ⟨k, rfl⟩ := npos
  have cl2 := mend_cls D2 (mend_cls D1 (cut_cls M he F.ho F.eo F.oe hr hn))
  have al2 : ∀ x ∈ mendS (m1S S nx e) o (mY (m1N nx e) o) (ot (mY (m1N nx e) o)), ot x = cutA ot e o x := fun x hx => (al_in x (mem_mendS.mp hx).1 (mem_mendS.mp hx).2.1).symm
  have cn2 := mend_conn D2 (mend_conn D1 fun u hu v hv => cut_conn M he F.ho F.eo F.oe hr (W.conn u hu v hv))
  have lenS : (mendS (m1S S nx e) o (mY (m1N nx e) o) (ot (mY (m1N nx e) o))).length + 6 = S.length := by
    have l1 : (m1S S nx e).length + 3 = S.length := len1
    omega
  refine ⟨ho_ ▸ D1, ho_ ▸ D2, ?_, ?_⟩
  · unfold burstS burstN
    rw [ho_]
    refine ⟨map_al M2 al2, ?_, fun u hu v hv => conn_al al2 (cn2 u hu v hv), ⟨k, cls_al al2 cl2, by show 6 * k = (mendS _ _ _ _).length; omega⟩, fun x hx => W.pos x (mem_mendS.mp (mem_mendS.mp hx).1).1⟩
    intro z
    have z0 : (mendS (m1S S nx e) o (mY (m1N nx e) o) (ot (mY (m1N nx e) o))).length = 0 := by
      have z' : mendS (m1S S nx e) o (mY (m1N nx e) o) (ot (mY (m1N nx e) o)) = [] := z
      rw [z']; rfl
    have k0 : k + 1 = 1 := by omega
    rw [k0] at hn
    exact hr (cls_one hn he F.ho)
  · unfold burstS
    rw [ho_]
    exact lenS
/-! ### a film that leads back to its own corner -/
def loopT (nx : Int → Int) (e : Int) : Int := if nx e = ot e then nx (nx e) else nx e
def loopS (S : List Int) (nx : Int → Int) (e : Int) : List Int := S.filter fun z => decide (z ≠ e ∧ z ≠ ot e ∧ z ≠ loopT nx e)
def burstLS (S : List Int) (nx : Int → Int) (e : Int) : List Int := m1S (loopS S nx e) nx (ot (loopT nx e))
def burstLN (nx : Int → Int) (e : Int) : Int → Int := m1N nx (ot (loopT nx e))
structure BurstL (S : List Int) (nx : Int → Int) (e : Int) : Prop where
  map : Map (loopS S nx e) (fun z => if z = ot (loopT nx e) then z else ot z) nx
  D : Mend (loopS S nx e) (fun z => if z = ot (loopT nx e) then z else ot z) nx (ot (loopT nx e)) (mX nx (ot (loopT nx e))) (mY nx (ot (loopT nx e))) (ot (mY nx (ot (loopT nx e))))
  web : Web (burstLS S nx e) (burstLN nx e)
  len : (burstLS S nx e).length + 6 = S.length
theorem burstL_web {S : List Int} {nx : Int → Int} {e : Int} (W : Web S nx) (he : e ∈ S) (hloop : nx e = ot e ∨ nx (nx e) = ot e) : BurstL S nx e := by
  have M := W.map
  have ho := M.ca e he
  have hoe : ot e ≠ e := ot_ne e
  -- the third end, and which of the two is alone on its rim
  obtain ⟨t, z0, z1, et, ht, te, to, hz0, hz1, z01, zc, f0, f1, f2, cor⟩ : ∃ t z0 z1, loopT nx e = t ∧ t ∈ S ∧ t ≠ e ∧ t ≠ ot e ∧ z0 ∈ S ∧ z1 ∈ S ∧ z0 ≠ z1 ∧ ((z0 = e ∧ z1 = ot e) ∨ (z0 = ot e ∧ z1 = e)) ∧ nx (ot z0) = z0 ∧ nx (ot z1) = t ∧ nx t = z1 ∧
      (∀ z ∈ S, nx z = e ∨ nx z = ot e ∨ nx z = t ↔ z = e ∨ z = ot e ∨ z = t) := by
    by_cases c1 : nx e = ot e
    · have ht := M.cn _ (M.cn e he)
      refine ⟨nx (nx e), ot e, e, if_pos c1, ht, M.n2 he, by rw [← c1]; exact M.n12 he, ho, he, hoe, .inr ⟨rfl, rfl⟩, by rw [ot_ot]; exact c1, by rw [← c1], M.n3 e he, fun z hz => ?_⟩
      constructor
      · rintro (q | q | q)
        · exact .inr (.inr (M.ninj hz ht (q.trans (M.n3 e he).symm)))
        · exact .inl (M.ninj hz he (q.trans c1.symm))
        · exact .inr (.inl ((M.ninj hz (M.cn e he) q).trans c1))
      · rintro (q | q | q)
        · exact .inr (.inl (by rw [q]; exact c1))
        · exact .inr (.inr (by rw [q, ← c1]))
        · exact .inl (by rw [q]; exact M.n3 e he)
    · have c2 : nx (nx e) = ot e := hloop.resolve_left c1
      have ht := M.cn e he
      have h3 := M.n3 e he
      rw [c2] at h3
      refine ⟨nx e, e, ot e, if_neg c1, ht, M.n1 e he, by rw [← c2]; exact (M.n12 he).symm, he, ho, hoe.symm, .inl ⟨rfl, rfl⟩, h3, by rw [ot_ot], c2, fun z hz => ?_⟩
      constructor
      · rintro (q | q | q)
        · exact .inr (.inl (M.ninj hz ho (q.trans h3.symm)))
        · exact .inr (.inr (M.ninj hz ht (q.trans c2.symm)))
        · exact .inl (M.ninj hz he q)
      · rintro (q | q | q)
        · exact .inr (.inr (by rw [q]))
        · exact .inl (by rw [q]; exact h3)
        · exact .inr (.inl (by rw [q]; exact c2))
  have zmem : ∀ z, (z = e ∨ z = ot e ∨ z = t) ↔ (z = z0 ∨ z = z1 ∨ z = t) := fun z => by
    rcases zc with ⟨q1, q2⟩ | ⟨q1, q2⟩
    · rw [q1, q2]
    · rw [q1, q2]
      constructor
      · rintro (q | q | q)
        · exact .inr (.inl q)
        · exact .inl q
        · exact .inr (.inr q)
      · rintro (q | q | q)
        · exact .inr (.inl q)
        · exact .inl q
        · exact .inr (.inr q)
  -- u: the other end of the third film
  have hu : ot t ∈ S := M.ca t ht
  have u1 : ot t ≠ e := fun q => to (by rw [← ot_ot t, q])
  have u2 : ot t ≠ ot e := fun q => te (by rw [← ot_ot t, q, ot_ot])
  have u3 : ot t ≠ t := ot_ne t
  have u_no : ¬ (ot t = e ∨ ot t = ot e ∨ ot t = t) := by
    rintro (q | q | q)
    · exact u1 q
    · exact u2 q
    · exact u3 q
  have memL : ∀ z, z ∈ loopS S nx e ↔ z ∈ S ∧ ¬ (z = e ∨ z = ot e ∨ z = t) := fun z => by
    unfold loopS
    rw [et, List.mem_filter, decide_eq_true_eq]
    exact ⟨fun ⟨q, a, b, c⟩ => ⟨q, fun h => h.elim a fun h => h.elim b c⟩, fun ⟨q, h⟩ => ⟨q, fun a => h (.inl a), fun a => h (.inr (.inl a)), fun a => h (.inr (.inr a))⟩⟩
  have uL : ot t ∈ loopS S nx e := (memL _).mpr ⟨hu, u_no⟩
  let al : Int → Int := fun z => if z = ot t then z else ot z
  have alu : al (ot t) = ot t := if_pos rfl
  have alz : ∀ z, z ≠ ot t → al z = ot z := fun z h => if_neg h
  have otL : ∀ z, z ∈ S → ¬ (z = e ∨ z = ot e ∨ z = t) → z ≠ ot t → ¬ (ot z = e ∨ ot z = ot e ∨ ot z = t) := fun z hz h1 h2 => by
    rintro (q | q | q)
    · exact h1 (.inr (.inl (by rw [← q, ot_ot])))
    · exact h1 (.inl (by rw [← ot_ot z, q, ot_ot]))
    · exact h2 (by rw [← q, ot_ot])
  have nxL : ∀ z, z ∈ S → ¬ (z = e ∨ z = ot e ∨ z = t) → ¬ (nx z = e ∨ nx z = ot e ∨ nx z = t) := fun z hz h q => h ((cor z hz).mp q)
  have ML : Map (loopS S nx e) al nx := by
    refine ⟨M.nd.filter _, fun x hx => ?_, fun x hx => ?_, fun x hx => ?_, fun x hx => M.n3 x ((memL x).mp hx).1, fun x hx => M.n1 x ((memL x).mp hx).1⟩
    · obtain ⟨xS, xn⟩ := (memL x).mp hx
      by_cases c : x = ot t
      · rw [c, alu]; exact uL
      · rw [alz x c]; exact (memL _).mpr ⟨M.ca x xS, otL x xS xn c⟩
    · obtain ⟨xS, xn⟩ := (memL x).mp hx
      exact (memL _).mpr ⟨M.cn x xS, nxL x xS xn⟩
    · obtain ⟨xS, xn⟩ := (memL x).mp hx
      by_cases c : x = ot t
      · rw [c, alu, alu]
      · have c' : ot x ≠ ot t := fun q => xn (.inr (.inr (by rw [← ot_ot x, q, ot_ot])))
        rw [alz x c, alz _ c', ot_ot]
  -- the faces
  have st : ∀ z ∈ S, Rim S nx z (nx (ot z)) := fun z hz => .step ⟨hz, rfl⟩
  have alone : ¬ Rim S nx z0 z1 := fun q => by
    have inv := Eqv.inv (A := fun z => z = z0) (fun a b h => ?_) q
    · exact z01 (inv.mp rfl).symm
    · obtain ⟨ha, rfl⟩ := h
      constructor
      · rintro rfl
        exact f0
      · intro h
        have h2 : nx (ot a) = nx (ot z0) := h.trans f0.symm
        exact M.ainj ha hz0 (M.ninj (M.ca a ha) (M.ca _ hz0) h2)
  have s_u : Rim S nx (ot t) z1 := by have := st _ hu; rw [ot_ot, f2] at this; exact this
  have s_1 : Rim S nx z1 t := by have := st _ hz1; rw [f1] at this; exact this
  have s_t : Rim S nx t (nx (ot t)) := st t ht
  obtain ⟨n, hn, hl⟩ := W.eul
  obtain ⟨k, rfl⟩ : ∃ k, n = k + 1 := by
    cases n with
    | zero =>
      obtain ⟨R, g1, _, g3, _⟩ := hn
      obtain ⟨y, hy, _⟩ := g3 e he
      rw [List.length_eq_zero_iff.mp g1] at hy
      exact absurd hy List.not_mem_nil
    | succ k => exact ⟨k, rfl⟩
  let f : Int → Int := fun z => if z = e ∨ z = ot e ∨ z = t then ot t else z
  have f_b : ∀ z, (z = e ∨ z = ot e ∨ z = t) → f z = ot t := fun z h => if_pos h
  have f_o : ∀ z, ¬ (z = e ∨ z = ot e ∨ z = t) → f z = z := fun z h => if_neg h
  have pu_no : ¬ (nx (ot t) = e ∨ nx (ot t) = ot e ∨ nx (ot t) = t) := nxL _ hu u_no
  have clL : Cls (loopS S nx e) (fstep (loopS S nx e) (face al nx)) k := by
    refine cls_maps f id ?_ ?_ ?_ ?_ ?_ ?_ (cls_merge hz0 hz1 alone hn)
    · rintro z v (⟨hz, rfl⟩ | ⟨rfl, rfl⟩)
      · show Eqv _ (f z) (f (nx (ot z)))
        by_cases c : z = e ∨ z = ot e ∨ z = t
        · rw [f_b z c]
          rcases (zmem z).mp c with q | q | q
          · rw [q, f0, f_b z0 ((zmem z0).mpr (.inl rfl))]; exact .refl _
          · rw [q, f1, f_b t (.inr (.inr rfl))]; exact .refl _
          · rw [q, f_o _ pu_no]
            exact .step ⟨uL, by unfold face; rw [alu]⟩
        · rw [f_o z c]
          by_cases c2 : z = ot t
          · rw [c2, ot_ot, f2, f_b z1 ((zmem z1).mpr (.inr (.inl rfl)))]; exact .refl _
          · have h1 := otL z hz c c2
            rw [f_o _ (nxL _ (M.ca z hz) h1)]
            exact .step ⟨(memL z).mpr ⟨hz, c⟩, by unfold face; rw [alz z c2]⟩
      · show Eqv _ (f z) (f v)
        rw [f_b z ((zmem z).mpr (.inl rfl)), f_b v ((zmem v).mpr (.inr (.inl rfl)))]; exact .refl _
    · rintro z v ⟨hz, rfl⟩
      obtain ⟨zS, zn⟩ := (memL z).mp hz
      show Eqv _ z (nx (al z))
      have up : ∀ {a b}, Rim S nx a b → Eqv (plusPair (fstep S (face ot nx)) z0 z1) a b := fun q => Eqv.mono (fun _ _ q => .step (.inl q)) q
      by_cases c2 : z = ot t
      · rw [c2, alu]
        exact up (s_u.trans (s_1.trans s_t))
      · rw [alz z c2]
        exact up (st z zS)
    · intro z hz
      by_cases c : z = e ∨ z = ot e ∨ z = t
      · rw [f_b z c]; exact uL
      · rw [f_o z c]; exact (memL z).mpr ⟨hz, c⟩
    · intro z hz
      exact ((memL z).mp hz).1
    · intro z hz
      show Eqv _ (f z) z
      rw [f_o z ((memL z).mp hz).2]; exact .refl _
    · intro z hz
      show Eqv _ (f z) z
      have up : ∀ {a b}, Rim S nx a b → Eqv (plusPair (fstep S (face ot nx)) z0 z1) a b := fun q => Eqv.mono (fun _ _ q => .step (.inl q)) q
      by_cases c : z = e ∨ z = ot e ∨ z = t
      · rw [f_b z c]
        rcases (zmem z).mp c with q | q | q
        · rw [q]
          exact (up s_u).trans (Eqv.symm (.step (.inr ⟨rfl, rfl⟩)))
        · rw [q]; exact up s_u
        · rw [q]; exact up (s_u.trans s_1)
      · rw [f_o z c]; exact .refl _
  have cnL : ∀ u ∈ loopS S nx e, ∀ v ∈ loopS S nx e, Eqv (cs (loopS S nx e) al nx) u v := by
    intro u hu' v hv'
    obtain ⟨uS, un⟩ := (memL u).mp hu'
    obtain ⟨vS, vn⟩ := (memL v).mp hv'
    have q := Eqv.map (f := f) (r' := cs (loopS S nx e) al nx) (fun z w h => ?_) (W.conn u uS v vS)
    · rw [f_o u un, f_o v vn] at q
      exact q
    · obtain ⟨hz, h | h⟩ := h
      · subst h
        by_cases c : z = e ∨ z = ot e ∨ z = t
        · rw [f_b z c]
          rcases c with q | q | q
          · rw [q, f_b _ (.inr (.inl rfl))]; exact .refl _
          · rw [q, ot_ot, f_b _ (.inl rfl)]; exact .refl _
          · rw [q, f_o _ u_no]; exact .refl _
        · rw [f_o z c]
          by_cases c2 : z = ot t
          · rw [c2, ot_ot, f_b t (.inr (.inr rfl))]; exact .refl _
          · rw [f_o _ (otL z hz c c2)]
            exact .step ⟨(memL z).mpr ⟨hz, c⟩, .inl (alz z c2).symm⟩
      · subst h
        by_cases c : z = e ∨ z = ot e ∨ z = t
        · rw [f_b z c, f_b _ ((cor z hz).mpr c)]; exact .refl _
        · rw [f_o z c, f_o _ (nxL z hz c)]
          exact .step ⟨(memL z).mpr ⟨hz, c⟩, .inr rfl⟩
  have lenL : (loopS S nx e).length + 3 = S.length := by
    unfold loopS
    rw [et]
    exact len_ne3 M.nd he ho ht hoe.symm te.symm to.symm
  -- the corner of u
  have pL := ML.cn _ uL
  have qL := ML.cn _ pL
  have hpq : ot (nx (ot t)) ≠ nx (nx (ot t)) := fun z => alone (by
    have hp := M.cn _ hu
    have hq := M.cn _ hp
    have h3 := M.n3 _ hu
    have oq : ot (nx (nx (ot t))) = nx (ot t) := by rw [← z, ot_ot]
    refine six_ends W [e, ot e, t, ot t, nx (ot t), nx (nx (ot t))] rfl e he List.mem_cons_self (fun x hx => ?_) (fun x hx => ⟨fun q => ?_, fun q => ?_⟩) hz0 hz1
    · have c3 : ∀ x, (x = e ∨ x = ot e ∨ x = t) → (nx x = e ∨ nx x = ot e ∨ nx x = t) := fun x h => (cor x (by rcases h with h | h | h <;> rw [h]; exact he; exact ho; exact ht)).mpr h
      simp only [List.mem_cons, List.not_mem_nil, or_false] at hx ⊢
      rcases hx with rfl | rfl | rfl | rfl | rfl | rfl
      · exact ⟨.inr (.inl rfl), by rcases c3 _ (.inl rfl) with h | h | h <;> simp [h]⟩
      · exact ⟨.inl (ot_ot e), by rcases c3 _ (.inr (.inl rfl)) with h | h | h <;> simp [h]⟩
      · exact ⟨by simp, by rcases c3 _ (.inr (.inr rfl)) with h | h | h <;> simp [h]⟩
      · exact ⟨by rw [ot_ot]; simp, by simp⟩
      · exact ⟨by rw [z]; simp, by simp⟩
      · exact ⟨by rw [oq]; simp, by rw [h3]; simp⟩
    · simp only [List.mem_cons, List.not_mem_nil, or_false] at q ⊢
      have back : x = ot (ot x) := (ot_ot x).symm
      rcases q with q | q | q | q | q | q
      · rw [back, q]; simp
      · rw [back, q, ot_ot]; simp
      · rw [back, q]; simp
      · rw [back, q, ot_ot]; simp
      · rw [back, q, z]; simp
      · rw [back, q, oq]; simp
    · simp only [List.mem_cons, List.not_mem_nil, or_false] at q ⊢
      by_cases c : nx x = e ∨ nx x = ot e ∨ nx x = t
      · rcases (cor x hx).mp c with h | h | h <;> simp [h]
      · rcases q with q | q | q | q | q | q
        · exact absurd (.inl q) c
        · exact absurd (.inr (.inl q)) c
        · exact absurd (.inr (.inr q)) c
        · rw [M.ninj hx hq (q.trans h3.symm)]; simp
        · rw [M.ninj hx hu q]; simp
        · rw [M.ninj hx hp q]; simp)
  have D : Mend (loopS S nx e) al nx (ot t) (mX nx (ot t)) (mY nx (ot t)) (ot (mY nx (ot t))) := mend_mk ML uL alu (alz _ (ML.n1 _ uL)) (alz _ (ML.n2 uL)) hpq
  have lenM := mend_len D
  have al2 : ∀ x ∈ m1S (loopS S nx e) nx (ot t), ot x = al x := fun x hx => (alz x (mem_mendS.mp hx).2.1).symm
  refine ⟨by rw [et]; exact ML, by rw [et]; exact D, ?_, by
    have l1 : (m1S (loopS S nx e) nx (ot t)).length + 3 = (loopS S nx e).length := lenM
    unfold burstLS
    rw [et]
    omega⟩
  unfold burstLS burstLN
  rw [et]
  refine ⟨map_al (mend_map D) al2, ?_, fun u hu v hv => conn_al al2 (mend_conn D cnL u hu v hv), ⟨k, cls_al al2 (mend_cls D clL), by
    have l1 : (m1S (loopS S nx e) nx (ot t)).length + 3 = (loopS S nx e).length := lenM
    omega⟩, fun x hx => W.pos x ((memL x).mp (mem_mendS.mp hx).1).1⟩
  intro z
  have z0' : (m1S (loopS S nx e) nx (ot t)).length = 0 := by rw [z]; rfl
  have l1 : (m1S (loopS S nx e) nx (ot t)).length + 3 = (loopS S nx e).length := lenM
  have k0 : k + 1 = 1 := by omega
  rw [k0] at hn
  exact alone (cls_one hn hz0 hz1)

/-! WebB: bubbles blown and parted. Plain Lean. -/
theorem swap_swap {f : Int → Int} {a b : Int} (h : a ≠ b) : swapF (swapF f a b) a b = f := by
  funext z
  unfold swapF
  by_cases c1 : z = a
  · rw [if_pos c1, if_neg h.symm, if_pos rfl, c1]
  · rw [if_neg c1]
    by_cases c2 : z = b
    · rw [if_pos c2, if_pos rfl, c2]
    · rw [if_neg c2, if_neg c1, if_neg c2]
/-- a film put in whose cutting gives n faces, both its ends on one -/
theorem add_cls {S : List Int} {nx : Int → Int} {N N1 : Int} {n : Nat} (M : Map S ot nx) (hN : N ∈ S) (hN1 : N1 ∈ S) (h1 : ot N = N1) (h2 : ot N1 = N) (c : Cls S (fstep S (face (cutA ot N N1) nx)) n) (e : Eqv (fstep S (face (cutA ot N N1) nx)) N N1) :
    Cls S (fstep S (face ot nx)) (n + 1) ∧ ¬ Eqv (fstep S (face ot nx)) N N1 := by
  have hne : N ≠ N1 := fun z => ot_ne N (h1.trans z.symm)
  have P := (cut_map M hN hN1 h1 h2).perm
  have q := swap_up P hN hN1 hne e c
  have q2 := swap_split P hN hN1 hne e
  have E : swapF (face (cutA ot N N1) nx) N N1 = face ot nx := by rw [cut_face h1 h2, swap_swap hne]
  rw [E] at q q2
  exact ⟨q, q2⟩
def New6 (L z : Int) : Prop := z = L ∨ z = L + 1 ∨ z = L + 2 ∨ z = L + 3 ∨ z = L + 4 ∨ z = L + 5
theorem nodup6 (L : Int) : [L, L + 5, L + 2, L + 1, L + 4, L + 3].Nodup := by
  refine List.Pairwise.cons ?_ (List.Pairwise.cons ?_ (List.Pairwise.cons ?_ (List.Pairwise.cons ?_ (List.Pairwise.cons ?_ (List.Pairwise.cons ?_ List.Pairwise.nil)))))
  all_goals
    intro a h
    simp only [List.mem_cons, List.not_mem_nil, or_false] at h
    try omega

theorem ot_L {L : Int} (h : L % 2 = 0) : ot L = L + 1 ∧ ot (L + 1) = L ∧ ot (L + 2) = L + 3 ∧ ot (L + 3) = L + 2 ∧ ot (L + 4) = L + 5 ∧ ot (L + 5) = L + 4 := by
  unfold ot
  refine ⟨?_, ?_, ?_, ?_, ?_, ?_⟩
  · rw [if_pos (by omega)]
  · rw [if_neg (by omega)]; omega
  · rw [if_pos (by omega)]; omega
  · rw [if_neg (by omega)]; omega
  · rw [if_pos (by omega)]; omega
  · rw [if_neg (by omega)]; omega
/-! ### blown -/
def blowF (nx : Int → Int) (e L : Int) : Int → Int := seatF (seatF (seatF nx e L (L + 5)) (nx e) (L + 2) (L + 1)) (nx (nx e)) (L + 4) (L + 3)
def blowS (S : List Int) (L : Int) : List Int := S ++ [L, L + 5, L + 2, L + 1, L + 4, L + 3]
theorem mem_blowS {S : List Int} {L z : Int} : z ∈ blowS S L ↔ z ∈ S ∨ New6 L z := by
  unfold blowS New6
  rw [List.mem_append]
  simp only [List.mem_cons, List.not_mem_nil, or_false]
  constructor
  · rintro (q | q | q | q | q | q | q)
    · exact .inl q
    · exact .inr (.inl q)
    · exact .inr (.inr (.inr (.inr (.inr (.inr q)))))
    · exact .inr (.inr (.inr (.inl q)))
    · exact .inr (.inr (.inl q))
    · exact .inr (.inr (.inr (.inr (.inr (.inl q)))))
    · exact .inr (.inr (.inr (.inr (.inl q))))
  · rintro (q | q | q | q | q | q | q)
    · exact .inl q
    · exact .inr (.inl q)
    · exact .inr (.inr (.inr (.inr (.inl q))))
    · exact .inr (.inr (.inr (.inl q)))
    · exact .inr (.inr (.inr (.inr (.inr (.inr q)))))
    · exact .inr (.inr (.inr (.inr (.inr (.inl q)))))
    · exact .inr (.inr (.inl q))
structure BlowV (S : List Int) (nx nx' : Int → Int) (e a b L : Int) : Prop where
  he : e ∈ S
  ha : a ∈ S
  hb : b ∈ S
  ea : nx e = a
  ab : nx a = b
  be : nx b = e
  v_e : nx' e = L
  v_0 : nx' L = L + 5
  v_5 : nx' (L + 5) = e
  v_a : nx' a = L + 2
  v_2 : nx' (L + 2) = L + 1
  v_1 : nx' (L + 1) = a
  v_b : nx' b = L + 4
  v_4 : nx' (L + 4) = L + 3
  v_3 : nx' (L + 3) = b
  v_o : ∀ z ∈ S, z ≠ e → z ≠ a → z ≠ b → nx' z = nx z
  n_ea : e ≠ a
  n_eb : e ≠ b
  n_ab : a ≠ b
theorem blow_vals {S : List Int} {nx : Int → Int} {e L : Int} (M : Map S ot nx) (he : e ∈ S) (hL : ∀ x ∈ S, x < L) : BlowV S nx (blowF nx e L) e (nx e) (nx (nx e)) L := by
  have ha := M.cn e he
  have hb := M.cn _ ha
  have n1 := (M.n1 e he).symm
  have n2 := (M.n2 he).symm
  have n3 := (M.n12 he).symm
  generalize hA : nx e = a at *
  generalize hB : nx a = b at *
  have le := hL e he
  have la := hL a ha
  have lb := hL b hb
  have E : blowF nx e L = seatF (seatF (seatF nx e L (L + 5)) a (L + 2) (L + 1)) b (L + 4) (L + 3) := by unfold blowF; rw [hA, hB]
  rw [E]
  refine ⟨he, ha, hb, hA, hB, by rw [← hB, ← hA]; exact M.n3 e he, ?_, ?_, ?_, ?_, ?_, ?_, ?_, ?_, ?_, fun z hz z1 z2 z3 => ?_, n1, n2, n3⟩
  · rw [seat_o n2 (by omega) (by omega), seat_o n1 (by omega) (by omega), seat_1 (by omega) (by omega)]
  · rw [seat_o (by omega) (by omega) (by omega), seat_o (by omega) (by omega) (by omega), seat_2 (by omega)]
  · rw [seat_o (by omega) (by omega) (by omega), seat_o (by omega) (by omega) (by omega), seat_3]
  · rw [seat_o n3 (by omega) (by omega), seat_1 (by omega) (by omega)]
  · rw [seat_o (by omega) (by omega) (by omega), seat_2 (by omega)]
  · rw [seat_o (by omega) (by omega) (by omega), seat_3]
  · rw [seat_1 (by omega) (by omega)]
  · rw [seat_2 (by omega)]
  · rw [seat_3]
  · have lz := hL z hz
    rw [seat_o z3 (by omega) (by omega), seat_o z2 (by omega) (by omega), seat_o z1 (by omega) (by omega)]
theorem blow_web {S : List Int} {nx : Int → Int} {e L : Int} (W : Web S nx) (he : e ∈ S) (hL : ∀ x ∈ S, x < L) (h0 : 0 ≤ L) (h2 : L % 2 = 0) : Web (blowS S L) (blowF nx e L) ∧ (blowS S L).length = S.length + 6 := by
  have M := W.map
  have V := blow_vals M he hL
  obtain ⟨o0, o1, o2, o3, o4, o5⟩ := ot_L h2
  generalize nx e = a at V
  generalize nx a = b at V
  generalize blowF nx e L = nx' at V ⊢
  have mS : ∀ z, z ∈ S → z ∈ blowS S L := fun z h => mem_blowS.mpr (.inl h)
  have m0 : L ∈ blowS S L := mem_blowS.mpr (.inr (.inl rfl))
  have m1 : L + 1 ∈ blowS S L := mem_blowS.mpr (.inr (.inr (.inl rfl)))
  have m2 : L + 2 ∈ blowS S L := mem_blowS.mpr (.inr (.inr (.inr (.inl rfl))))
  have m3 : L + 3 ∈ blowS S L := mem_blowS.mpr (.inr (.inr (.inr (.inr (.inl rfl)))))
  have m4 : L + 4 ∈ blowS S L := mem_blowS.mpr (.inr (.inr (.inr (.inr (.inr (.inl rfl))))))
  have m5 : L + 5 ∈ blowS S L := mem_blowS.mpr (.inr (.inr (.inr (.inr (.inr (.inr rfl))))))
  have off : ∀ z ∈ S, ¬ New6 L z := fun z hz q => by
    have := hL z hz
    rcases q with q | q | q | q | q | q <;> omega
  have no3 : ∀ z ∈ S, z ≠ e → z ≠ a → z ≠ b → nx z ≠ e ∧ nx z ≠ a ∧ nx z ≠ b := fun z hz z1 z2 z3 =>
    ⟨fun q => z3 (M.ninj hz V.hb (q.trans V.be.symm)), fun q => z1 (M.ninj hz V.he (q.trans V.ea.symm)), fun q => z2 (M.ninj hz V.ha (q.trans V.ab.symm))⟩
  have nd : (blowS S L).Nodup := by
    unfold blowS
    refine List.nodup_append.mpr ⟨M.nd, ?_, fun x hx y hy => ?_⟩
    · exact nodup6 L
    · have := hL x hx
      simp only [List.mem_cons, List.not_mem_nil, or_false] at hy
      omega
  have M' : Map (blowS S L) ot nx' := by
    refine ⟨nd, fun z hz => ?_, fun z hz => ?_, fun z _ => ot_ot z, fun z hz => ?_, fun z hz => ?_⟩
    · rcases mem_blowS.mp hz with q | q | q | q | q | q | q
      · exact mS _ (M.ca z q)
      · rw [q, o0]; exact m1
      · rw [q, o1]; exact m0
      · rw [q, o2]; exact m3
      · rw [q, o3]; exact m2
      · rw [q, o4]; exact m5
      · rw [q, o5]; exact m4
    · rcases mem_blowS.mp hz with q | q | q | q | q | q | q
      · by_cases z1 : z = e
        · rw [z1, V.v_e]; exact m0
        · by_cases z2 : z = a
          · rw [z2, V.v_a]; exact m2
          · by_cases z3 : z = b
            · rw [z3, V.v_b]; exact m4
            · rw [V.v_o z q z1 z2 z3]; exact mS _ (M.cn z q)
      · rw [q, V.v_0]; exact m5
      · rw [q, V.v_1]; exact mS _ V.ha
      · rw [q, V.v_2]; exact m1
      · rw [q, V.v_3]; exact mS _ V.hb
      · rw [q, V.v_4]; exact m3
      · rw [q, V.v_5]; exact mS _ V.he
    · rcases mem_blowS.mp hz with q | q | q | q | q | q | q
      · by_cases z1 : z = e
        · rw [z1, V.v_e, V.v_0, V.v_5]
        · by_cases z2 : z = a
          · rw [z2, V.v_a, V.v_2, V.v_1]
          · by_cases z3 : z = b
            · rw [z3, V.v_b, V.v_4, V.v_3]
            · obtain ⟨w1, w2, w3⟩ := no3 z q z1 z2 z3
              obtain ⟨y1, y2, y3⟩ := no3 _ (M.cn z q) w1 w2 w3
              rw [V.v_o z q z1 z2 z3, V.v_o _ (M.cn z q) w1 w2 w3, V.v_o _ (M.cn _ (M.cn z q)) y1 y2 y3]
              exact M.n3 z q
      · rw [q, V.v_0, V.v_5, V.v_e]
      · rw [q, V.v_1, V.v_a, V.v_2]
      · rw [q, V.v_2, V.v_1, V.v_a]
      · rw [q, V.v_3, V.v_b, V.v_4]
      · rw [q, V.v_4, V.v_3, V.v_b]
      · rw [q, V.v_5, V.v_e, V.v_0]
    · have le := hL e V.he
      have la := hL a V.ha
      have lb := hL b V.hb
      rcases mem_blowS.mp hz with q | q | q | q | q | q | q
      · by_cases z1 : z = e
        · rw [z1, V.v_e]; omega
        · by_cases z2 : z = a
          · rw [z2, V.v_a]; omega
          · by_cases z3 : z = b
            · rw [z3, V.v_b]; omega
            · rw [V.v_o z q z1 z2 z3]; exact M.n1 z q
      · rw [q, V.v_0]; omega
      · rw [q, V.v_1]; omega
      · rw [q, V.v_2]; omega
      · rw [q, V.v_3]; omega
      · rw [q, V.v_4]; omega
      · rw [q, V.v_5]; omega
  have Mc := cut_map M' m0 m1 o0 o1
  let al := cutA ot L (L + 1)
  have al0 : al L = L := if_pos rfl
  have al1 : al (L + 1) = L + 1 := by show (if L + 1 = L then L else if L + 1 = L + 1 then L + 1 else ot (L + 1)) = L + 1; rw [if_neg (by omega), if_pos rfl]
  have alz : ∀ z, z ≠ L → z ≠ L + 1 → al z = ot z := fun z z1 z2 => by show (if z = L then L else if z = L + 1 then L + 1 else ot z) = ot z; rw [if_neg z1, if_neg z2]
  have sc : ∀ z ∈ blowS S L, Eqv (fstep (blowS S L) (face al nx')) z (nx' (al z)) := fun z hz => .step ⟨hz, rfl⟩
  have t0 : Eqv (fstep (blowS S L) (face al nx')) L (L + 5) := by have := sc L m0; rw [al0, V.v_0] at this; exact this
  have t1 : Eqv (fstep (blowS S L) (face al nx')) (L + 1) a := by have := sc _ m1; rw [al1, V.v_1] at this; exact this
  have t5 : Eqv (fstep (blowS S L) (face al nx')) (L + 5) (L + 3) := by have := sc _ m5; rw [alz _ (by omega) (by omega), o5, V.v_4] at this; exact this
  have t3 : Eqv (fstep (blowS S L) (face al nx')) (L + 3) (L + 1) := by have := sc _ m3; rw [alz _ (by omega) (by omega), o3, V.v_2] at this; exact this
  have t4 : Eqv (fstep (blowS S L) (face al nx')) (L + 4) e := by have := sc _ m4; rw [alz _ (by omega) (by omega), o4, V.v_5] at this; exact this
  have t2 : Eqv (fstep (blowS S L) (face al nx')) (L + 2) b := by have := sc _ m2; rw [alz _ (by omega) (by omega), o2, V.v_3] at this; exact this
  let f : Int → Int := fun z => if z = L ∨ z = L + 5 ∨ z = L + 3 ∨ z = L + 1 then a else if z = L + 2 then b else if z = L + 4 then e else z
  have f_a : ∀ z, (z = L ∨ z = L + 5 ∨ z = L + 3 ∨ z = L + 1) → f z = a := fun z h => if_pos h
  have f_2 : f (L + 2) = b := by show (if L + 2 = L ∨ L + 2 = L + 5 ∨ L + 2 = L + 3 ∨ L + 2 = L + 1 then a else if L + 2 = L + 2 then b else _) = b; rw [if_neg (by omega), if_pos rfl]
  have f_4 : f (L + 4) = e := by show (if L + 4 = L ∨ L + 4 = L + 5 ∨ L + 4 = L + 3 ∨ L + 4 = L + 1 then a else if L + 4 = L + 2 then b else if L + 4 = L + 4 then e else _) = e; rw [if_neg (by omega), if_neg (by omega), if_pos rfl]
  have f_S : ∀ z ∈ S, f z = z := fun z hz => by
    have := hL z hz
    show (if z = L ∨ z = L + 5 ∨ z = L + 3 ∨ z = L + 1 then a else if z = L + 2 then b else if z = L + 4 then e else z) = z
    rw [if_neg (by omega), if_neg (by omega), if_neg (by omega)]
  have stO : ∀ z ∈ S, Rim S nx z (nx (ot z)) := fun z hz => .step ⟨hz, rfl⟩
  have hS_L : ∀ z ∈ S, z ≠ L ∧ z ≠ L + 1 := fun z hz => by have := hL z hz; exact ⟨by omega, by omega⟩
  -- old steps in the new, the film cut
  have hg : ∀ x y, fstep S (face ot nx) x y → Eqv (fstep (blowS S L) (face al nx')) x y := by
    rintro z v ⟨hz, rfl⟩
    show Eqv _ z (nx (ot z))
    have hz1 := M.ca z hz
    have s := sc z (mS z hz)
    rw [alz z (hS_L z hz).1 (hS_L z hz).2] at s
    by_cases c1 : ot z = e
    · rw [c1, V.v_e] at s
      rw [c1, V.ea]
      exact s.trans (t0.trans (t5.trans (t3.trans t1)))
    · by_cases c2 : ot z = a
      · rw [c2, V.v_a] at s
        rw [c2, V.ab]
        exact s.trans t2
      · by_cases c3 : ot z = b
        · rw [c3, V.v_b] at s
          rw [c3, V.be]
          exact s.trans t4
        · rw [V.v_o _ hz1 c1 c2 c3] at s
          exact s
  have hf : ∀ x y, fstep (blowS S L) (face al nx') x y → Eqv (fstep S (face ot nx)) (f x) (f y) := by
    rintro z v ⟨hz, rfl⟩
    show Eqv _ (f z) (f (nx' (al z)))
    rcases mem_blowS.mp hz with q | q | q | q | q | q | q
    · rw [f_S z q, alz z (hS_L z q).1 (hS_L z q).2]
      have s := stO z q
      have hz1 := M.ca z q
      by_cases c1 : ot z = e
      · rw [c1, V.ea] at s
        rw [c1, V.v_e, f_a L (.inl rfl)]
        exact s
      · by_cases c2 : ot z = a
        · rw [c2, V.ab] at s
          rw [c2, V.v_a, f_2]
          exact s
        · by_cases c3 : ot z = b
          · rw [c3, V.be] at s
            rw [c3, V.v_b, f_4]
            exact s
          · rw [V.v_o _ hz1 c1 c2 c3, f_S _ (M.cn _ hz1)]
            exact s
    · rw [q, al0, V.v_0, f_a L (.inl rfl), f_a (L + 5) (.inr (.inl rfl))]; exact .refl _
    · rw [q, al1, V.v_1, f_a (L + 1) (.inr (.inr (.inr rfl))), f_S a V.ha]; exact .refl _
    · rw [q, alz _ (by omega) (by omega), o2, V.v_3, f_2, f_S b V.hb]; exact .refl _
    · rw [q, alz _ (by omega) (by omega), o3, V.v_2, f_a (L + 3) (.inr (.inr (.inl rfl))), f_a (L + 1) (.inr (.inr (.inr rfl)))]; exact .refl _
    · rw [q, alz _ (by omega) (by omega), o4, V.v_5, f_4, f_S e V.he]; exact .refl _
    · rw [q, alz _ (by omega) (by omega), o5, V.v_4, f_a (L + 5) (.inr (.inl rfl)), f_a (L + 3) (.inr (.inr (.inl rfl)))]; exact .refl _
  obtain ⟨n, hn, hl⟩ := W.eul
  have cc : Cls (blowS S L) (fstep (blowS S L) (face al nx')) n := by
    refine cls_maps id f hg hf (fun z hz => mS z hz) ?_ ?_ ?_ hn
    · intro z hz
      rcases mem_blowS.mp hz with q | q | q | q | q | q | q
      · rw [f_S z q]; exact q
      · rw [f_a z (.inl q)]; exact V.ha
      · rw [f_a z (.inr (.inr (.inr q)))]; exact V.ha
      · rw [q, f_2]; exact V.hb
      · rw [f_a z (.inr (.inr (.inl q)))]; exact V.ha
      · rw [q, f_4]; exact V.he
      · rw [f_a z (.inr (.inl q))]; exact V.ha
    · intro z hz
      show Eqv _ (f z) z
      rcases mem_blowS.mp hz with q | q | q | q | q | q | q
      · rw [f_S z q]; exact .refl _
      · rw [f_a z (.inl q), q]; exact (t0.trans (t5.trans (t3.trans t1))).symm
      · rw [f_a z (.inr (.inr (.inr q))), q]; exact t1.symm
      · rw [q, f_2]; exact t2.symm
      · rw [f_a z (.inr (.inr (.inl q))), q]; exact (t3.trans t1).symm
      · rw [q, f_4]; exact t4.symm
      · rw [f_a z (.inr (.inl q)), q]; exact (t5.trans (t3.trans t1)).symm
    · intro z hz
      show Eqv _ (f z) z
      rw [f_S z hz]; exact .refl _
  have fin := add_cls M' m0 m1 o0 o1 cc (t0.trans (t5.trans t3))
  have len : (blowS S L).length = S.length + 6 := by unfold blowS; rw [List.length_append]; rfl
  refine ⟨⟨M', List.ne_nil_of_mem m0, ?_, ⟨n + 1, fin.1, by rw [len]; omega⟩, fun z hz => ?_⟩, len⟩
  · -- connected
    have cn : ∀ z ∈ blowS S L, Eqv (cs (blowS S L) ot nx') z (nx' z) := fun z hz => .step ⟨hz, .inr rfl⟩
    have co : ∀ z ∈ blowS S L, Eqv (cs (blowS S L) ot nx') z (ot z) := fun z hz => .step ⟨hz, .inl rfl⟩
    have k1 := cn e (mS _ V.he); rw [V.v_e] at k1
    have k2 := co L m0; rw [o0] at k2
    have k3 := cn _ m1; rw [V.v_1] at k3
    have k4 := cn a (mS _ V.ha); rw [V.v_a] at k4
    have k5 := co _ m2; rw [o2] at k5
    have k6 := cn _ m3; rw [V.v_3] at k6
    have k7 := cn b (mS _ V.hb); rw [V.v_b] at k7
    have k8 := co _ m4; rw [o4] at k8
    have k9 := cn _ m5; rw [V.v_5] at k9
    have old : ∀ u v, Eqv (cs S ot nx) u v → Eqv (cs (blowS S L) ot nx') u v := fun u v q => Eqv.mono (fun z w h => by
      obtain ⟨hz, h | h⟩ := h
      · exact .step ⟨mS z hz, .inl h⟩
      · subst h
        by_cases z1 : z = e
        · rw [z1, V.ea]; exact k1.trans (k2.trans k3)
        · by_cases z2 : z = a
          · rw [z2, V.ab]; exact k4.trans (k5.trans k6)
          · by_cases z3 : z = b
            · rw [z3, V.be]; exact k7.trans (k8.trans k9)
            · have := cn z (mS z hz)
              rw [V.v_o z hz z1 z2 z3] at this
              exact this) q
    have toS : ∀ z ∈ blowS S L, Eqv (cs (blowS S L) ot nx') e z := fun z hz => by
      rcases mem_blowS.mp hz with q | q | q | q | q | q | q
      · exact old _ _ (W.conn e V.he z q)
      · rw [q]; exact k1
      · rw [q]; exact k1.trans k2
      · rw [q]; exact (old _ _ (W.conn e V.he a V.ha)).trans k4
      · rw [q]; exact (old _ _ (W.conn e V.he a V.ha)).trans (k4.trans k5)
      · rw [q]; exact (old _ _ (W.conn e V.he b V.hb)).trans k7
      · rw [q]; exact (old _ _ (W.conn e V.he b V.hb)).trans (k7.trans k8)
    exact fun u hu v hv => (toS u hu).symm.trans (toS v hv)
  · rcases mem_blowS.mp hz with q | q | q | q | q | q | q
    · exact W.pos z q
    all_goals omega
/-! ### parted -/
def subP (p q L v : Int) : Int := if v = p then L + 1 else if v = q then L + 3 else v
def partF (nx : Int → Int) (one two L : Int) : Int → Int := fun z =>
  if z = ot one then L + 4 else if z = ot two then L + 5 else if z = L then ot one else if z = L + 1 then subP (ot one) (ot two) L (nx (ot one)) else if z = L + 2 then ot two
  else if z = L + 3 then subP (ot one) (ot two) L (nx (ot two)) else if z = L + 4 then L else if z = L + 5 then L + 2 else subP (ot one) (ot two) L (nx z)
structure PartV (S : List Int) (nx nx' : Int → Int) (one two p q L : Int) : Prop where
  h1 : one ∈ S
  h2 : two ∈ S
  hp : p ∈ S
  hq : q ∈ S
  o1 : ot one = p
  o2 : ot two = q
  op : ot p = one
  oq : ot q = two
  v_p : nx' p = L + 4
  v_q : nx' q = L + 5
  v_0 : nx' L = p
  v_1 : nx' (L + 1) = subP p q L (nx p)
  v_2 : nx' (L + 2) = q
  v_3 : nx' (L + 3) = subP p q L (nx q)
  v_4 : nx' (L + 4) = L
  v_5 : nx' (L + 5) = L + 2
  v_o : ∀ z ∈ S, z ≠ p → z ≠ q → nx' z = subP p q L (nx z)
  n_pq : p ≠ q
  n_1p : one ≠ p
  n_1q : one ≠ q
  n_2p : two ≠ p
  n_2q : two ≠ q
  n_12 : one ≠ two
theorem part_vals {S : List Int} {nx : Int → Int} {one two L : Int} (M : Map S ot nx) (h1 : one ∈ S) (h2 : two ∈ S) (hf : one / 2 ≠ two / 2) (hL : ∀ x ∈ S, x < L) : PartV S nx (partF nx one two L) one two (ot one) (ot two) L := by
  have hp := M.ca one h1
  have hq := M.ca two h2
  have lp := hL _ hp
  have lq := hL _ hq
  have d1 := ot_div one
  have d2 := ot_div two
  have npq : ot one ≠ ot two := fun z => hf (by rw [← d1, ← d2, z])
  refine ⟨h1, h2, hp, hq, rfl, rfl, ot_ot one, ot_ot two, ?_, ?_, ?_, ?_, ?_, ?_, ?_, ?_, fun z hz z1 z2 => ?_, npq, (ot_ne one).symm, fun z => hf (by rw [z, d2]), fun z => hf (by rw [z, d1]), (ot_ne two).symm, fun z => hf (by rw [z])⟩
  all_goals unfold partF
  · rw [if_pos rfl]
  · rw [if_neg npq.symm, if_pos rfl]
  · rw [if_neg (by omega), if_neg (by omega), if_pos rfl]
  · rw [if_neg (by omega), if_neg (by omega), if_neg (by omega), if_pos rfl]
  · rw [if_neg (by omega), if_neg (by omega), if_neg (by omega), if_neg (by omega), if_pos rfl]
  · rw [if_neg (by omega), if_neg (by omega), if_neg (by omega), if_neg (by omega), if_neg (by omega), if_pos rfl]
  · rw [if_neg (by omega), if_neg (by omega), if_neg (by omega), if_neg (by omega), if_neg (by omega), if_neg (by omega), if_pos rfl]
  · rw [if_neg (by omega), if_neg (by omega), if_neg (by omega), if_neg (by omega), if_neg (by omega), if_neg (by omega), if_neg (by omega), if_pos rfl]
  · have lz := hL z hz
    rw [if_neg z1, if_neg z2, if_neg (by omega), if_neg (by omega), if_neg (by omega), if_neg (by omega), if_neg (by omega), if_neg (by omega)]
theorem part_web {S : List Int} {nx : Int → Int} {one two L : Int} (W : Web S nx) (h1 : one ∈ S) (h2 : two ∈ S) (hf : one / 2 ≠ two / 2) (hr : Rim S nx one two) (hL : ∀ x ∈ S, x < L) (h0 : 0 ≤ L) (hL2 : L % 2 = 0) :
    Web (blowS S L) (partF nx one two L) ∧ ¬ Rim (blowS S L) (partF nx one two L) (L + 4) (L + 5) := by
  have M := W.map
  have V := part_vals M h1 h2 hf hL
  obtain ⟨o0, o1, o2, o3, o4, o5⟩ := ot_L hL2
  generalize ot one = p at V
  generalize ot two = q at V
  generalize partF nx one two L = nx' at V ⊢
  have mS : ∀ z, z ∈ S → z ∈ blowS S L := fun z h => mem_blowS.mpr (.inl h)
  have m0 : L ∈ blowS S L := mem_blowS.mpr (.inr (.inl rfl))
  have m1 : L + 1 ∈ blowS S L := mem_blowS.mpr (.inr (.inr (.inl rfl)))
  have m2 : L + 2 ∈ blowS S L := mem_blowS.mpr (.inr (.inr (.inr (.inl rfl))))
  have m3 : L + 3 ∈ blowS S L := mem_blowS.mpr (.inr (.inr (.inr (.inr (.inl rfl)))))
  have m4 : L + 4 ∈ blowS S L := mem_blowS.mpr (.inr (.inr (.inr (.inr (.inr (.inl rfl))))))
  have m5 : L + 5 ∈ blowS S L := mem_blowS.mpr (.inr (.inr (.inr (.inr (.inr (.inr rfl))))))
  have lp := hL p V.hp
  have lq := hL q V.hq
  -- the ends put in the places of p and q
  have sub_p : subP p q L p = L + 1 := if_pos rfl
  have sub_q : subP p q L q = L + 3 := by unfold subP; rw [if_neg V.n_pq.symm, if_pos rfl]
  have sub_o : ∀ v, v ≠ p → v ≠ q → subP p q L v = v := fun v v1 v2 => by unfold subP; rw [if_neg v1, if_neg v2]
  have sub_m : ∀ v ∈ S, subP p q L v ∈ blowS S L := fun v hv => by
    by_cases c1 : v = p
    · rw [c1, sub_p]; exact m1
    · by_cases c2 : v = q
      · rw [c2, sub_q]; exact m3
      · rw [sub_o v c1 c2]; exact mS v hv
  -- the next end of what was put in a place
  have conj : ∀ v ∈ S, nx' (subP p q L v) = subP p q L (nx v) := fun v hv => by
    by_cases c1 : v = p
    · rw [c1, sub_p]; exact V.v_1
    · by_cases c2 : v = q
      · rw [c2, sub_q]; exact V.v_3
      · rw [sub_o v c1 c2]; exact V.v_o v hv c1 c2
  have sub_inj : ∀ u ∈ S, ∀ v ∈ S, subP p q L u = subP p q L v → u = v := fun u hu v hv e => by
    have lu := hL u hu
    have lv := hL v hv
    unfold subP at e
    by_cases u1 : u = p <;> by_cases v1 : v = p
    · rw [u1, v1]
    · rw [if_pos u1, if_neg v1] at e
      by_cases v2 : v = q
      · rw [if_pos v2] at e; omega
      · rw [if_neg v2] at e; omega
    · rw [if_neg u1, if_pos v1] at e
      by_cases u2 : u = q
      · rw [if_pos u2] at e; omega
      · rw [if_neg u2] at e; omega
    · rw [if_neg u1, if_neg v1] at e
      by_cases u2 : u = q <;> by_cases v2 : v = q
      · rw [u2, v2]
      · rw [if_pos u2, if_neg v2] at e; omega
      · rw [if_neg u2, if_pos v2] at e; omega
      · rw [if_neg u2, if_neg v2] at e; exact e
  have nd : (blowS S L).Nodup := by
    unfold blowS
    refine List.nodup_append.mpr ⟨M.nd, ?_, fun x hx y hy => ?_⟩
    · exact nodup6 L
    · have := hL x hx
      simp only [List.mem_cons, List.not_mem_nil, or_false] at hy
      omega
  have M' : Map (blowS S L) ot nx' := by
    have cov : ∀ z ∈ blowS S L, (∃ v ∈ S, z = subP p q L v) ∨ z = p ∨ z = q ∨ z = L ∨ z = L + 2 ∨ z = L + 4 ∨ z = L + 5 := fun z hz => by
      rcases mem_blowS.mp hz with k | k | k | k | k | k | k
      · by_cases c1 : z = p
        · exact .inr (.inl c1)
        · by_cases c2 : z = q
          · exact .inr (.inr (.inl c2))
          · exact .inl ⟨z, k, (sub_o z c1 c2).symm⟩
      · exact .inr (.inr (.inr (.inl k)))
      · exact .inl ⟨p, V.hp, by rw [k, sub_p]⟩
      · exact .inr (.inr (.inr (.inr (.inl k))))
      · exact .inl ⟨q, V.hq, by rw [k, sub_q]⟩
      · exact .inr (.inr (.inr (.inr (.inr (.inl k)))))
      · exact .inr (.inr (.inr (.inr (.inr (.inr k)))))
    refine ⟨nd, fun z hz => ?_, fun z hz => ?_, fun z _ => ot_ot z, fun z hz => ?_, fun z hz => ?_⟩
    · rcases mem_blowS.mp hz with k | k | k | k | k | k | k
      · exact mS _ (M.ca z k)
      · rw [k, o0]; exact m1
      · rw [k, o1]; exact m0
      · rw [k, o2]; exact m3
      · rw [k, o3]; exact m2
      · rw [k, o4]; exact m5
      · rw [k, o5]; exact m4
    · rcases cov z hz with ⟨v, hv, k⟩ | k | k | k | k | k | k
      · rw [k, conj v hv]; exact sub_m _ (M.cn v hv)
      · rw [k, V.v_p]; exact m4
      · rw [k, V.v_q]; exact m5
      · rw [k, V.v_0]; exact mS _ V.hp
      · rw [k, V.v_2]; exact mS _ V.hq
      · rw [k, V.v_4]; exact m0
      · rw [k, V.v_5]; exact m2
    · rcases cov z hz with ⟨v, hv, k⟩ | k | k | k | k | k | k
      · rw [k, conj v hv, conj _ (M.cn v hv), conj _ (M.cn _ (M.cn v hv)), M.n3 v hv]
      · rw [k, V.v_p, V.v_4, V.v_0]
      · rw [k, V.v_q, V.v_5, V.v_2]
      · rw [k, V.v_0, V.v_p, V.v_4]
      · rw [k, V.v_2, V.v_q, V.v_5]
      · rw [k, V.v_4, V.v_0, V.v_p]
      · rw [k, V.v_5, V.v_2, V.v_q]
    · rcases cov z hz with ⟨v, hv, k⟩ | k | k | k | k | k | k
      · rw [k, conj v hv]; exact fun e => M.n1 v hv (sub_inj _ (M.cn v hv) v hv e)
      · rw [k, V.v_p]; omega
      · rw [k, V.v_q]; omega
      · rw [k, V.v_0]; omega
      · rw [k, V.v_2]; omega
      · rw [k, V.v_4]; omega
      · rw [k, V.v_5]; omega
  have Mc := cut_map M' m4 m5 o4 o5
  let al := cutA ot (L + 4) (L + 5)
  have al4 : al (L + 4) = L + 4 := if_pos rfl
  have al5 : al (L + 5) = L + 5 := by show (if L + 5 = L + 4 then L + 4 else if L + 5 = L + 5 then L + 5 else ot (L + 5)) = L + 5; rw [if_neg (by omega), if_pos rfl]
  have alz : ∀ z, z ≠ L + 4 → z ≠ L + 5 → al z = ot z := fun z z1 z2 => by show (if z = L + 4 then L + 4 else if z = L + 5 then L + 5 else ot z) = ot z; rw [if_neg z1, if_neg z2]
  have alS : ∀ z ∈ S, al z = ot z := fun z hz => by have := hL z hz; exact alz z (by omega) (by omega)
  have sc : ∀ z ∈ blowS S L, Eqv (fstep (blowS S L) (face al nx')) z (nx' (al z)) := fun z hz => .step ⟨hz, rfl⟩
  have t1 : Eqv (fstep (blowS S L) (face al nx')) (L + 1) p := by have := sc _ m1; rw [alz _ (by omega) (by omega), o1, V.v_0] at this; exact this
  have t3 : Eqv (fstep (blowS S L) (face al nx')) (L + 3) q := by have := sc _ m3; rw [alz _ (by omega) (by omega), o3, V.v_2] at this; exact this
  have sb : ∀ v, Eqv (fstep (blowS S L) (face al nx')) (subP p q L v) v := fun v => by
    by_cases c1 : v = p
    · rw [c1, sub_p]; exact t1
    · by_cases c2 : v = q
      · rw [c2, sub_q]; exact t3
      · rw [sub_o v c1 c2]; exact .refl _
  have t0 : Eqv (fstep (blowS S L) (face al nx')) L (nx p) := by have := sc _ m0; rw [alz _ (by omega) (by omega), o0, V.v_1] at this; exact this.trans (sb _)
  have t2 : Eqv (fstep (blowS S L) (face al nx')) (L + 2) (nx q) := by have := sc _ m2; rw [alz _ (by omega) (by omega), o2, V.v_3] at this; exact this.trans (sb _)
  have t4 : Eqv (fstep (blowS S L) (face al nx')) (L + 4) L := by have := sc _ m4; rw [al4, V.v_4] at this; exact this
  have t5 : Eqv (fstep (blowS S L) (face al nx')) (L + 5) (L + 2) := by have := sc _ m5; rw [al5, V.v_5] at this; exact this
  have tone : Eqv (fstep (blowS S L) (face al nx')) one (L + 4) := by have := sc _ (mS _ V.h1); rw [alS one V.h1, V.o1, V.v_p] at this; exact this
  have ttwo : Eqv (fstep (blowS S L) (face al nx')) two (L + 5) := by have := sc _ (mS _ V.h2); rw [alS two V.h2, V.o2, V.v_q] at this; exact this
  have stO : ∀ z ∈ S, Rim S nx z (nx (ot z)) := fun z hz => .step ⟨hz, rfl⟩
  have hg : ∀ x y, fstep S (face ot nx) x y → Eqv (fstep (blowS S L) (face al nx')) x y := by
    rintro z v ⟨hz, rfl⟩
    show Eqv _ z (nx (ot z))
    by_cases c1 : z = one
    · rw [c1, V.o1]; exact tone.trans (t4.trans t0)
    · by_cases c2 : z = two
      · rw [c2, V.o2]; exact ttwo.trans (t5.trans t2)
      · have s := sc z (mS z hz)
        rw [alS z hz] at s
        have n1 : ot z ≠ p := fun e => c1 (by rw [← ot_ot z, e, V.op])
        have n2 : ot z ≠ q := fun e => c2 (by rw [← ot_ot z, e, V.oq])
        rw [V.v_o _ (M.ca z hz) n1 n2] at s
        exact s.trans (sb _)
  let f : Int → Int := fun z => if z = L ∨ z = L + 4 then one else if z = L + 2 ∨ z = L + 5 then two else if z = L + 1 then p else if z = L + 3 then q else z
  have f_1 : ∀ z, (z = L ∨ z = L + 4) → f z = one := fun z h => if_pos h
  have f_2 : ∀ z, (z = L + 2 ∨ z = L + 5) → f z = two := fun z h => by show (if z = L ∨ z = L + 4 then one else if z = L + 2 ∨ z = L + 5 then two else _) = two; rw [if_neg (by omega), if_pos h]
  have f_p : f (L + 1) = p := by show (if L + 1 = L ∨ L + 1 = L + 4 then one else if L + 1 = L + 2 ∨ L + 1 = L + 5 then two else if L + 1 = L + 1 then p else _) = p; rw [if_neg (by omega), if_neg (by omega), if_pos rfl]
  have f_q : f (L + 3) = q := by show (if L + 3 = L ∨ L + 3 = L + 4 then one else if L + 3 = L + 2 ∨ L + 3 = L + 5 then two else if L + 3 = L + 1 then p else if L + 3 = L + 3 then q else _) = q; rw [if_neg (by omega), if_neg (by omega), if_neg (by omega), if_pos rfl]
  have f_S : ∀ z ∈ S, f z = z := fun z hz => by
    have := hL z hz
    show (if z = L ∨ z = L + 4 then one else if z = L + 2 ∨ z = L + 5 then two else if z = L + 1 then p else if z = L + 3 then q else z) = z
    rw [if_neg (by omega), if_neg (by omega), if_neg (by omega), if_neg (by omega)]
  have f_sub : ∀ v ∈ S, f (subP p q L v) = v := fun v hv => by
    by_cases c1 : v = p
    · rw [c1, sub_p, f_p]
    · by_cases c2 : v = q
      · rw [c2, sub_q, f_q]
      · rw [sub_o v c1 c2, f_S v hv]
  have hf' : ∀ x y, fstep (blowS S L) (face al nx') x y → Eqv (fstep S (face ot nx)) (f x) (f y) := by
    rintro z v ⟨hz, rfl⟩
    show Eqv _ (f z) (f (nx' (al z)))
    rcases mem_blowS.mp hz with k | k | k | k | k | k | k
    · rw [f_S z k, alS z k]
      have s := stO z k
      by_cases c1 : ot z = p
      · have e1 : z = one := by rw [← ot_ot z, c1, V.op]
        rw [c1, V.v_p, f_1 (L + 4) (.inr rfl), e1]; exact .refl _
      · by_cases c2 : ot z = q
        · have e1 : z = two := by rw [← ot_ot z, c2, V.oq]
          rw [c2, V.v_q, f_2 (L + 5) (.inr rfl), e1]; exact .refl _
        · rw [V.v_o _ (M.ca z k) c1 c2, f_sub _ (M.cn _ (M.ca z k))]; exact s
    · have s := stO one V.h1
      rw [V.o1] at s
      rw [k, alz _ (by omega) (by omega), o0, V.v_1, f_1 L (.inl rfl), f_sub _ (M.cn _ V.hp)]; exact s
    · rw [k, alz _ (by omega) (by omega), o1, V.v_0, f_p, f_S p V.hp]; exact .refl _
    · have s := stO two V.h2
      rw [V.o2] at s
      rw [k, alz _ (by omega) (by omega), o2, V.v_3, f_2 (L + 2) (.inl rfl), f_sub _ (M.cn _ V.hq)]; exact s
    · rw [k, alz _ (by omega) (by omega), o3, V.v_2, f_q, f_S q V.hq]; exact .refl _
    · rw [k, al4, V.v_4, f_1 (L + 4) (.inr rfl), f_1 L (.inl rfl)]; exact .refl _
    · rw [k, al5, V.v_5, f_2 (L + 5) (.inr rfl), f_2 (L + 2) (.inl rfl)]; exact .refl _
  obtain ⟨n, hn, hl⟩ := W.eul
  have cc : Cls (blowS S L) (fstep (blowS S L) (face al nx')) n := by
    refine cls_maps id f hg hf' (fun z hz => mS z hz) ?_ ?_ ?_ hn
    · intro z hz
      rcases mem_blowS.mp hz with k | k | k | k | k | k | k
      · rw [f_S z k]; exact k
      · rw [f_1 z (.inl k)]; exact V.h1
      · rw [k, f_p]; exact V.hp
      · rw [f_2 z (.inl k)]; exact V.h2
      · rw [k, f_q]; exact V.hq
      · rw [f_1 z (.inr k)]; exact V.h1
      · rw [f_2 z (.inr k)]; exact V.h2
    · intro z hz
      show Eqv _ (f z) z
      rcases mem_blowS.mp hz with k | k | k | k | k | k | k
      · rw [f_S z k]; exact .refl _
      · rw [f_1 z (.inl k), k]; exact tone.trans t4
      · rw [k, f_p]; exact t1.symm
      · rw [f_2 z (.inl k), k]; exact ttwo.trans t5
      · rw [k, f_q]; exact t3.symm
      · rw [f_1 z (.inr k), k]; exact tone
      · rw [f_2 z (.inr k), k]; exact ttwo
    · intro z hz
      show Eqv _ (f z) z
      rw [f_S z hz]; exact .refl _
  have both : Eqv (fstep (blowS S L) (face al nx')) (L + 4) (L + 5) := tone.symm.trans ((Eqv.mono hg hr).trans ttwo)
  have fin := add_cls M' m4 m5 o4 o5 cc both
  have len : (blowS S L).length = S.length + 6 := by unfold blowS; rw [List.length_append]; rfl
  refine ⟨⟨M', List.ne_nil_of_mem m0, ?_, ⟨n + 1, fin.1, by rw [len]; omega⟩, fun z hz => ?_⟩, fin.2⟩
  · have cn : ∀ z ∈ blowS S L, Eqv (cs (blowS S L) ot nx') z (nx' z) := fun z hz => .step ⟨hz, .inr rfl⟩
    have co : ∀ z ∈ blowS S L, Eqv (cs (blowS S L) ot nx') z (ot z) := fun z hz => .step ⟨hz, .inl rfl⟩
    have k0 := cn L m0; rw [V.v_0] at k0
    have k1 := co L m0; rw [o0] at k1
    have k2 := cn _ m2; rw [V.v_2] at k2
    have k3 := co _ m2; rw [o2] at k3
    have k4 := cn _ m4; rw [V.v_4] at k4
    have k5 := cn _ m5; rw [V.v_5] at k5
    have sbc : ∀ v, Eqv (cs (blowS S L) ot nx') (subP p q L v) v := fun v => by
      by_cases c1 : v = p
      · rw [c1, sub_p]; exact k1.symm.trans k0
      · by_cases c2 : v = q
        · rw [c2, sub_q]; exact k3.symm.trans k2
        · rw [sub_o v c1 c2]; exact .refl _
    have old : ∀ u v, Eqv (cs S ot nx) u v → Eqv (cs (blowS S L) ot nx') u v := fun u v e => Eqv.mono (fun z w h => by
      obtain ⟨hz, h | h⟩ := h
      · exact .step ⟨mS z hz, .inl h⟩
      · subst h
        have s := cn _ (sub_m z hz)
        rw [conj z hz] at s
        exact (sbc z).symm.trans (s.trans (sbc _))) e
    have toS : ∀ z ∈ blowS S L, Eqv (cs (blowS S L) ot nx') p z := fun z hz => by
      have hpq := old _ _ (W.conn p V.hp q V.hq)
      rcases mem_blowS.mp hz with k | k | k | k | k | k | k
      · exact old _ _ (W.conn p V.hp z k)
      · rw [k]; exact k0.symm
      · rw [k]; exact k0.symm.trans k1
      · rw [k]; exact hpq.trans k2.symm
      · rw [k]; exact hpq.trans (k2.symm.trans k3)
      · rw [k]; exact k0.symm.trans k4.symm
      · rw [k]; exact hpq.trans (k2.symm.trans k5.symm)
    exact fun u hu v hv => (toS u hu).symm.trans (toS v hv)
  · rcases mem_blowS.mp hz with k | k | k | k | k | k | k
    · exact W.pos z k
    all_goals omega

/-! PartP: a parting done by seating: what it makes. Plain Lean. -/
/-- one half of a parting -/
def halfF (f : Int → Int) (p h u v : Int) : Int → Int := seatF (seatF f h (f p) (f (f p))) p u v
structure Half (f : Int → Int) (p x y h u v : Int) : Prop where
  px : f p = x
  xy : f x = y
  yp : f y = p
  n1 : p ≠ x
  n2 : x ≠ y
  n3 : y ≠ p
  hp : h ≠ p
  hx : h ≠ x
  hy : h ≠ y
  up : u ≠ p
  ux : u ≠ x
  uy : u ≠ y
  vp : v ≠ p
  vx : v ≠ x
  vy : v ≠ y
  hu : h ≠ u
  hv : h ≠ v
  uv : u ≠ v
section
variable {f : Int → Int} {p x y h u v : Int}
theorem half_p (F : Half f p x y h u v) : halfF f p h u v p = u := by unfold halfF; rw [seat_1 F.up.symm F.vp.symm]
theorem half_u (F : Half f p x y h u v) : halfF f p h u v u = v := by unfold halfF; rw [seat_2 F.uv]
theorem half_v (F : Half f p x y h u v) : halfF f p h u v v = p := by unfold halfF; rw [seat_3]
theorem half_h (F : Half f p x y h u v) : halfF f p h u v h = x := by
  unfold halfF
  rw [seat_o F.hp F.hu F.hv, F.px, F.xy, seat_1 F.hx F.hy]
theorem half_z (F : Half f p x y h u v) {z : Int} (h1 : z ≠ p) (h2 : z ≠ u) (h3 : z ≠ v) (h4 : z ≠ h) (hi : f z = p → z = y) : halfF f p h u v z = if f z = p then h else f z := by
  unfold halfF
  rw [seat_o h1 h2 h3, F.px, F.xy]
  by_cases e1 : z = y
  · subst e1
    rw [seat_3, if_pos F.yp]
  · rw [if_neg (fun q => e1 (hi q))]
    by_cases e2 : z = x
    · subst e2
      rw [seat_2 F.n2, F.xy]
    · rw [seat_o h4 e2 e1]
end
theorem part_seat {S : List Int} {nx : Int → Int} {one two L : Int} (M : Map S ot nx) (h1 : one ∈ S) (h2 : two ∈ S) (hf : one / 2 ≠ two / 2) (hL : ∀ x ∈ S, x < L) :
    (∀ z, z ∈ S ∨ New6 L z → halfF (halfF nx (ot one) (L + 1) (L + 4) L) (ot two) (L + 3) (L + 5) (L + 2) z = partF nx one two L z) ∧
    (halfF nx (ot one) (L + 1) (L + 4) L (ot two) ∈ S ∨ halfF nx (ot one) (L + 1) (L + 4) L (ot two) = L + 1) ∧
    (halfF nx (ot one) (L + 1) (L + 4) L (halfF nx (ot one) (L + 1) (L + 4) L (ot two)) ∈ S ∨ halfF nx (ot one) (L + 1) (L + 4) L (halfF nx (ot one) (L + 1) (L + 4) L (ot two)) = L + 1) := by
  have hp := M.ca one h1
  have hq := M.ca two h2
  have hpq : ot one ≠ ot two := fun e => hf (by rw [← ot_div one, ← ot_div two, e])
  unfold partF
  generalize ot one = p at hp hpq ⊢
  generalize ot two = q at hq hpq ⊢
  have ha := M.cn p hp
  have hb := M.cn _ ha
  have hc := M.cn q hq
  have hd := M.cn _ hc
  have l1 := hL p hp
  have l2 := hL q hq
  have l3 := hL _ ha
  have l4 := hL _ hb
  have l5 := hL _ hc
  have l6 := hL _ hd
  have n12 : nx p ≠ nx (nx p) := fun e => M.n1 _ ha e.symm
  have F : Half nx p (nx p) (nx (nx p)) (L + 1) (L + 4) L := ⟨rfl, rfl, M.n3 p hp, fun e => M.n1 p hp e.symm, n12, M.n2 hp, by omega, by omega, by omega, by omega, by omega, by omega, by omega, by omega, by omega, by omega, by omega, by omega⟩
  -- the first half on the ends
  have g : ∀ z ∈ S, z ≠ p → halfF nx p (L + 1) (L + 4) L z = if nx z = p then L + 1 else nx z := fun z hz hzp => by
    have lz := hL z hz
    exact half_z F hzp (by omega) (by omega) (by omega) fun e => M.ninj hz hb (e.trans (M.n3 p hp).symm)
  have gh := half_h F
  have gp := half_p F
  have gu := half_u F
  have gv := half_v F
  generalize hG : halfF nx p (L + 1) (L + 4) L = G at g gh gp gu gv
  -- the second corner, as it stands then
  obtain ⟨x2, y2, e1, e2, e3, m1, m2, d1, d2, d3⟩ : ∃ x2 y2, G q = x2 ∧ G x2 = y2 ∧ G y2 = q ∧ (x2 ∈ S ∨ x2 = L + 1) ∧ (y2 ∈ S ∨ y2 = L + 1) ∧ q ≠ x2 ∧ x2 ≠ y2 ∧ y2 ≠ q := by
    by_cases c1 : nx q = p
    · have eb : q = nx (nx p) := M.ninj hq hb (c1.trans (M.n3 p hp).symm)
      refine ⟨L + 1, nx p, by rw [g q hq hpq.symm, if_pos c1], gh, ?_, .inr rfl, .inl ha, by omega, by omega, fun e => n12 (e.trans eb)⟩
      rw [g _ ha (M.n1 p hp), if_neg (M.n2 hp), ← eb]
    · by_cases c2 : nx (nx q) = p
      · have ea : q = nx p := by rw [← c2, M.n3 q hq]
        refine ⟨nx q, L + 1, by rw [g q hq hpq.symm, if_neg c1], by rw [g _ hc c1, if_pos c2], by rw [gh, ← ea], .inl hc, .inr rfl, fun e => M.n1 q hq e.symm, by omega, by omega⟩
      · refine ⟨nx q, nx (nx q), by rw [g q hq hpq.symm, if_neg c1], by rw [g _ hc c1, if_neg c2], ?_, .inl hc, .inl hd, fun e => M.n1 q hq e.symm, fun e => M.n1 _ hc e.symm, M.n2 hq⟩
        rw [g _ hd c2, M.n3 q hq, if_neg hpq.symm]
  have b1 : x2 < L ∨ x2 = L + 1 := m1.imp (hL _) id
  have b2 : y2 < L ∨ y2 = L + 1 := m2.imp (hL _) id
  have F2 : Half G q x2 y2 (L + 3) (L + 5) (L + 2) := ⟨e1, e2, e3, d1, d2, d3, by omega, by omega, by omega, by omega, by omega, by omega, by omega, by omega, by omega, by omega, by omega, by omega⟩
  refine ⟨fun z hz => ?_, by rw [e1]; exact m1, by rw [e1, e2]; exact m2⟩
  -- who leads to q
  have inj : z ∈ S ∨ z = L ∨ z = L + 1 ∨ z = L + 4 → G z = q → z = y2 := fun hz e => by
    have key : ∀ a ∈ S, a ≠ p → G a = q → nx a = q := fun a ha' hap e => by
      rw [g a ha' hap] at e
      by_cases c : nx a = p
      · rw [if_pos c] at e; omega
      · rwa [if_neg c] at e
    have yk : y2 ∈ S → y2 ≠ p → nx y2 = q := fun a b => key y2 a b e3
    have yp : y2 ≠ p := fun c => by rw [c, gp] at e3; omega
    have yh : y2 = L + 1 → nx p = q := fun c => by rw [c, gh] at e3; exact e3
    rcases hz with hz | rfl | rfl | rfl
    · by_cases c : z = p
      · rw [c, gp] at e; omega
      · have k1 := key z hz c e
        rcases m2 with m2 | m2
        · exact M.ninj hz m2 (k1.trans (yk m2 yp).symm)
        · exact absurd (M.ninj hz hp (k1.trans (yh m2).symm)) c
    · rw [gv] at e; exact absurd e hpq
    · rw [gh] at e
      rcases m2 with m2 | m2
      · exact absurd (M.ninj hp m2 (e.trans (yk m2 yp).symm)).symm yp
      · exact m2.symm
    · rw [gu] at e; omega
  by_cases z1 : z = p
  · subst z1
    have lz := l1
    rw [if_pos rfl, half_z F2 hpq (by omega) (by omega) (by omega) (inj (.inl hp)), gp, if_neg (by omega)]
  rw [if_neg z1]
  by_cases z2 : z = q
  · subst z2
    rw [if_pos rfl, half_p F2]
  rw [if_neg z2]
  by_cases z3 : z = L
  · subst z3
    rw [if_pos rfl, half_z F2 z2 (by omega) (by omega) (by omega) (inj (.inr (.inl rfl))), gv, if_neg hpq]
  rw [if_neg z3]
  unfold subP
  by_cases z4 : z = L + 1
  · subst z4
    rw [if_pos rfl, half_z F2 z2 (by omega) (by omega) (by omega) (inj (.inr (.inr (.inl rfl)))), gh, if_neg (M.n1 p hp)]
  rw [if_neg z4]
  by_cases z5 : z = L + 2
  · subst z5
    rw [if_pos rfl, half_v F2]
  rw [if_neg z5]
  by_cases z6 : z = L + 3
  · subst z6
    rw [if_pos rfl, half_h F2, ← e1, g q hq hpq.symm]
    by_cases c : nx q = p
    · rw [if_pos c, if_pos c]
    · rw [if_neg c, if_neg c, if_neg (M.n1 q hq)]
  rw [if_neg z6]
  by_cases z7 : z = L + 4
  · subst z7
    rw [if_pos rfl, half_z F2 z2 (by omega) (by omega) (by omega) (inj (.inr (.inr (.inr rfl)))), gu, if_neg (by omega)]
  rw [if_neg z7]
  by_cases z8 : z = L + 5
  · subst z8
    rw [if_pos rfl, half_u F2]
  rw [if_neg z8]
  have hzS : z ∈ S := hz.resolve_right fun k => by rcases k with k | k | k | k | k | k <;> omega
  rw [half_z F2 z2 (by omega) (by omega) (by omega) (inj (.inl hzS)), g z hzS z1]
  by_cases c : nx z = p
  · rw [if_pos c, if_pos c, if_neg (by omega)]
  · rw [if_neg c, if_neg c]

theorem Map.sameS {S S' : List Int} {al nx : Int → Int} (M : Map S al nx) (nd : S'.Nodup) (hS : ∀ z, z ∈ S' ↔ z ∈ S) : Map S' al nx :=
  ⟨nd, fun x hx => (hS _).mpr (M.ca x ((hS x).mp hx)), fun x hx => (hS _).mpr (M.cn x ((hS x).mp hx)), fun x hx => M.aa x ((hS x).mp hx), fun x hx => M.n3 x ((hS x).mp hx), fun x hx => M.n1 x ((hS x).mp hx)⟩
theorem Mend.sameS {S S' : List Int} {al nx : Int → Int} {t x y g : Int} (D : Mend S al nx t x y g) (nd : S'.Nodup) (hS : ∀ z, z ∈ S' ↔ z ∈ S) : Mend S' al nx t x y g :=
  ⟨D.M.sameS nd hS, (hS _).mpr D.ht, (hS _).mpr D.hy, D.tt, D.yg, D.cor, D.gy, D.gx⟩
theorem mem_m1S {S S' : List Int} {nx : Int → Int} {t z : Int} (hS : ∀ z, z ∈ S' ↔ z ∈ S) : z ∈ m1S S' nx t ↔ z ∈ m1S S nx t := by
  unfold m1S
  rw [mem_mendS, mem_mendS, hS]

/-! Comb: the web of a comb. Plain Lean. -/
/-! ### a torus of n places -/
structure Tor (n : Int) (lf rt ab bl : Int → Int) : Prop where
  pos : 0 < n
  blf : ∀ k, 0 ≤ k → k < n → 0 ≤ lf k ∧ lf k < n
  brt : ∀ k, 0 ≤ k → k < n → 0 ≤ rt k ∧ rt k < n
  bab : ∀ k, 0 ≤ k → k < n → 0 ≤ ab k ∧ ab k < n
  bbl : ∀ k, 0 ≤ k → k < n → 0 ≤ bl k ∧ bl k < n
  rl : ∀ k, 0 ≤ k → k < n → rt (lf k) = k
  lr : ∀ k, 0 ≤ k → k < n → lf (rt k) = k
  ba : ∀ k, 0 ≤ k → k < n → bl (ab k) = k
  ab' : ∀ k, 0 ≤ k → k < n → ab (bl k) = k
  com : ∀ k, 0 ≤ k → k < n → ab (rt k) = rt (ab k)
  reach : ∀ P : Int → Prop, P 0 → (∀ k, 0 ≤ k → k < n → (P k ↔ P (lf k))) → (∀ k, 0 ≤ k → k < n → (P k ↔ P (ab k))) → ∀ k, 0 ≤ k → k < n → P k
/-- the dict that the comb's corners make, behind m bubbles -/
def combD (lf ab : Int → Int) : Nat → List Int × (Int → Int)
  | 0 => ([], fun _ => 0)
  | m + 1 =>
    let k : Int := m
    let D := combD lf ab m
    (putS3 (putS3 D.1 (6 * k) (6 * k + 2) (6 * k + 4)) (6 * k + 1) (6 * lf k + 3) (6 * ab k + 5),
      seatF (seatF D.2 (6 * k) (6 * k + 2) (6 * k + 4)) (6 * k + 1) (6 * lf k + 3) (6 * ab k + 5))
section
variable {n : Int} {lf rt ab bl : Int → Int}
theorem comb_nd (m : Nat) : (combD lf ab m).1.Nodup := by
  induction m with
  | zero => exact List.Pairwise.nil
  | succ m ih => exact nd_putS3 (nd_putS3 ih)
theorem comb_le (m : Nat) : (combD lf ab m).1.length ≤ 6 * m := by
  induction m with
  | zero => exact Nat.le_refl _
  | succ m ih =>
    have a := len_putS3 (S := (combD lf ab m).1) (x := 6 * (m : Int)) (y := 6 * (m : Int) + 2) (z := 6 * (m : Int) + 4)
    have b := len_putS3 (S := putS3 (combD lf ab m).1 (6 * (m : Int)) (6 * (m : Int) + 2) (6 * (m : Int) + 4)) (x := 6 * (m : Int) + 1) (y := 6 * lf m + 3) (z := 6 * ab m + 5)
    show (putS3 (putS3 (combD lf ab m).1 (6 * (m : Int)) (6 * (m : Int) + 2) (6 * (m : Int) + 4)) (6 * (m : Int) + 1) (6 * lf m + 3) (6 * ab m + 5)).length ≤ _
    omega
theorem comb_mem (m : Nat) (x : Int) : x ∈ (combD lf ab m).1 ↔ ∃ k : Int, 0 ≤ k ∧ k < m ∧ (x = 6 * k ∨ x = 6 * k + 2 ∨ x = 6 * k + 4 ∨ x = 6 * k + 1 ∨ x = 6 * lf k + 3 ∨ x = 6 * ab k + 5) := by
  induction m with
  | zero =>
    refine ⟨fun h => absurd h List.not_mem_nil, fun ⟨k, h0, h1, _⟩ => ?_⟩
    omega
  | succ m ih =>
    show x ∈ putS3 (putS3 (combD lf ab m).1 (6 * (m : Int)) (6 * (m : Int) + 2) (6 * (m : Int) + 4)) (6 * (m : Int) + 1) (6 * lf m + 3) (6 * ab m + 5) ↔ _
    rw [mem_putS3, mem_putS3, ih]
    constructor
    · rintro ((⟨k, h0, h1, h⟩ | h | h | h) | h | h | h)
      · exact ⟨k, h0, by omega, h⟩
      · exact ⟨m, by omega, by omega, .inl h⟩
      · exact ⟨m, by omega, by omega, .inr (.inl h)⟩
      · exact ⟨m, by omega, by omega, .inr (.inr (.inl h))⟩
      · exact ⟨m, by omega, by omega, .inr (.inr (.inr (.inl h)))⟩
      · exact ⟨m, by omega, by omega, .inr (.inr (.inr (.inr (.inl h))))⟩
      · exact ⟨m, by omega, by omega, .inr (.inr (.inr (.inr (.inr h))))⟩
    · rintro ⟨k, h0, h1, h⟩
      by_cases e : k = m
      · subst e
        rcases h with h | h | h | h | h | h
        · exact .inl (.inr (.inl h))
        · exact .inl (.inr (.inr (.inl h)))
        · exact .inl (.inr (.inr (.inr h)))
        · exact .inr (.inl h)
        · exact .inr (.inr (.inl h))
        · exact .inr (.inr (.inr h))
      · exact .inl (.inl ⟨k, h0, by omega, h⟩)
theorem comb_vals (T : Tor n lf rt ab bl) (m : Nat) (hm : (m : Int) ≤ n) : ∀ k : Int, 0 ≤ k → k < m →
    (combD lf ab m).2 (6 * k) = 6 * k + 2 ∧ (combD lf ab m).2 (6 * k + 2) = 6 * k + 4 ∧ (combD lf ab m).2 (6 * k + 4) = 6 * k ∧
    (combD lf ab m).2 (6 * k + 1) = 6 * lf k + 3 ∧ (combD lf ab m).2 (6 * lf k + 3) = 6 * ab k + 5 ∧ (combD lf ab m).2 (6 * ab k + 5) = 6 * k + 1 := by
  induction m with
  | zero => intro k h0 h1; omega
  | succ m ih =>
    intro k h0 h1
    have ih := ih (by omega)
    have e : (combD lf ab (m + 1)).2 = seatF (seatF (combD lf ab m).2 (6 * (m : Int)) (6 * (m : Int) + 2) (6 * (m : Int) + 4)) (6 * (m : Int) + 1) (6 * lf m + 3) (6 * ab m + 5) := rfl
    rw [e]
    by_cases hk : k = m
    · subst hk
      refine ⟨?_, ?_, ?_, ?_, ?_, ?_⟩
      · rw [seat_o (by omega) (by omega) (by omega), seat_1 (by omega) (by omega)]
      · rw [seat_o (by omega) (by omega) (by omega), seat_2 (by omega)]
      · rw [seat_o (by omega) (by omega) (by omega), seat_3]
      · rw [seat_1 (by omega) (by omega)]
      · rw [seat_2 (by omega)]
      · rw [seat_3]
    · have hkm : k < m := by omega
      obtain ⟨v1, v2, v3, v4, v5, v6⟩ := ih k h0 hkm
      have nl : lf k ≠ lf m := fun q => hk (by rw [← T.rl k h0 (by omega), q, T.rl m (by omega) (by omega)])
      have na : ab k ≠ ab m := fun q => hk (by rw [← T.ba k h0 (by omega), q, T.ba m (by omega) (by omega)])
      refine ⟨?_, ?_, ?_, ?_, ?_, ?_⟩
      · rw [seat_o (by omega) (by omega) (by omega), seat_o (by omega) (by omega) (by omega)]; exact v1
      · rw [seat_o (by omega) (by omega) (by omega), seat_o (by omega) (by omega) (by omega)]; exact v2
      · rw [seat_o (by omega) (by omega) (by omega), seat_o (by omega) (by omega) (by omega)]; exact v3
      · rw [seat_o (by omega) (by omega) (by omega), seat_o (by omega) (by omega) (by omega)]; exact v4
      · rw [seat_o (by omega) (by omega) (by omega), seat_o (by omega) (by omega) (by omega)]; exact v5
      · rw [seat_o (by omega) (by omega) (by omega), seat_o (by omega) (by omega) (by omega)]; exact v6
/-- by its kind -/
theorem six_way (x : Int) (h0 : 0 ≤ x) (h1 : x < 6 * n) : ∃ k, 0 ≤ k ∧ k < n ∧ (x = 6 * k ∨ x = 6 * k + 1 ∨ x = 6 * k + 2 ∨ x = 6 * k + 3 ∨ x = 6 * k + 4 ∨ x = 6 * k + 5) :=
  ⟨x / 6, by omega, by omega, by omega⟩
structure CombV (n : Int) (lf rt ab bl : Int → Int) (S : List Int) (nx : Int → Int) : Prop where
  T : Tor n lf rt ab bl
  nd : S.Nodup
  mem : ∀ x, x ∈ S ↔ 0 ≤ x ∧ x < 6 * n
  v0 : ∀ k, 0 ≤ k → k < n → nx (6 * k) = 6 * k + 2
  v2 : ∀ k, 0 ≤ k → k < n → nx (6 * k + 2) = 6 * k + 4
  v4 : ∀ k, 0 ≤ k → k < n → nx (6 * k + 4) = 6 * k
  v1 : ∀ k, 0 ≤ k → k < n → nx (6 * k + 1) = 6 * lf k + 3
  v3 : ∀ k, 0 ≤ k → k < n → nx (6 * k + 3) = 6 * ab (rt k) + 5
  v5 : ∀ k, 0 ≤ k → k < n → nx (6 * k + 5) = 6 * bl k + 1
theorem comb_v (T : Tor n lf rt ab bl) : CombV n lf rt ab bl (combD lf ab n.toNat).1 (combD lf ab n.toNat).2 := by
  have en : ((n.toNat : Nat) : Int) = n := Int.toNat_of_nonneg (by have := T.pos; omega)
  have V := comb_vals T n.toNat (by omega)
  refine ⟨T, comb_nd _, fun x => ?_, fun k h0 h1 => (V k h0 (by omega)).1, fun k h0 h1 => (V k h0 (by omega)).2.1, fun k h0 h1 => (V k h0 (by omega)).2.2.1, fun k h0 h1 => (V k h0 (by omega)).2.2.2.1, fun k h0 h1 => ?_, fun k h0 h1 => ?_⟩
  · rw [comb_mem, en]
    constructor
    · rintro ⟨k, h0, h1, h⟩
      have a := T.blf k h0 h1
      have b := T.bab k h0 h1
      omega
    · rintro ⟨h0, h1⟩
      obtain ⟨k, k0, k1, h⟩ := six_way x h0 h1
      rcases h with h | h | h | h | h | h
      · exact ⟨k, k0, k1, .inl h⟩
      · exact ⟨k, k0, k1, .inr (.inr (.inr (.inl h)))⟩
      · exact ⟨k, k0, k1, .inr (.inl h)⟩
      · exact ⟨rt k, (T.brt k k0 k1).1, (T.brt k k0 k1).2, .inr (.inr (.inr (.inr (.inl (by rw [T.lr k k0 k1]; exact h)))))⟩
      · exact ⟨k, k0, k1, .inr (.inr (.inl h))⟩
      · exact ⟨bl k, (T.bbl k k0 k1).1, (T.bbl k k0 k1).2, .inr (.inr (.inr (.inr (.inr (by rw [T.ab' k k0 k1]; exact h)))))⟩
  · have q := (V (rt k) (T.brt k h0 h1).1 (by have := (T.brt k h0 h1).2; omega)).2.2.2.2.1
    rw [T.lr k h0 h1] at q
    exact q
  · have q := (V (bl k) (T.bbl k h0 h1).1 (by have := (T.bbl k h0 h1).2; omega)).2.2.2.2.2
    rw [T.ab' k h0 h1] at q
    exact q
variable {S : List Int} {nx : Int → Int}
theorem CombV.map (C : CombV n lf rt ab bl S nx) : Map S ot nx := by
  have T := C.T
  refine ⟨C.nd, fun x hx => ?_, fun x hx => ?_, fun x _ => ot_ot x, fun x hx => ?_, fun x hx => ?_⟩
  · rw [C.mem] at hx ⊢
    unfold ot
    split <;> omega
  all_goals
    obtain ⟨h0, h1⟩ := (C.mem x).mp hx
    obtain ⟨k, k0, k1, h⟩ := six_way x h0 h1
    have a := T.blf k k0 k1
    have b := T.bbl k k0 k1
    have r := T.brt k k0 k1
    have ar := T.bab _ r.1 r.2
    have av := T.bab k k0 k1
    try rw [C.mem]
    rcases h with rfl | rfl | rfl | rfl | rfl | rfl
  · rw [C.v0 k k0 k1]; omega
  · rw [C.v1 k k0 k1]; omega
  · rw [C.v2 k k0 k1]; omega
  · rw [C.v3 k k0 k1]; omega
  · rw [C.v4 k k0 k1]; omega
  · rw [C.v5 k k0 k1]; omega
  · rw [C.v0 k k0 k1, C.v2 k k0 k1, C.v4 k k0 k1]
  · rw [C.v1 k k0 k1, C.v3 _ a.1 a.2, T.rl k k0 k1, C.v5 _ av.1 av.2, T.ba k k0 k1]
  · rw [C.v2 k k0 k1, C.v4 k k0 k1, C.v0 k k0 k1]
  · rw [C.v3 k k0 k1, C.v5 _ ar.1 ar.2, T.ba _ r.1 r.2, C.v1 _ r.1 r.2, T.lr k k0 k1]
  · rw [C.v4 k k0 k1, C.v0 k k0 k1, C.v2 k k0 k1]
  · have l := T.blf _ b.1 b.2
    rw [C.v5 k k0 k1, C.v1 _ b.1 b.2, C.v3 _ l.1 l.2, T.rl _ b.1 b.2, T.ab' k k0 k1]
  · rw [C.v0 k k0 k1]; omega
  · rw [C.v1 k k0 k1]; omega
  · rw [C.v2 k k0 k1]; omega
  · rw [C.v3 k k0 k1]; omega
  · rw [C.v4 k k0 k1]; omega
  · rw [C.v5 k k0 k1]; omega
theorem CombV.conn (C : CombV n lf rt ab bl S nx) : ∀ x ∈ S, ∀ y ∈ S, Eqv (cs S ot nx) x y := by
  have T := C.T
  have m : ∀ k, 0 ≤ k → k < n → ∀ i, 0 ≤ i → i < 6 → 6 * k + i ∈ S := fun k k0 k1 i i0 i1 => (C.mem _).mpr ⟨by omega, by omega⟩
  have st : ∀ x ∈ S, Eqv (cs S ot nx) x (nx x) := fun x hx => .step ⟨hx, .inr rfl⟩
  have so : ∀ x ∈ S, Eqv (cs S ot nx) x (ot x) := fun x hx => .step ⟨hx, .inl rfl⟩
  have o0 : ∀ k : Int, ot (6 * k) = 6 * k + 1 := fun k => by unfold ot; rw [if_pos (by omega)]
  have o2 : ∀ k : Int, ot (6 * k + 2) = 6 * k + 3 := fun k => by unfold ot; rw [if_pos (by omega)]; omega
  have o4 : ∀ k : Int, ot (6 * k + 4) = 6 * k + 5 := fun k => by unfold ot; rw [if_pos (by omega)]; omega
  have i0 : ∀ k, 0 ≤ k → k < n → 6 * k ∈ S := fun k k0 k1 => by have := m k k0 k1 0 (by decide) (by decide); rwa [Int.add_zero] at this
  have e2 : ∀ k, 0 ≤ k → k < n → Eqv (cs S ot nx) (6 * k) (6 * k + 2) := fun k k0 k1 => by have := st _ (i0 k k0 k1); rwa [C.v0 k k0 k1] at this
  have e4 : ∀ k, 0 ≤ k → k < n → Eqv (cs S ot nx) (6 * k) (6 * k + 4) := fun k k0 k1 => by have := st _ (m k k0 k1 4 (by decide) (by decide)); rw [C.v4 k k0 k1] at this; exact this.symm
  have e1 : ∀ k, 0 ≤ k → k < n → Eqv (cs S ot nx) (6 * k) (6 * k + 1) := fun k k0 k1 => by have := so _ (i0 k k0 k1); rwa [o0] at this
  have e3 : ∀ k, 0 ≤ k → k < n → Eqv (cs S ot nx) (6 * k) (6 * k + 3) := fun k k0 k1 => by have := so _ (m k k0 k1 2 (by decide) (by decide)); rw [o2] at this; exact (e2 k k0 k1).trans this
  have e5 : ∀ k, 0 ≤ k → k < n → Eqv (cs S ot nx) (6 * k) (6 * k + 5) := fun k k0 k1 => by have := so _ (m k k0 k1 4 (by decide) (by decide)); rw [o4] at this; exact (e4 k k0 k1).trans this
  have z : ∀ k, 0 ≤ k → k < n → Eqv (cs S ot nx) 0 (6 * k) := by
    refine T.reach _ (.refl _) (fun k k0 k1 => ?_) (fun k k0 k1 => ?_)
    · have a := T.blf k k0 k1
      have q : Eqv (cs S ot nx) (6 * k) (6 * lf k) := by
        have := st _ (m k k0 k1 1 (by decide) (by decide))
        rw [C.v1 k k0 k1] at this
        exact ((e1 k k0 k1).trans this).trans (e3 _ a.1 a.2).symm
      exact ⟨fun h => h.trans q, fun h => h.trans q.symm⟩
    · have a := T.bab k k0 k1
      have q : Eqv (cs S ot nx) (6 * ab k) (6 * k) := by
        have := st _ (m _ a.1 a.2 5 (by decide) (by decide))
        rw [C.v5 _ a.1 a.2, T.ba k k0 k1] at this
        exact ((e5 _ a.1 a.2).trans this).trans (e1 k k0 k1).symm
      exact ⟨fun h => h.trans q.symm, fun h => h.trans q⟩
  have all : ∀ x ∈ S, Eqv (cs S ot nx) 0 x := fun x hx => by
    obtain ⟨h0, h1⟩ := (C.mem x).mp hx
    obtain ⟨k, k0, k1, h⟩ := six_way x h0 h1
    rcases h with rfl | rfl | rfl | rfl | rfl | rfl
    · exact z k k0 k1
    · exact (z k k0 k1).trans (e1 k k0 k1)
    · exact (z k k0 k1).trans (e2 k k0 k1)
    · exact (z k k0 k1).trans (e3 k k0 k1)
    · exact (z k k0 k1).trans (e4 k k0 k1)
    · exact (z k k0 k1).trans (e5 k k0 k1)
  exact fun x hx y hy => (all x hx).symm.trans (all y hy)
/-- the six ends round bubble k -/
theorem CombV.face (C : CombV n lf rt ab bl S nx) : ∀ k, 0 ≤ k → k < n →
    face ot nx (6 * k) = 6 * lf k + 3 ∧ face ot nx (6 * lf k + 3) = 6 * lf k + 4 ∧ face ot nx (6 * lf k + 4) = 6 * bl (lf k) + 1 ∧ face ot nx (6 * bl (lf k) + 1) = 6 * bl (lf k) + 2 ∧
    face ot nx (6 * bl (lf k) + 2) = 6 * k + 5 ∧ face ot nx (6 * k + 5) = 6 * k := by
  intro k k0 k1
  have T := C.T
  have a := T.blf k k0 k1
  have b := T.bbl _ a.1 a.2
  have o0 : ∀ k : Int, ot (6 * k) = 6 * k + 1 := fun k => by unfold ot; rw [if_pos (by omega)]
  have o1 : ∀ k : Int, ot (6 * k + 1) = 6 * k := fun k => by unfold ot; rw [if_neg (by omega)]; omega
  have o2 : ∀ k : Int, ot (6 * k + 2) = 6 * k + 3 := fun k => by unfold ot; rw [if_pos (by omega)]; omega
  have o3 : ∀ k : Int, ot (6 * k + 3) = 6 * k + 2 := fun k => by unfold ot; rw [if_neg (by omega)]; omega
  have o4 : ∀ k : Int, ot (6 * k + 4) = 6 * k + 5 := fun k => by unfold ot; rw [if_pos (by omega)]; omega
  have o5 : ∀ k : Int, ot (6 * k + 5) = 6 * k + 4 := fun k => by unfold ot; rw [if_neg (by omega)]; omega
  refine ⟨?_, ?_, ?_, ?_, ?_, ?_⟩
  · show nx (ot _) = _
    rw [o0, C.v1 k k0 k1]
  · show nx (ot _) = _
    rw [o3, C.v2 _ a.1 a.2]
  · show nx (ot _) = _
    rw [o4, C.v5 _ a.1 a.2]
  · show nx (ot _) = _
    rw [o1, C.v0 _ b.1 b.2]
  · show nx (ot _) = _
    rw [o2, C.v3 _ b.1 b.2, T.com _ b.1 b.2, T.ab' _ a.1 a.2, T.rl k k0 k1]
  · show nx (ot _) = _
    rw [o5, C.v4 k k0 k1]
/-- the bubble on whose rim an end lies -/
def bubO (rt ab : Int → Int) (x : Int) : Int := if x % 6 = 0 ∨ x % 6 = 5 then x / 6 else if x % 6 = 3 ∨ x % 6 = 4 then rt (x / 6) else rt (ab (x / 6))
theorem CombV.bub (C : CombV n lf rt ab bl S nx) : ∀ x ∈ S, ∃ k, 0 ≤ k ∧ k < n ∧ bubO rt ab x = k ∧ (x = 6 * k ∨ x = 6 * lf k + 3 ∨ x = 6 * lf k + 4 ∨ x = 6 * bl (lf k) + 1 ∨ x = 6 * bl (lf k) + 2 ∨ x = 6 * k + 5) := by
  intro x hx
  have T := C.T
  obtain ⟨h0, h1⟩ := (C.mem x).mp hx
  obtain ⟨k, k0, k1, h⟩ := six_way x h0 h1
  have r := T.brt k k0 k1
  have a := T.bab k k0 k1
  have ra := T.brt _ a.1 a.2
  unfold bubO
  rcases h with rfl | rfl | rfl | rfl | rfl | rfl
  · exact ⟨k, k0, k1, by rw [if_pos (by omega)]; omega, .inl rfl⟩
  · refine ⟨rt (ab k), ra.1, ra.2, ?_, .inr (.inr (.inr (.inl (by rw [T.lr _ a.1 a.2, T.ba k k0 k1]))))⟩
    rw [if_neg (by omega), if_neg (by omega), show (6 * k + 1) / 6 = k by omega]
  · refine ⟨rt (ab k), ra.1, ra.2, ?_, .inr (.inr (.inr (.inr (.inl (by rw [T.lr _ a.1 a.2, T.ba k k0 k1])))))⟩
    rw [if_neg (by omega), if_neg (by omega), show (6 * k + 2) / 6 = k by omega]
  · refine ⟨rt k, r.1, r.2, ?_, .inr (.inl (by rw [T.lr k k0 k1]))⟩
    rw [if_neg (by omega), if_pos (by omega), show (6 * k + 3) / 6 = k by omega]
  · refine ⟨rt k, r.1, r.2, ?_, .inr (.inr (.inl (by rw [T.lr k k0 k1])))⟩
    rw [if_neg (by omega), if_pos (by omega), show (6 * k + 4) / 6 = k by omega]
  · exact ⟨k, k0, k1, by rw [if_pos (by omega)]; omega, .inr (.inr (.inr (.inr (.inr rfl))))⟩
theorem CombV.bub6 (C : CombV n lf rt ab bl S nx) : ∀ k, 0 ≤ k → k < n → bubO rt ab (6 * k) = k ∧ bubO rt ab (6 * lf k + 3) = k ∧ bubO rt ab (6 * lf k + 4) = k ∧ bubO rt ab (6 * bl (lf k) + 1) = k ∧ bubO rt ab (6 * bl (lf k) + 2) = k ∧ bubO rt ab (6 * k + 5) = k := by
  intro k k0 k1
  have T := C.T
  have a := T.blf k k0 k1
  have b := T.bbl _ a.1 a.2
  unfold bubO
  refine ⟨?_, ?_, ?_, ?_, ?_, ?_⟩
  · rw [if_pos (by omega)]; omega
  · rw [if_neg (by omega), if_pos (by omega), show (6 * lf k + 3) / 6 = lf k by omega, T.rl k k0 k1]
  · rw [if_neg (by omega), if_pos (by omega), show (6 * lf k + 4) / 6 = lf k by omega, T.rl k k0 k1]
  · rw [if_neg (by omega), if_neg (by omega), show (6 * bl (lf k) + 1) / 6 = bl (lf k) by omega, T.ab' _ a.1 a.2, T.rl k k0 k1]
  · rw [if_neg (by omega), if_neg (by omega), show (6 * bl (lf k) + 2) / 6 = bl (lf k) by omega, T.ab' _ a.1 a.2, T.rl k k0 k1]
  · rw [if_pos (by omega)]; omega
theorem CombV.inv (C : CombV n lf rt ab bl S nx) {x : Int} (hx : x ∈ S) : bubO rt ab (Fw.face ot nx x) = bubO rt ab x := by
  obtain ⟨k, k0, k1, e, h⟩ := C.bub x hx
  obtain ⟨f0, f1, f2, f3, f4, f5⟩ := C.face k k0 k1
  obtain ⟨g0, g1, g2, g3, g4, g5⟩ := C.bub6 k k0 k1
  rw [e]
  rcases h with rfl | rfl | rfl | rfl | rfl | rfl
  · rw [f0, g1]
  · rw [f1, g2]
  · rw [f2, g3]
  · rw [f3, g4]
  · rw [f4, g5]
  · rw [f5, g0]
theorem CombV.to0 (C : CombV n lf rt ab bl S nx) {x : Int} (hx : x ∈ S) : Eqv (fstep S (Fw.face ot nx)) x (6 * bubO rt ab x) := by
  obtain ⟨k, k0, k1, e, h⟩ := C.bub x hx
  obtain ⟨f0, f1, f2, f3, f4, f5⟩ := C.face k k0 k1
  have T := C.T
  have a := T.blf k k0 k1
  have b := T.bbl _ a.1 a.2
  rw [e]
  have s : ∀ {x y : Int}, 0 ≤ x → x < 6 * n → Fw.face ot nx x = y → Eqv (fstep S (Fw.face ot nx)) x y := fun h0 h1 e => .step ⟨(C.mem _).mpr ⟨h0, h1⟩, e.symm⟩
  have e5 := s (by omega) (by omega) f5
  have e4 := (s (by omega) (by omega) f4).trans e5
  have e3 := (s (by omega) (by omega) f3).trans e4
  have e2 := (s (by omega) (by omega) f2).trans e3
  have e1 := (s (by omega) (by omega) f1).trans e2
  rcases h with rfl | rfl | rfl | rfl | rfl | rfl
  · exact .refl _
  · exact e1
  · exact e2
  · exact e3
  · exact e4
  · exact e5
theorem CombV.len (C : CombV n lf rt ab bl S nx) : (S.length : Int) = 6 * n := by
  have hn := C.T.pos
  have p : S.Perm ((List.range (6 * n).toNat).map fun i : Nat => (i : Int)) := by
    refine (List.perm_ext_iff_of_nodup C.nd ?_).mpr fun x => ?_
    · exact List.Pairwise.map _ (fun a b h e => h (Int.ofNat.inj e)) List.nodup_range
    · rw [C.mem, List.mem_map]
      constructor
      · rintro ⟨h0, h1⟩
        exact ⟨x.toNat, List.mem_range.mpr (by omega), by omega⟩
      · rintro ⟨i, hi, rfl⟩
        have := List.mem_range.mp hi
        omega
  have e := p.length_eq
  rw [List.length_map, List.length_range] at e
  omega
theorem CombV.cls (C : CombV n lf rt ab bl S nx) : Cls S (fstep S (Fw.face ot nx)) n.toNat := by
  have T := C.T
  have hn := T.pos
  refine ⟨(List.range n.toNat).map fun i : Nat => 6 * (i : Int), by rw [List.length_map, List.length_range], fun x hx => ?_, fun x hx => ?_, ?_⟩
  · obtain ⟨i, hi, rfl⟩ := List.mem_map.mp hx
    have := List.mem_range.mp hi
    exact (C.mem _).mpr ⟨by omega, by omega⟩
  · obtain ⟨k, k0, k1, e, _⟩ := C.bub x hx
    refine ⟨6 * k, List.mem_map.mpr ⟨k.toNat, List.mem_range.mpr (by omega), by rw [Int.toNat_of_nonneg k0]⟩, ?_⟩
    have := C.to0 hx
    rwa [e] at this
  · refine List.Pairwise.map (R := fun a b : Nat => a < n.toNat ∧ b < n.toNat ∧ a ≠ b) _ (fun a b ⟨ha, hb, h⟩ e => h ?_) ?_
    · have key : ∀ x y, Eqv (fstep S (Fw.face ot nx)) x y → bubO rt ab x = bubO rt ab y := fun x y q => by
        induction q with
        | refl => rfl
        | step s => obtain ⟨hx, rfl⟩ := s; exact (C.inv hx).symm
        | symm _ ih => exact ih.symm
        | trans _ _ i1 i2 => exact i1.trans i2
      have q := key _ _ e
      rw [(C.bub6 a (by omega) (by omega)).1, (C.bub6 b (by omega) (by omega)).1] at q
      omega
    · refine List.Pairwise.imp_of_mem (R := fun a b => a ≠ b) (fun {a b} ha hb h => ⟨List.mem_range.mp ha, List.mem_range.mp hb, h⟩) List.nodup_range
theorem CombV.web (C : CombV n lf rt ab bl S nx) : Web S nx := by
  have hn := C.T.pos
  have hl := C.len
  refine ⟨C.map, fun e => ?_, C.conn, ⟨n.toNat, C.cls, by omega⟩, fun x hx => ((C.mem x).mp hx).1⟩
  rw [e] at hl
  simp at hl
  omega
end
/-! ### rows and columns -/
def prd (c b : Int) : Int := if b = 0 then c - 1 else b - 1
def scc (c b : Int) : Int := if b = c - 1 then 0 else b + 1
def lfO (c k : Int) : Int := k / c * c + prd c (k % c)
def rtO (c k : Int) : Int := k / c * c + scc c (k % c)
def abO (r c k : Int) : Int := prd r (k / c) * c + k % c
def blO (r c k : Int) : Int := scc r (k / c) * c + k % c
theorem dm {a b c : Int} (h0 : 0 ≤ b) (h1 : b < c) : (a * c + b) / c = a ∧ (a * c + b) % c = b := by
  have hc : c ≠ 0 := by omega
  refine ⟨?_, ?_⟩
  · rw [Int.add_comm, Int.add_mul_ediv_right _ _ hc, Int.ediv_eq_zero_of_lt h0 h1]; omega
  · rw [Int.add_comm, Int.add_mul_emod_self_right, Int.emod_eq_of_lt h0 h1]
theorem inb {r c a b : Int} (a0 : 0 ≤ a) (a1 : a < r) (b0 : 0 ≤ b) (b1 : b < c) : 0 ≤ a * c + b ∧ a * c + b < r * c := by
  have hc : 0 ≤ c := by omega
  have h1 : 0 ≤ a * c := Int.mul_nonneg a0 hc
  have h2 : (a + 1) * c ≤ r * c := Int.mul_le_mul_of_nonneg_right (by omega) hc
  rw [Int.add_mul] at h2
  omega
theorem rc {r c k : Int} (hc : 0 < c) (h0 : 0 ≤ k) (h1 : k < r * c) : (0 ≤ k / c ∧ k / c < r) ∧ (0 ≤ k % c ∧ k % c < c) ∧ k / c * c + k % c = k :=
  ⟨⟨Int.ediv_nonneg h0 (by omega), Int.ediv_lt_of_lt_mul hc h1⟩, ⟨Int.emod_nonneg _ (by omega), Int.emod_lt_of_pos _ hc⟩, by rw [Int.mul_comm]; exact Int.mul_ediv_add_emod k c⟩
theorem prd_b {c b : Int} (h0 : 0 ≤ b) (h1 : b < c) : 0 ≤ prd c b ∧ prd c b < c := by unfold prd; split <;> omega
theorem scc_b {c b : Int} (h0 : 0 ≤ b) (h1 : b < c) : 0 ≤ scc c b ∧ scc c b < c := by unfold scc; split <;> omega
theorem scc_prd {c b : Int} (h0 : 0 ≤ b) (h1 : b < c) : scc c (prd c b) = b := by unfold scc prd; split <;> split <;> omega
theorem prd_scc {c b : Int} (h0 : 0 ≤ b) (h1 : b < c) : prd c (scc c b) = b := by unfold scc prd; split <;> split <;> omega
theorem tor_rc {r c : Int} (hr : 0 < r) (hc : 0 < c) : Tor (r * c) (lfO c) (rtO c) (abO r c) (blO r c) := by
  have key : ∀ {P : Int → Prop}, (∀ a b, 0 ≤ a → a < r → 0 ≤ b → b < c → P (a * c + b)) → ∀ k, 0 ≤ k → k < r * c → P k := fun h k k0 k1 => by
    obtain ⟨⟨a0, a1⟩, ⟨b0, b1⟩, e⟩ := rc hc k0 k1
    rw [← e]
    exact h _ _ a0 a1 b0 b1
  have vl : ∀ a b, 0 ≤ b → b < c → lfO c (a * c + b) = a * c + prd c b := fun a b b0 b1 => by unfold lfO; rw [(dm b0 b1).1, (dm b0 b1).2]
  have vr : ∀ a b, 0 ≤ b → b < c → rtO c (a * c + b) = a * c + scc c b := fun a b b0 b1 => by unfold rtO; rw [(dm b0 b1).1, (dm b0 b1).2]
  have va : ∀ a b, 0 ≤ b → b < c → abO r c (a * c + b) = prd r a * c + b := fun a b b0 b1 => by unfold abO; rw [(dm b0 b1).1, (dm b0 b1).2]
  have vb : ∀ a b, 0 ≤ b → b < c → blO r c (a * c + b) = scc r a * c + b := fun a b b0 b1 => by unfold blO; rw [(dm b0 b1).1, (dm b0 b1).2]
  refine ⟨Int.mul_pos hr hc, key fun a b a0 a1 b0 b1 => ?_, key fun a b a0 a1 b0 b1 => ?_, key fun a b a0 a1 b0 b1 => ?_, key fun a b a0 a1 b0 b1 => ?_, key fun a b a0 a1 b0 b1 => ?_, key fun a b a0 a1 b0 b1 => ?_, key fun a b a0 a1 b0 b1 => ?_, key fun a b a0 a1 b0 b1 => ?_, key fun a b a0 a1 b0 b1 => ?_, fun P p0 hl ha => ?_⟩
  · rw [vl a b b0 b1]; exact inb a0 a1 (prd_b b0 b1).1 (prd_b b0 b1).2
  · rw [vr a b b0 b1]; exact inb a0 a1 (scc_b b0 b1).1 (scc_b b0 b1).2
  · rw [va a b b0 b1]; exact inb (prd_b a0 a1).1 (prd_b a0 a1).2 b0 b1
  · rw [vb a b b0 b1]; exact inb (scc_b a0 a1).1 (scc_b a0 a1).2 b0 b1
  · rw [vl a b b0 b1, vr _ _ (prd_b b0 b1).1 (prd_b b0 b1).2, scc_prd b0 b1]
  · rw [vr a b b0 b1, vl _ _ (scc_b b0 b1).1 (scc_b b0 b1).2, prd_scc b0 b1]
  · rw [va a b b0 b1, vb _ _ b0 b1, scc_prd a0 a1]
  · rw [vb a b b0 b1, va _ _ b0 b1, prd_scc a0 a1]
  · rw [vr a b b0 b1, va _ _ (scc_b b0 b1).1 (scc_b b0 b1).2, va a b b0 b1, vr _ _ b0 b1]
  · have col : ∀ j : Nat, (j : Int) < c → P (0 * c + j) := fun j => by
      induction j with
      | zero => intro _; rw [Int.zero_mul]; exact p0
      | succ j ih =>
        intro h
        have q := (hl (0 * c + (j + 1 : Nat)) (by rw [Int.zero_mul]; omega) (by
          have := (inb (r := r) (Int.le_refl 0) hr (b := ((j + 1 : Nat) : Int)) (by omega) h).2
          exact this)).mpr
        rw [vl _ _ (by omega) h] at q
        have e : prd c ((j + 1 : Nat) : Int) = j := by unfold prd; rw [if_neg (by omega)]; omega
        rw [e] at q
        exact q (ih (by omega))
    have row : ∀ (i : Nat) (b : Int), (i : Int) < r → 0 ≤ b → b < c → P (i * c + b) := fun i => by
      induction i with
      | zero =>
        intro b _ b0 b1
        have := col b.toNat (by omega)
        rw [Int.toNat_of_nonneg b0] at this
        exact this
      | succ i ih =>
        intro b h b0 b1
        have w := inb (r := r) (a := ((i + 1 : Nat) : Int)) (by omega) h b0 b1
        have q := (ha _ w.1 w.2).mpr
        rw [va _ _ b0 b1] at q
        have e : prd r ((i + 1 : Nat) : Int) = i := by unfold prd; rw [if_neg (by omega)]; omega
        rw [e] at q
        exact q (ih b (by omega) b0 b1)
    exact key fun a b a0 a1 b0 b1 => by
      have := row a.toNat b (by omega) b0 b1
      rw [Int.toNat_of_nonneg a0] at this
      exact this
/-- the comb's web -/
def cS (r c : Int) : List Int := (combD (lfO c) (abO r c) (r * c).toNat).1
def cN (r c : Int) : Int → Int := (combD (lfO c) (abO r c) (r * c).toNat).2
theorem comb_rc {r c : Int} (hr : 0 < r) (hc : 0 < c) : CombV (r * c) (lfO c) (rtO c) (abO r c) (blO r c) (cS r c) (cN r c) := comb_v (tor_rc hr hc)

/-! Rim: the rim from an end on; flooding; counting rims. Plain Lean. -/
structure Per (f : Int → Int) (x : Int) (n : Nat) : Prop where
  pos : 0 < n
  ret : iter f n x = x
  first : ∀ i, 0 < i → i < n → iter f i x ≠ x
def rimO (f : Int → Int) (x : Int) (n : Nat) : List Int := (List.range n).map fun i => iter f i x
section
variable {S : List Int} {f : Int → Int} {x y : Int} {n m : Nat}
theorem rimO_len : (rimO f x n).length = n := by unfold rimO; rw [List.length_map, List.length_range]
theorem rimO_succ : rimO f x (n + 1) = rimO f x n ++ [iter f n x] := by unfold rimO; rw [List.range_succ, List.map_append]; rfl
theorem rimO_one : rimO f x 1 = [x] := rfl
theorem rimO_at (h : m < n) : (rimO f x n)[m]? = some (iter f m x) := by
  unfold rimO
  rw [List.getElem?_map, List.getElem?_range h]
  rfl
theorem per_ex (P : Perm1 S f) (hx : x ∈ S) : ∃ n, n ≤ S.length ∧ Per f x n := by
  obtain ⟨n, h1, h2, h3⟩ := iter_first P hx
  refine ⟨n + 1, h1, Nat.succ_pos _, h2, fun i h0 hi => ?_⟩
  have := h3 (i - 1) (by omega)
  rwa [show i - 1 + 1 = i by omega] at this
theorem per_unique (h : Per f x n) (g : Per f x m) : n = m := by
  rcases Nat.lt_trichotomy n m with q | q | q
  · exact absurd h.ret (g.first n h.pos q)
  · exact q
  · exact absurd g.ret (h.first m g.pos q)
theorem per_le (P : Perm1 S f) (hx : x ∈ S) (h : Per f x n) : n ≤ S.length := by
  obtain ⟨m, hm, g⟩ := per_ex P hx
  rw [per_unique h g]
  exact hm
theorem rim_nd (P : Perm1 S f) (hx : x ∈ S) (h : Per f x n) : (rimO f x n).Nodup := by
  unfold rimO
  rw [List.nodup_iff_pairwise_ne, List.pairwise_map]
  refine List.Pairwise.imp_of_mem (fun {i j} hi hj hlt e => ?_) (List.pairwise_lt_range (n := n))
  have hj' := List.mem_range.mp hj
  obtain ⟨k, hk⟩ : ∃ k, j = (k + 1) + i := ⟨j - i - 1, by omega⟩
  rw [hk, Nat.add_comm (k + 1) i, iter_add] at e
  exact h.first (k + 1) (by omega) (by omega) (iter_inj P i hx (iter_mem P hx (k + 1)) e).symm
theorem per_mod (h : Per f x n) (i : Nat) : ∃ j, j < n ∧ iter f i x = iter f j x := by
  induction i with
  | zero => exact ⟨0, h.pos, rfl⟩
  | succ i ih =>
    obtain ⟨j, hj, e⟩ := ih
    by_cases c : j + 1 = n
    · refine ⟨0, h.pos, ?_⟩
      show f (iter f i x) = x
      rw [e]
      have := h.ret
      rw [← c] at this
      exact this
    · exact ⟨j + 1, by omega, by show f _ = f _; rw [e]⟩
theorem rim_mem (P : Perm1 S f) (hx : x ∈ S) (h : Per f x n) : y ∈ rimO f x n ↔ Eqv (fstep S f) x y := by
  unfold rimO
  rw [List.mem_map]
  constructor
  · rintro ⟨i, _, rfl⟩
    exact fstep_iter P hx i
  · intro e
    obtain ⟨i, _, q⟩ := eqv_iter P hx e
    obtain ⟨j, hj, q2⟩ := per_mod h i
    exact ⟨j, List.mem_range.mpr hj, by rw [← q2, q]⟩
theorem rim_sub (P : Perm1 S f) (hx : x ∈ S) (hy : y ∈ rimO f x n) : y ∈ S := by
  obtain ⟨i, _, rfl⟩ := List.mem_map.mp hy
  exact iter_mem P hx i
end
/-! ### flooding -/
section
variable {S : List Int} {nx : Int → Int}
/-- what is closed under both steps is all -/
theorem flood_all (W : Web S nx) {T : List Int} {b : Int} (hb : b ∈ S) (hT : b ∈ T) (cl : ∀ x ∈ T, nx x ∈ T ∧ ot x ∈ T) (sub : ∀ x ∈ T, x ∈ S) : ∀ x ∈ S, x ∈ T := by
  intro x hx
  have e := W.conn b hb x hx
  refine (Eqv.inv (A := fun y => y ∈ T) (fun a c q => ?_) e).mp hT
  obtain ⟨ha, h⟩ := q
  have M := W.map
  rcases h with rfl | rfl
  · exact ⟨fun z => (cl _ z).2, fun z => by have := (cl _ z).2; rwa [ot_ot] at this⟩
  · exact ⟨fun z => (cl _ z).1, fun z => by have := (cl _ (cl _ z).1).1; rwa [M.n3 a ha] at this⟩
end
/-! ### counting classes as they are met -/
/-- behind some ends: the ends passed, how many rims -/
structure Cnt (S : List Int) (f : Int → Int) (P : List Int) (n : Nat) : Prop where
  sub : ∀ x ∈ P, x ∈ S
  cl : ∀ x ∈ P, f x ∈ P
  reps : ∃ R : List Int, R.length = n ∧ (∀ x ∈ R, x ∈ S) ∧ (∀ x ∈ P, ∃ y ∈ R, Eqv (fstep S f) x y) ∧ (∀ x ∈ R, x ∈ P) ∧ R.Pairwise fun x y => ¬ Eqv (fstep S f) x y
section
variable {S : List Int} {f : Int → Int} {P : List Int} {n : Nat}
theorem cnt_nil : Cnt S f [] 0 := ⟨fun _ h => absurd h List.not_mem_nil, fun _ h => absurd h List.not_mem_nil, [], rfl, fun _ h => absurd h List.not_mem_nil, fun _ h => absurd h List.not_mem_nil, fun _ h => absurd h List.not_mem_nil, .nil⟩
theorem Cnt.all (C : Cnt S f P n) (h : ∀ x ∈ S, x ∈ P) : Cls S (fstep S f) n := by
  obtain ⟨R, h1, h2, h3, h4, h5⟩ := C.reps
  exact ⟨R, h1, h2, fun x hx => h3 x (h x hx), h5⟩
theorem Cnt.closed (C : Cnt S f P n) (Pm : Perm1 S f) {x y : Int} (hx : x ∈ P) (e : Eqv (fstep S f) x y) : y ∈ P := by
  obtain ⟨i, hi, rfl⟩ := eqv_iter Pm (C.sub x hx) e
  clear e hi
  induction i with
  | zero => exact hx
  | succ i ih => exact C.cl _ ih
/-- one rim more -/
theorem Cnt.more (C : Cnt S f P n) (Pm : Perm1 S f) {P' : List Int} {e : Int} (he : e ∈ S) (hn : e ∉ P) (hs : ∀ x ∈ P, x ∈ P') (hc : ∀ x ∈ P', f x ∈ P') (he' : e ∈ P') (hx : ∀ x ∈ P', x ∈ P ∨ Eqv (fstep S f) e x) : Cnt S f P' (n + 1) := by
  obtain ⟨R, h1, h2, h3, h4, h5⟩ := C.reps
  refine ⟨fun x h => ?_, hc, e :: R, by rw [List.length_cons, h1], fun x h => ?_, fun x h => ?_, fun x h => ?_, List.Pairwise.cons (fun y hy q => ?_) h5⟩
  · rcases hx x h with q | q
    · exact C.sub x q
    · obtain ⟨i, _, rfl⟩ := eqv_iter Pm he q
      exact iter_mem Pm he i
  · rcases List.mem_cons.mp h with rfl | h
    · exact he
    · exact h2 x h
  · rcases hx x h with q | q
    · obtain ⟨y, hy, r⟩ := h3 x q
      exact ⟨y, List.mem_cons_of_mem _ hy, r⟩
    · exact ⟨e, List.mem_cons_self, q.symm⟩
  · rcases List.mem_cons.mp h with rfl | h
    · exact he'
    · exact hs x (h4 x h)
  · exact hn (C.closed Pm (h4 y hy) q.symm)
end

/-! Fd: dicts by whole numbers: their keys in order and what stands at each. -/
def kvI (S : List Int) (f : Int → V) : List (Key × V) := S.map fun x => (Sum.inl x, f x)
def dI (S : List Int) (f : Int → V) : HO := .dK (kvI S f)
abbrev dW (S : List Int) (nx : Int → Int) : HO := dI S fun x => .int (nx x)
section
variable {S : List Int} {f g : Int → V} {k : Int} {v : V} {H H1 H' : Hp} {a : Addr}
theorem dI_congr (h : ∀ x ∈ S, f x = g x) : dI S f = dI S g := by
  unfold dI kvI
  congr 1
  exact List.map_congr_left fun x hx => by rw [h x hx]
theorem kvI_len : (kvI S f).length = S.length := by unfold kvI; rw [List.length_map]
theorem valV_in (h : k ∈ S) : valV (kvI S f) (Sum.inl k) = some (f k) := by
  unfold kvI
  induction S with
  | nil => exact absurd h List.not_mem_nil
  | cons x r ih =>
    by_cases e : x = k
    · subst e; exact valV_pos rfl
    · rw [List.map_cons, valV_neg (fun z => e (Sum.inl.inj z))]
      exact ih ((List.mem_cons.mp h).resolve_left fun z => e z.symm)
theorem valV_out (h : k ∉ S) : valV (kvI S f) (Sum.inl k) = none := by
  unfold kvI
  induction S with
  | nil => rfl
  | cons x r ih =>
    rw [List.map_cons, valV_neg (fun z => h (by rw [← (Sum.inl.inj z : x = k)]; exact List.mem_cons_self))]
    exact ih fun z => h (List.mem_cons_of_mem _ z)
theorem valV_some : (valV (kvI S f) (Sum.inl k)).isSome = decide (k ∈ S) := by
  by_cases h : k ∈ S
  · rw [valV_in h, decide_eq_true h]; rfl
  · rw [valV_out h, decide_eq_false h]; rfl
theorem putK_I : putK (kvI S f) (Sum.inl k) v = kvI (putS S k) fun x => if x = k then v else f x := by
  unfold putK putS
  rw [valV_any, valV_some]
  by_cases h : k ∈ S
  · rw [if_pos (decide_eq_true h), if_pos h]
    unfold kvI
    rw [List.map_map]
    refine List.map_congr_left fun x _ => ?_
    show (if (Sum.inl x : Key) = Sum.inl k then ((Sum.inl x : Key), v) else (Sum.inl x, f x)) = _
    by_cases e : x = k
    · rw [if_pos (by rw [e])]
      show _ = ((Sum.inl x : Key), if x = k then v else f x)
      rw [if_pos e]
    · rw [if_neg (fun z => e (Sum.inl.inj z))]
      show _ = ((Sum.inl x : Key), if x = k then v else f x)
      rw [if_neg e]
  · rw [if_neg (fun z => h (of_decide_eq_true z)), if_neg h]
    unfold kvI
    rw [List.map_append, List.map_singleton]
    have e : (fun x : Int => if x = k then v else f x) k = v := if_pos rfl
    rw [e]
    congr 1
    exact List.map_congr_left fun x hx => by
      show _ = ((Sum.inl x : Key), if x = k then v else f x)
      rw [if_neg (fun z : x = k => h (z ▸ hx))]
theorem dropK_I : dropK (kvI S f) (Sum.inl k) = kvI (S.filter fun x => decide (x ≠ k)) f := by
  unfold dropK kvI
  rw [List.filter_map]
  congr 1
  refine List.filter_congr fun x _ => ?_
  show decide ((Sum.inl x : Key) ≠ Sum.inl k) = _
  by_cases e : x = k
  · subst e; simp
  · simp [e]
/-! ### readings -/
variable {Q : VK} {σ : St} {nx bk ct : St → Hp → Prop} {rt : VK} {td ty tv : TE} {R : Bool → Hp → Prop}
def rDGet : R2 := fun x y H Q => ∃ a v, x = .ref a ∧ DGet H a y (some v) ∧ Q v H
def rDIn : R2 := fun y x H Q => ∃ a o, x = .ref a ∧ DGet H a y o ∧ Q (.bl o.isSome) H
def rDNotIn : R2 := fun y x H Q => ∃ a o, x = .ref a ∧ DGet H a y o ∧ Q (.bl (!o.isSome)) H
theorem r_dgetS (h : td σ H fun x H1 => ty σ H1 fun y H2 => rDGet x y H2 Q) : tDGet td ty σ H Q := h
theorem r_dinS (h : ty σ H fun y H1 => td σ H1 fun x H2 => rDIn y x H2 Q) : tDIn ty td σ H Q := h
theorem r_dnotinS (h : ty σ H fun y H1 => td σ H1 fun x H2 => rDNotIn y x H2 Q) : tDNotIn ty td σ H Q := h
theorem r_dget (hd : Rd H a (dI S f)) (hm : k ∈ S) (h : Q (f k) H) : rDGet (.ref a) (.int k) H Q := ⟨a, _, rfl, .inl ⟨_, Sum.inl k, hd, rfl, (valV_in hm).symm⟩, h⟩
theorem r_din (hd : Rd H a (dI S f)) (h : Q (.bl (decide (k ∈ S))) H) : rDIn (.int k) (.ref a) H Q := ⟨a, _, rfl, .inl ⟨_, Sum.inl k, hd, rfl, rfl⟩, by rw [valV_some]; exact h⟩
theorem r_dnotin (hd : Rd H a (dI S f)) (h : Q (.bl (!decide (k ∈ S))) H) : rDNotIn (.int k) (.ref a) H Q := ⟨a, _, rfl, .inl ⟨_, Sum.inl k, hd, rfl, rfl⟩, by rw [valV_some]; exact h⟩
def rDPut : V → V → V → Hp → (Hp → Prop) → Prop := fun x y v H N => ∃ a H4, x = .ref a ∧ DPut H a y v H4 ∧ N H4
theorem r_dputS (h : tv σ H fun v H1 => td σ H1 fun x H2 => ty σ H2 fun y H3 => rDPut x y v H3 fun H4 => nx σ H4) : sDPut td ty tv ⟨nx, rt, bk, ct⟩ σ H := h
theorem r_dput {N : Hp → Prop} (hd : H a = some (dI S f)) (hl : S.length < sizeLine) (h : N (upd H a (dI (putS S k) fun x => if x = k then v else f x))) : rDPut (.ref a) (.int k) v H N := by
  refine ⟨a, _, rfl, .inl ⟨_, Sum.inl k, hd, rfl, by rw [kvI_len]; exact hl, rfl⟩, ?_⟩
  rw [putK_I]
  exact h
theorem r_dputW {N : Hp → Prop} {w : Int → Int} {y : Int} (hd : H a = some (dW S w)) (hl : S.length < sizeLine) (h : N (upd H a (dW (putS S k) (fset w k y)))) : rDPut (.ref a) (.int k) (.int y) H N := by
  refine r_dput hd hl ?_
  have e : (fun x => if x = k then V.int y else V.int (w x)) = fun x => V.int (fset w k y x) := funext fun x => by unfold fset; split <;> rfl
  rw [e]
  exact h
theorem r_dputT {N : Hp → Prop} (hd : H a = some (dI S fun _ => v)) (hl : S.length < sizeLine) (h : N (upd H a (dI (putS S k) fun _ => v))) : rDPut (.ref a) (.int k) v H N := by
  refine r_dput hd hl ?_
  have e : (fun x : Int => if x = k then v else v) = fun _ => v := funext fun x => by split <;> rfl
  rw [e]
  exact h
theorem r_dnew (h : ∀ p, Free H p → Q (.ref p) (upd H p (dI [] f))) : tDNewK σ H Q := h
theorem r_disp1 {tk tv : TE} (hk : ∀ (H : Hp) (Q : VK), Q (.int k) H → tk σ H Q) (hv : ∀ (H : Hp) (Q : VK), Q v H → tv σ H Q) (h : ∀ p, Free H p → Q (.ref p) (upd H p (dI [k] fun _ => v))) : tDisp [(tk, tv)] σ H Q := fun p hp => by
  refine hk _ _ (hv _ _ ⟨upd_same, [(Sum.inl k, v)], rfl, Nat.le_add_left 1 14, ?_⟩)
  rw [upd_upd]
  exact h p hp
/-- pop -/
def rDPop1 : V → V → Hp → VK → Prop := fun x y H Q => ∃ a kvs k v, x = .ref a ∧ H a = some (.dK kvs) ∧ y = kV k ∧ valV kvs k = some v ∧ Q v (upd H a (.dK (dropK kvs k)))
theorem r_dpop {td ty : TE} (h : td σ H fun x H1 => ∃ a, x = .ref a ∧ IsD H1 a ∧ ty σ H1 fun y H2 => ∃ kvs k v, H2 a = some (.dK kvs) ∧ y = kV k ∧ valV kvs k = some v ∧ Q v (upd H2 a (.dK (dropK kvs k)))) : tDPop1 td ty σ H Q := h
theorem r_dpop1 (hd : H a = some (dI S f)) (hm : k ∈ S) (h : Q (f k) (upd H a (dI (S.filter fun x => decide (x ≠ k)) f))) :
    ∃ kvs k' v, H a = some (.dK kvs) ∧ V.int k = kV k' ∧ valV kvs k' = some v ∧ Q v (upd H a (.dK (dropK kvs k'))) := by
  refine ⟨_, Sum.inl k, _, hd, rfl, valV_in hm, ?_⟩
  rw [dropK_I]
  exact h
theorem isD_I (hd : Rd H a (dI S f)) : IsD H a := .inl ⟨_, hd⟩
/-- len, list, dict -/
def rLenD : List V → Hp → VK → Prop := fun xs H Q => ∃ a kvs, xs = [V.ref a] ∧ Rd H a (.dK kvs) ∧ Q (.int kvs.length) H
theorem call_lenRd {X : Cx} : CallR X (.builtin "len") rLenD := by
  intro pins s σ H xs us Q I r h
  obtain ⟨a, kvs, rfl, hd, q⟩ := h
  obtain ⟨u, rfl, rx⟩ := vals1 r
  obtain rfl : u = Value.ref a := rx
  exact d_len I hd fun t s' I' => ⟨.int kvs.length, H, I', ⟨t, rfl⟩, q⟩
def rListRd : List V → Hp → VK → Prop := fun xs H Q => ∃ (a : Addr) (kvs : List (Key × V)), xs = [.ref a] ∧ Rd H a (.dK kvs) ∧ ∀ p, H p = none → Q (.ref p) (upd H p (.lst (kvs.map fun kv => kV kv.1)))
def rDictRd : List V → Hp → VK → Prop := fun xs H Q => ∃ (a : Addr) (kvs : List (Key × V)), xs = [.ref a] ∧ Rd H a (.dK kvs) ∧ ∀ p, H p = none → Q (.ref p) (upd H p (.dK kvs))
theorem r_lenD (hd : Rd H a (dI S f)) (h : Q (.int S.length) H) : rLenD [.ref a] H Q := ⟨a, _, rfl, hd, by rw [kvI_len]; exact h⟩
theorem r_listD (hd : Rd H a (dI S f)) (h : ∀ p, Free H p → Q (.ref p) (upd H p (.lst (S.map V.int)))) : rListRd [.ref a] H Q := ⟨a, _, rfl, hd, fun p hp => by
  have e : (kvI S f).map (fun kv => kV kv.1) = S.map V.int := by unfold kvI; rw [List.map_map]; rfl
  rw [e]
  exact h p hp⟩
theorem r_dictD (hd : Rd H a (dI S f)) (h : ∀ p, Free H p → Q (.ref p) (upd H p (dI S f))) : rDictRd [.ref a] H Q := ⟨a, _, rfl, hd, h⟩
theorem r_sorted {K : PySem.W.Frag} {ns : List Int} (hs : SqL K H a (ns.map V.int)) (h : ∀ (ns' : List Int) (p : Addr), ns'.Perm ns → ns'.Pairwise (· ≤ ·) → Free H p → Q (.ref p) (upd H p (.lst (ns'.map V.int)))) : rSortedI K [.ref a] H Q := ⟨a, ns, rfl, hs, h⟩
theorem r_all {K : PySem.W.Frag} {bs : List Bool} (hs : SqL K H a (bs.map V.bl)) (h : Q (.bl (bs.all id)) H) : rAll K [.ref a] H Q := ⟨a, bs, rfl, hs, h⟩
theorem r_bm0 {K : PySem.W.Frag} {T : String} {r : V → List V → Hp → VK → Prop} {to : TE} (h : to σ H fun x H1 => tyV K T x H1 ∧ r x [] H1 Q) : tBM0 K T r to σ H Q := h
theorem r_clearD {K : PySem.W.Frag} (hd : H a = some (dI S f)) (h : Q .non (upd H a (dI [] f))) : tyV K "dict" (.ref a) H ∧ rDClear (.ref a) [] H Q := ⟨.inr (.inr (.inl ⟨rfl, .inl ⟨_, hd⟩⟩)), a, _, rfl, rfl, hd, h⟩
theorem r_popL {K : PySem.W.Frag} {xs : List V} {y : V} (hl : H a = some (.lst xs)) (hy : xs[xs.length - 1]? = some y) (h : Q y (upd H a (.lst xs.dropLast))) : tyV K "list" (.ref a) H ∧ rPop (.ref a) [] H Q := ⟨.inl ⟨rfl, _, SqL.of hl⟩, a, xs, y, rfl, rfl, hl, hy, h⟩
theorem isi_dictR {K : PySem.W.Frag} (hd : H a = some (dI S f)) (h : Q (.bl true) H) : rIsi K [.ref a, .ty "dict"] H Q := isi_dict hd h
/-! ### a dict that is walked is locked -/
theorem same_unlock {u : HO} {od : Obj} (h0 : H a = some u) (s : Same (upd H a (.frz od u)) H') : Same H (upd H' a u) := fun b x e => by
  by_cases z : b = a
  · subst z
    rw [h0] at e
    cases e
    exact upd_same
  · rw [upd_ne z]
    exact s b x (by rw [upd_ne z]; exact e)
theorem r_forD {tb : TS} {i : Nat} {td : TE} (hd : H a = some (dI S f)) (ht : ∀ H Q, Q (.ref a) H → td σ H Q)
    (h : ∀ od, ∃ Pv : Nat → St → Hp → Prop, Pv 0 σ (upd H a (.frz od (dI S f))) ∧ (∀ j σ H, j ≤ S.length → Pv j σ H → H a = some (.frz od (dI S f))) ∧
      (∀ j x σ H, S[j]? = some x → Pv j σ H → tb ⟨Pv (j + 1), fun v H' => H' a = some (.frz od (dI S f)) ∧ rt v (upd H' a (dI S f)), fun σ' H' => H' a = some (.frz od (dI S f)) ∧ nx σ' (upd H' a (dI S f)), Pv (j + 1)⟩ (σ.set i (some (.int x))) H) ∧
      (∀ σ H, Pv S.length σ H → nx σ (upd H a (dI S f)))) : tLock (tFor (iKeys td) (gName i) tb) ⟨nx, rt, bk, ct⟩ σ H := by
  refine ⟨a, _, hd, trivial, fun od => ?_⟩
  obtain ⟨Pv, p0, pg, ps, pd⟩ := h od
  refine ht _ _ ⟨a, od, rfl, .inl ⟨kvI S f, upd_same, ?_⟩⟩
  have e := kvI_len (S := S) (f := f)
  refine for_it (D := ⟨fun σ' H' => H' a = some (.frz od (dI S f)) ∧ nx σ' (upd H' a (dI S f)), fun v H' => H' a = some (.frz od (dI S f)) ∧ rt v (upd H' a (dI S f)), fun _ _ => False, fun _ _ => False⟩) walk_keys Pv p0 (fun j σ H hj p => pg j σ H (by rw [← e]; exact hj) p) (fun j x σ H H' hj p y => ?_) (fun σ H p => ?_)
  · obtain ⟨rfl, k, v, hk, rfl⟩ := y
    obtain ⟨x, hx, ek⟩ := map_get hk
    cases ek
    exact ps j x σ H' hx p
  · rw [e] at p
    exact ⟨pg _ _ _ (Nat.le_refl _) p, pd σ H p⟩
end
/-! ### while, with something kept in mind -/
section
variable {α : Type} {σ : St} {H : Hp} {nx bk ct : St → Hp → Prop} {rt : VK}
theorem r_whileG {c : TT} {tb : TS} (Pv : α → St → Hp → Prop) (μ : α → Nat) (g0 : α) (h0 : Pv g0 σ H)
    (hs : ∀ g σ H, Pv g σ H → c σ H fun b H1 => if b = true then ∃ N : St → Hp → Prop, (∀ σ' H', N σ' H' → ∃ m', m' < μ g ∧ ∃ g', m' = μ g' ∧ Pv g' σ' H') ∧ tb ⟨N, rt, nx, N⟩ σ H1 else nx σ H1) : tWhile c tb ⟨nx, rt, bk, ct⟩ σ H := by
  refine ⟨fun m σ H => ∃ g, m = μ g ∧ Pv g σ H, ⟨_, g0, rfl, h0⟩, ?_⟩
  rintro m σ H ⟨g, rfl, p⟩
  exact hs g σ H p
theorem r_wG {tb : TS} {Pv : α → St → Hp → Prop} {μ : α → Nat} {m : Nat} (h : tb ⟨fun σ' H' => ∃ g', Pv g' σ' H' ∧ μ g' < m, rt, nx, fun σ' H' => ∃ g', Pv g' σ' H' ∧ μ g' < m⟩ σ H) :
    ∃ N : St → Hp → Prop, (∀ σ' H', N σ' H' → ∃ m', m' < m ∧ ∃ g', m' = μ g' ∧ Pv g' σ' H') ∧ tb ⟨N, rt, nx, N⟩ σ H := ⟨_, fun _ _ ⟨g', p, l⟩ => ⟨_, l, g', rfl, p⟩, h⟩
end
/-! ### Rd carried on -/
section
variable {H H1 H' : Hp} {a p : Addr} {u o : HO}
theorem upd_id (h : H a = some u) : upd H a u = H := by
  funext b
  by_cases e : b = a
  · rw [e, upd_same, h]
  · rw [upd_ne e]
theorem rd_in (h : H a = some u) : Rd H a u := .inl h
theorem rd_frz {ob : Obj} (h : H a = some (.frz ob u)) : Rd H a u := .inr ⟨ob, h⟩
theorem rdb_ne (hn : a ≠ p) (h : Rd H a u) : Rd (upd H p o) a u := by
  unfold Rd
  rw [upd_ne hn]
  exact h
theorem ne_rd (h : Rd H a u) (h0 : Free H p) : a ≠ p := h.elim (fun e => ne_of_none e h0) fun ⟨_, e⟩ => ne_of_none e h0
theorem ne_rd' (h : Rd H p u) (h0 : Free H a) : a ≠ p := (ne_rd h h0).symm
theorem rdb_new (hp : Free H p) (h : Rd H a u) : Rd (upd H p o) a u := rdb_ne (ne_rd h hp) h
theorem rdb_same (s : Same H H') (h : Rd H a u) : Rd H' a u := same_rd s h
theorem ne_kind {x y : HO} (h1 : H a = some x) (h2 : H p = some y) (h : x ≠ y) : a ≠ p := fun e => h (by rw [e, h2] at h1; cases h1; rfl)
theorem upd_lock {D : Addr} {l v : HO} (h : H a = some u) (hD : D ≠ a) : upd (upd (upd H a v) D l) a u = upd H D l := by
  funext b
  by_cases h1 : b = a
  · subst h1
    rw [upd_same, upd_ne (Ne.symm hD), h]
  · rw [upd_ne h1]
    by_cases h2 : b = D
    · subst h2
      rw [upd_same, upd_same]
    · rw [upd_ne h2, upd_ne h2, upd_ne h1]
end
/-! ### comprehensions that leave the heap as it is -/
section
variable {K : PySem.W.Frag} {H : Hp} {Q : VK} {σ : St} {a : Addr} {tl te : TE} {tt : TT} {i : Nat}
theorem wipe1 : wipe σ [i] = σ.set i none := rfl
theorem r_lcL {ns : List Int} (p : Int → Bool) (e : Int → V) (hs : SqL K H a (ns.map V.int)) (ht : ∀ Q : VK, Q (.ref a) H → tl σ H Q) (hn : ns.length < sizeLine)
    (h1 : ∀ x ∈ ns, ∀ (D : Addr) (u : HO), Free H D → ∀ R : Bool → Hp → Prop, R (p x) (upd H D u) → tt (σ.set i (some (.int x))) (upd H D u) R)
    (h2 : ∀ x ∈ ns, p x = true → ∀ (D : Addr) (u : HO), Free H D → ∀ Q : VK, Q (e x) (upd H D u) → te (σ.set i (some (.int x))) (upd H D u) Q)
    (h : ∀ D, Free H D → Q (.ref D) (upd H D (.lst ((ns.filter p).map e)))) : tLc (iList K tl) (gName i) tt te [i] σ H Q := by
  refine ht _ ⟨a, rfl, ⟨_, hs⟩, fun D hD => ?_⟩
  refine lc_list (xs := ns.map V.int) (fun j H' => H' = upd H D (.lst (((ns.take j).filter p).map e))) rfl (fun j H' _ q => ?_) (fun j x H' hx q => ?_) (fun H' q => ?_)
  · subst q
    exact lst_same (same_new (Same.refl H) hD) hs
  · subst q
    obtain ⟨n, hj, rfl⟩ := map_get hx
    have hm : n ∈ ns := List.mem_of_getElem? hj
    have et : ns.take (j + 1) = ns.take j ++ [n] := by rw [List.take_succ, hj]; rfl
    rw [wipe1]
    show _ ∧ _
    have es : (σ.set i none).set i (some (.int n)) = σ.set i (some (.int n)) := List.set_set _
    refine ⟨by rw [es]; exact List.set_set _, ?_⟩
    rw [es]
    refine h1 n hm D _ hD _ ?_
    cases hp : p n with
    | true =>
      rw [if_pos rfl]
      refine h2 n hm hp D _ hD _ ⟨_, upd_same, ?_, ?_⟩
      · rw [List.length_map]
        refine Nat.lt_of_le_of_lt (Nat.le_trans (List.length_filter_le _ _) ?_) hn
        rw [List.length_take]
        exact Nat.min_le_right _ _
      · rw [upd_upd, et, List.filter_append, List.map_append]
        simp [hp]
    | false =>
      rw [if_neg Bool.false_ne_true, et, List.filter_append]
      simp [hp]
  · subst q
    rw [List.length_map, List.take_length]
    exact h D hD
theorem r_lcD {S : List Int} {f : Int → V} (e : Int → V) (hd : H a = some (dI S f)) (ht : ∀ (H' : Hp) (Q : VK), Q (.ref a) H' → tl σ H' Q) (hn : S.length < sizeLine)
    (h2 : ∀ x ∈ S, ∀ (H' : Hp) (Q : VK), Q (e x) H' → te (σ.set i (some (.int x))) H' Q)
    (h : ∀ D, Free H D → Q (.ref D) (upd H D (.lst (S.map e)))) : tLockE (tLc (iKeys tl) (gName i) tYes te [i]) σ H Q := by
  refine ⟨a, _, hd, trivial, fun od => ?_⟩
  refine ht _ _ ⟨a, od, rfl, .inl ⟨kvI S f, upd_same, fun D hD => ?_⟩⟩
  have hDa : D ≠ a := fun z => by rw [z, upd_same] at hD; cases hD
  have hD0 : Free H D := by rw [upd_ne hDa] at hD; exact hD
  have el := kvI_len (S := S) (f := f)
  refine lc_it walk_keys (fun j H' => H' = upd (upd H a (.frz od (dI S f))) D (.lst ((S.take j).map e))) rfl (fun j H' _ q => ?_) (fun j x H' H'' hj q y => ?_) (fun H' q => ?_)
  · subst q
    rw [upd_ne (Ne.symm hDa)]
    exact upd_same
  · subst q
    obtain ⟨rfl, k, v, hk, rfl⟩ := y
    obtain ⟨n, hn', ek⟩ := map_get hk
    cases ek
    have hm : n ∈ S := List.mem_of_getElem? hn'
    have et : S.take (j + 1) = S.take j ++ [n] := by rw [List.take_succ, hn']; rfl
    rw [wipe1]
    show _ ∧ _
    have es : (σ.set i none).set i (some (.int n)) = σ.set i (some (.int n)) := List.set_set _
    refine ⟨by show List.set ((σ.set i none).set i (some (.int n))) _ _ = _; rw [es]; exact List.set_set _, ?_⟩
    show te ((σ.set i none).set i (some (.int n))) _ _
    rw [es]
    refine h2 n hm _ _ ⟨_, upd_same, ?_, ?_⟩
    · rw [List.length_map]
      refine Nat.lt_of_le_of_lt ?_ hn
      rw [List.length_take]
      exact Nat.min_le_right _ _
    · rw [upd_upd, et, List.map_append]
      rfl
  · subst q
    rw [el, List.take_length]
    refine ⟨by rw [upd_ne (Ne.symm hDa)]; exact upd_same, ?_⟩
    rw [upd_lock hd hDa]
    exact h D hD0
end

/-! Fm: min and max of a tuple of whole numbers. -/
section
open PyProof.Rows
variable {prog : Program} {w : World} {A : Around} {E : Value → Shared → Prop} {s : Shared} {l : Addr} {its : List Value} {ns : List Int} {Q : Value → Shared → Prop}
theorem tup_iter {xs : Array (Int × Tok)} {Q : Value → Shared → Prop} (hl : s.heap.IsTuple l (intItems xs))
    (h : ∀ s₂ : Shared, s₂ = { s with heap := s.heap.push { cls := .type "tuple_iterator", data := .fields #[.ref l, .int 0 0] } } →
      (s₂.heap.IsTupleIter s.heap.objs.size l 0 ∧ s₂.heap.IsTuple l (intItems xs)) → (∀ b ∈ [s.heap.objs.size, l], b < s₂.heap.objs.size) → l ≠ s.heap.objs.size → Q (.ref s.heap.objs.size) s₂) :
    wpAny (model prog w) A (pyIter (.ref l)) Q E s := by
  have hlt : l < s.heap.objs.size := by obtain ⟨_, e, _⟩ := hl; exact Heap.lt_size e
  refine wpAny_pyIter_tuple hl (h _ rfl ⟨⟨_, Heap.get?_push_size _ rfl, rfl, rfl⟩, hl.push _⟩ (fun b hb => ?_) (Nat.ne_of_lt hlt))
  show b < (s.heap.push _).objs.size
  rw [Heap.size_push]
  rcases List.mem_cons.mp hb with rfl | hb
  · exact Nat.lt_succ_self _
  · rcases List.mem_cons.mp hb with rfl | hb
    · exact Nat.lt_succ_of_lt hlt
    · cases hb
theorem tup_kept {h' : Heap} (hk : ∀ b o, b ∉ [s.heap.objs.size] → (s.heap.push { cls := .type "tuple_iterator", data := .fields #[.ref l, .int 0 0] }).get? b = some o → h'.get? b = some o) :
    ∀ b o, s.heap.get? b = some o → h'.get? b = some o := fun b o e => by
  refine hk b o (fun hm => ?_) (Heap.get?_push_of_some _ e)
  rcases List.mem_cons.mp hm with e1 | hm
  · exact absurd (e1 ▸ Heap.lt_size e) (Nat.lt_irrefl _)
  · cases hm
theorem maxT_raw (hh : A.handled = none) (hl : s.heap.IsTuple l its.toArray) (hi : IntsAre its ns) (hne : 0 < ns.length)
    (h : ∀ h' tk M t', (∀ b o, s.heap.get? b = some o → h'.get? b = some o) → M ∈ ns → (∀ a, a ∈ ns → a ≤ M) → Q (.int M t') { s with heap := h', toks := tk }) : wpAny (model prog w) A (call (.builtin "max") [.ref l]) Q E s := by
  obtain ⟨xs, e⟩ := hi.allInts.items
  have hn : numsOf (intItems xs).toList = ns := by rw [← e]; exact hi.numsOf
  rw [nums_intItems] at hn
  subst hn
  rw [e] at hl
  have hsz : 0 < xs.size := by simpa using hne
  refine call_max_walk (tup_iter hl fun s₂ e st hfp hlI => ?_)
  subst e
  refine ⟨_, _, _, _, _, _, _, rfl, Walks.tuple (A := A.in1) hh _ l hlI (intItems xs), st, hfp, by simpa [intItems] using hsz, CmpOf.ints_gt (numAt xs) (fun _ _ => intItems_at), fun v h' tk hP hk => ?_⟩
  have hv : (intItems xs)[argBest (fun i j => decide (numAt xs i > numAt xs j)) (xs.size - 1)]? = some v := by simpa [intItems] using hP
  obtain ⟨t, rfl⟩ := intItems_at hv
  obtain ⟨h1, h2⟩ := argBest_gt (numAt xs) (xs.size - 1)
  refine h h' tk _ t (tup_kept hk) ?_ fun a ha => ?_
  · rw [numAt_eq]; exact PySem.getD_mem (by rw [List.length_map, Array.length_toList]; omega)
  · obtain ⟨j, hj, rfl⟩ := mem_getD ha
    rw [List.length_map, Array.length_toList] at hj
    rw [← numAt_eq]; exact h2 j (by omega)
theorem minT_raw (hh : A.handled = none) (hl : s.heap.IsTuple l its.toArray) (hi : IntsAre its ns) (hne : 0 < ns.length)
    (h : ∀ h' tk M t', (∀ b o, s.heap.get? b = some o → h'.get? b = some o) → M ∈ ns → (∀ a, a ∈ ns → M ≤ a) → Q (.int M t') { s with heap := h', toks := tk }) : wpAny (model prog w) A (call (.builtin "min") [.ref l]) Q E s := by
  obtain ⟨xs, e⟩ := hi.allInts.items
  have hn : numsOf (intItems xs).toList = ns := by rw [← e]; exact hi.numsOf
  rw [nums_intItems] at hn
  subst hn
  rw [e] at hl
  have hsz : 0 < xs.size := by simpa using hne
  refine call_min_walk (tup_iter hl fun s₂ e st hfp hlI => ?_)
  subst e
  refine ⟨_, _, _, _, _, _, _, rfl, Walks.tuple (A := A.in1) hh _ l hlI (intItems xs), st, hfp, by simpa [intItems] using hsz, CmpOf.ints_lt (numAt xs) (fun _ _ => intItems_at), fun v h' tk hP hk => ?_⟩
  have hv : (intItems xs)[argBest (fun i j => decide (numAt xs i < numAt xs j)) (xs.size - 1)]? = some v := by simpa [intItems] using hP
  obtain ⟨t, rfl⟩ := intItems_at hv
  obtain ⟨h1, h2⟩ := argBest_lt (numAt xs) (xs.size - 1)
  refine h h' tk _ t (tup_kept hk) ?_ fun a ha => ?_
  · rw [numAt_eq]; exact PySem.getD_mem (by rw [List.length_map, Array.length_toList]; omega)
  · obtain ⟨j, hj, rfl⟩ := mem_getD ha
    rw [List.length_map, Array.length_toList] at hj
    rw [← numAt_eq]; exact h2 j (by omega)
end
section
open PyProof.Rows
variable {X : Cx}
def rMaxTp (K : PySem.W.Frag) : List V → Hp → VK → Prop := fun vs H Q => ∃ (a : Addr) (ns : List Int), vs = [V.ref a] ∧ SqT K H a (ns.map V.int) ∧ 0 < ns.length ∧ ∀ m, m ∈ ns → (∀ y, y ∈ ns → y ≤ m) → Q (.int m) H
def rMinTp (K : PySem.W.Frag) : List V → Hp → VK → Prop := fun vs H Q => ∃ (a : Addr) (ns : List Int), vs = [V.ref a] ∧ SqT K H a (ns.map V.int) ∧ 0 < ns.length ∧ ∀ m, m ∈ ns → (∀ y, y ∈ ns → m ≤ y) → Q (.int m) H
theorem cr_maxTp (hc : X.calm = true) : CallR X (.builtin "max") (rMaxTp X.K) := by
  intro pins s σ H vs us Q I r h
  obtain ⟨a, ns, rfl, hs, hne, q⟩ := h
  obtain ⟨its, rv, hl, _⟩ := I.tuple hs
  rw [Vals.ref1 r]
  exact maxT_raw (I.ok.hd hc) hl rv.ints hne fun h' tk m t' hk h1 h2 => ⟨.int _, H, I.kept hk, ⟨_, rfl⟩, q m h1 h2⟩
theorem cr_minTp (hc : X.calm = true) : CallR X (.builtin "min") (rMinTp X.K) := by
  intro pins s σ H vs us Q I r h
  obtain ⟨a, ns, rfl, hs, hne, q⟩ := h
  obtain ⟨its, rv, hl, _⟩ := I.tuple hs
  rw [Vals.ref1 r]
  exact minT_raw (I.ok.hd hc) hl rv.ints hne fun h' tk m t' hk h1 h2 => ⟨.int _, H, I.kept hk, ⟨_, rfl⟩, q m h1 h2⟩
end
/-! ### min(xs, key=len) of lists: one of them -/
section
open PyProof.Rows
variable {prog : Program} {w : World} {A : Around} {E : Value → Shared → Prop} {s : Shared} {l : Addr} {Q : Value → Shared → Prop}
theorem minLen_raw {as : List Addr} (hh : A.handled = none) (hl : s.heap.IsList l (as.map Value.ref).toArray) (hne : as ≠ []) (n : Addr → Nat) (hz : ∀ a ∈ as, ((n a : Nat) : Int) < 2 ^ 63) (hr : ∀ a ∈ as, ∃ its : Array Value, s.heap.IsList a its ∧ its.size = n a)
    (h : ∀ a h' tk, a ∈ as → (∀ b o, s.heap.get? b = some o → h'.get? b = some o) → Q (.ref a) { s with heap := h', toks := tk }) : wpAny (model prog w) A (call (.builtin "min") [.ref l] [(Str.ofString "key", .builtin "len")]) Q E s := by
  have hsz : (as.map Value.ref).toArray.size = as.length := by rw [List.size_toArray, List.length_map]
  refine call_min_walkKB (PySem.W.iter_listW (A := A.in1) hh hl fun s₂ e W st hfp hw hk => ?_)
  have hn : 0 < as.length := List.length_pos_iff.mpr hne
  let J : Shared → Prop := fun s' => ∃ h' tk, s' = { s with heap := h', toks := tk } ∧ ∀ b o, s.heap.get? b = some o → h'.get? b = some o
  let kf : Nat → Int := fun i => ((n (as.getD i 0) : Nat) : Int)
  have at_ : ∀ (i : Nat) (v : Value), (as.map Value.ref).toArray[i]? = some v → v = .ref (as.getD i 0) ∧ as.getD i 0 ∈ as := fun i v hv => by
    rw [List.getElem?_toArray, List.getElem?_map] at hv
    cases q : as[i]? with
    | none => rw [q] at hv; cases hv
    | some a =>
      rw [q] at hv
      cases hv
      have e1 : as.getD i 0 = a := by simp [q]
      rw [e1]
      exact ⟨rfl, List.mem_of_getElem? q⟩
  have mv : ∀ (wr : List Addr) (s1 s' : Shared), (∀ b o, s.heap.get? b = some o → b ∉ wr) → J s1 → Moved wr (fun a b => b = a) s1 s' → J s' := fun wr s1 s' hwr ⟨h1, t1, e1, k1⟩ m => by
    subst e1
    refine ⟨s'.heap, s'.toks, ?_, fun b o eb => m.heap b o (hwr b o eb) (k1 b o eb)⟩
    obtain ⟨hp, g, d, tk, os⟩ := s'
    have h1 : g = s.gens := m.gens
    have h2 : d = s.drawn := m.drawn
    have h3 : os = s.os := m.os
    subst h1 h2 h3
    rfl
  have hS : ∀ b o, s.heap.get? b = some o → b ∉ s₂.heap.objs.size :: [s.heap.objs.size] := fun b o eb hb => by
    rcases List.mem_cons.mp hb with z | z
    · have := Heap.lt_size (hk b o eb)
      rw [z] at this
      exact Nat.lt_irrefl _ this
    · exact hw b o eb z
  refine ⟨_, _, _, _, _, _, _, J, fun i k _ => ∃ t, k = .int (kf i) t, fun i j => decide (kf i < kf j), rfl, W, st, hfp, by rw [hsz]; exact hn, ⟨fun s1 s' j m => mv _ s1 s' hS j m, fun i k s1 s' v _ => v, fun i v s1 o Q1 E1 hi hv hj hst hso hq => ?_, fun i j ki kj s1 Q1 E1 hj hki hkj hq => ?_⟩, ?_, fun v s' hP ⟨h', tk, e', k'⟩ => ?_⟩
  · obtain ⟨rfl, hm⟩ := at_ i v hv
    obtain ⟨its, hi1, hi2⟩ := hr _ hm
    obtain ⟨h1, t1, rfl, k1⟩ := hj
    have hl1 : h1.IsList (as.getD i 0) its := by
      obtain ⟨o1, a1, a2⟩ := hi1
      exact ⟨o1, k1 _ _ a1, a2⟩
    refine Calls.call_len_list hl1 (by rw [hi2]; exact hz _ hm) ?_
    refine hq _ _ ⟨h1, _, rfl, k1⟩ (W.frame _ _ _ _ hst (by show t1 ≤ t1 + 1 + 1; omega) fun b _ o e => e) hso ⟨_, by rw [hi2]⟩ fun j k' v => v
  · obtain ⟨t, rfl⟩ := hki
    obtain ⟨u, rfl⟩ := hkj
    exact richCompare_gives (op := .Lt) (typeIs_int s1 _ t) (typeIs_int s1 _ u) F.slot_int_lt F.entry_int_lt (F.args_int_lt_2 _ _) (gives_int_lt _ _ t u) (fun x => nomatch x) hq
  · subst e
    exact ⟨_, _, rfl, hk⟩
  · subst e'
    obtain ⟨rfl, hm⟩ := at_ _ v hP
    exact h _ h' tk hm k'
end
def tMinLen (K : PySem.W.Frag) (ta : TA) : TE := fun σ H Q => ta σ H fun vs H1 => ∃ (a : Addr) (as : List Addr), vs = [.ref a] ∧ SqL K H1 a (as.map V.ref) ∧ as ≠ [] ∧ (∀ b ∈ as, ∃ xs, SqL K H1 b xs) ∧ ∀ b, b ∈ as → Q (.ref b) H1
section
open PyProof.Rows
variable {X : Cx} {p p2 pos kpos : Pos} {e : Expr} {ta : TA}
theorem vals_refs : ∀ {as : List Addr} {us : List Value}, Vals (as.map V.ref) us → us = as.map Value.ref
  | [], us, h => by
    rw [List.map_nil] at h
    cases h
    rfl
  | a :: as, us, h => by
    rw [List.map_cons] at h
    cases h with
    | cons r t =>
      cases r
      rw [vals_refs t, List.map_cons]
theorem pe_minLen (hc : X.calm = true) (hg : Gl X "min") (hm : X.mg "min" = none) (hgl : Gl X "len") (hml : X.mg "len" = none) (ha : PA X [e] ta)
    (he : backTo pos (starEach [e] X.env) = (false, eval e X.env) :: backTo pos (starEach [] X.env) := by rfl) (hpl : (backTo pos (starEach [e] X.env)).any (·.1) = false := by rfl) : PE X (.Call (.Name "min" p) [e] [⟨some "key", .Name "len" p2, kpos⟩] pos) (tMinLen X.K ta) := by
  refine ⟨fun pins s σ H Q I h => ?_⟩
  refine wpAny_Call_Name_kw (ld_blt I hg hm (u := .builtin "min") (by decide +kernel) ?_)
  refine PyProof.Rows.callWith_kw (thn (ha.run pos pins s σ H _ I h) fun us s1 ⟨vs, H1, I1, r1, q1⟩ => ?_) he hpl rfl rfl
  show wpAny _ _ (evalAll [(do let v ← eval (.Name "len" p2) X.env; standAt pos; pure v)]) _ _ s1
  refine wpAny_evalAll_cons (wpAny_bind (ld_blt I1 hgl hml (u := .builtin "len") (by decide +kernel) (wpAny_bind (wpAny_standAt (wpAny_pure (wpAny_evalAll_nil ?_))))))
  obtain ⟨a, as, rfl, hs, hne, hr, q⟩ := q1
  obtain ⟨its, rv, hl, hz⟩ := I1.list hs
  rw [Vals.ref1 r1]
  rw [vals_refs rv] at hl
  have hn := line63
  have ex : ∀ b, ∃ n : Nat, b ∈ as → (n : Int) < 2 ^ 63 ∧ ∃ its : Array Value, s1.heap.IsList b its ∧ its.size = n := fun b => by
    by_cases hb : b ∈ as
    · obtain ⟨xs, hx⟩ := hr b hb
      obtain ⟨its, rv, hl, hz⟩ := I1.list hx
      have hlen := rv.length
      exact ⟨its.length, fun _ => ⟨by omega, _, hl.isList, List.size_toArray ..⟩⟩
    · exact ⟨0, fun z => absurd z hb⟩
  show wpAny _ _ (call (.builtin "min") [.ref a] [(Str.ofString "key", .builtin "len")]) _ _ _
  refine minLen_raw (I1.ok.hd hc) hl.isList hne (fun b => (ex b).choose) (fun b hb => ((ex b).choose_spec hb).1) (fun b hb => ((ex b).choose_spec hb).2) fun b h' tk hb hk => ?_
  exact ⟨.ref b, H1, I1.kept hk, rfl, q b hb⟩
end

/-! Lp: loops by what is passed and what is left; lists of lists. -/
section
variable {σ : St} {H : Hp} {nx : St → Hp → Prop} {rt : VK} {K : PySem.W.Frag} {a : Addr}
/-- a walk over a list of values, by what is passed and what is left -/
theorem r_forV {xs : List V} {g : TG} {tb : TS} (hs : SqL K H a xs) (Pv : List V → List V → St → Hp → Prop) (h0 : Pv [] xs σ H) (hG : ∀ pre post σ H, xs = pre ++ post → Pv pre post σ H → SqL K H a xs)
    (hb : ∀ pre x post σ H, xs = pre ++ x :: post → Pv pre (x :: post) σ H → g x σ H fun σ2 H2 => tb ⟨Pv (pre ++ [x]) post, rt, nx, Pv (pre ++ [x]) post⟩ σ2 H2) (hd : ∀ σ H, Pv xs [] σ H → nx σ H) :
    ∃ a', V.ref a = .ref a' ∧ (∃ ys, SqL K H a' ys) ∧ ∃ W : Nat → Nat → St → Hp → Prop, (∃ m, W 0 m σ H) ∧ ∀ i m σ H, W i m σ H →
      ((Itl K a').stop i H ∧ nx σ H) ∨ ((Itl K a').go i H ∧ ∃ N : St → Hp → Prop, (∀ σ' H', N σ' H' → ∃ m', m' < m ∧ W (i + 1) m' σ' H') ∧ ∀ x H', (Itl K a').yld i H x H' → g x σ H' fun σ2 H2 => tb ⟨N, rt, nx, N⟩ σ2 H2) := by
  refine ⟨a, rfl, ⟨_, hs⟩, ?_⟩
  refine r_it (walk_list (xs := xs)) (fun i σ H => Pv (xs.take i) (xs.drop i) σ H) (by rw [List.take_zero, List.drop_zero]; exact h0) (fun i σ H _ p => hG _ _ σ H (List.take_append_drop i xs).symm p) (fun i x σ H H' hi p y => ?_) (fun σ H p => ?_)
  · obtain ⟨rfl, hx⟩ := y
    have e1 : xs.drop i = x :: xs.drop (i + 1) := by
      obtain ⟨hl, hx'⟩ := List.getElem?_eq_some_iff.mp hx
      rw [List.drop_eq_getElem_cons hl, hx']
    have e2 : xs.take (i + 1) = xs.take i ++ [x] := by rw [List.take_succ, hx]; rfl
    rw [e2]
    rw [e1] at p
    exact hb _ x _ σ H' (by rw [← e1, List.take_append_drop]) p
  · rw [List.take_length, List.drop_length] at p
    exact hd σ H p
/-- .. of ints -/
theorem r_forI {ns : List Int} {g : TG} {tb : TS} (hs : SqL K H a (ns.map V.int)) (Pv : List Int → List Int → St → Hp → Prop) (h0 : Pv [] ns σ H) (hG : ∀ pre post σ H, ns = pre ++ post → Pv pre post σ H → SqL K H a (ns.map V.int))
    (hb : ∀ pre x post σ H, ns = pre ++ x :: post → Pv pre (x :: post) σ H → g (.int x) σ H fun σ2 H2 => tb ⟨Pv (pre ++ [x]) post, rt, nx, Pv (pre ++ [x]) post⟩ σ2 H2) (hd : ∀ σ H, Pv ns [] σ H → nx σ H) :
    ∃ a', V.ref a = .ref a' ∧ (∃ ys, SqL K H a' ys) ∧ ∃ W : Nat → Nat → St → Hp → Prop, (∃ m, W 0 m σ H) ∧ ∀ i m σ H, W i m σ H →
      ((Itl K a').stop i H ∧ nx σ H) ∨ ((Itl K a').go i H ∧ ∃ N : St → Hp → Prop, (∀ σ' H', N σ' H' → ∃ m', m' < m ∧ W (i + 1) m' σ' H') ∧ ∀ x H', (Itl K a').yld i H x H' → g x σ H' fun σ2 H2 => tb ⟨N, rt, nx, N⟩ σ2 H2) := by
  refine ⟨a, rfl, ⟨_, hs⟩, ?_⟩
  refine r_it (walk_list (xs := ns.map V.int)) (fun i σ H => Pv (ns.take i) (ns.drop i) σ H) (by rw [List.take_zero, List.drop_zero]; exact h0) (fun i σ H _ p => hG _ _ σ H (List.take_append_drop i ns).symm p) (fun i v σ H H' hi p y => ?_) (fun σ H p => ?_)
  · obtain ⟨rfl, hv⟩ := y
    obtain ⟨x, hx, rfl⟩ := map_get hv
    have e1 : ns.drop i = x :: ns.drop (i + 1) := by
      obtain ⟨hl, hx'⟩ := List.getElem?_eq_some_iff.mp hx
      rw [List.drop_eq_getElem_cons hl, hx']
    have e2 : ns.take (i + 1) = ns.take i ++ [x] := by rw [List.take_succ, hx]; rfl
    rw [e2]
    rw [e1] at p
    exact hb _ x _ σ H' (by rw [← e1, List.take_append_drop]) p
  · rw [List.length_map, List.take_length, List.drop_length] at p
    exact hd σ H p
/-- .. of a tuple of values -/
theorem r_forT {xs : List V} {g : TG} {tb : TS} (hs : SqT K H a xs) (Pv : List V → List V → St → Hp → Prop) (h0 : Pv [] xs σ H) (hG : ∀ pre post σ H, xs = pre ++ post → Pv pre post σ H → SqT K H a xs)
    (hb : ∀ pre x post σ H, xs = pre ++ x :: post → Pv pre (x :: post) σ H → g x σ H fun σ2 H2 => tb ⟨Pv (pre ++ [x]) post, rt, nx, Pv (pre ++ [x]) post⟩ σ2 H2) (hd : ∀ σ H, Pv xs [] σ H → nx σ H) :
    ∃ a', V.ref a = .ref a' ∧ (∃ ys, SqT K H a' ys) ∧ ∃ W : Nat → Nat → St → Hp → Prop, (∃ m, W 0 m σ H) ∧ ∀ i m σ H, W i m σ H →
      ((Itt K a').stop i H ∧ nx σ H) ∨ ((Itt K a').go i H ∧ ∃ N : St → Hp → Prop, (∀ σ' H', N σ' H' → ∃ m', m' < m ∧ W (i + 1) m' σ' H') ∧ ∀ x H', (Itt K a').yld i H x H' → g x σ H' fun σ2 H2 => tb ⟨N, rt, nx, N⟩ σ2 H2) := by
  refine ⟨a, rfl, ⟨_, hs⟩, ?_⟩
  refine r_it (walk_tup (xs := xs)) (fun i σ H => Pv (xs.take i) (xs.drop i) σ H) (by rw [List.take_zero, List.drop_zero]; exact h0) (fun i σ H _ p => hG _ _ σ H (List.take_append_drop i xs).symm p) (fun i x σ H H' hi p y => ?_) (fun σ H p => ?_)
  · obtain ⟨rfl, hx⟩ := y
    have e1 : xs.drop i = x :: xs.drop (i + 1) := by
      obtain ⟨hl, hx'⟩ := List.getElem?_eq_some_iff.mp hx
      rw [List.drop_eq_getElem_cons hl, hx']
    have e2 : xs.take (i + 1) = xs.take i ++ [x] := by rw [List.take_succ, hx]; rfl
    rw [e2]
    rw [e1] at p
    exact hb _ x _ σ H' (by rw [← e1, List.take_append_drop]) p
  · rw [List.take_length, List.drop_length] at p
    exact hd σ H p
/-- a walk over a dict: it is locked; by what is passed and what is left -/
theorem r_forK {S : List Int} {f : Int → V} {tb : TS} {i : Nat} {td : TE} {bk ct : St → Hp → Prop} (hd : H a = some (dI S f)) (ht : ∀ H Q, Q (.ref a) H → td σ H Q)
    (Pv : List Int → List Int → St → Hp → Prop) (h0 : ∀ od, Pv [] S σ (upd H a (.frz od (dI S f))))
    (hb : ∀ od pre x post σ H1, S = pre ++ x :: post → H1 a = some (.frz od (dI S f)) → Pv pre (x :: post) σ H1 →
      tb ⟨fun σ' H' => H' a = some (.frz od (dI S f)) ∧ Pv (pre ++ [x]) post σ' H', fun v H' => H' a = some (.frz od (dI S f)) ∧ rt v (upd H' a (dI S f)), fun σ' H' => H' a = some (.frz od (dI S f)) ∧ nx σ' (upd H' a (dI S f)), fun σ' H' => H' a = some (.frz od (dI S f)) ∧ Pv (pre ++ [x]) post σ' H'⟩ (σ.set i (some (.int x))) H1)
    (hn : ∀ σ H1, Pv S [] σ H1 → nx σ (upd H1 a (dI S f))) : tLock (tFor (iKeys td) (gName i) tb) ⟨nx, rt, bk, ct⟩ σ H := by
  refine r_forD hd ht fun od => ⟨fun j σ H' => H' a = some (.frz od (dI S f)) ∧ Pv (S.take j) (S.drop j) σ H', ⟨upd_same, ?_⟩, fun j σ H' _ p => p.1, fun j x σ H1 hj p => ?_, fun σ H1 p => ?_⟩
  · rw [List.take_zero, List.drop_zero]
    exact h0 od
  · obtain ⟨e, p⟩ := p
    have e1 : S.drop j = x :: S.drop (j + 1) := by
      obtain ⟨hl, hx'⟩ := List.getElem?_eq_some_iff.mp hj
      rw [List.drop_eq_getElem_cons hl, hx']
    have e2 : S.take (j + 1) = S.take j ++ [x] := by rw [List.take_succ, hj]; rfl
    dsimp only
    rw [e2]
    rw [e1] at p
    exact hb od _ x _ σ H1 (by rw [← e1, List.take_append_drop]) e p
  · dsimp only at p
    rw [List.take_length, List.drop_length] at p
    exact hn σ H1 p.2
/-- all but one place stays -/
def SameX (a : Addr) (H H1 : Hp) : Prop := ∀ b u, b ≠ a → H b = some u → H1 b = some u
theorem sx_lock {o : HO} : SameX a H (upd H a o) := fun b u n e => by rw [upd_ne n]; exact e
theorem sx_lockS {H1 : Hp} {o : HO} (s : Same H H1) : SameX a H (upd H1 a o) := fun b u n e => by rw [upd_ne n]; exact s b u e
theorem sx_of {H1 : Hp} (s : Same H H1) : SameX a H H1 := fun b u _ e => s b u e
theorem sx_mut {H1 : Hp} {p : Addr} {o : HO} (s : SameX a H H1) (hp : Free H p) : SameX a H (upd H1 p o) := fun b u n e => by rw [upd_ne (ne_of_none e hp)]; exact s b u n e
theorem sx_new {H1 : Hp} {p : Addr} {o : HO} (s : SameX a H H1) (hp : Free H1 p) : SameX a H (upd H1 p o) := fun b u n e => by rw [upd_ne (ne_of_none (s b u n e) hp)]; exact s b u n e
theorem sx_same {H1 H2 : Hp} (s : SameX a H H1) (t : Same H1 H2) : SameX a H H2 := fun b u n e => t b u (s b u n e)
theorem sx_end {H1 : Hp} {u : HO} (h0 : H a = some u) (s : SameX a H H1) : Same H (upd H1 a u) := fun b x e => by
  by_cases z : b = a
  · subst z
    rw [h0] at e
    cases e
    exact upd_same
  · rw [upd_ne z]
    exact s b x z e
theorem sx_free {H1 : Hp} {p : Addr} {u : HO} (h0 : H1 a = some u) (s : SameX a H H1) (hp : Free H1 p) : Free H p := by
  unfold Free
  cases e : H p with
  | none => rfl
  | some x =>
    have n : p ≠ a := fun z => by rw [z] at hp; unfold Free at hp; rw [h0] at hp; cases hp
    have q := s p x n e
    unfold Free at hp
    rw [hp] at q
    cases q
end
/-! ### lists of lists -/
inductive Refs (H : Hp) : List Addr → List (List Int) → Prop
  | nil : Refs H [] []
  | cons {a : Addr} {l : List Int} {as : List Addr} {ls : List (List Int)} (h : H a = some (.lst (l.map V.int))) (r : Refs H as ls) : Refs H (a :: as) (l :: ls)
section
variable {H H' : Hp} {as : List Addr} {ls : List (List Int)} {p : Addr} {o : HO}
theorem Refs.imp (h : Refs H as ls) (k : ∀ a ∈ as, ∀ u, H a = some u → H' a = some u) : Refs H' as ls := by
  induction h with
  | nil => exact .nil
  | cons h r ih => exact .cons (k _ List.mem_cons_self _ h) (ih fun a ha => k a (List.mem_cons_of_mem _ ha))
theorem Refs.same (h : Refs H as ls) (s : Same H H') : Refs H' as ls := h.imp fun a _ u e => s a u e
theorem Refs.upd (h : Refs H as ls) (k : ∀ a ∈ as, a ≠ p) : Refs (upd H p o) as ls := h.imp fun a ha u e => at_ne e (k a ha)
theorem Refs.len (h : Refs H as ls) : as.length = ls.length := by
  induction h with
  | nil => rfl
  | cons h r ih => rw [List.length_cons, List.length_cons, ih]
theorem Refs.snoc {a : Addr} {l : List Int} (h : Refs H as ls) (e : H a = some (.lst (l.map V.int))) : Refs H (as ++ [a]) (ls ++ [l]) := by
  induction h with
  | nil => exact .cons e .nil
  | cons h r ih => exact .cons h ih
theorem Refs.get (h : Refs H as ls) {i : Nat} {a : Addr} (e : as[i]? = some a) : ∃ l, ls[i]? = some l ∧ H a = some (.lst (l.map V.int)) := by
  induction h generalizing i with
  | nil => cases e
  | cons h r ih =>
    cases i with
    | zero => cases e; exact ⟨_, rfl, h⟩
    | succ i => exact ih e
theorem Refs.mem (h : Refs H as ls) {a : Addr} (e : a ∈ as) : ∃ l ∈ ls, H a = some (.lst (l.map V.int)) := by
  obtain ⟨i, hi⟩ := List.getElem?_of_mem e
  obtain ⟨l, hl, q⟩ := h.get hi
  exact ⟨l, List.mem_of_getElem? hl, q⟩
end
/-! ### two sorted lists of the same -/
theorem sorted_eq : ∀ {l m : List Int}, l.Perm m → l.Pairwise (· ≤ ·) → m.Pairwise (· ≤ ·) → l = m
  | [], m, h, _, _ => (List.nil_perm.mp h).symm ▸ rfl
  | x :: r, [], h, _, _ => absurd h.length_eq (by simp)
  | x :: r, y :: t, h, h1, h2 => by
    have e : x = y := by
      obtain ⟨a1, _⟩ := List.pairwise_cons.mp h1
      obtain ⟨b1, _⟩ := List.pairwise_cons.mp h2
      have hx : x ∈ y :: t := h.subset List.mem_cons_self
      have hy : y ∈ x :: r := h.symm.subset List.mem_cons_self
      rcases List.mem_cons.mp hx with q | q
      · exact q
      · rcases List.mem_cons.mp hy with q' | q'
        · exact q'.symm
        · exact Int.le_antisymm (a1 y q') (b1 x q)
    subst e
    rw [sorted_eq (List.Perm.cons_inv h) (List.pairwise_cons.mp h1).2 (List.pairwise_cons.mp h2).2]
/-! ### slices -/
def cutI (ns : List Int) (lo hi : Option Int) : List Int := (ns.drop (HT.sIx ns.length 0 lo)).take (HT.sIx ns.length ns.length hi - HT.sIx ns.length 0 lo)
theorem cutV_map {ns : List Int} {lo hi : Option Int} : cutV (ns.map V.int) lo hi = (cutI ns lo hi).map V.int := by
  unfold cutV cutI
  rw [List.length_map, List.map_take, List.map_drop]
theorem cutI_sub {ns : List Int} {lo hi : Option Int} : (cutI ns lo hi).length ≤ ns.length := by
  unfold cutI
  rw [List.length_take, List.length_drop]
  omega
section
variable {σ : St} {H : Hp} {Q : VK} {K : PySem.W.Frag}
theorem r_sl {r : V → Option Int → Option Int → Hp → VK → Prop} {te : TE} {tl th : TO} (h : te σ H fun x H1 => tl σ H1 fun l H2 => th σ H2 fun u H3 => r x l u H3 Q) : tSl r te tl th σ H Q := h
theorem r_noPart {R : Option Int → Hp → Prop} (h : R none H) : tNoPart σ H R := h
theorem r_part {R : Option Int → Hp → Prop} {t : TE} (h : t σ H fun x H1 => ∃ i, x = .int i ∧ R (some i) H1) : tPart t σ H R := h
theorem r_partI {i : Int} {P : Int → Prop} (h : P i) : ∃ j, V.int i = .int j ∧ P j := ⟨i, rfl, h⟩
def rRev (K : PySem.W.Frag) (x : V) (H : Hp) (Q : VK) : Prop := ∃ a xs, x = .ref a ∧ SqL K H a xs ∧ ∀ p, H p = none → Q (.ref p) (upd H p (.lst xs.reverse))
theorem r_revS {te : TE} (h : te σ H fun x H1 => rRev K x H1 Q) : tRevL K te σ H Q := h
theorem r_rev {a : Addr} {ns : List Int} (hs : SqL K H a (ns.map V.int)) (h : ∀ p, Free H p → Q (.ref p) (upd H p (.lst (ns.reverse.map V.int)))) : rRev K (.ref a) H Q :=
  ⟨a, _, rfl, hs, fun p hp => by rw [← List.map_reverse]; exact h p hp⟩
theorem r_cat {l b : Addr} {xs zs : List V} (h1 : H l = some (.lst xs)) (h2 : H b = some (.lst zs)) (hz : xs.length + zs.length ≤ sizeLine) (h : ∀ p, Free H p → Q (.ref p) (upd H p (.lst (xs ++ zs)))) : rCat (.ref l) (.ref b) H Q := ⟨l, b, xs, zs, rfl, rfl, h1, h2, hz, h⟩
theorem r_rep {l : Addr} {xs : List V} {k : Int} (h1 : H l = some (.lst xs)) (k0 : 0 ≤ k) (k1 : k < 1000) (hz : xs.length * k.toNat ≤ sizeLine) (h : ∀ p, Free H p → Q (.ref p) (upd H p (.lst (List.replicate k.toNat xs).flatten))) : rRep (.ref l) (.int k) H Q :=
  ⟨l, k, xs, rfl, rfl, h1, by omega, by omega, hz, h⟩
theorem r_lcO {tl : TE} {g : TG} {tt : TT} {te : TE} {vs : List Nat} (h : tl σ H fun x H1 => tLc (iList K (tC x)) g tt te vs σ H1 Q) : tLc (iList K tl) g tt te vs σ H Q := h
theorem r_slL {a : Addr} {ns : List Int} {lo hi : Option Int} (hs : SqL K H a (ns.map V.int)) (h : ∀ p, Free H p → Q (.ref p) (upd H p (.lst ((cutI ns lo hi).map V.int)))) : rSlL K (.ref a) lo hi H Q :=
  ⟨a, _, rfl, hs, fun p hp => by rw [cutV_map]; exact h p hp⟩
end

/-! Fx: defs that raise, try. -/
def adOf (mg : Str → Option Value) (x : Str) : Addr := match mg x with
  | some (.ref a) => a
  | _ => 0
theorem adOf_eq {mg : Str → Option Value} {x : Str} {a : Addr} (h : mg x = some (.ref a)) : adOf mg x = a := by unfold adOf; rw [h]
/-- a class of refusals as it stands -/
structure Exq (K : PySem.W.Frag) (mg : Str → Option Value) (x : Str) (C : Addr) : Prop where
  g : mg x = some (.ref C)
  q : PySem.W.excIn K C [.type "ValueError", .type "Exception", .type "BaseException", .type "object"] "ValueError.__new__" = true
  k : PySem.W.keepIn K (.ref C) = true
  b : PySem.W.subIn K (.ref C) (.type "BaseException") = some true
  t : PySem.W.typeIn K (.ref C) = some (.type "type")
  i : PySem.W.isClsIn K C = true
section
variable {K : PySem.W.Frag} {h : Heap} {mg : Str → Option Value} {x : Str} {C S : Addr}
theorem exq_mk (X : K.In h) (G : h.Ns mainGlobals mg) (a : PySem.W.nsIn K mainGlobals x = some (some (.ref C))) (q : PySem.W.excIn K C [.type "ValueError", .type "Exception", .type "BaseException", .type "object"] "ValueError.__new__" = true) (k : PySem.W.keepIn K (.ref C) = true)
    (b : PySem.W.subIn K (.ref C) (.type "BaseException") = some true) (t : PySem.W.typeIn K (.ref C) = some (.type "type")) (i : PySem.W.isClsIn K C = true) : Exq K mg x (adOf mg x) ∧ adOf mg x = C := by
  have g := PySem.W.mg_of X G a
  have e := adOf_eq g
  rw [e]
  exact ⟨⟨g, q, k, b, t, i⟩, rfl⟩
theorem exm_pair {c : Value} {b : Bool} (h1 : PySem.W.subIn K (.ref S) (.type "BaseException") = some true) (h2 : PySem.W.isClsIn K S = true) (h3 : PySem.W.typeIn K (.ref S) = some (.type "type")) (h4 : PySem.W.subIn K c (.ref S) = some b) :
    PySem.W.exmOne K c (.ref S) = some b := by
  unfold PySem.W.exmOne
  rw [h1]
  unfold PySem.W.isClsIn at h2
  simp only [PySem.W.kitCls, h3, h4, h2]
  rfl
end
/-- which handler takes which -/
def Exm (G : Gx) (L : List Str) : Prop := ∀ (i j : Nat) (x y : Str), L[i]? = some x → L[j]? = some y → PySem.W.exmOne G.K (.ref (G.ad x)) (.ref (G.ad y)) = some (decide (i = j))
def tRaise (E : XK) (C : Addr) : TS := fun _ _ H => E (.ref C) none H
def tTryM (G : Gx) (L : List (Str × TS)) (tb : WX → TS) : TS := fun D σ H => tb (wMany G.K (fun _ _ _ _ => False) D (L.map fun p => (Value.ref (G.ad p.1), fun _ _ _ => p.2))) D σ H
section
variable {σ : St} {H : Hp} {Q : VK} {D : Ends} {G : Gx}
theorem r_raise {E : XK} {C : Addr} (h : E (.ref C) none H) : tRaise E C D σ H := h
theorem r_callS {sp : Sp} {E : St → XK} {t : TA} (h : t σ H fun vs H1 => sp vs H1 Q (E σ)) : tCallS sp E t σ H Q := h
theorem wMany_hit {W : WX} {x : Str} {ts : TS} {d : Option Addr} : ∀ (L : List (Str × TS)) (i : Nat), L[i]? = some (x, ts) → (∀ j y, j ≤ i → (L.map Prod.fst)[j]? = some y → PySem.W.exmOne G.K (.ref (G.ad x)) (.ref (G.ad y)) = some (decide (i = j))) → ts D σ H →
    wMany G.K W D (L.map fun p => (Value.ref (G.ad p.1), fun _ _ _ => p.2)) (.ref (G.ad x)) d σ H
  | [], i, h, _, _ => by cases h
  | (y, u) :: r, 0, h, m, k => by
    cases h
    exact ⟨true, m 0 _ (Nat.le_refl _) rfl, fun _ _ _ => k, fun z => Bool.noConfusion z⟩
  | (y, u) :: r, i + 1, h, m, k => by
    refine ⟨false, m 0 y (Nat.zero_le _) rfl, fun z => Bool.noConfusion z, fun _ => wMany_hit r i h (fun j y' hj e => ?_) k⟩
    rw [m (j + 1) y' (Nat.succ_le_succ hj) e]
    congr 1
    exact decide_eq_decide.mpr ⟨fun q => by omega, fun q => by omega⟩
/-- the try whose body raises a class of the list -/
theorem hit {L : List (Str × TS)} {N : List Str} {x : Str} {ts : TS} {d : Option Addr} (X : Exm G N) (i : Nat) (h : L[i]? = some (x, ts)) (hN : L.map Prod.fst = N) (k : ts D σ H) :
    wMany G.K (fun _ _ _ _ => False) D (L.map fun p => (Value.ref (G.ad p.1), fun _ _ _ => p.2)) (.ref (G.ad x)) d σ H :=
  wMany_hit L i h (fun j y _ e => X i j x y (by rw [← hN, List.getElem?_map, h]; rfl) (by rw [← hN]; exact e)) k
end
section
variable {P : Program} {w : World} {K : PySem.W.Frag} {mg : Str → Option Value} {base : Heap}
theorem Df.ofX {x : Str} {st : Stmt} {N ps : List Str} {k : Nat} {sp : Sp} (F : FnIs K mg x st ps) (S : FnScope N ps (defScope st)) (len : ∀ vs H Q E, sp vs H Q E → vs.length = ps.length)
    (hbody : ∀ (f : Addr) (cdv : Value) (A : Around) (outer : List Env) (s : Shared) (H : Hp) (vs : List V) (Q : VK) (E : XK), Room k (A.deeper (PyProof.Rows.envOfC x (defScope st) s.heap.objs.size f cdv)) → sp vs H Q E →
      ∃ t, PSs (cxOf (L2.CX P w) P w K mg base N x (defScope st) f cdv A outer s H E) (defBody st) t ∧ t ⟨fun _ H' => Q .non H', Q, fun _ _ => False, fun _ _ => False⟩ (start N vs) H) : Df P w K mg base (L2.CX P w) x (k + 1) ps sp := by
  obtain ⟨f, fd, hm, hf, hb⟩ := F
  exact ⟨f, fd, hm, hf.kp, hb, hf.okX S len fun cdv A outer s H vs Q E hr h => hbody f cdv A outer s H vs Q E hr h⟩
end
section
variable {X : Cx} {CX : CXT} {j k : Nat} {ps : List Str} {sp : Sp} {E : St → XK} {x : Str} {p pos : Pos} {e : Expr} {es : List Expr} {t : TA}
theorem pe_dfS (D : Df X.prog X.w X.K X.mg X.base CX x k ps sp) (hr : Room j X.A) (hk : k ≤ j) (hx : ∀ σ, PassesAt CX X σ (E σ)) (ha : PA X (e :: es) t) (hg : Gl X x := by rfl) (hdb : (x == ("__debug__" : Str)) = false := by decide)
    (he : starEach (e :: es) X.env = (false, eval e X.env) :: starEach es X.env := by rfl) (hpl : (backTo pos (starEach es X.env)).any (·.1) = false := by rfl) : PE X (.Call (.Name x p) (e :: es) [] pos) (tCallS sp E t) := by
  obtain ⟨f, fd, hm, hkp, hb, ok⟩ := D
  exact pe_callS (ok.mono hk) (hr) hg hm hkp hb hx ha hdb he hpl
end

local macro_rules | `(tactic| walk_at "ne") => `(tactic| first
  | ((with_reducible refine ne_rd (H := ?Hb) (u := ?ub) ?h1 ?h0); (case h0 => with_reducible assumption); (case h1 => walk_at "rdx"))
  | ((with_reducible refine ne_rd' (H := ?Hb) (u := ?ub) ?h1 ?h0); (case h0 => with_reducible assumption); (case h1 => walk_at "rdx")))
local macro_rules | `(tactic| walk_at "rd1") => `(tactic| first
  | with_reducible assumption
  | ((with_reducible refine rdb_new ?hn ?_); (case hn => with_reducible assumption))
  | ((with_reducible refine rdb_ne ?hn ?_); (case hn => walk_at "ne"))
  | ((with_reducible refine rdb_same (H := ?Hb) ?hn ?_); (case hn => with_reducible assumption)))
local macro_rules | `(tactic| walk_at "rdx") => `(tactic| ((repeat walk_at "rd1"); done))
local macro_rules | `(tactic| walk_at "rd") => `(tactic| first
  | ((with_reducible refine rd_in ?hi); (case hi => walk_at "hp"))
  | walk_at "rdx"
  | ((with_reducible refine rd_frz (ob := ?ob) ?hi); (case hi => walk_at "hp")))
local macro_rules | `(tactic| walk_at "mem") => `(tactic| with_reducible assumption)
local macro_rules | `(tactic| walk_at "st") => `(tactic| first
  | with_reducible refine r_dgetS ?_
  | with_reducible refine r_dinS ?_
  | with_reducible refine r_dnotinS ?_
  | with_reducible refine r_dputS ?_
  | with_reducible refine r_bm0 ?_
  | ((with_reducible refine r_dget (S := ?S) (f := ?f) ?hd ?hm ?_); (case hd => walk_at "rd"); (case hm => walk_at "mem"))
  | ((with_reducible refine r_din (S := ?S) (f := ?f) ?hd ?_); (case hd => walk_at "rd"))
  | ((with_reducible refine r_dnotin (S := ?S) (f := ?f) ?hd ?_); (case hd => walk_at "rd"))
  | ((with_reducible refine r_lenD (S := ?S) (f := ?f) ?hd ?_); (case hd => walk_at "rd"))
  | ((with_reducible refine r_listD (S := ?S) (f := ?f) ?hd ?_); (case hd => walk_at "rd"))
  | ((with_reducible refine r_dictD (S := ?S) (f := ?f) ?hd ?_); (case hd => walk_at "rd"))
  | ((with_reducible refine r_dputW (S := ?S) (w := ?w) ?hd ?hl ?_); (case hd => walk_at "hp"); (case hl => walk_at "sz"))
  | ((with_reducible refine isi_dictR (S := ?S) (f := ?f) ?hd ?_); (case hd => walk_at "hp")))
/-! Wb: the makers of webs. -/
/-! ### other -/
def sp_l_other (G : Gx) : Sp := fun vs H Q _ => ∃ e : Int, vs = [.int e] ∧ Q (.int (ot e)) H
theorem len_l_other {G : Gx} : ∀ vs H Q E, sp_l_other G vs H Q E → vs.length = 1 := by rintro vs H Q E ⟨e, rfl, _⟩; rfl
/-! _law_other: slots _law_end -/
def t_l_other (G : Gx) : TS :=
  (tSeq (tIfS (tTest (tOp rEq (tOp rModI (tVar 0) (tC (.int 2))) (tC (.int 0)))) (tRet (tOp rAddI (tVar 0) (tC (.int 1)))) tNext)
  (tRet (tOp rSubI (tVar 0) (tC (.int 1)))))
theorem pure_l_other {G : Gx} {vs : List V} {H : Hp} {Q : VK} {E : XK} (h : sp_l_other G vs H Q E) : Body (t_l_other G) ["_law_end"] vs H Q := by
  obtain ⟨e, rfl, k⟩ := h
  show t_l_other G _ [some (.int e)] H
  unfold t_l_other
  unfold ot at k
  walk_at "go"
  refine iteI (fun h => ?_) (fun h => ?_)
  · walk_at "go"
    rw [if_pos h] at k
    exact k
  · walk_at "go"
    rw [if_neg h] at k
    exact k
theorem c_other {G : Gx} {e : Int} {H : Hp} {Q : VK} {E : XK} (h : Q (.int (ot e)) H) : sp_l_other G [.int e] H Q E := ⟨e, rfl, h⟩
/-! ### seat -/
def sp_l_seat (G : Gx) : Sp := fun vs H Q _ => ∃ (d t : Addr) (S : List Int) (w : Int → Int) (x y z : Int), vs = [.ref d, .ref t] ∧ H d = some (dW S w) ∧ SqT G.K H t [.int x, .int y, .int z] ∧ S.length ≤ 100000 ∧ Q .non (upd H d (dW (putS3 S x y z) (seatF w x y z)))
def sp_p_seat (G : Gx) : Sp := sp_l_seat G
theorem len_l_seat {G : Gx} : ∀ vs H Q E, sp_l_seat G vs H Q E → vs.length = 2 := by rintro vs H Q E ⟨d, t, S, w, x, y, z, rfl, _⟩; rfl
theorem len_p_seat {G : Gx} : ∀ vs H Q E, sp_p_seat G vs H Q E → vs.length = 2 := len_l_seat
/-! seat: slots web, ends -/
def t_p_seat (G : Gx) : TS :=
  (tSeq (sDPut (tVar 0) (tOp (rIxT G.K) (tVar 1) (tC (.int 0))) (tOp (rIxT G.K) (tVar 1) (tC (.int 1))))
  (tSeq (sDPut (tVar 0) (tOp (rIxT G.K) (tVar 1) (tC (.int 1))) (tOp (rIxT G.K) (tVar 1) (tC (.int 2))))
  (sDPut (tVar 0) (tOp (rIxT G.K) (tVar 1) (tC (.int 2))) (tOp (rIxT G.K) (tVar 1) (tC (.int 0))))))
theorem mut_tup {K : PySem.W.Frag} {H : Hp} {d t : Addr} {u v : HO} {xs : List V} (hd : H d = some u) (hm : Mut (some u)) (h : SqT K H t xs) : SqT K (upd H d v) t xs := keepT_mut hd hm keepT_refl h
theorem pure_p_seat {G : Gx} {vs : List V} {H : Hp} {Q : VK} {E : XK} (h : sp_p_seat G vs H Q E) : Body (t_p_seat G) ["web", "ends"] vs H Q := by
  obtain ⟨d, t, S, w, x, y, z, rfl, hd, ht, hl, k⟩ := h
  show t_p_seat G _ [some (.ref d), some (.ref t)] H
  unfold t_p_seat
  have l1 := len_putS (S := S) (k := x)
  have l2 := len_putS (S := putS S x) (k := y)
  have h1 : SqT G.K (upd H d (dW (putS S x) (fset w x y))) t [.int x, .int y, .int z] := mut_tup hd trivial ht
  have h2 : SqT G.K (upd (upd H d (dW (putS S x) (fset w x y))) d (dW (putS (putS S x) y) (fset (fset w x y) y z))) t [.int x, .int y, .int z] := mut_tup upd_same trivial h1
  walk_at "go"
  rw [upd_upd, upd_upd]
  exact k
/-! _law_seat: slots _law_web_here, _law_ends, _law_k -/
def t_l_seat (G : Gx) : TS :=
  (tFor (iRng1 (tCons (tC (.int 3)) tNil)) (gName 2)
  (sDPut (tVar 0) (tOp (rIxT G.K) (tVar 1) (tVar 2)) (tOp (rIxT G.K) (tVar 1) (tOp rModI (tOp rAddI (tVar 2) (tC (.int 1))) (tC (.int 3))))))
theorem pure_l_seat {G : Gx} {vs : List V} {H : Hp} {Q : VK} {E : XK} (h : sp_l_seat G vs H Q E) : Body (t_l_seat G) ["_law_web", "_law_ends", "_law_k"] vs H Q := by
  obtain ⟨d, t, S, w, x, y, z, rfl, hd, ht, hl, k⟩ := h
  show t_l_seat G _ [some (.ref d), some (.ref t), none] H
  unfold t_l_seat
  have l1 := len_putS (S := S) (k := x)
  have l2 := len_putS (S := putS S x) (k := y)
  walk_at "go"
  refine r_rng (by decide) (by decide) ?_
  refine r_it walk_range (fun i σ H' => (∃ o, σ = [some (.ref d), some (.ref t), o]) ∧ (i = 0 ∧ H' = H ∨ i = 1 ∧ H' = upd H d (dW (putS S x) (fset w x y)) ∨ i = 2 ∧ H' = upd H d (dW (putS (putS S x) y) (fset (fset w x y) y z)) ∨ i = 3 ∧ H' = upd H d (dW (putS3 S x y z) (seatF w x y z))))
    ⟨⟨_, rfl⟩, .inl ⟨rfl, rfl⟩⟩ (fun _ _ _ _ _ => trivial) (fun i v σ H1 H2 hi ⟨⟨o, es⟩, q⟩ ⟨e2, e3⟩ => ?_) (fun σ H1 ⟨_, q⟩ => ?_)
  · subst es e2 e3
    have ht' : ∀ u, SqT G.K (upd H d u) t [.int x, .int y, .int z] := fun u => mut_tup hd trivial ht
    rcases q with ⟨rfl, rfl⟩ | ⟨rfl, rfl⟩ | ⟨rfl, rfl⟩ | ⟨rfl, _⟩
    · walk_at "go"
      exact ⟨⟨_, rfl⟩, .inr (.inl ⟨rfl, rfl⟩)⟩
    · have h1 := ht' (dW (putS S x) (fset w x y))
      walk_at "go"
      rw [upd_upd]
      exact ⟨⟨_, rfl⟩, .inr (.inr (.inl ⟨rfl, rfl⟩))⟩
    · have h1 := ht' (dW (putS (putS S x) y) (fset (fset w x y) y z))
      walk_at "go"
      rw [upd_upd]
      exact ⟨⟨_, rfl⟩, .inr (.inr (.inr ⟨rfl, rfl⟩))⟩
    · exact absurd hi (by decide)
  · rcases q with ⟨z, _⟩ | ⟨z, _⟩ | ⟨z, _⟩ | ⟨_, rfl⟩
    · exact absurd z (by decide)
    · exact absurd z (by decide)
    · exact absurd z (by decide)
    · exact k
/-! ### combs -/
theorem prd_mod {c b : Int} (h0 : 0 ≤ b) (h1 : b < c) : (b - 1) % c = prd c b := by
  unfold prd
  split
  · rename_i e
    rw [e, show (0 : Int) - 1 = (c - 1) + c * (-1) by omega, Int.add_mul_emod_self_left, Int.emod_eq_of_lt (by omega) (by omega)]
  · exact Int.emod_eq_of_lt (by omega) (by omega)
theorem prd_mod' {c b : Int} (h0 : 0 ≤ b) (h1 : b < c) : (b + c - 1) % c = prd c b := by
  rw [← prd_mod h0 h1, show b + c - 1 = (b - 1) + c * 1 by omega, Int.add_mul_emod_self_left]
def sp_p_comb_corners (G : Gx) : Sp := fun vs H Q _ => ∃ (a b r c : Int), vs = [.int a, .int b, .int r, .int c] ∧ 0 ≤ a ∧ a < r ∧ 0 ≤ b ∧ b < c ∧ r ≤ 1000 ∧ c ≤ 1000 ∧
  ∀ (t t1 t2 : Addr) H', Same H H' → H' t = some (.tup [.ref t1, .ref t2]) → H' t1 = some (.tup [.int (6 * (a * c + b)), .int (6 * (a * c + b) + 2), .int (6 * (a * c + b) + 4)]) →
    H' t2 = some (.tup [.int (6 * (a * c + b) + 1), .int (6 * lfO c (a * c + b) + 3), .int (6 * abO r c (a * c + b) + 5)]) → Q (.ref t) H'
theorem len_p_comb_corners {G : Gx} : ∀ vs H Q E, sp_p_comb_corners G vs H Q E → vs.length = 4 := by rintro vs H Q E ⟨a, b, r, c, rfl, _⟩; rfl
/-! comb_corners: slots row, col, rows, cols, own, left, above -/
def t_p_comb_corners (G : Gx) : TS :=
  (tSeq (tAsg (tOp rMulI (tC (.int 6)) (tOp rAddI (tOp rMulI (tVar 0) (tVar 3)) (tVar 1))) (gName 4))
  (tSeq (tAsg (tOp rMulI (tC (.int 6)) (tOp rAddI (tOp rMulI (tVar 0) (tVar 3)) (tOp rModI (tOp rSubI (tVar 1) (tC (.int 1))) (tVar 3)))) (gName 5))
  (tSeq (tAsg (tOp rMulI (tC (.int 6)) (tOp rAddI (tOp rMulI (tOp rModI (tOp rSubI (tVar 0) (tC (.int 1))) (tVar 2)) (tVar 3)) (tVar 1))) (gName 6))
  (tRet (tTup (tCons (tTup (tCons (tVar 4) (tCons (tOp rAddI (tVar 4) (tC (.int 2))) (tCons (tOp rAddI (tVar 4) (tC (.int 4))) tNil)))) (tCons (tTup (tCons (tOp rAddI (tVar 4) (tC (.int 1))) (tCons (tOp rAddI (tVar 5) (tC (.int 3))) (tCons (tOp rAddI (tVar 6) (tC (.int 5))) tNil)))) tNil)))))))
theorem lfO_v {a b c : Int} (b0 : 0 ≤ b) (b1 : b < c) : lfO c (a * c + b) = a * c + prd c b := by unfold lfO; rw [(dm b0 b1).1, (dm b0 b1).2]
theorem abO_v {r a b c : Int} (b0 : 0 ≤ b) (b1 : b < c) : abO r c (a * c + b) = prd r a * c + b := by unfold abO; rw [(dm b0 b1).1, (dm b0 b1).2]
theorem pure_p_comb_corners {G : Gx} {vs : List V} {H : Hp} {Q : VK} {E : XK} (h : sp_p_comb_corners G vs H Q E) : Body (t_p_comb_corners G) ["row", "col", "rows", "cols", "own", "left", "above"] vs H Q := by
  obtain ⟨a, b, r, c, rfl, a0, a1, b0, b1, hr, hc, k⟩ := h
  show t_p_comb_corners G _ [some (.int a), some (.int b), some (.int r), some (.int c), none, none, none] H
  unfold t_p_comb_corners
  have pa := prd_b a0 a1
  walk_at "go"
  rw [prd_mod b0 b1, ← lfO_v b0 b1]
  rw [prd_mod a0 a1, ← abO_v b0 b1]
  refine ⟨by walk_at "sz", fun t1 h1 => ?_⟩
  walk_at "go"
  refine ⟨by walk_at "sz", fun t2 h2 => ?_⟩
  walk_at "go"
  refine ⟨by walk_at "sz", fun t h3 => ?_⟩
  exact k t t1 t2 _ (by walk_at "sm") upd_same (by walk_at "hp") (by walk_at "hp")
def sp_p_comb (G : Gx) : Sp := fun vs H Q _ => ∃ (r c : Int), vs = [.int r, .int c] ∧ 0 < r ∧ r ≤ 1000 ∧ 0 < c ∧ c ≤ 1000 ∧ r * c ≤ 1000 ∧ ∀ p H', Same H H' → Free H p → H' p = some (dW (cS r c) (cN r c)) → Q (.ref p) H'
def sp_l_comb (G : Gx) : Sp := sp_p_comb G
theorem len_p_comb {G : Gx} : ∀ vs H Q E, sp_p_comb G vs H Q E → vs.length = 2 := by rintro vs H Q E ⟨r, c, rfl, _⟩; rfl
theorem len_l_comb {G : Gx} : ∀ vs H Q E, sp_l_comb G vs H Q E → vs.length = 2 := len_p_comb
/-! comb: slots rows, cols, web, row, col, ends -/
def t_p_comb (G : Gx) : TS :=
  (tSeq (tAsg tDNewK (gName 2))
  (tSeq (tFor (iRng1 (tCons (tVar 0) tNil)) (gName 3)
  (tFor (iRng1 (tCons (tVar 1) tNil)) (gName 4)
  (tFor (iTup G.K (tCall (sp_p_comb_corners G) [] E0 (tCons (tVar 3) (tCons (tVar 4) (tCons (tVar 0) (tCons (tVar 1) tNil)))))) (gName 5)
  (tDrop (tCall (sp_p_seat G) [] E0 (tCons (tVar 2) (tCons (tVar 5) tNil)))))))
  (tRet (tVar 2))))
theorem combD_succ {lf ab : Int → Int} {m : Nat} {k : Int} (hk : (m : Int) = k) : combD lf ab (m + 1) = (putS3 (putS3 (combD lf ab m).1 (6 * k) (6 * k + 2) (6 * k + 4)) (6 * k + 1) (6 * lf k + 3) (6 * ab k + 5),
      seatF (seatF (combD lf ab m).2 (6 * k) (6 * k + 2) (6 * k + 4)) (6 * k + 1) (6 * lf k + 3) (6 * ab k + 5)) := by subst hk; rfl
theorem comb_size {lf ab : Int → Int} {m : Nat} (h : m ≤ 1000) : (combD lf ab m).1.length ≤ 6000 := by
  have := comb_le (lf := lf) (ab := ab) m
  omega
abbrev cL (r c : Int) (m : Nat) : HO := dW (combD (lfO c) (abO r c) m).1 (combD (lfO c) (abO r c) m).2
theorem row_lt {i j C R : Nat} (hi : i < R) (hj : j < C) : i * C + j < R * C := by
  have h2 : (i + 1) * C ≤ R * C := Nat.mul_le_mul_right _ hi
  rw [Nat.add_mul] at h2
  omega
theorem pure_p_comb {G : Gx} {vs : List V} {H : Hp} {Q : VK} {E : XK} (h : sp_p_comb G vs H Q E) : Body (t_p_comb G) ["rows", "cols", "web", "row", "col", "ends"] vs H Q := by
  obtain ⟨r, c, rfl, r0, r1, c0, c1, rc1, k⟩ := h
  show t_p_comb G _ [some (.int r), some (.int c), none, none, none, none] H
  unfold t_p_comb
  have eR : ((r.toNat : Nat) : Int) = r := Int.toNat_of_nonneg (by omega)
  have eC : ((c.toNat : Nat) : Int) = c := Int.toNat_of_nonneg (by omega)
  have eM : (r * c).toNat = r.toNat * c.toNat := by rw [Int.toNat_mul (by omega) (by omega)]
  have hM : r.toNat * c.toNat ≤ 1000 := by rw [← eM]; omega
  walk_at "go"
  refine r_dnew (f := fun _ => .int 0) fun p hp => ?_
  walk_at "go"
  refine r_rng (by omega) (by omega) ?_
  refine r_it walk_range (fun i σ H' => (∃ o1 o2 o3, σ = [some (.int r), some (.int c), some (.ref p), o1, o2, o3]) ∧ Same H H' ∧ H' p = some (cL r c (i * c.toNat)))
    ⟨⟨_, _, _, rfl⟩, by walk_at "sm", by rw [Nat.zero_mul]; exact upd_same⟩ (fun _ _ _ _ _ => trivial) (fun i v σ H1 H2 hi ⟨⟨o1, o2, o3, es⟩, s1, e1⟩ ⟨q2, q3⟩ => ?_) (fun σ H1 ⟨⟨o1, o2, o3, es⟩, s1, e1⟩ => ?_)
  · subst es q2 q3
    walk_at "go"
    refine r_rng (by omega) (by omega) ?_
    refine r_it walk_range (fun j σ H' => (∃ o2 o3, σ = [some (.int r), some (.int c), some (.ref p), some (.int i), o2, o3]) ∧ Same H H' ∧ H' p = some (cL r c (i * c.toNat + j)))
      ⟨⟨_, _, by rw [Int.zero_add]⟩, s1, e1⟩ (fun _ _ _ _ _ => trivial) (fun j v σ H3 H4 hj ⟨⟨o2, o3, es⟩, s3, e3⟩ ⟨q2, q3⟩ => ?_) (fun σ H3 ⟨⟨o2, o3, es⟩, s3, e3⟩ => ?_)
    · subst es q2 q3
      walk_at "go"
      have hm := row_lt hi hj
      refine ⟨i, (0 : Int) + j, r, c, rfl, by omega, by omega, by omega, by omega, r1, c1, fun t t1 t2 H5 s5 a5 b5 d5 => ?_⟩
      have ek : (i : Int) * c + (0 + j) = ((i * c.toNat + j : Nat) : Int) := by rw [Int.zero_add, Int.natCast_add, Int.natCast_mul, eC]
      rw [ek] at b5 d5
      refine ⟨t, rfl, ⟨_, SqT.of a5⟩, ?_⟩
      have e5 := s5 p _ e3
      refine r_it walk_tup (fun l σ H' => (∃ o3, σ = [some (.int r), some (.int c), some (.ref p), some (.int i), some (.int (0 + (j : Int))), o3]) ∧ Same H H' ∧ SqT G.K H' t [.ref t1, .ref t2] ∧
          SqT G.K H' t1 [.int (6 * ((i * c.toNat + j : Nat) : Int)), .int (6 * ((i * c.toNat + j : Nat) : Int) + 2), .int (6 * ((i * c.toNat + j : Nat) : Int) + 4)] ∧
          SqT G.K H' t2 [.int (6 * ((i * c.toNat + j : Nat) : Int) + 1), .int (6 * lfO c ((i * c.toNat + j : Nat) : Int) + 3), .int (6 * abO r c ((i * c.toNat + j : Nat) : Int) + 5)] ∧
          (l = 0 ∧ H' p = some (cL r c (i * c.toNat + j)) ∨ l = 1 ∧ H' p = some (dW (putS3 (combD (lfO c) (abO r c) (i * c.toNat + j)).1 (6 * ((i * c.toNat + j : Nat) : Int)) (6 * ((i * c.toNat + j : Nat) : Int) + 2) (6 * ((i * c.toNat + j : Nat) : Int) + 4))
            (seatF (combD (lfO c) (abO r c) (i * c.toNat + j)).2 (6 * ((i * c.toNat + j : Nat) : Int)) (6 * ((i * c.toNat + j : Nat) : Int) + 2) (6 * ((i * c.toNat + j : Nat) : Int) + 4))) ∨ l = 2 ∧ H' p = some (cL r c (i * c.toNat + j + 1))))
        ⟨⟨_, rfl⟩, s3.trans s5, SqT.of a5, SqT.of b5, SqT.of d5, .inl ⟨rfl, e5⟩⟩ (fun _ _ _ _ z => z.2.2.1) (fun l v σ H6 H7 hl ⟨⟨o3, es⟩, s6, a6, b6, d6, q⟩ ⟨q2, q3⟩ => ?_) (fun σ H6 ⟨⟨o3, es⟩, s6, a6, b6, d6, q⟩ => ?_)
      · subst es q2
        have hz := comb_size (lf := lfO c) (ab := abO r c) (m := i * c.toNat + j) (by omega)
        have hz3 := len_putS3 (S := (combD (lfO c) (abO r c) (i * c.toNat + j)).1) (x := 6 * ((i * c.toNat + j : Nat) : Int)) (y := 6 * ((i * c.toNat + j : Nat) : Int) + 2) (z := 6 * ((i * c.toNat + j : Nat) : Int) + 4)
        rcases q with ⟨rfl, e6⟩ | ⟨rfl, e6⟩ | ⟨rfl, e6⟩
        · cases q3
          walk_at "go"
          refine ⟨p, t1, _, _, _, _, _, rfl, e6, b6, by omega, ?_⟩
          exact ⟨⟨_, rfl⟩, same_mut s6 hp, mut_tup e6 trivial a6, mut_tup e6 trivial b6, mut_tup e6 trivial d6, .inr (.inl ⟨rfl, upd_same⟩)⟩
        · cases q3
          walk_at "go"
          refine ⟨p, t2, _, _, _, _, _, rfl, e6, d6, by omega, ?_⟩
          exact ⟨⟨_, rfl⟩, same_mut s6 hp, mut_tup e6 trivial a6, mut_tup e6 trivial b6, mut_tup e6 trivial d6, .inr (.inr ⟨rfl, upd_same⟩)⟩
        · exact absurd hl (Nat.lt_irrefl 2)
      · rcases q with ⟨z, _⟩ | ⟨z, _⟩ | ⟨_, e6⟩
        · exact absurd (show (2 : Nat) = 0 from z) (by decide)
        · exact absurd (show (2 : Nat) = 1 from z) (by decide)
        · exact ⟨⟨_, _, es⟩, s6, e6⟩
    · exact ⟨⟨_, _, _, es⟩, s3, by rw [Nat.add_mul, Nat.one_mul]; exact e3⟩
  · subst es
    walk_at "go"
    refine k p H1 s1 hp ?_
    unfold cS cN
    rw [eM]
    exact e1
/-! _law_comb: slots _law_rows, _law_cols, _law_web_here, _law_k, _law_row, _law_col, _law_left, _law_above -/
def t_l_comb (G : Gx) : TS :=
  (tSeq (tAsg tDNewK (gName 2))
  (tSeq (tFor (iRng1 (tCons (tOp rMulI (tVar 0) (tVar 1)) tNil)) (gName 3)
  (tSeq (tPar 4 5 (tCons (tOp rDivW (tVar 3) (tVar 1)) (tCons (tOp rModI (tVar 3) (tVar 1)) tNil)))
  (tSeq (tAsg (tOp rAddI (tOp rMulI (tVar 4) (tVar 1)) (tOp rModI (tOp rSubI (tOp rAddI (tVar 5) (tVar 1)) (tC (.int 1))) (tVar 1))) (gName 6))
  (tSeq (tAsg (tOp rAddI (tOp rMulI (tOp rModI (tOp rSubI (tOp rAddI (tVar 4) (tVar 0)) (tC (.int 1))) (tVar 0)) (tVar 1)) (tVar 5)) (gName 7))
  (tSeq (tDrop (tCall (sp_l_seat G) [] E0 (tCons (tVar 2) (tCons (tTup (tCons (tOp rMulI (tC (.int 6)) (tVar 3)) (tCons (tOp rAddI (tOp rMulI (tC (.int 6)) (tVar 3)) (tC (.int 2))) (tCons (tOp rAddI (tOp rMulI (tC (.int 6)) (tVar 3)) (tC (.int 4))) tNil)))) tNil))))
  (tDrop (tCall (sp_l_seat G) [] E0 (tCons (tVar 2) (tCons (tTup (tCons (tOp rAddI (tOp rMulI (tC (.int 6)) (tVar 3)) (tC (.int 1))) (tCons (tOp rAddI (tOp rMulI (tC (.int 6)) (tVar 6)) (tC (.int 3))) (tCons (tOp rAddI (tOp rMulI (tC (.int 6)) (tVar 7)) (tC (.int 5))) tNil)))) tNil)))))))))
  (tRet (tVar 2))))
theorem pure_l_comb {G : Gx} {vs : List V} {H : Hp} {Q : VK} {E : XK} (h : sp_l_comb G vs H Q E) : Body (t_l_comb G) ["_law_rows", "_law_cols", "_law_web", "_law_k", "_law_row", "_law_col", "_law_left", "_law_above"] vs H Q := by
  obtain ⟨r, c, rfl, r0, r1, c0, c1, rc1, k⟩ := h
  show t_l_comb G _ [some (.int r), some (.int c), none, none, none, none, none, none] H
  unfold t_l_comb
  have hM : ((r * c).toNat : Int) = r * c := Int.toNat_of_nonneg (Int.le_of_lt (Int.mul_pos r0 c0))
  walk_at "go"
  refine r_dnew (f := fun _ => .int 0) fun p hp => ?_
  walk_at "go"
  refine r_rng (by omega) (by omega) ?_
  refine r_it walk_range (fun i σ H' => (∃ o1 o2 o3 o4 o5, σ = [some (.int r), some (.int c), some (.ref p), o1, o2, o3, o4, o5]) ∧ Same H H' ∧ H' p = some (cL r c i))
    ⟨⟨_, _, _, _, _, rfl⟩, by walk_at "sm", upd_same⟩ (fun _ _ _ _ _ => trivial) (fun i v σ H1 H2 hi ⟨⟨o1, o2, o3, o4, o5, es⟩, s1, e1⟩ ⟨q2, q3⟩ => ?_) (fun σ H1 ⟨⟨o1, o2, o3, o4, o5, es⟩, s1, e1⟩ => ?_)
  · subst es q2 q3
    obtain ⟨⟨a0, a1⟩, ⟨b0, b1⟩, eab⟩ := rc (r := r) (k := (i : Int)) c0 (by omega) (by omega)
    have pa := prd_b a0 a1
    have pb := prd_b b0 b1
    dsimp only
    rw [Int.zero_add]
    walk_at "go"
    refine r_I (divW_le 1000 c0 (by omega) (by decide)) ?_
    walk_at "go"
    rw [prd_mod' b0 b1, prd_mod' a0 a1]
    have el : (i : Int) / c * c + prd c ((i : Int) % c) = lfO c i := rfl
    have ea : prd r ((i : Int) / c) * c + (i : Int) % c = abO r c i := rfl
    rw [el, ea]
    have hz := comb_size (lf := lfO c) (ab := abO r c) (m := i) (by omega)
    have hz3 := len_putS3 (S := (combD (lfO c) (abO r c) i).1) (x := 6 * (i : Int)) (y := 6 * (i : Int) + 2) (z := 6 * (i : Int) + 4)
    refine ⟨by walk_at "sz", fun t1 h1 => ?_⟩
    walk_at "go"
    refine ⟨p, t1, _, _, _, _, _, rfl, by walk_at "hp", SqT.of upd_same, by omega, ?_⟩
    have s2 := same_mut (o := dW (putS3 (combD (lfO c) (abO r c) i).1 (6 * (i : Int)) (6 * (i : Int) + 2) (6 * (i : Int) + 4)) (seatF (combD (lfO c) (abO r c) i).2 (6 * (i : Int)) (6 * (i : Int) + 2) (6 * (i : Int) + 4))) (same_new (o := .tup [.int (6 * (i : Int)), .int (6 * (i : Int) + 2), .int (6 * (i : Int) + 4)]) s1 h1) hp
    walk_at "go"
    refine ⟨by walk_at "sz", fun t2 h2 => ?_⟩
    walk_at "go"
    refine ⟨p, t2, _, _, _, _, _, rfl, at_new upd_same h2, SqT.of upd_same, by omega, ?_⟩
    exact ⟨⟨_, _, _, _, _, rfl⟩, same_mut (same_new s2 h2) hp, upd_same⟩
  · subst es
    walk_at "go"
    refine k p H1 s1 hp e1

local macro_rules | `(tactic| walk_at "st") => `(tactic| first
  | with_reducible refine c_other ?_)
/-! Wf: rims, floods, faults of webs. -/
/-! ### rim -/
def sp_l_rim (G : Gx) : Sp := fun vs H Q _ => ∃ (d : Addr) (S : List Int) (nx : Int → Int) (e : Int), vs = [.ref d, .int e] ∧ Rd H d (dW S nx) ∧ Map S ot nx ∧ e ∈ S ∧ S.length ≤ 100000 ∧
  ∀ (n : Nat) p H', Per (face ot nx) e n → Same H H' → Free H p → H' p = some (.lst ((rimO (face ot nx) e n).map V.int)) → Q (.ref p) H'
theorem len_l_rim {G : Gx} : ∀ vs H Q E, sp_l_rim G vs H Q E → vs.length = 2 := by rintro vs H Q E ⟨d, S, nx, e, rfl, _⟩; rfl
/-! _law_rim: slots _law_web_here, _law_end, _law_found, _law_k, _law_at -/
def t_l_rim (G : Gx) : TS :=
  (tSeq (tAsg (tLst (tCons (tVar 1) tNil)) (gName 2))
  (tSeq (tFor (iRng1 (tCons (tCB rLenD (tCons (tVar 0) tNil)) tNil)) (gName 3)
  (tSeq (tAsg (tDGet (tVar 0) (tCall (sp_l_other G) [] E0 (tCons (tOp (rIxL G.K) (tVar 2) (tUn rNegI (tC (.int 1)))) tNil))) (gName 4))
  (tSeq (tIfS (tTest (tOp rEq (tVar 4) (tVar 1))) (tRet (tVar 2)) tNext)
  (tDrop (tBM G.K "list" rAppend (tVar 2) (tCons (tVar 4) tNil))))))
  (tRet (tVar 2))))
theorem pure_l_rim {G : Gx} {vs : List V} {H : Hp} {Q : VK} {E : XK} (h : sp_l_rim G vs H Q E) : Body (t_l_rim G) ["_law_web", "_law_end", "_law_found", "_law_k", "_law_at"] vs H Q := by
  obtain ⟨d, S, nx, e, rfl, hd, M, he, hl, k⟩ := h
  show t_l_rim G _ [some (.ref d), some (.int e), none, none, none] H
  unfold t_l_rim
  obtain ⟨n, hn, P⟩ := per_ex M.perm he
  walk_at "go"
  refine ⟨by walk_at "sz", fun p hp => ?_⟩
  walk_at "go"
  refine r_rng (by omega) (by omega) ?_
  refine r_it walk_range (fun i σ H' => (∃ o1 o2, σ = [some (.ref d), some (.int e), some (.ref p), o1, o2]) ∧ Same H H' ∧ H' p = some (.lst ((rimO (face ot nx) e (i + 1)).map V.int)) ∧ i < n)
    ⟨⟨_, _, rfl⟩, by walk_at "sm", upd_same, P.pos⟩ (fun _ _ _ _ _ => trivial) (fun i v σ H1 H2 hi ⟨⟨o1, o2, es⟩, s1, e1, hin⟩ ⟨q2, q3⟩ => ?_) (fun σ H1 ⟨⟨o1, o2, es⟩, s1, e1, hin⟩ => ?_)
  · subst es q2 q3
    have hm := iter_mem M.perm he i
    have hm' := M.ca _ hm
    walk_at "go"
    refine r_ixL (v := .int (iter (face ot nx) i e)) (SqL.of e1) (by rw [rimO_succ, List.map_append]; exact atI_last _ _) ?_
    walk_at "go"
    refine iteI (fun h => ?_) (fun h => ?_)
    · walk_at "go"
      have en : n = i + 1 := by
        rcases Nat.lt_or_ge (i + 1) n with q | q
        · exact absurd (show iter (face ot nx) (i + 1) e = e from h) (P.first (i + 1) (Nat.succ_pos _) q)
        · omega
      rw [← en] at e1
      exact k n p _ P s1 hp e1
    · walk_at "go"
      refine r_app (xs := (rimO (face ot nx) e (i + 1)).map V.int) e1 (by rw [List.length_map, rimO_len]; exact size1000l (by omega)) ?_
      refine ⟨⟨_, _, rfl⟩, same_mut s1 hp, ?_, ?_⟩
      · rw [rimO_succ (n := i + 1), List.map_append]
        exact upd_same
      · rcases Nat.lt_or_ge (i + 1) n with q | q
        · exact q
        · exact absurd (show iter (face ot nx) (i + 1) e = e by rw [show i + 1 = n by omega]; exact P.ret) h
  · exact absurd hin (by show ¬ S.length < n; omega)
/-! ### is_web -/
def sp_l_is_web (G : Gx) : Sp := fun vs H Q _ => ∃ (f d : Addr) (S S' : List Int) (nx nx' : Int → Int), vs = [.ref f, .ref d] ∧ H f = some (dW S' nx') ∧ H d = some (dW S nx) ∧ f ≠ d ∧ S'.length = S.length ∧ S.length ≤ 100000 ∧ (∀ x ∈ S, x ∈ S' ∧ nx' x = nx x) ∧
  ∀ H', Same H H' → Q (.bl true) H'
theorem len_l_is_web {G : Gx} : ∀ vs H Q E, sp_l_is_web G vs H Q E → vs.length = 2 := by rintro vs H Q E ⟨f, d, S, S', nx, nx', rfl, _⟩; rfl
/-! _law_is_web: slots _law_found, _law_due, _law_end -/
def t_l_is_web (G : Gx) : TS :=
  (tSeq (tIfS (tOr (tNot (tB (tCB (rIsi G.K) (tCons (tVar 0) (tCons (tC (.ty "dict")) tNil))))) (tTest (tOp rNe (tCB rLenD (tCons (tVar 0) tNil)) (tCB rLenD (tCons (tVar 1) tNil))))) (tRet (tC (.bl false))) tNext)
  (tSeq (tLock (tFor (iKeys (tVar 1)) (gName 2)
  (tIfS (tOr (tB (tDNotIn (tVar 2) (tVar 0))) (tOr (tNot (tB (tCall (sp_l_whole G) [] E0 (tCons (tDGet (tVar 0) (tVar 2)) tNil)))) (tTest (tOp rNe (tDGet (tVar 0) (tVar 2)) (tDGet (tVar 1) (tVar 2)))))) (tRet (tC (.bl false))) tNext)))
  (tRet (tCB (rAll G.K) (tCons (tLockE (tLc (iKeys (tVar 0)) (gName 2) tYes (tCall (sp_l_whole G) [] E0 (tCons (tVar 2) tNil)) [2])) tNil)))))
theorem all_true {α : Type} (l : List α) : (l.map fun _ => true).all id = true := by
  induction l with
  | nil => rfl
  | cons x r ih => rw [List.map_cons, List.all_cons, ih]; rfl
theorem pure_l_is_web {G : Gx} {vs : List V} {H : Hp} {Q : VK} {E : XK} (h : sp_l_is_web G vs H Q E) : Body (t_l_is_web G) ["_law_found", "_law_due", "_law_end"] vs H Q := by
  obtain ⟨f, d, S, S', nx, nx', rfl, hf, hd, hne, hl, hz, hv, k⟩ := h
  show t_l_is_web G _ [some (.ref f), some (.ref d), none] H
  unfold t_l_is_web
  walk_at "go"
  refine iteNI (fun h => absurd (congrArg Int.ofNat hl) h) (fun _ => ?_)
  walk_at "go"
  refine r_forD hd (fun _ _ q => ⟨_, rfl, q⟩) fun od => ⟨fun j σ H' => (∃ o, σ = [some (.ref f), some (.ref d), o]) ∧ H' = upd H d (.frz od (dW S nx)), ⟨⟨_, rfl⟩, rfl⟩, ?_, ?_, ?_⟩
  · rintro j σ H' _ ⟨_, rfl⟩
    exact upd_same
  · rintro j x σ H' hj ⟨⟨o, rfl⟩, rfl⟩
    have hx : x ∈ S := List.mem_of_getElem? hj
    obtain ⟨m1, v1⟩ := hv x hx
    have e1 : upd H d (.frz od (dW S nx)) f = some (dW S' nx') := at_ne hf hne
    have r1 : Rd (upd H d (.frz od (dW S nx))) d (dW S nx) := rd_frz upd_same
    walk_at "go"
    rw [decide_eq_true m1]
    walk_at "go"
    refine iteNI (fun h => absurd v1 h) (fun _ => ?_)
    walk_at "go"
    exact ⟨⟨_, rfl⟩, rfl⟩
  · rintro σ H' ⟨⟨o, rfl⟩, rfl⟩
    rw [upd_upd, upd_id hd]
    walk_at "go"
    refine r_lcD (e := fun _ => .bl true) hf (fun _ _ q => ⟨_, rfl, q⟩) (size1000l (by omega)) (fun x hx H' Q q => ?_) (fun D hD => ?_)
    · walk_at "go"
      exact q
    · walk_at "go"
      refine r_all (bs := S'.map fun _ => true) (by rw [List.map_map]; exact SqL.of upd_same) ?_
      rw [all_true]
      exact k _ (by walk_at "sm")
/-! ### flood -/
def sp_l_flood (G : Gx) : Sp := fun vs H Q _ => ∃ (d : Addr) (S : List Int) (nx : Int → Int) (b : Int), vs = [.ref d, .int b] ∧ Rd H d (dW S nx) ∧ Web S nx ∧ b ∈ S ∧ S.length ≤ 100000 ∧
  ∀ (T : List Int) p H', (∀ x ∈ S, x ∈ T) → Same H H' → H' p = some (dI T fun _ => .bl true) → Q (.ref p) H'
theorem len_l_flood {G : Gx} : ∀ vs H Q E, sp_l_flood G vs H Q E → vs.length = 2 := by rintro vs H Q E ⟨d, S, nx, e, rfl, _⟩; rfl
/-! _law_flood: slots _law_found, _law_begin, _law_seen, _law_row, _law_at, _law_goal -/
def t_l_flood (G : Gx) : TS :=
  (tSeq (tAsg (tDisp [((tVar 1), (tC (.bl true)))]) (gName 2))
  (tSeq (tAsg (tLst (tCons (tVar 1) tNil)) (gName 3))
  (tSeq (tWhile (tTest (tOp rGtI (tCB (rLenSeq G.K) (tCons (tVar 3) tNil)) (tC (.int 0)))) (tSeq (tAsg (tBM0 G.K "list" rPop (tVar 3)) (gName 4))
  (tFor (iTup G.K (tTup (tCons (tDGet (tVar 0) (tVar 4)) (tCons (tCall (sp_l_other G) [] E0 (tCons (tVar 4) tNil)) tNil)))) (gName 5)
  (tIfS (tB (tDNotIn (tVar 5) (tVar 2))) (tSeq (sDPut (tVar 2) (tVar 5) (tC (.bl true)))
  (tDrop (tBM G.K "list" rAppend (tVar 3) (tCons (tVar 5) tNil)))) tNext))))
  (tRet (tVar 2)))))
structure Fl (S : List Int) (nx : Int → Int) (b : Int) (T R : List Int) : Prop where
  sub : ∀ x ∈ T, x ∈ S
  nd : T.Nodup
  beg : b ∈ T
  row : ∀ x ∈ R, x ∈ T
  rle : R.length ≤ T.length
  cl : ∀ x ∈ T, x ∈ R ∨ (nx x ∈ T ∧ ot x ∈ T)
theorem Fl.le {S : List Int} {nx : Int → Int} {b : Int} {T R : List Int} (F : Fl S nx b T R) : T.length ≤ S.length := sub_len F.nd F.sub
theorem pure_l_flood {G : Gx} {vs : List V} {H : Hp} {Q : VK} {E : XK} (h : sp_l_flood G vs H Q E) : Body (t_l_flood G) ["_law_found", "_law_begin", "_law_seen", "_law_row", "_law_at", "_law_goal"] vs H Q := by
  obtain ⟨d, S, nx, b, rfl, hd, W, hb, hl, k⟩ := h
  show t_l_flood G _ [some (.ref d), some (.int b), none, none, none, none] H
  unfold t_l_flood
  have M := W.map
  walk_at "go"
  refine r_disp1 (k := b) (v := .bl true) (fun _ _ q => ⟨_, rfl, q⟩) (fun _ _ q => q) fun p hp => ?_
  walk_at "go"
  refine ⟨by walk_at "sz", fun q hq => ?_⟩
  walk_at "go"
  have npq : p ≠ q := fun z => by rw [← z] at hq; unfold Free at hq; rw [upd_same] at hq; cases hq
  have hq0 : Free H q := by unfold Free at hq; rw [upd_ne (Ne.symm npq)] at hq; exact hq
  refine r_whileG (α := List Int × List Int) (fun g σ H' => (∃ o1 o2, σ = [some (.ref d), some (.int b), some (.ref p), some (.ref q), o1, o2]) ∧ Same H H' ∧ H' p = some (dI g.1 fun _ => .bl true) ∧ H' q = some (.lst (g.2.map V.int)) ∧ Fl S nx b g.1 g.2)
    (fun g => 2 * (S.length - g.1.length) + g.2.length) ([b], [b]) ⟨⟨_, _, rfl⟩, by walk_at "sm", by walk_at "hp", upd_same, ⟨?_, ?_, ?_, ?_, Nat.le_refl _, ?_⟩⟩ ?_
  · intro x hx; rw [List.mem_singleton.mp hx]; exact hb
  · exact List.Pairwise.cons (fun _ z => nomatch z) .nil
  · exact List.mem_singleton.mpr rfl
  · exact fun x hx => hx
  · exact fun x hx => .inl hx
  rintro ⟨T, R⟩ σ H1 ⟨⟨o1, o2, rfl⟩, s1, e1, e2, F⟩
  dsimp only at e1 e2 F ⊢
  walk_at "go"
  rw [List.length_map]
  refine iteD (fun h => ?_) (fun h => ?_)
  · refine r_wG ?_
    have hR : R ≠ [] := fun z => by rw [z] at h; exact absurd h (by decide)
    obtain ⟨Ro, y, rfl⟩ : ∃ R' y, R = R' ++ [y] := ⟨R.dropLast, R.getLast hR, (List.dropLast_concat_getLast hR).symm⟩
    have hyT : y ∈ T := F.row y (List.mem_append.mpr (.inr (List.mem_singleton.mpr rfl)))
    have hyS := F.sub y hyT
    have hle := F.le
    have hrl : Ro.length + 1 ≤ T.length := by have := F.rle; rwa [List.length_append] at this
    walk_at "go"
    refine r_popL (y := .int y) e2 (by rw [List.map_append, List.length_append]; simp) ?_
    rw [List.map_append, show List.map V.int [y] = [V.int y] from rfl, List.dropLast_concat]
    have hd1 : Rd H1 d (dW S nx) := same_rd s1 hd
    have s2 : Same H (upd H1 q (.lst (Ro.map V.int))) := same_mut s1 hq0
    have e3 : upd H1 q (.lst (Ro.map V.int)) p = some (dI T fun _ => .bl true) := at_ne e1 npq
    have hd2 : Rd (upd H1 q (.lst (Ro.map V.int))) d (dW S nx) := same_rd s2 hd
    have e4 : upd H1 q (.lst (Ro.map V.int)) q = some (.lst (Ro.map V.int)) := upd_same
    generalize upd H1 q (.lst (Ro.map V.int)) = H2 at s2 e3 hd2 e4 ⊢
    walk_at "go"
    refine ⟨by walk_at "sz", fun t ht => ?_⟩
    refine ⟨t, rfl, ⟨_, SqT.of upd_same⟩, ?_⟩
    have hm : ∀ l v, l < 2 → [V.int (nx y), V.int (ot y)][l]? = some v → ∃ g, v = .int g ∧ g ∈ S ∧ (l = 0 ∧ g = nx y ∨ l = 1 ∧ g = ot y) := fun l v hl q => by
      match l, hl, q with
      | 0, _, q => cases q; exact ⟨_, rfl, M.cn y hyS, .inl ⟨rfl, rfl⟩⟩
      | 1, _, q => cases q; exact ⟨_, rfl, M.ca y hyS, .inr ⟨rfl, rfl⟩⟩
    refine r_it walk_tup (fun l σ H' => (∃ o2, σ = [some (.ref d), some (.int b), some (.ref p), some (.ref q), some (.int y), o2]) ∧ Same H H' ∧ SqT G.K H' t [.int (nx y), .int (ot y)] ∧ ∃ (T' R' : List Int), H' p = some (dI T' fun _ => .bl true) ∧ H' q = some (.lst (R'.map V.int)) ∧
        (∀ x ∈ T, x ∈ T') ∧ (∀ x ∈ T', x ∈ S) ∧ T'.Nodup ∧ (∀ x ∈ R', x ∈ T') ∧ (∀ x ∈ T', x = y ∨ x ∈ R' ∨ (nx x ∈ T' ∧ ot x ∈ T')) ∧ 2 * (S.length - T'.length) + R'.length < 2 * (S.length - T.length) + (Ro.length + 1) ∧ R'.length ≤ T'.length ∧ (0 < l → nx y ∈ T') ∧ (1 < l → ot y ∈ T'))
      ?_ (fun _ _ _ _ z => z.2.2.1) (fun l v σ H6 H7 hl ⟨⟨o2, es⟩, s6, t6, T', R2, e6, f6, c1, c2, c3, c4, c5, c6, c9, c7, c8⟩ ⟨q2, q3⟩ => ?_) (fun σ H6 ⟨⟨o2, es⟩, s6, t6, T', R2, e6, f6, c1, c2, c3, c4, c5, c6, c9, c7, c8⟩ => ?_)
    · refine ⟨⟨_, rfl⟩, same_new s2 ht, SqT.of upd_same, T, Ro, at_new e3 ht, at_new e4 ht, fun _ z => z, F.sub, F.nd, fun x hx => F.row x (List.mem_append.mpr (.inl hx)), fun x hx => ?_, by omega, by omega, fun z => absurd z (by decide), fun z => absurd z (by decide)⟩
      rcases F.cl x hx with z | z
      · rcases List.mem_append.mp z with z | z
        · exact .inr (.inl z)
        · exact .inl (List.mem_singleton.mp z)
      · exact .inr (.inr z)
    · subst es q2
      obtain ⟨g, rfl, hg, hlg⟩ := hm l v hl q3
      have hle' : T'.length ≤ S.length := sub_len c3 c2
      walk_at "go"
      refine iteN (fun hn => ?_) (fun hi => ?_)
      · have hle2 : (T' ++ [g]).length ≤ S.length := by
          rw [← putS_out hn]
          refine sub_len (nd_putS c3) fun x hx => ?_
          rcases mem_putS.mp hx with z | z
          · exact c2 x z
          · rw [z]; exact hg
        rw [List.length_append, List.length_singleton] at hle2
        walk_at "go"
        refine r_dputT e6 (size1000l (by omega)) ?_
        rw [putS_out hn]
        have f7 : upd H7 p (dI (T' ++ [g]) fun _ => .bl true) q = some (.lst (R2.map V.int)) := at_ne f6 (Ne.symm npq)
        have sz : (R2.map V.int).length < sizeLine := by rw [List.length_map]; exact size1000l (by omega)
        walk_at "go"
        refine ⟨⟨_, rfl⟩, same_mut (same_mut s6 hp) hq0, mut_tup f7 trivial (mut_tup e6 trivial t6), T' ++ [g], R2 ++ [g], at_ne upd_same npq, ?_, fun x hx => List.mem_append.mpr (.inl (c1 x hx)), fun x hx => ?_, ?_, fun x hx => ?_, fun x hx => ?_, ?_, ?_, fun _ => ?_, fun h2 => ?_⟩
        · rw [List.map_append]
          exact upd_same
        · rcases List.mem_append.mp hx with z | z
          · exact c2 x z
          · rw [List.mem_singleton.mp z]; exact hg
        · rw [← putS_out hn]; exact nd_putS c3
        · rcases List.mem_append.mp hx with z | z
          · exact List.mem_append.mpr (.inl (c4 x z))
          · exact List.mem_append.mpr (.inr z)
        · rcases List.mem_append.mp hx with z | z
          · rcases c5 x z with w | w | w
            · exact .inl w
            · exact .inr (.inl (List.mem_append.mpr (.inl w)))
            · exact .inr (.inr ⟨List.mem_append.mpr (.inl w.1), List.mem_append.mpr (.inl w.2)⟩)
          · exact .inr (.inl (List.mem_append.mpr (.inr z)))
        · rw [List.length_append, List.length_append, List.length_singleton]
          omega
        · rw [List.length_append, List.length_append, List.length_singleton]
          omega
        · rcases hlg with ⟨rfl, rfl⟩ | ⟨rfl, _⟩
          · exact List.mem_append.mpr (.inr (List.mem_singleton.mpr rfl))
          · exact List.mem_append.mpr (.inl (c7 (by decide)))
        · rcases hlg with ⟨rfl, _⟩ | ⟨rfl, rfl⟩
          · exact absurd h2 (by decide)
          · exact List.mem_append.mpr (.inr (List.mem_singleton.mpr rfl))
      · walk_at "go"
        refine ⟨⟨_, rfl⟩, s6, t6, T', R2, e6, f6, c1, c2, c3, c4, c5, c6, c9, fun _ => ?_, fun h2 => ?_⟩
        · rcases hlg with ⟨rfl, rfl⟩ | ⟨rfl, _⟩
          · exact hi
          · exact c7 (by decide)
        · rcases hlg with ⟨rfl, _⟩ | ⟨rfl, rfl⟩
          · exact absurd h2 (by decide)
          · exact hi
    · refine ⟨(T', R2), ⟨⟨_, _, es⟩, s6, e6, f6, ⟨c2, c3, c1 b F.beg, c4, c9, fun x hx => ?_⟩⟩, ?_⟩
      · rcases c5 x hx with z | z | z
        · subst z
          exact .inr ⟨c7 (by show 0 < 2; decide), c8 (by show 1 < 2; decide)⟩
        · exact .inl z
        · exact .inr z
      · show 2 * (S.length - T'.length) + R2.length < 2 * (S.length - T.length) + (Ro ++ [y]).length
        rw [List.length_append, List.length_singleton]
        exact c6
  · have hR : R = [] := by
      cases R with
      | nil => rfl
      | cons x r => exact absurd (show (0 : Int) < ((r.length + 1 : Nat) : Int) by omega) h
    subst hR
    walk_at "go"
    refine k T p H1 (flood_all W hb F.beg (fun x hx => (F.cl x hx).elim (fun z => absurd z List.not_mem_nil) id) F.sub) s1 e1
/-! ### count_rims -/
def sp_l_count_rims (G : Gx) : Sp := fun vs H Q _ => ∃ (d : Addr) (S : List Int) (nx : Int → Int), vs = [.ref d] ∧ H d = some (dW S nx) ∧ Map S ot nx ∧ S.length ≤ 100000 ∧
  ∀ (n : Nat) H', Cls S (fstep S (face ot nx)) n → Same H H' → Q (.int n) H'
theorem len_l_count_rims {G : Gx} : ∀ vs H Q E, sp_l_count_rims G vs H Q E → vs.length = 1 := by rintro vs H Q E ⟨d, S, nx, rfl, _⟩; rfl
/-! _law_count_rims: slots _law_found, _law_passed, _law_many, _law_end, _law_at -/
def t_l_count_rims (G : Gx) : TS :=
  (tSeq (tAsg tDNewK (gName 1))
  (tSeq (tAsg (tC (.int 0)) (gName 2))
  (tSeq (tLock (tFor (iKeys (tVar 0)) (gName 3)
  (tIfS (tB (tDNotIn (tVar 3) (tVar 1))) (tSeq (tAug 2 (tC (.int 1)) ipAdd)
  (tSeq (tAsg (tVar 3) (gName 4))
  (tWhile (tB (tDNotIn (tVar 4) (tVar 1))) (tSeq (sDPut (tVar 1) (tVar 4) (tC (.bl true)))
  (tAsg (tDGet (tVar 0) (tCall (sp_l_other G) [] E0 (tCons (tVar 4) tNil))) (gName 4)))))) tNext)))
  (tRet (tVar 2)))))
theorem pure_l_count_rims {G : Gx} {vs : List V} {H : Hp} {Q : VK} {E : XK} (h : sp_l_count_rims G vs H Q E) : Body (t_l_count_rims G) ["_law_found", "_law_passed", "_law_many", "_law_end", "_law_at"] vs H Q := by
  obtain ⟨d, S, nx, rfl, hd, M, hl, k⟩ := h
  show t_l_count_rims G _ [some (.ref d), none, none, none, none] H
  unfold t_l_count_rims
  have Pm := M.perm
  walk_at "go"
  refine r_dnew (f := fun _ => .bl true) fun p hp => ?_
  have npd : p ≠ d := fun z => by rw [z] at hp; unfold Free at hp; rw [hd] at hp; cases hp
  have hd1 : upd H p (dI [] fun _ => .bl true) d = some (dW S nx) := at_ne hd (Ne.symm npd)
  walk_at "go"
  refine r_forD hd1 (fun _ _ q => ⟨_, rfl, q⟩) fun od => ?_
  have hp1 : Free (upd H d (.frz od (dW S nx))) p := by unfold Free; rw [upd_ne npd]; exact hp
  have sm : Same (upd H d (.frz od (dW S nx))) (upd (upd H p (dI [] fun _ => .bl true)) d (.frz od (dW S nx))) := fun b x e => by
    by_cases z : b = d
    · subst z
      rw [upd_same] at e ⊢
      exact e
    · rw [upd_ne z] at e ⊢
      exact at_new e hp
  refine ⟨fun j σ H' => ∃ (P : List Int) (n : Nat) (o3 o4 : Option V), σ = [some (.ref d), some (.ref p), some (.int n), o3, o4] ∧ Same (upd H d (.frz od (dW S nx))) H' ∧ H' p = some (dI P fun _ => .bl true) ∧ P.Nodup ∧ Cnt S (face ot nx) P n ∧ ∀ i x, i < j → S[i]? = some x → x ∈ P,
    ⟨[], 0, _, _, rfl, sm, at_ne upd_same npd, .nil, cnt_nil, fun i x h => absurd h (Nat.not_lt_zero _)⟩, ?_, ?_, ?_⟩
  · rintro j σ H' _ ⟨P, n, o3, o4, _, s1, _⟩
    exact s1 d _ upd_same
  · rintro j e σ H' hj ⟨P, n, o3, o4, rfl, s1, e1, nd, C, hP⟩
    have he : e ∈ S := List.mem_of_getElem? hj
    have hd2 : Rd H' d (dW S nx) := rd_frz (s1 d _ upd_same)
    have nxt : ∀ P' : List Int, (∀ x ∈ P, x ∈ P') → e ∈ P' → ∀ i x, i < j + 1 → S[i]? = some x → x ∈ P' := fun P' h1 h2 i x hi hx => by
      by_cases z : i = j
      · subst z
        rw [hj] at hx
        cases hx
        exact h2
      · exact h1 x (hP i x (by omega) hx)
    walk_at "go"
    refine iteN (fun hn => ?_) (fun hin => ?_)
    · walk_at "go"
      refine r_whileG (α := List Int × Int) (fun g σ H' => σ = [some (.ref d), some (.ref p), some (.int ((n : Int) + 1)), some (.int e), some (.int g.2)] ∧ Same (upd H d (.frz od (dW S nx))) H' ∧ H' p = some (dI g.1 fun _ => .bl true) ∧ g.1.Nodup ∧ (∀ x ∈ P, x ∈ g.1) ∧ (∀ x ∈ g.1, x ∈ S) ∧
          (∀ x ∈ g.1, face ot nx x ∈ g.1 ∨ face ot nx x = g.2) ∧ (e ∈ g.1 ∨ g.2 = e) ∧ (∀ x ∈ g.1, x ∈ P ∨ Eqv (fstep S (face ot nx)) e x) ∧ g.2 ∈ S ∧ Eqv (fstep S (face ot nx)) e g.2)
        (fun g => S.length - g.1.length) (P, e) ⟨rfl, s1, e1, nd, fun _ z => z, C.sub, fun x hx => .inl (C.cl x hx), .inr rfl, fun x hx => .inl hx, he, .refl _⟩ ?_
      rintro ⟨P', at'⟩ σ H2 ⟨rfl, s2, e2, n2, c1, c2, c3, c4, c5, c6, c7⟩
      dsimp only at e2 n2 c1 c2 c3 c4 c5 c6 c7 ⊢
      have hd3 : Rd H2 d (dW S nx) := rd_frz (s2 d _ upd_same)
      walk_at "go"
      refine iteN (fun hn' => ?_) (fun hin => ?_)
      · refine r_wG ?_
        have hle : P'.length ≤ S.length := sub_len n2 c2
        have nd' := nd_putS (k := at') n2
        have sub' : ∀ x ∈ putS P' at', x ∈ S := fun x hx => (mem_putS.mp hx).elim (c2 x) fun z => z ▸ c6
        have hle' := sub_len nd' sub'
        have hpl : (putS P' at').length = P'.length + 1 := by rw [putS_out hn', List.length_append]; rfl
        have m1 := M.ca at' c6
        walk_at "go"
        refine r_dputT e2 (size1000l (by omega)) ?_
        have s3 : Same (upd H d (.frz od (dW S nx))) (upd H2 p (dI (putS P' at') fun _ => .bl true)) := same_mut s2 hp1
        have hd4 : Rd (upd H2 p (dI (putS P' at') fun _ => .bl true)) d (dW S nx) := rd_frz (s3 d _ upd_same)
        walk_at "go"
        refine ⟨(putS P' at', face ot nx at'), ⟨rfl, s3, upd_same, nd', fun x hx => mem_putS.mpr (.inl (c1 x hx)), sub', fun x hx => ?_, .inl ?_, fun x hx => ?_, Pm.mem _ c6, c7.trans (.step ⟨c6, rfl⟩)⟩, ?_⟩
        · rcases mem_putS.mp hx with z | z
          · rcases c3 x z with w | w
            · exact .inl (mem_putS.mpr (.inl w))
            · exact .inl (mem_putS.mpr (.inr w))
          · rw [z]; exact .inr rfl
        · rcases c4 with z | z
          · exact mem_putS.mpr (.inl z)
          · exact mem_putS.mpr (.inr z.symm)
        · rcases mem_putS.mp hx with z | z
          · exact c5 x z
          · rw [z]; exact .inr c7
        · show S.length - (putS P' at').length < S.length - P'.length
          omega
      · have he' : e ∈ P' := c4.elim id fun z => z ▸ hin
        refine ⟨P', n + 1, _, _, rfl, s2, e2, n2, C.more Pm he hn c1 (fun x hx => (c3 x hx).elim id fun z => z ▸ hin) he' c5, nxt P' c1 he'⟩
    · walk_at "go"
      exact ⟨P, n, _, _, rfl, s1, e1, nd, C, nxt P (fun _ z => z) hin⟩
  · rintro σ H' ⟨P, n, o3, o4, rfl, s1, e1, nd, C, hP⟩
    walk_at "go"
    refine k n _ (C.all fun x hx => ?_) (same_unlock hd s1)
    obtain ⟨i, hi⟩ := List.getElem?_of_mem hx
    exact hP i x (by have := (List.getElem?_eq_some_iff.mp hi).1; exact this) hi
/-! ### fault -/
def sp_l_fault (G : Gx) : Sp := fun vs H Q _ => ∃ (d : Addr) (S : List Int) (nx : Int → Int), vs = [.ref d] ∧ H d = some (dW S nx) ∧ Web S nx ∧ S.length ≤ 100000 ∧ ∀ H', Same H H' → Q .non H'
theorem len_l_fault {G : Gx} : ∀ vs H Q E, sp_l_fault G vs H Q E → vs.length = 1 := by rintro vs H Q E ⟨d, S, nx, rfl, _⟩; rfl
/-! _law_fault: slots _law_found, _law_ends, _law_lone, _law_astray, _law_odd, _law_seen, _law_apart, _law_many, _law_end -/
def t_l_fault (G : Gx) : TS :=
  (tSeq (tAsg (tCB (rSortedI G.K) (tCons (tCB rListRd (tCons (tVar 0) tNil)) tNil)) (gName 1))
  (tSeq (tIfS (tTest (tOp rEq (tCB (rLenSeq G.K) (tCons (tVar 1) tNil)) (tC (.int 0)))) (tRet (tTup (tCons (tC (.str "none")) (tCons (tC (.int 0)) tNil)))) tNext)
  (tSeq (tAsg (tLc (iList G.K (tVar 1)) (gName 8) (tB (tDNotIn (tCall (sp_l_other G) [] E0 (tCons (tVar 8) tNil)) (tVar 0))) (tVar 8) [8]) (gName 2))
  (tSeq (tIfS (tTest (tOp rGtI (tCB (rLenSeq G.K) (tCons (tVar 2) tNil)) (tC (.int 0)))) (tRet (tTup (tCons (tC (.str "lone")) (tCons (tOp (rIxL G.K) (tVar 2) (tC (.int 0))) tNil)))) tNext)
  (tSeq (tAsg (tLc (iList G.K (tVar 1)) (gName 8) (tB (tDNotIn (tDGet (tVar 0) (tVar 8)) (tVar 0))) (tVar 8) [8]) (gName 3))
  (tSeq (tIfS (tTest (tOp rGtI (tCB (rLenSeq G.K) (tCons (tVar 3) tNil)) (tC (.int 0)))) (tRet (tTup (tCons (tC (.str "astray")) (tCons (tOp (rIxL G.K) (tVar 3) (tC (.int 0))) tNil)))) tNext)
  (tSeq (tAsg (tLc (iList G.K (tVar 1)) (gName 8) (tOr (tTest (tOp rEq (tDGet (tVar 0) (tVar 8)) (tVar 8))) (tTest (tOp rNe (tDGet (tVar 0) (tDGet (tVar 0) (tDGet (tVar 0) (tVar 8)))) (tVar 8)))) (tVar 8) [8]) (gName 4))
  (tSeq (tIfS (tTest (tOp rGtI (tCB (rLenSeq G.K) (tCons (tVar 4) tNil)) (tC (.int 0)))) (tRet (tTup (tCons (tC (.str "corner")) (tCons (tOp (rIxL G.K) (tVar 4) (tC (.int 0))) tNil)))) tNext)
  (tSeq (tAsg (tCall (sp_l_flood G) [] E0 (tCons (tVar 0) (tCons (tOp (rIxL G.K) (tVar 1) (tC (.int 0))) tNil))) (gName 5))
  (tSeq (tAsg (tLc (iList G.K (tVar 1)) (gName 8) (tB (tDNotIn (tVar 8) (tVar 5))) (tVar 8) [8]) (gName 6))
  (tSeq (tIfS (tTest (tOp rGtI (tCB (rLenSeq G.K) (tCons (tVar 6) tNil)) (tC (.int 0)))) (tRet (tTup (tCons (tC (.str "apart")) (tCons (tOp (rIxL G.K) (tVar 6) (tC (.int 0))) tNil)))) tNext)
  (tSeq (tAsg (tCall (sp_l_count_rims G) [] E0 (tCons (tVar 0) tNil)) (gName 7))
  (tSeq (tIfS (tTest (tOp rNe (tOp rMulI (tC (.int 6)) (tVar 7)) (tCB (rLenSeq G.K) (tCons (tVar 1) tNil)))) (tRet (tTup (tCons (tC (.str "glasses")) (tCons (tVar 7) tNil)))) tNext)
  (tRet (tC .non)))))))))))))))
theorem filt0 {α : Type} (l : List α) : (l.filter fun _ => false) = [] := by induction l with
  | nil => rfl
  | cons x r ih => exact ih
theorem pure_l_fault {G : Gx} {vs : List V} {H : Hp} {Q : VK} {E : XK} (h : sp_l_fault G vs H Q E) : Body (t_l_fault G) ["_law_found", "_law_ends", "_law_lone", "_law_astray", "_law_odd", "_law_seen", "_law_apart", "_law_many", "_law_end"] vs H Q := by
  obtain ⟨d, S, nx, rfl, hd, W, hl, k⟩ := h
  show t_l_fault G _ [some (.ref d), none, none, none, none, none, none, none, none] H
  unfold t_l_fault
  have M := W.map
  walk_at "go"
  intro p0 hp0
  walk_at "go"
  refine r_sorted (ns := S) (SqL.of upd_same) fun ns p pe _ hp => ?_
  have s1 : Same H (upd (upd H p0 (.lst (S.map V.int))) p (.lst (ns.map V.int))) := by walk_at "sm"
  have e1 : upd (upd H p0 (.lst (S.map V.int))) p (.lst (ns.map V.int)) p = some (.lst (ns.map V.int)) := upd_same
  generalize upd (upd H p0 (.lst (S.map V.int))) p (.lst (ns.map V.int)) = H1 at s1 e1 ⊢
  clear hp hp0
  have hd1 : H1 d = some (dW S nx) := s1 d _ hd
  have hmem : ∀ x, x ∈ ns → x ∈ S := fun x hx => pe.mem_iff.mp hx
  have hlen := pe.length_eq
  have hne : ns ≠ [] := fun z => W.ne (by rw [z] at hlen; exact List.eq_nil_of_length_eq_zero hlen.symm)
  obtain ⟨b, nr, hb⟩ : ∃ b r, ns = b :: r := by
    cases ns with
    | nil => exact absurd rfl hne
    | cons b r => exact ⟨b, r, rfl⟩
  have hbS : b ∈ S := hmem b (by rw [hb]; exact List.mem_cons_self)
  have hnl : ns.length ≤ 100000 := by omega
  walk_at "go"
  refine iteI (fun h => absurd h (by rw [List.length_map, hb, List.length_cons]; omega)) (fun _ => ?_)
  walk_at "go"
  refine r_lcL (p := fun _ => false) (e := V.int) (ns := ns) (SqL.of e1) (fun _ q => ⟨_, rfl, q⟩) (size1000l (by omega)) (fun x hx D u hD R q => ?_) (fun x hx z => nomatch z) (fun D1 hD1 => ?_)
  · have m1 := M.ca x (hmem x hx)
    walk_at "go"
    rw [decide_eq_true m1]
    exact q
  rw [filt0]
  have s2 := same_new (o := .lst ([].map V.int)) (Same.refl H1) hD1
  have f2 : upd H1 D1 (.lst ([].map V.int)) D1 = some (.lst ([].map V.int)) := upd_same
  have e2 := s2 p _ e1
  have hd2 := s2 d _ hd1
  have s02 := s1.trans s2
  generalize upd H1 D1 (.lst ([].map V.int)) = H2 at s2 f2 e2 hd2 s02 ⊢
  walk_at "go"
  refine iteD (fun h => absurd h (by decide)) (fun _ => ?_)
  walk_at "go"
  refine r_lcL (p := fun _ => false) (e := V.int) (ns := ns) (SqL.of e2) (fun _ q => ⟨_, rfl, q⟩) (size1000l (by omega)) (fun x hx D u hD R q => ?_) (fun x hx z => nomatch z) (fun D2 hD2 => ?_)
  · have m0 := hmem x hx
    have m1 := M.cn x m0
    walk_at "go"
    rw [decide_eq_true m1]
    exact q
  rw [filt0]
  have s3 := same_new (o := .lst ([].map V.int)) (Same.refl H2) hD2
  have f3 : upd H2 D2 (.lst ([].map V.int)) D2 = some (.lst ([].map V.int)) := upd_same
  have e3 := s3 p _ e2
  have hd3 := s3 d _ hd2
  have s03 := s02.trans s3
  generalize upd H2 D2 (.lst ([].map V.int)) = H3 at s3 f3 e3 hd3 s03 ⊢
  walk_at "go"
  refine iteD (fun h => absurd h (by decide)) (fun _ => ?_)
  walk_at "go"
  refine r_lcL (p := fun _ => false) (e := V.int) (ns := ns) (SqL.of e3) (fun _ q => ⟨_, rfl, q⟩) (size1000l (by omega)) (fun x hx D u hD R q => ?_) (fun x hx z => nomatch z) (fun D3 hD3 => ?_)
  · have m0 := hmem x hx
    have m1 := M.cn x m0
    have m2 := M.cn _ m1
    walk_at "go"
    refine iteI (fun h => absurd h (M.n1 x m0)) (fun _ => ?_)
    walk_at "go"
    rw [M.n3 x m0, decide_eq_true rfl]
    exact q
  rw [filt0]
  have s4 := same_new (o := .lst ([].map V.int)) (Same.refl H3) hD3
  have f4 : upd H3 D3 (.lst ([].map V.int)) D3 = some (.lst ([].map V.int)) := upd_same
  have e4 := s4 p _ e3
  have hd4 := s4 d _ hd3
  have s04 := s03.trans s4
  generalize upd H3 D3 (.lst ([].map V.int)) = H4 at s4 f4 e4 hd4 s04 ⊢
  walk_at "go"
  refine iteD (fun h => absurd h (by decide)) (fun _ => ?_)
  walk_at "go"
  refine r_ixL (v := .int b) (SqL.of e4) (by rw [hb]; exact atI_nat (j := 0) rfl) ?_
  walk_at "go"
  refine ⟨d, S, nx, b, rfl, rd_in hd4, W, hbS, hl, fun T q H5 hT s5 e5 => ?_⟩
  have e5p := s5 p _ e4
  have hd5 := s5 d _ hd4
  have s05 := s04.trans s5
  walk_at "go"
  refine r_lcL (p := fun _ => false) (e := V.int) (ns := ns) (SqL.of e5p) (fun _ q => ⟨_, rfl, q⟩) (size1000l (by omega)) (fun x hx D u hD R q => ?_) (fun x hx z => nomatch z) (fun D5 hD5 => ?_)
  · have m0 := hT x (hmem x hx)
    walk_at "go"
    rw [decide_eq_true m0]
    exact q
  rw [filt0]
  have s6 := same_new (o := .lst ([].map V.int)) (Same.refl H5) hD5
  have f6 : upd H5 D5 (.lst ([].map V.int)) D5 = some (.lst ([].map V.int)) := upd_same
  have e6 := s6 p _ e5p
  have hd6 := s6 d _ hd5
  have s06 := s05.trans s6
  generalize upd H5 D5 (.lst ([].map V.int)) = H6 at s6 f6 e6 hd6 s06 ⊢
  walk_at "go"
  refine iteD (fun h => absurd h (by decide)) (fun _ => ?_)
  walk_at "go"
  refine ⟨d, S, nx, rfl, hd6, M, hl, fun n H7 hn s7 => ?_⟩
  have e7 := s7 p _ e6
  obtain ⟨n', hn', h6⟩ := W.eul
  have en := cls_unique hn hn'
  walk_at "go"
  refine iteNI (fun h => absurd (by rw [List.length_map, hlen, ← h6, en]; omega) h) (fun _ => ?_)
  walk_at "go"
  exact k H7 (s06.trans s7)

/-! Wg: what the laws do to webs. -/
/-! ### corner, loop -/
def sp_l_corner (G : Gx) : Sp := fun vs H Q _ => ∃ (d : Addr) (S : List Int) (nx : Int → Int) (e : Int), vs = [.ref d, .int e] ∧ Rd H d (dW S nx) ∧ e ∈ S ∧ nx e ∈ S ∧ ∀ t, Free H t → Q (.ref t) (upd H t (.tup [.int e, .int (nx e), .int (nx (nx e))]))
theorem len_l_corner {G : Gx} : ∀ vs H Q E, sp_l_corner G vs H Q E → vs.length = 2 := by rintro vs H Q E ⟨d, S, nx, e, rfl, _⟩; rfl
/-! _law_corner: slots _law_web_here, _law_end -/
def t_l_corner (G : Gx) : TS :=
  (tRet (tTup (tCons (tVar 1) (tCons (tDGet (tVar 0) (tVar 1)) (tCons (tDGet (tVar 0) (tDGet (tVar 0) (tVar 1))) tNil)))))
theorem pure_l_corner {G : Gx} {vs : List V} {H : Hp} {Q : VK} {E : XK} (h : sp_l_corner G vs H Q E) : Body (t_l_corner G) ["_law_web_here", "_law_end"] vs H Q := by
  obtain ⟨d, S, nx, e, rfl, hd, he, hn, k⟩ := h
  show t_l_corner G _ [some (.ref d), some (.int e)] H
  unfold t_l_corner
  walk_at "go"
  exact ⟨by walk_at "sz", k⟩
def sp_l_loop (G : Gx) : Sp := fun vs H Q _ => ∃ (d : Addr) (S : List Int) (nx : Int → Int) (f : Int), vs = [.ref d, .int f] ∧ Rd H d (dW S nx) ∧ 2 * f ∈ S ∧ nx (2 * f) ∈ S ∧ ∀ (b : Bool) H', (b = true ↔ nx (2 * f) = ot (2 * f) ∨ nx (nx (2 * f)) = ot (2 * f)) → Same H H' → Q (.bl b) H'
theorem len_l_loop {G : Gx} : ∀ vs H Q E, sp_l_loop G vs H Q E → vs.length = 2 := by rintro vs H Q E ⟨d, S, nx, e, rfl, _⟩; rfl
/-! _law_loop: slots _law_web_here, _law_film -/
def t_l_loop (G : Gx) : TS :=
  (tRet (tOp (rIn G.K false) (tOp rAddI (tOp rMulI (tC (.int 2)) (tVar 1)) (tC (.int 1))) (tCall (sp_l_corner G) [] E0 (tCons (tVar 0) (tCons (tOp rMulI (tC (.int 2)) (tVar 1)) tNil)))))
theorem inV3 (k x y z : Int) : inV (.int k) [.int x, .int y, .int z] = true ↔ (x = k ∨ y = k ∨ z = k) := by
  rw [show [V.int x, V.int y, V.int z] = [x, y, z].map V.int from rfl, inV_ints]
  simp
theorem pure_l_loop {G : Gx} {vs : List V} {H : Hp} {Q : VK} {E : XK} (h : sp_l_loop G vs H Q E) : Body (t_l_loop G) ["_law_web_here", "_law_film"] vs H Q := by
  obtain ⟨d, S, nx, f, rfl, hd, he, hn, k⟩ := h
  show t_l_loop G _ [some (.ref d), some (.int f)] H
  unfold t_l_loop
  walk_at "go"
  refine ⟨d, S, nx, 2 * f, rfl, hd, he, hn, fun t ht => ?_⟩
  walk_at "go"
  refine k _ _ ?_ (by walk_at "sm")
  rw [if_neg Bool.false_ne_true, inV3, ot_even]
  constructor
  · rintro (h | h | h)
    · omega
    · exact .inl h
    · exact .inr h
  · rintro (h | h)
    · exact .inr (.inl h)
    · exact .inr (.inr h)
/-! ### push -/
def pushB (nx : Int → Int) (e : Int) (b : Bool) : Int → Int := if b = true then pullF nx e else pushF nx e
def sp_l_push (G : Gx) : Sp := fun vs H Q _ => ∃ (d : Addr) (S : List Int) (nx : Int → Int) (f : Int) (b : Bool), vs = [.ref d, .int f, .bl b] ∧ Rd H d (dW S nx) ∧ Map S ot nx ∧ 2 * f ∈ S ∧ S.length ≤ 90000 ∧ ∀ p H', Same H H' → Free H p → H' p = some (dW S (pushB nx (2 * f) b)) → Q (.ref p) H'
theorem len_l_push {G : Gx} : ∀ vs H Q E, sp_l_push G vs H Q E → vs.length = 3 := by rintro vs H Q E ⟨d, S, nx, f, b, rfl, _⟩; rfl
/-! _law_push: slots _law_web_here, _law_film, _law_back, _law_e, _law_a, _law_b, _law_o, _law_c, _law_d, _law_made -/
def t_l_push (G : Gx) : TS :=
  (tSeq (tAsg (tCall (sp_l_corner G) [] E0 (tCons (tVar 0) (tCons (tOp rMulI (tC (.int 2)) (tVar 1)) tNil))) (gTup G.K 3 (gCons (gName 3) (gCons (gName 4) (gCons (gName 5) gNil)))))
  (tSeq (tAsg (tCall (sp_l_corner G) [] E0 (tCons (tVar 0) (tCons (tOp rAddI (tOp rMulI (tC (.int 2)) (tVar 1)) (tC (.int 1))) tNil))) (gTup G.K 3 (gCons (gName 6) (gCons (gName 7) (gCons (gName 8) gNil)))))
  (tSeq (tAsg (tCB rDictRd (tCons (tVar 0) tNil)) (gName 9))
  (tSeq (tIfS (tB (tVar 2)) (tSeq (tDrop (tCall (sp_l_seat G) [] E0 (tCons (tVar 9) (tCons (tTup (tCons (tVar 3) (tCons (tVar 8) (tCons (tVar 4) tNil)))) tNil))))
  (tDrop (tCall (sp_l_seat G) [] E0 (tCons (tVar 9) (tCons (tTup (tCons (tVar 6) (tCons (tVar 5) (tCons (tVar 7) tNil)))) tNil))))) (tSeq (tDrop (tCall (sp_l_seat G) [] E0 (tCons (tVar 9) (tCons (tTup (tCons (tVar 3) (tCons (tVar 5) (tCons (tVar 7) tNil)))) tNil))))
  (tDrop (tCall (sp_l_seat G) [] E0 (tCons (tVar 9) (tCons (tTup (tCons (tVar 6) (tCons (tVar 8) (tCons (tVar 4) tNil)))) tNil))))))
  (tRet (tVar 9))))))
theorem putS3_in {S : List Int} {x y z : Int} (hx : x ∈ S) (hy : y ∈ S) (hz : z ∈ S) : putS3 S x y z = S := by
  unfold putS3
  rw [putS_in hx, putS_in hy, putS_in hz]
theorem pure_l_push {G : Gx} {vs : List V} {H : Hp} {Q : VK} {E : XK} (h : sp_l_push G vs H Q E) : Body (t_l_push G) ["_law_web_here", "_law_film", "_law_back", "_law_e", "_law_a", "_law_b", "_law_o", "_law_c", "_law_d", "_law_made"] vs H Q := by
  obtain ⟨d, S, nx, f, bk, rfl, hd, M, he, hl, k⟩ := h
  show t_l_push G _ [some (.ref d), some (.int f), some (.bl bk), none, none, none, none, none, none, none] H
  unfold t_l_push
  have ho : 2 * f + 1 ∈ S := by have := M.ca _ he; rwa [ot_even] at this
  have ha := M.cn _ he
  have hb := M.cn _ ha
  have hc := M.cn _ ho
  have hd' := M.cn _ hc
  walk_at "go"
  refine ⟨d, S, nx, 2 * f, rfl, hd, he, ha, fun t1 h1 => ?_⟩
  refine g_tup (SqT.of upd_same) rfl ?_
  walk_at "go"
  refine ⟨d, S, nx, 2 * f + 1, rfl, by walk_at "rd", ho, hc, fun t2 h2 => ?_⟩
  refine g_tup (SqT.of upd_same) rfl ?_
  walk_at "go"
  intro p hp
  walk_at "go"
  have s1 : Same H (upd (upd (upd H t1 (.tup [.int (2 * f), .int (nx (2 * f)), .int (nx (nx (2 * f)))])) t2 (.tup [.int (2 * f + 1), .int (nx (2 * f + 1)), .int (nx (nx (2 * f + 1)))])) p (dW S nx)) := by walk_at "sm"
  have e1 : (upd (upd (upd H t1 (.tup [.int (2 * f), .int (nx (2 * f)), .int (nx (nx (2 * f)))])) t2 (.tup [.int (2 * f + 1), .int (nx (2 * f + 1)), .int (nx (nx (2 * f + 1)))])) p (dW S nx)) p = some (dW S nx) := upd_same
  have hp0 : Free H p := by walk_at "fr"
  generalize upd (upd (upd H t1 (.tup [.int (2 * f), .int (nx (2 * f)), .int (nx (nx (2 * f)))])) t2 (.tup [.int (2 * f + 1), .int (nx (2 * f + 1)), .int (nx (nx (2 * f + 1)))])) p (dW S nx) = H1 at s1 e1 ⊢
  clear hp h1 h2
  have seat : ∀ (H1 : Hp) (w : Int → Int) (x y z : Int) (Q : VK) (u : Addr), Same H H1 → H1 p = some (dW S w) → x ∈ S → y ∈ S → z ∈ S → Free H1 u → (∀ H2, Same H H2 → H2 p = some (dW S (seatF w x y z)) → Q .non H2) → sp_l_seat G [.ref p, .ref u] (upd H1 u (.tup [.int x, .int y, .int z])) Q E0 := by
    intro H1 w x y z Q u s1 e1 hx hy hz hu k
    refine ⟨p, u, S, w, x, y, z, rfl, by walk_at "hp", SqT.of upd_same, by omega, ?_⟩
    rw [putS3_in hx hy hz]
    exact k _ (same_mut (same_new s1 hu) hp0) upd_same
  cases bk with
  | true =>
    walk_at "go"
    refine ⟨by walk_at "sz", fun u hu => ?_⟩
    walk_at "go"
    refine seat _ _ _ _ _ _ _ s1 e1 he hd' ha hu fun H2 s2 e2 => ?_
    walk_at "go"
    refine ⟨by walk_at "sz", fun u hu => ?_⟩
    walk_at "go"
    refine seat _ _ _ _ _ _ _ s2 e2 ho hb hc hu fun H3 s3 e3 => ?_
    walk_at "go"
    refine k p _ s3 hp0 ?_
    unfold pushB pullF
    rw [if_pos rfl, ot_even]
    exact e3
  | false =>
    walk_at "go"
    refine ⟨by walk_at "sz", fun u hu => ?_⟩
    walk_at "go"
    refine seat _ _ _ _ _ _ _ s1 e1 he hb hc hu fun H2 s2 e2 => ?_
    walk_at "go"
    refine ⟨by walk_at "sz", fun u hu => ?_⟩
    walk_at "go"
    refine seat _ _ _ _ _ _ _ s2 e2 ho hd' ha hu fun H3 s3 e3 => ?_
    walk_at "go"
    refine k p _ s3 hp0 ?_
    unfold pushB pushF
    rw [if_neg Bool.false_ne_true, ot_even]
    exact e3
/-! ### one_bubble -/
def sp_l_one_bubble (G : Gx) : Sp := fun vs H Q _ => ∃ (d : Addr) (S : List Int) (nx : Int → Int) (f : Int), vs = [.ref d, .int f] ∧ Rd H d (dW S nx) ∧ Map S ot nx ∧ 2 * f ∈ S ∧ S.length ≤ 100000 ∧ ∀ (b : Bool) H', (b = true ↔ Rim S nx (2 * f) (ot (2 * f))) → Same H H' → Q (.bl b) H'
theorem len_l_one_bubble {G : Gx} : ∀ vs H Q E, sp_l_one_bubble G vs H Q E → vs.length = 2 := by rintro vs H Q E ⟨d, S, nx, e, rfl, _⟩; rfl
/-! _law_one_bubble: slots _law_web_here, _law_film -/
def t_l_one_bubble (G : Gx) : TS :=
  (tRet (tOp (rIn G.K false) (tOp rAddI (tOp rMulI (tC (.int 2)) (tVar 1)) (tC (.int 1))) (tCall (sp_l_rim G) [] E0 (tCons (tVar 0) (tCons (tOp rMulI (tC (.int 2)) (tVar 1)) tNil)))))
theorem all_flat (l : List Int) : (l.map V.int).all flatV = true := by
  induction l with
  | nil => rfl
  | cons x r ih => rw [List.map_cons, List.all_cons, ih]; rfl
theorem inV_mem (k : Int) (l : List Int) : inV (.int k) (l.map V.int) = true ↔ k ∈ l := by
  rw [inV_ints]
  simp
theorem pure_l_one_bubble {G : Gx} {vs : List V} {H : Hp} {Q : VK} {E : XK} (h : sp_l_one_bubble G vs H Q E) : Body (t_l_one_bubble G) ["_law_web_here", "_law_film"] vs H Q := by
  obtain ⟨d, S, nx, f, rfl, hd, M, he, hl, k⟩ := h
  show t_l_one_bubble G _ [some (.ref d), some (.int f)] H
  unfold t_l_one_bubble
  walk_at "go"
  refine ⟨d, S, nx, 2 * f, rfl, hd, M, he, hl, fun n p H1 P s1 f1 e1 => ?_⟩
  walk_at "go"
  refine r_inL (SqL.of e1) rfl (all_flat _) ?_
  refine k _ _ ?_ s1
  rw [if_neg Bool.false_ne_true, inV_mem, rim_mem M.perm he P, ot_even]
/-! ### blow -/
def sp_l_blow (G : Gx) : Sp := fun vs H Q _ => ∃ (d : Addr) (S : List Int) (nx : Int → Int) (e f : Int), vs = [.ref d, .int e, .int f] ∧ Rd H d (dW S nx) ∧ Map S ot nx ∧ e ∈ S ∧ (∀ x ∈ S, x < 2 * f) ∧ S.length ≤ 90000 ∧ ∀ p H', Same H H' → Free H p → H' p = some (dW (blowS S (2 * f)) (blowF nx e (2 * f))) → Q (.ref p) H'
theorem len_l_blow {G : Gx} : ∀ vs H Q E, sp_l_blow G vs H Q E → vs.length = 3 := by rintro vs H Q E ⟨d, S, nx, e, f, rfl, _⟩; rfl
/-! _law_blow: slots _law_web_here, _law_end, _law_first, _law_e, _law_a, _law_b, _law_made, _law_new -/
def t_l_blow (G : Gx) : TS :=
  (tSeq (tAsg (tCall (sp_l_corner G) [] E0 (tCons (tVar 0) (tCons (tVar 1) tNil))) (gTup G.K 3 (gCons (gName 3) (gCons (gName 4) (gCons (gName 5) gNil)))))
  (tSeq (tAsg (tCB rDictRd (tCons (tVar 0) tNil)) (gName 6))
  (tSeq (tAsg (tOp rMulI (tC (.int 2)) (tVar 2)) (gName 7))
  (tSeq (tDrop (tCall (sp_l_seat G) [] E0 (tCons (tVar 6) (tCons (tTup (tCons (tVar 3) (tCons (tVar 7) (tCons (tOp rAddI (tVar 7) (tC (.int 5))) tNil)))) tNil))))
  (tSeq (tDrop (tCall (sp_l_seat G) [] E0 (tCons (tVar 6) (tCons (tTup (tCons (tVar 4) (tCons (tOp rAddI (tVar 7) (tC (.int 2))) (tCons (tOp rAddI (tVar 7) (tC (.int 1))) tNil)))) tNil))))
  (tSeq (tDrop (tCall (sp_l_seat G) [] E0 (tCons (tVar 6) (tCons (tTup (tCons (tVar 5) (tCons (tOp rAddI (tVar 7) (tC (.int 4))) (tCons (tOp rAddI (tVar 7) (tC (.int 3))) tNil)))) tNil))))
  (tRet (tVar 6))))))))
theorem putS3_1 {S : List Int} {x y z : Int} (hx : x ∈ S) (hy : y ∉ S) (hz : z ∉ S) (hyz : z ≠ y) : putS3 S x y z = S ++ [y, z] := by
  unfold putS3
  rw [putS_in hx, putS_out hy, putS_out (fun h => (List.mem_append.mp h).elim hz fun q => hyz (List.mem_singleton.mp q)), List.append_assoc]
  rfl
theorem pure_l_blow {G : Gx} {vs : List V} {H : Hp} {Q : VK} {E : XK} (h : sp_l_blow G vs H Q E) : Body (t_l_blow G) ["_law_web_here", "_law_end", "_law_first", "_law_e", "_law_a", "_law_b", "_law_made", "_law_new"] vs H Q := by
  obtain ⟨d, S, nx, e, f, rfl, hd, M, he, hL, hl, k⟩ := h
  show t_l_blow G _ [some (.ref d), some (.int e), some (.int f), none, none, none, none, none] H
  unfold t_l_blow
  have ha := M.cn _ he
  have hb := M.cn _ ha
  have no : ∀ i : Int, 0 ≤ i → 2 * f + i ∉ S := fun i hi q => by have := hL _ q; omega
  walk_at "go"
  refine ⟨d, S, nx, e, rfl, hd, he, ha, fun t1 h1 => ?_⟩
  refine g_tup (SqT.of upd_same) rfl ?_
  walk_at "go"
  intro p hp
  walk_at "go"
  have s1 : Same H (upd (upd H t1 (.tup [.int e, .int (nx e), .int (nx (nx e))])) p (dW S nx)) := by walk_at "sm"
  have e1 : (upd (upd H t1 (.tup [.int e, .int (nx e), .int (nx (nx e))])) p (dW S nx)) p = some (dW S nx) := upd_same
  have hp0 : Free H p := by walk_at "fr"
  generalize upd (upd H t1 (.tup [.int e, .int (nx e), .int (nx (nx e))])) p (dW S nx) = H1 at s1 e1 ⊢
  clear hp h1
  have seat : ∀ (H1 : Hp) (T : List Int) (w : Int → Int) (x y z : Int) (Q : VK) (u : Addr), Same H H1 → H1 p = some (dW T w) → T.length ≤ 100000 → Free H1 u → (∀ H2, Same H H2 → H2 p = some (dW (putS3 T x y z) (seatF w x y z)) → Q .non H2) → sp_l_seat G [.ref p, .ref u] (upd H1 u (.tup [.int x, .int y, .int z])) Q E0 := by
    intro H1 T w x y z Q u s1 e1 hT hu k
    exact ⟨p, u, T, w, x, y, z, rfl, by walk_at "hp", SqT.of upd_same, hT, k _ (same_mut (same_new s1 hu) hp0) upd_same⟩
  have q1 : putS3 S e (2 * f) (2 * f + 5) = S ++ [2 * f, 2 * f + 5] := putS3_1 he (fun q => by have := hL _ q; omega) (no 5 (by decide)) (by omega)
  have q2 : putS3 (S ++ [2 * f, 2 * f + 5]) (nx e) (2 * f + 2) (2 * f + 1) = S ++ [2 * f, 2 * f + 5, 2 * f + 2, 2 * f + 1] := by
    rw [putS3_1 (List.mem_append.mpr (.inl ha)) (fun q => ?_) (fun q => ?_) (by omega), List.append_assoc]
    · rfl
    · rcases List.mem_append.mp q with q | q
      · exact no 2 (by decide) q
      · simp only [List.mem_cons, List.not_mem_nil, or_false] at q
        omega
    · rcases List.mem_append.mp q with q | q
      · exact no 1 (by decide) q
      · simp only [List.mem_cons, List.not_mem_nil, or_false] at q
        omega
  have q3 : putS3 (S ++ [2 * f, 2 * f + 5, 2 * f + 2, 2 * f + 1]) (nx (nx e)) (2 * f + 4) (2 * f + 3) = S ++ [2 * f, 2 * f + 5, 2 * f + 2, 2 * f + 1, 2 * f + 4, 2 * f + 3] := by
    rw [putS3_1 (List.mem_append.mpr (.inl hb)) (fun q => ?_) (fun q => ?_) (by omega), List.append_assoc]
    · rfl
    · rcases List.mem_append.mp q with q | q
      · exact no 4 (by decide) q
      · simp only [List.mem_cons, List.not_mem_nil, or_false] at q
        omega
    · rcases List.mem_append.mp q with q | q
      · exact no 3 (by decide) q
      · simp only [List.mem_cons, List.not_mem_nil, or_false] at q
        omega
  walk_at "go"
  refine ⟨by walk_at "sz", fun u hu => ?_⟩
  walk_at "go"
  refine seat _ _ _ _ _ _ _ _ s1 e1 (by omega) hu fun H2 s2 e2 => ?_
  rw [q1] at e2
  walk_at "go"
  refine ⟨by walk_at "sz", fun u2 hu2 => ?_⟩
  walk_at "go"
  refine seat _ _ _ _ _ _ _ _ s2 e2 (by rw [List.length_append]; simp only [List.length_cons, List.length_nil]; omega) hu2 fun H3 s3 e3 => ?_
  rw [q2] at e3
  walk_at "go"
  refine ⟨by walk_at "sz", fun u3 hu3 => ?_⟩
  walk_at "go"
  refine seat _ _ _ _ _ _ _ _ s3 e3 (by rw [List.length_append]; simp only [List.length_cons, List.length_nil]; omega) hu3 fun H4 s4 e4 => ?_
  rw [q3] at e4
  walk_at "go"
  exact k p _ s4 hp0 e4
/-! ### part -/
def sp_l_part (G : Gx) : Sp := fun vs H Q _ => ∃ (d : Addr) (S : List Int) (nx : Int → Int) (one two f : Int), vs = [.ref d, .int one, .int two, .int f] ∧ Rd H d (dW S nx) ∧ Map S ot nx ∧ one ∈ S ∧ two ∈ S ∧ one / 2 ≠ two / 2 ∧ (∀ x ∈ S, x < 2 * f) ∧ S.length ≤ 90000 ∧
  ∀ (S' : List Int) p H', S'.Nodup → (∀ z, z ∈ S' ↔ z ∈ blowS S (2 * f)) → Same H H' → Free H p → H' p = some (dW S' (partF nx one two (2 * f))) → Q (.ref p) H'
theorem len_l_part {G : Gx} : ∀ vs H Q E, sp_l_part G vs H Q E → vs.length = 4 := by rintro vs H Q E ⟨d, S, nx, e, t, f, rfl, _⟩; rfl
/-! _law_part: slots _law_web_here, _law_one, _law_two, _law_first, _law_made, _law_new, _law_p, _law_half, _law_away, _law_x, _law_y -/
def t_l_part (G : Gx) : TS :=
  (tSeq (tAsg (tCB rDictRd (tCons (tVar 0) tNil)) (gName 4))
  (tSeq (tAsg (tOp rMulI (tC (.int 2)) (tVar 3)) (gName 5))
  (tSeq (tFor (iTup G.K (tTup (tCons (tTup (tCons (tCall (sp_l_other G) [] E0 (tCons (tVar 1) tNil)) (tCons (tOp rAddI (tVar 5) (tC (.int 1))) tNil))) (tCons (tTup (tCons (tCall (sp_l_other G) [] E0 (tCons (tVar 2) tNil)) (tCons (tOp rAddI (tVar 5) (tC (.int 3))) tNil))) tNil)))) (gTup G.K 2 (gCons (gName 6) (gCons (gName 7) gNil)))
  (tSeq (tAsg (tCall (sp_l_corner G) [] E0 (tCons (tVar 4) (tCons (tVar 6) tNil))) (gTup G.K 3 (gCons (gName 8) (gCons (gName 9) (gCons (gName 10) gNil)))))
  (tSeq (tDrop (tCall (sp_l_seat G) [] E0 (tCons (tVar 4) (tCons (tTup (tCons (tVar 7) (tCons (tVar 9) (tCons (tVar 10) tNil)))) tNil))))
  (tDrop (tCall (sp_l_seat G) [] E0 (tCons (tVar 4) (tCons (tTup (tCons (tVar 6) (tCons (tOp rAddI (tOp rAddI (tVar 5) (tC (.int 4))) (tOp rDivW (tOp rSubI (tVar 7) (tVar 5)) (tC (.int 2)))) (tCons (tOp rSubI (tVar 7) (tC (.int 1))) tNil)))) tNil)))))))
  (tRet (tVar 4)))))
theorem pure_l_part {G : Gx} {vs : List V} {H : Hp} {Q : VK} {E : XK} (h : sp_l_part G vs H Q E) : Body (t_l_part G) ["_law_web_here", "_law_one", "_law_two", "_law_first", "_law_made", "_law_new", "_law_p", "_law_half", "_law_away", "_law_x", "_law_y"] vs H Q := by
  obtain ⟨d, S, nx, one, two, f, rfl, hd, M, h1, h2, hf, hL, hl, k⟩ := h
  show t_l_part G _ [some (.ref d), some (.int one), some (.int two), some (.int f), none, none, none, none, none, none, none] H
  unfold t_l_part
  obtain ⟨PV, PX, PY⟩ := part_seat M h1 h2 hf hL
  have hp := M.ca _ h1
  have hq := M.ca _ h2
  have ha := M.cn _ hp
  have hb := M.cn _ ha
  walk_at "go"
  intro p hpf
  walk_at "go"
  refine ⟨by walk_at "sz", fun t1 ht1 => ?_⟩
  walk_at "go"
  refine ⟨by walk_at "sz", fun t2 ht2 => ?_⟩
  walk_at "go"
  refine ⟨by walk_at "sz", fun t ht => ?_⟩
  refine ⟨t, rfl, ⟨_, SqT.of upd_same⟩, ?_⟩
  have s0 : Same H (upd (upd (upd (upd H p (dW S nx)) t1 (.tup [.int (ot one), .int (2 * f + 1)])) t2 (.tup [.int (ot two), .int (2 * f + 3)])) t (.tup [.ref t1, .ref t2])) := by walk_at "sm"
  have a0 : (upd (upd (upd (upd H p (dW S nx)) t1 (.tup [.int (ot one), .int (2 * f + 1)])) t2 (.tup [.int (ot two), .int (2 * f + 3)])) t (.tup [.ref t1, .ref t2])) p = some (dW S nx) := by walk_at "hp"
  have b0 : (upd (upd (upd (upd H p (dW S nx)) t1 (.tup [.int (ot one), .int (2 * f + 1)])) t2 (.tup [.int (ot two), .int (2 * f + 3)])) t (.tup [.ref t1, .ref t2])) t1 = some (.tup [.int (ot one), .int (2 * f + 1)]) := by walk_at "hp"
  have c0 : (upd (upd (upd (upd H p (dW S nx)) t1 (.tup [.int (ot one), .int (2 * f + 1)])) t2 (.tup [.int (ot two), .int (2 * f + 3)])) t (.tup [.ref t1, .ref t2])) t2 = some (.tup [.int (ot two), .int (2 * f + 3)]) := by walk_at "hp"
  have d0 : (upd (upd (upd (upd H p (dW S nx)) t1 (.tup [.int (ot one), .int (2 * f + 1)])) t2 (.tup [.int (ot two), .int (2 * f + 3)])) t (.tup [.ref t1, .ref t2])) t = some (.tup [.ref t1, .ref t2]) := upd_same
  generalize upd (upd (upd (upd H p (dW S nx)) t1 (.tup [.int (ot one), .int (2 * f + 1)])) t2 (.tup [.int (ot two), .int (2 * f + 3)])) t (.tup [.ref t1, .ref t2]) = H1 at s0 a0 b0 c0 d0 ⊢
  clear ht ht2 ht1
  have l1 := len_putS3 (S := S) (x := 2 * f + 1) (y := nx (ot one)) (z := nx (nx (ot one)))
  have l2 := len_putS3 (S := putS3 S (2 * f + 1) (nx (ot one)) (nx (nx (ot one)))) (x := ot one) (y := 2 * f + 4) (z := 2 * f)
  have m1 : ∀ z, z ∈ (putS3 (putS3 S (2 * f + 1) (nx (ot one)) (nx (nx (ot one)))) (ot one) (2 * f + 4) (2 * f)) ↔ z ∈ S ∨ z = 2 * f + 1 ∨ z = 2 * f + 4 ∨ z = 2 * f := fun z => by
    rw [mem_putS3, mem_putS3]
    constructor
    · rintro ((h | h | h | h) | h | h | h)
      · exact .inl h
      · exact .inr (.inl h)
      · exact .inl (h ▸ ha)
      · exact .inl (h ▸ hb)
      · exact .inl (h ▸ hp)
      · exact .inr (.inr (.inl h))
      · exact .inr (.inr (.inr h))
    · rintro (h | h | h | h)
      · exact .inl (.inl h)
      · exact .inl (.inr (.inl h))
      · exact .inr (.inr (.inl h))
      · exact .inr (.inr (.inr h))
  have g1 : (halfF nx (ot one) (2 * f + 1) (2 * f + 4) (2 * f)) (ot two) ∈ (putS3 (putS3 S (2 * f + 1) (nx (ot one)) (nx (nx (ot one)))) (ot one) (2 * f + 4) (2 * f)) := (m1 _).mpr (PX.imp id .inl)
  have g2 : (halfF nx (ot one) (2 * f + 1) (2 * f + 4) (2 * f)) ((halfF nx (ot one) (2 * f + 1) (2 * f + 4) (2 * f)) (ot two)) ∈ (putS3 (putS3 S (2 * f + 1) (nx (ot one)) (nx (nx (ot one)))) (ot one) (2 * f + 4) (2 * f)) := (m1 _).mpr (PY.imp id .inl)
  have l3 := len_putS3 (S := (putS3 (putS3 S (2 * f + 1) (nx (ot one)) (nx (nx (ot one)))) (ot one) (2 * f + 4) (2 * f))) (x := 2 * f + 3) (y := (halfF nx (ot one) (2 * f + 1) (2 * f + 4) (2 * f)) (ot two)) (z := (halfF nx (ot one) (2 * f + 1) (2 * f + 4) (2 * f)) ((halfF nx (ot one) (2 * f + 1) (2 * f + 4) (2 * f)) (ot two)))
  refine r_it walk_tup (fun l σ H' => (∃ o6 o7 o8 o9 o10, σ = [some (.ref d), some (.int one), some (.int two), some (.int f), some (.ref p), some (.int (2 * f)), o6, o7, o8, o9, o10]) ∧ Same H H' ∧ SqT G.K H' t [.ref t1, .ref t2] ∧ SqT G.K H' t1 [.int (ot one), .int (2 * f + 1)] ∧ SqT G.K H' t2 [.int (ot two), .int (2 * f + 3)] ∧
      (l = 0 ∧ H' p = some (dW S nx) ∨ l = 1 ∧ H' p = some (dW (putS3 (putS3 S (2 * f + 1) (nx (ot one)) (nx (nx (ot one)))) (ot one) (2 * f + 4) (2 * f)) (halfF nx (ot one) (2 * f + 1) (2 * f + 4) (2 * f))) ∨ l = 2 ∧ H' p = some (dW (putS3 (putS3 (putS3 (putS3 S (2 * f + 1) (nx (ot one)) (nx (nx (ot one)))) (ot one) (2 * f + 4) (2 * f)) (2 * f + 3) ((halfF nx (ot one) (2 * f + 1) (2 * f + 4) (2 * f)) (ot two)) ((halfF nx (ot one) (2 * f + 1) (2 * f + 4) (2 * f)) ((halfF nx (ot one) (2 * f + 1) (2 * f + 4) (2 * f)) (ot two)))) (ot two) (2 * f + 5) (2 * f + 2)) (halfF (halfF nx (ot one) (2 * f + 1) (2 * f + 4) (2 * f)) (ot two) (2 * f + 3) (2 * f + 5) (2 * f + 2)))))
    ⟨⟨_, _, _, _, _, rfl⟩, s0, SqT.of d0, SqT.of b0, SqT.of c0, .inl ⟨rfl, a0⟩⟩ (fun _ _ _ _ z => z.2.2.1) (fun l v σ H6 H7 hl' ⟨⟨o6, o7, o8, o9, o10, es⟩, s6, a6, b6, c6, q⟩ ⟨q2, q3⟩ => ?_) (fun σ H6 ⟨⟨o6, o7, o8, o9, o10, es⟩, s6, a6, b6, c6, q⟩ => ?_)
  · subst es q2
    rcases q with ⟨rfl, e6⟩ | ⟨rfl, e6⟩ | ⟨rfl, e6⟩
    · cases q3
      refine g_tup b6 rfl ?_
      walk_at "go"
      · skip
        refine ⟨p, _, _, ot one, rfl, rd_in e6, hp, ha, fun tc htc => ?_⟩
        refine g_tup (SqT.of upd_same) rfl ?_
        walk_at "go"
        refine ⟨by walk_at "sz", fun u1 hu1 => ?_⟩
        walk_at "go"
        refine ⟨p, u1, _, _, _, _, _, rfl, at_new (at_new e6 htc) hu1, SqT.of upd_same, by omega, ?_⟩
        have k1 : ∀ b xs, SqT G.K H7 b xs → SqT G.K (upd (upd (upd H7 tc (.tup [.int (ot one), .int (nx (ot one)), .int (nx (nx (ot one)))])) u1 (.tup [.int (2 * f + 1), .int (nx (ot one)), .int (nx (nx (ot one)))])) p (dW (putS3 S (2 * f + 1) (nx (ot one)) (nx (nx (ot one)))) (seatF nx (2 * f + 1) (nx (ot one)) (nx (nx (ot one)))))) b xs := fun b xs q =>
          mut_tup (at_new (at_new e6 htc) hu1) trivial (same_tup (same_new (same_new (Same.refl _) htc) hu1) q)
        have s7 : Same H (upd (upd (upd H7 tc (.tup [.int (ot one), .int (nx (ot one)), .int (nx (nx (ot one)))])) u1 (.tup [.int (2 * f + 1), .int (nx (ot one)), .int (nx (nx (ot one)))])) p (dW (putS3 S (2 * f + 1) (nx (ot one)) (nx (nx (ot one)))) (seatF nx (2 * f + 1) (nx (ot one)) (nx (nx (ot one)))))) := same_mut (same_new (same_new s6 htc) hu1) hpf
        have e7 : (upd (upd (upd H7 tc (.tup [.int (ot one), .int (nx (ot one)), .int (nx (nx (ot one)))])) u1 (.tup [.int (2 * f + 1), .int (nx (ot one)), .int (nx (nx (ot one)))])) p (dW (putS3 S (2 * f + 1) (nx (ot one)) (nx (nx (ot one)))) (seatF nx (2 * f + 1) (nx (ot one)) (nx (nx (ot one)))))) p = some (dW (putS3 S (2 * f + 1) (nx (ot one)) (nx (nx (ot one)))) (seatF nx (2 * f + 1) (nx (ot one)) (nx (nx (ot one))))) := upd_same
        generalize upd (upd (upd H7 tc (.tup [.int (ot one), .int (nx (ot one)), .int (nx (nx (ot one)))])) u1 (.tup [.int (2 * f + 1), .int (nx (ot one)), .int (nx (nx (ot one)))])) p (dW (putS3 S (2 * f + 1) (nx (ot one)) (nx (nx (ot one)))) (seatF nx (2 * f + 1) (nx (ot one)) (nx (nx (ot one))))) = H8 at k1 s7 e7 ⊢
        walk_at "go"
        rw [show 2 * f + 4 + (2 * f + 1 - 2 * f) / 2 = 2 * f + 4 by omega, show 2 * f + 1 - 1 = 2 * f by omega]
        refine ⟨by walk_at "sz", fun u2 hu2 => ?_⟩
        walk_at "go"
        refine ⟨p, u2, _, _, _, _, _, rfl, at_new e7 hu2, SqT.of upd_same, by omega, ?_⟩
        have k2 : ∀ b xs, SqT G.K H8 b xs → SqT G.K (upd (upd H8 u2 (.tup [.int (ot one), .int (2 * f + 4), .int (2 * f)])) p (dW (putS3 (putS3 S (2 * f + 1) (nx (ot one)) (nx (nx (ot one)))) (ot one) (2 * f + 4) (2 * f)) (halfF nx (ot one) (2 * f + 1) (2 * f + 4) (2 * f)))) b xs := fun b xs q => mut_tup (at_new e7 hu2) trivial (same_tup (same_new (Same.refl _) hu2) q)
        exact ⟨⟨_, _, _, _, _, rfl⟩, same_mut (same_new s7 hu2) hpf, k2 _ _ (k1 _ _ a6), k2 _ _ (k1 _ _ b6), k2 _ _ (k1 _ _ c6), .inr (.inl ⟨rfl, upd_same⟩)⟩
    · cases q3
      refine g_tup c6 rfl ?_
      walk_at "go"
      · skip
        refine ⟨p, _, _, ot two, rfl, rd_in e6, (m1 _).mpr (.inl hq), g1, fun tc htc => ?_⟩
        refine g_tup (SqT.of upd_same) rfl ?_
        walk_at "go"
        refine ⟨by walk_at "sz", fun u1 hu1 => ?_⟩
        walk_at "go"
        refine ⟨p, u1, _, _, _, _, _, rfl, at_new (at_new e6 htc) hu1, SqT.of upd_same, by omega, ?_⟩
        have k1 : ∀ b xs, SqT G.K H7 b xs → SqT G.K (upd (upd (upd H7 tc (.tup [.int (ot two), .int ((halfF nx (ot one) (2 * f + 1) (2 * f + 4) (2 * f)) (ot two)), .int ((halfF nx (ot one) (2 * f + 1) (2 * f + 4) (2 * f)) ((halfF nx (ot one) (2 * f + 1) (2 * f + 4) (2 * f)) (ot two)))])) u1 (.tup [.int (2 * f + 3), .int ((halfF nx (ot one) (2 * f + 1) (2 * f + 4) (2 * f)) (ot two)), .int ((halfF nx (ot one) (2 * f + 1) (2 * f + 4) (2 * f)) ((halfF nx (ot one) (2 * f + 1) (2 * f + 4) (2 * f)) (ot two)))])) p (dW (putS3 (putS3 (putS3 S (2 * f + 1) (nx (ot one)) (nx (nx (ot one)))) (ot one) (2 * f + 4) (2 * f)) (2 * f + 3) ((halfF nx (ot one) (2 * f + 1) (2 * f + 4) (2 * f)) (ot two)) ((halfF nx (ot one) (2 * f + 1) (2 * f + 4) (2 * f)) ((halfF nx (ot one) (2 * f + 1) (2 * f + 4) (2 * f)) (ot two)))) (seatF (halfF nx (ot one) (2 * f + 1) (2 * f + 4) (2 * f)) (2 * f + 3) ((halfF nx (ot one) (2 * f + 1) (2 * f + 4) (2 * f)) (ot two)) ((halfF nx (ot one) (2 * f + 1) (2 * f + 4) (2 * f)) ((halfF nx (ot one) (2 * f + 1) (2 * f + 4) (2 * f)) (ot two)))))) b xs := fun b xs q =>
          mut_tup (at_new (at_new e6 htc) hu1) trivial (same_tup (same_new (same_new (Same.refl _) htc) hu1) q)
        have s7 : Same H (upd (upd (upd H7 tc (.tup [.int (ot two), .int ((halfF nx (ot one) (2 * f + 1) (2 * f + 4) (2 * f)) (ot two)), .int ((halfF nx (ot one) (2 * f + 1) (2 * f + 4) (2 * f)) ((halfF nx (ot one) (2 * f + 1) (2 * f + 4) (2 * f)) (ot two)))])) u1 (.tup [.int (2 * f + 3), .int ((halfF nx (ot one) (2 * f + 1) (2 * f + 4) (2 * f)) (ot two)), .int ((halfF nx (ot one) (2 * f + 1) (2 * f + 4) (2 * f)) ((halfF nx (ot one) (2 * f + 1) (2 * f + 4) (2 * f)) (ot two)))])) p (dW (putS3 (putS3 (putS3 S (2 * f + 1) (nx (ot one)) (nx (nx (ot one)))) (ot one) (2 * f + 4) (2 * f)) (2 * f + 3) ((halfF nx (ot one) (2 * f + 1) (2 * f + 4) (2 * f)) (ot two)) ((halfF nx (ot one) (2 * f + 1) (2 * f + 4) (2 * f)) ((halfF nx (ot one) (2 * f + 1) (2 * f + 4) (2 * f)) (ot two)))) (seatF (halfF nx (ot one) (2 * f + 1) (2 * f + 4) (2 * f)) (2 * f + 3) ((halfF nx (ot one) (2 * f + 1) (2 * f + 4) (2 * f)) (ot two)) ((halfF nx (ot one) (2 * f + 1) (2 * f + 4) (2 * f)) ((halfF nx (ot one) (2 * f + 1) (2 * f + 4) (2 * f)) (ot two)))))) := same_mut (same_new (same_new s6 htc) hu1) hpf
        have e7 : (upd (upd (upd H7 tc (.tup [.int (ot two), .int ((halfF nx (ot one) (2 * f + 1) (2 * f + 4) (2 * f)) (ot two)), .int ((halfF nx (ot one) (2 * f + 1) (2 * f + 4) (2 * f)) ((halfF nx (ot one) (2 * f + 1) (2 * f + 4) (2 * f)) (ot two)))])) u1 (.tup [.int (2 * f + 3), .int ((halfF nx (ot one) (2 * f + 1) (2 * f + 4) (2 * f)) (ot two)), .int ((halfF nx (ot one) (2 * f + 1) (2 * f + 4) (2 * f)) ((halfF nx (ot one) (2 * f + 1) (2 * f + 4) (2 * f)) (ot two)))])) p (dW (putS3 (putS3 (putS3 S (2 * f + 1) (nx (ot one)) (nx (nx (ot one)))) (ot one) (2 * f + 4) (2 * f)) (2 * f + 3) ((halfF nx (ot one) (2 * f + 1) (2 * f + 4) (2 * f)) (ot two)) ((halfF nx (ot one) (2 * f + 1) (2 * f + 4) (2 * f)) ((halfF nx (ot one) (2 * f + 1) (2 * f + 4) (2 * f)) (ot two)))) (seatF (halfF nx (ot one) (2 * f + 1) (2 * f + 4) (2 * f)) (2 * f + 3) ((halfF nx (ot one) (2 * f + 1) (2 * f + 4) (2 * f)) (ot two)) ((halfF nx (ot one) (2 * f + 1) (2 * f + 4) (2 * f)) ((halfF nx (ot one) (2 * f + 1) (2 * f + 4) (2 * f)) (ot two)))))) p = some (dW (putS3 (putS3 (putS3 S (2 * f + 1) (nx (ot one)) (nx (nx (ot one)))) (ot one) (2 * f + 4) (2 * f)) (2 * f + 3) ((halfF nx (ot one) (2 * f + 1) (2 * f + 4) (2 * f)) (ot two)) ((halfF nx (ot one) (2 * f + 1) (2 * f + 4) (2 * f)) ((halfF nx (ot one) (2 * f + 1) (2 * f + 4) (2 * f)) (ot two)))) (seatF (halfF nx (ot one) (2 * f + 1) (2 * f + 4) (2 * f)) (2 * f + 3) ((halfF nx (ot one) (2 * f + 1) (2 * f + 4) (2 * f)) (ot two)) ((halfF nx (ot one) (2 * f + 1) (2 * f + 4) (2 * f)) ((halfF nx (ot one) (2 * f + 1) (2 * f + 4) (2 * f)) (ot two))))) := upd_same
        generalize upd (upd (upd H7 tc (.tup [.int (ot two), .int ((halfF nx (ot one) (2 * f + 1) (2 * f + 4) (2 * f)) (ot two)), .int ((halfF nx (ot one) (2 * f + 1) (2 * f + 4) (2 * f)) ((halfF nx (ot one) (2 * f + 1) (2 * f + 4) (2 * f)) (ot two)))])) u1 (.tup [.int (2 * f + 3), .int ((halfF nx (ot one) (2 * f + 1) (2 * f + 4) (2 * f)) (ot two)), .int ((halfF nx (ot one) (2 * f + 1) (2 * f + 4) (2 * f)) ((halfF nx (ot one) (2 * f + 1) (2 * f + 4) (2 * f)) (ot two)))])) p (dW (putS3 (putS3 (putS3 S (2 * f + 1) (nx (ot one)) (nx (nx (ot one)))) (ot one) (2 * f + 4) (2 * f)) (2 * f + 3) ((halfF nx (ot one) (2 * f + 1) (2 * f + 4) (2 * f)) (ot two)) ((halfF nx (ot one) (2 * f + 1) (2 * f + 4) (2 * f)) ((halfF nx (ot one) (2 * f + 1) (2 * f + 4) (2 * f)) (ot two)))) (seatF (halfF nx (ot one) (2 * f + 1) (2 * f + 4) (2 * f)) (2 * f + 3) ((halfF nx (ot one) (2 * f + 1) (2 * f + 4) (2 * f)) (ot two)) ((halfF nx (ot one) (2 * f + 1) (2 * f + 4) (2 * f)) ((halfF nx (ot one) (2 * f + 1) (2 * f + 4) (2 * f)) (ot two))))) = H8 at k1 s7 e7 ⊢
        walk_at "go"
        rw [show 2 * f + 4 + (2 * f + 3 - 2 * f) / 2 = 2 * f + 5 by omega, show 2 * f + 3 - 1 = 2 * f + 2 by omega]
        refine ⟨by walk_at "sz", fun u2 hu2 => ?_⟩
        walk_at "go"
        refine ⟨p, u2, _, _, _, _, _, rfl, at_new e7 hu2, SqT.of upd_same, by omega, ?_⟩
        have k2 : ∀ b xs, SqT G.K H8 b xs → SqT G.K (upd (upd H8 u2 (.tup [.int (ot two), .int (2 * f + 5), .int (2 * f + 2)])) p (dW (putS3 (putS3 (putS3 (putS3 S (2 * f + 1) (nx (ot one)) (nx (nx (ot one)))) (ot one) (2 * f + 4) (2 * f)) (2 * f + 3) ((halfF nx (ot one) (2 * f + 1) (2 * f + 4) (2 * f)) (ot two)) ((halfF nx (ot one) (2 * f + 1) (2 * f + 4) (2 * f)) ((halfF nx (ot one) (2 * f + 1) (2 * f + 4) (2 * f)) (ot two)))) (ot two) (2 * f + 5) (2 * f + 2)) (halfF (halfF nx (ot one) (2 * f + 1) (2 * f + 4) (2 * f)) (ot two) (2 * f + 3) (2 * f + 5) (2 * f + 2)))) b xs := fun b xs q => mut_tup (at_new e7 hu2) trivial (same_tup (same_new (Same.refl _) hu2) q)
        exact ⟨⟨_, _, _, _, _, rfl⟩, same_mut (same_new s7 hu2) hpf, k2 _ _ (k1 _ _ a6), k2 _ _ (k1 _ _ b6), k2 _ _ (k1 _ _ c6), .inr (.inr ⟨rfl, upd_same⟩)⟩
    · exact absurd hl' (Nat.lt_irrefl 2)
  · rcases q with ⟨z, _⟩ | ⟨z, _⟩ | ⟨_, e6⟩
    · exact absurd (show (2 : Nat) = 0 from z) (by decide)
    · exact absurd (show (2 : Nat) = 1 from z) (by decide)
    · subst es
      walk_at "go"
      have m2 : ∀ z, z ∈ (putS3 (putS3 (putS3 (putS3 S (2 * f + 1) (nx (ot one)) (nx (nx (ot one)))) (ot one) (2 * f + 4) (2 * f)) (2 * f + 3) ((halfF nx (ot one) (2 * f + 1) (2 * f + 4) (2 * f)) (ot two)) ((halfF nx (ot one) (2 * f + 1) (2 * f + 4) (2 * f)) ((halfF nx (ot one) (2 * f + 1) (2 * f + 4) (2 * f)) (ot two)))) (ot two) (2 * f + 5) (2 * f + 2)) ↔ z ∈ blowS S (2 * f) := fun z => by
        rw [mem_putS3, mem_putS3, m1, mem_blowS]
        unfold New6
        constructor
        · rintro (((h | h | h | h) | h | h | h) | h | h | h)
          · exact .inl h
          · exact .inr (by omega)
          · exact .inr (by omega)
          · exact .inr (by omega)
          · exact .inr (by omega)
          · rw [h]; exact PX.imp id fun z => by omega
          · rw [h]; exact PY.imp id fun z => by omega
          · exact .inl (h ▸ hq)
          · exact .inr (by omega)
          · exact .inr (by omega)
        · rintro (h | h)
          · exact .inl (.inl (.inl h))
          · rcases h with h | h | h | h | h | h
            · exact .inl (.inl (.inr (by omega)))
            · exact .inl (.inl (.inr (by omega)))
            · exact .inr (.inr (.inr h))
            · exact .inl (.inr (.inl h))
            · exact .inl (.inl (.inr (by omega)))
            · exact .inr (.inr (.inl h))
      refine k (putS3 (putS3 (putS3 (putS3 S (2 * f + 1) (nx (ot one)) (nx (nx (ot one)))) (ot one) (2 * f + 4) (2 * f)) (2 * f + 3) ((halfF nx (ot one) (2 * f + 1) (2 * f + 4) (2 * f)) (ot two)) ((halfF nx (ot one) (2 * f + 1) (2 * f + 4) (2 * f)) ((halfF nx (ot one) (2 * f + 1) (2 * f + 4) (2 * f)) (ot two)))) (ot two) (2 * f + 5) (2 * f + 2)) p H6 (nd_putS3 (nd_putS3 (nd_putS3 (nd_putS3 M.nd)))) m2 s6 hpf ?_
      exact e6.trans (congrArg some (dI_congr fun z hz => congrArg V.int (PV z (mem_blowS.mp ((m2 z).mp hz)))))

/-! ### mended -/
theorem r_cut1 {K : PySem.W.Frag} {σ : St} {H : Hp} {Q : VK} {a : Addr} {x y z : V} {i : Nat} (hv : σ[i]? = some (some (.ref a))) (hs : SqT K H a [x, y, z]) (h : ∀ p, Free H p → Q (.ref p) (upd H p (.tup [y, z]))) : tSl (rSlT K) (tVar i) (tPart (tC (.int 1))) tNoPart σ H Q :=
  ⟨_, hv, 1, rfl, a, _, rfl, hs, fun q => absurd (show (1 : Nat) = 0 from q.1) (by decide), h⟩
theorem r_min2T {K : PySem.W.Frag} {H : Hp} {Q : VK} {p : Addr} {y z : Int} (hs : SqT K H p [.int y, .int z]) (h : Q (.int (min y z)) H) : rMinTp K [.ref p] H Q := by
  refine ⟨p, [y, z], rfl, hs, Nat.zero_lt_succ _, fun m hm hle => ?_⟩
  have h1 := hle y List.mem_cons_self
  have h2 := hle z (List.mem_cons_of_mem _ List.mem_cons_self)
  have e : m = min y z := by
    simp only [List.mem_cons, List.not_mem_nil, or_false] at hm
    omega
  rw [e]
  exact h
theorem r_max2T {K : PySem.W.Frag} {H : Hp} {Q : VK} {p : Addr} {y z : Int} (hs : SqT K H p [.int y, .int z]) (h : Q (.int (max y z)) H) : rMaxTp K [.ref p] H Q := by
  refine ⟨p, [y, z], rfl, hs, Nat.zero_lt_succ _, fun m hm hle => ?_⟩
  have h1 := hle y List.mem_cons_self
  have h2 := hle z (List.mem_cons_of_mem _ List.mem_cons_self)
  have e : m = max y z := by
    simp only [List.mem_cons, List.not_mem_nil, or_false] at hm
    omega
  rw [e]
  exact h
theorem r_dputF {H : Hp} {a : Addr} {S : List Int} {f : Int → V} {k : Int} {v : V} {N : Hp → Prop} (hd : H a = some (dI S f)) (hl : S.length < sizeLine) (hv : f k = v) (h : N (upd H a (dI (putS S k) f))) : rDPut (.ref a) (.int k) v H N := by
  refine r_dput hd hl ?_
  have e : (fun x => if x = k then v else f x) = f := funext fun x => by
    by_cases q : x = k
    · rw [if_pos q, q, hv]
    · rw [if_neg q]
  rw [e]
  exact h
theorem fset_id {f : Int → Int} {k v : Int} (h : f k = v) : fset f k v = f := funext fun x => by
  unfold fset
  by_cases q : x = k
  · rw [if_pos q, q, h]
  · rw [if_neg q]
def sp_l_mended (G : Gx) : Sp := fun vs H Q _ => ∃ (d : Addr) (S : List Int) (al nx : Int → Int) (t : Int), vs = [.ref d, .int t] ∧ H d = some (dW S nx) ∧ Mend S al nx t (mX nx t) (mY nx t) (ot (mY nx t)) ∧ S.length ≤ 90000 ∧
  ∀ (S' : List Int) p H', S'.Nodup → (∀ z, z ∈ S' ↔ z ∈ m1S S nx t) → Same H H' → Free H p → H' p = some (dW S' (m1N nx t)) → Q (.ref p) H'
theorem len_l_mended {G : Gx} : ∀ vs H Q E, sp_l_mended G vs H Q E → vs.length = 2 := by rintro vs H Q E ⟨d, S, al, nx, t, rfl, _⟩; rfl
/-! _law_mended: slots _law_web_here, _law_end, _law_left, _law_x, _law_y, _law_gone, _law_made, _law_at, _law_goal -/
def t_l_mended (G : Gx) : TS :=
  (tSeq (tAsg (tCall (sp_l_corner G) [] E0 (tCons (tVar 0) (tCons (tVar 1) tNil))) (gName 2))
  (tSeq (tPar 3 4 (tCons (tCB (rMinTp G.K) (tCons (tSl (rSlT G.K) (tVar 2) (tPart (tC (.int 1))) tNoPart) tNil)) (tCons (tCB (rMaxTp G.K) (tCons (tSl (rSlT G.K) (tVar 2) (tPart (tC (.int 1))) tNoPart) tNil)) tNil)))
  (tSeq (tAsg (tCall (sp_l_other G) [] E0 (tCons (tVar 4) tNil)) (gName 5))
  (tSeq (tAsg tDNewK (gName 6))
  (tSeq (tLock (tFor (iKeys (tVar 0)) (gName 7)
  (tIfS (tTest (tOp (rIn G.K true) (tVar 7) (tVar 2))) (tSeq (tAsg (tDGet (tVar 0) (tVar 7)) (gName 8))
  (tSeq (tIfS (tTest (tOp rEq (tVar 8) (tVar 5))) (tAsg (tVar 3) (gName 8)) tNext)
  (tIfS (tTest (tOp rEq (tVar 7) (tVar 5))) (sDPut (tVar 6) (tVar 3) (tVar 8)) (sDPut (tVar 6) (tVar 7) (tVar 8))))) tNext)))
  (tRet (tVar 6)))))))
theorem pure_l_mended {G : Gx} {vs : List V} {H : Hp} {Q : VK} {E : XK} (h : sp_l_mended G vs H Q E) : Body (t_l_mended G) ["_law_web_here", "_law_end", "_law_left", "_law_x", "_law_y", "_law_gone", "_law_made", "_law_at", "_law_goal"] vs H Q := by
  obtain ⟨d, S, al, nx, t, rfl, hd, D, hl, k⟩ := h
  show t_l_mended G _ [some (.ref d), some (.int t), none, none, none, none, none, none, none] H
  unfold t_l_mended
  have M := D.M
  have ha := M.cn _ D.ht
  have hb := M.cn _ ha
  walk_at "go"
  refine ⟨d, S, nx, t, rfl, rd_in hd, D.ht, ha, fun lt hlt => ?_⟩
  walk_at "go"
  refine r_cut1 rfl (SqT.of upd_same) fun p1 hp1 => ?_
  walk_at "go"
  refine r_min2T (SqT.of upd_same) ?_
  walk_at "go"
  refine r_cut1 rfl (by walk_at "sq") fun p2 hp2 => ?_
  walk_at "go"
  refine r_max2T (SqT.of upd_same) ?_
  walk_at "go"
  have s1 : Same H (upd (upd (upd H lt (.tup [.int t, .int (nx t), .int (nx (nx t))])) p1 (.tup [.int (nx t), .int (nx (nx t))])) p2 (.tup [.int (nx t), .int (nx (nx t))])) := by walk_at "sm"
  have e1 : (upd (upd (upd H lt (.tup [.int t, .int (nx t), .int (nx (nx t))])) p1 (.tup [.int (nx t), .int (nx (nx t))])) p2 (.tup [.int (nx t), .int (nx (nx t))])) lt = some (.tup [.int t, .int (nx t), .int (nx (nx t))]) := by walk_at "hp"
  generalize upd (upd (upd H lt (.tup [.int t, .int (nx t), .int (nx (nx t))])) p1 (.tup [.int (nx t), .int (nx (nx t))])) p2 (.tup [.int (nx t), .int (nx (nx t))]) = H1 at s1 e1 ⊢
  clear hp1 hp2 hlt
  rw [show min (nx t) (nx (nx t)) = mX nx t from rfl, show max (nx t) (nx (nx t)) = mY nx t from rfl]
  have hd1 := s1 d _ hd
  have ltd : lt ≠ d := ne_kind e1 hd1 (by intro z; cases z)
  have Fx := D.facts
  refine r_dnew (f := fun x => .int (m1N nx t x)) fun p hp => ?_
  have hp00 : Free H p := s1.free hp
  have npd : p ≠ d := fun z => by rw [z] at hp; unfold Free at hp; rw [hd1] at hp; cases hp
  have hd2 : upd H1 p (dW [] (m1N nx t)) d = some (dW S nx) := at_ne hd1 (Ne.symm npd)
  walk_at "go"
  refine r_forD hd2 (fun _ _ q => ⟨_, rfl, q⟩) fun od => ?_
  have hpd : Free (upd H1 d (.frz od (dW S nx))) p := by unfold Free; rw [upd_ne npd]; exact hp
  have sm : Same (upd H1 d (.frz od (dW S nx))) (upd (upd H1 p (dW [] (m1N nx t))) d (.frz od (dW S nx))) := fun b x e => by
    by_cases z : b = d
    · subst z
      rw [upd_same] at e ⊢
      exact e
    · rw [upd_ne z] at e ⊢
      exact at_new e hp
  have cor : ∀ a : Int, (a ≠ t ∧ a ≠ nx t ∧ a ≠ nx (nx t)) ↔ (a ≠ t ∧ a ≠ mX nx t ∧ a ≠ mY nx t) := fun a => by
    rcases mXY nx t with ⟨q1, q2⟩ | ⟨q1, q2⟩
    · rw [q1, q2]
    · rw [q1, q2]
      exact ⟨fun ⟨x, y, z⟩ => ⟨x, z, y⟩, fun ⟨x, y, z⟩ => ⟨x, z, y⟩⟩
  have hX : mX nx t ∈ S := by
    rcases mXY nx t with ⟨q1, q2⟩ | ⟨q1, q2⟩
    · rw [q1]; exact ha
    · rw [q1]; exact hb
  have vals : ∀ a ∈ S, a ≠ mX nx t → a ≠ ot (mY nx t) → m1N nx t a = if nx a = ot (mY nx t) then mX nx t else nx a := fun a _ h1 _ => by
    unfold m1N mendN
    rw [if_neg h1]
  have valx : m1N nx t (mX nx t) = nx (ot (mY nx t)) := by
    unfold m1N mendN
    rw [if_pos rfl]
  change ∃ Pv : Nat → St → Hp → Prop, _
  generalize hgX : mX nx t = X at *
  generalize hgY : mY nx t = Y at *
  generalize hgg : ot Y = g at *
  refine ⟨fun j σ H' => ∃ (K : List Int) (o7 o8 : Option V), σ = [some (.ref d), some (.int t), some (.ref lt), some (.int X), some (.int Y), some (.int g), some (.ref p), o7, o8] ∧ Same (upd H1 d (.frz od (dW S nx))) H' ∧ H' p = some (dW K (m1N nx t)) ∧ K.Nodup ∧ K.length ≤ j ∧
      ∀ z, z ∈ K ↔ ∃ i a, i < j ∧ S[i]? = some a ∧ (a ≠ t ∧ a ≠ X ∧ a ≠ Y) ∧ z = if a = g then X else a, ⟨[], _, _, rfl, sm, at_ne upd_same npd, .nil, Nat.zero_le _, fun z => ⟨fun h => absurd h List.not_mem_nil, fun ⟨i, a, h, _⟩ => absurd h (Nat.not_lt_zero _)⟩⟩, ?_, ?_, ?_⟩
  · rintro j σ H' _ ⟨K, o7, o8, _, s1, _⟩
    exact s1 d _ upd_same
  · rintro j a σ H' hj ⟨K, o7, o8, rfl, s2, e2, nd, kl, mem⟩
    have haS : a ∈ S := List.mem_of_getElem? hj
    have hjl : j < S.length := (List.getElem?_eq_some_iff.mp hj).1
    have hd3 : Rd H' d (dW S nx) := rd_frz (s2 d _ upd_same)
    have e3 : H' lt = some (.tup [.int t, .int (nx t), .int (nx (nx t))]) := s2 lt _ (at_ne e1 ltd)
    have old : ∀ z, (∃ i b, i < j + 1 ∧ S[i]? = some b ∧ (b ≠ t ∧ b ≠ X ∧ b ≠ Y) ∧ z = if b = g then X else b) ↔ z ∈ K ∨ ((a ≠ t ∧ a ≠ X ∧ a ≠ Y) ∧ z = if a = g then X else a) := fun z => by
      rw [mem]
      constructor
      · rintro ⟨i, b, hi, hb', c, e⟩
        by_cases q : i = j
        · subst q
          rw [hj] at hb'
          cases hb'
          exact .inr ⟨c, e⟩
        · exact .inl ⟨i, b, by omega, hb', c, e⟩
      · rintro (⟨i, b, hi, hb', c, e⟩ | ⟨c, e⟩)
        · exact ⟨i, b, by omega, hb', c, e⟩
        · exact ⟨j, a, by omega, hj, c, e⟩
    walk_at "go"
    refine iteB (fun h => ?_) (fun h => ?_)
    · rw [if_pos rfl, Bool.not_eq_true'] at h
      have ho : a ≠ t ∧ a ≠ X ∧ a ≠ Y := by
        refine (cor a).mp ?_
        have q : ¬ (t = a ∨ nx t = a ∨ nx (nx t) = a) := fun z => by rw [(inV3 a t (nx t) (nx (nx t))).mpr z] at h; cases h
        exact ⟨fun z => q (.inl z.symm), fun z => q (.inr (.inl z.symm)), fun z => q (.inr (.inr z.symm))⟩
      have fin : ∀ (key : Int) (o8 : Option V), key = (if a = g then X else a) → ∃ (K' : List Int) (o7' o8' : Option V), [some (V.ref d), some (.int t), some (.ref lt), some (.int X), some (.int Y), some (.int g), some (.ref p), some (.int a), o8] = [some (.ref d), some (.int t), some (.ref lt), some (.int X), some (.int Y), some (.int g), some (.ref p), o7', o8'] ∧
          Same (upd H1 d (.frz od (dW S nx))) (upd H' p (dW (putS K key) (m1N nx t))) ∧ upd H' p (dW (putS K key) (m1N nx t)) p = some (dW K' (m1N nx t)) ∧ K'.Nodup ∧ K'.length ≤ j + 1 ∧ ∀ z, z ∈ K' ↔ ∃ i a, i < j + 1 ∧ S[i]? = some a ∧ (a ≠ t ∧ a ≠ X ∧ a ≠ Y) ∧ z = if a = g then X else a := fun key o8 hk =>
        ⟨putS K key, _, _, rfl, same_mut s2 hpd, upd_same, nd_putS nd, by have := len_putS (S := K) (k := key); omega, fun z => by
          rw [mem_putS, old, hk]
          exact ⟨fun q => q.imp id fun q => ⟨ho, q⟩, fun q => q.imp id fun q => q.2⟩⟩
      have hzK : K.length < sizeLine := size1000l (by omega)
      walk_at "go"
      refine iteI (fun c1 => ?_) (fun c1 => ?_)
      · walk_at "go"
        refine iteI (fun c2 => absurd (c1.trans c2.symm) (M.n1 a haS)) (fun c2 => ?_)
        walk_at "go"
        rw [fset_id (show m1N nx t a = X by rw [vals a haS ho.2.1 c2, if_pos c1])]
        exact fin a _ (by rw [if_neg c2])
      · walk_at "go"
        refine iteI (fun c2 => ?_) (fun c2 => ?_)
        · walk_at "go"
          rw [fset_id (show m1N nx t X = nx a by rw [valx, c2])]
          exact fin X _ (by rw [if_pos c2])
        · walk_at "go"
          rw [fset_id (show m1N nx t a = nx a by rw [vals a haS ho.2.1 c2, if_neg c1])]
          exact fin a _ (by rw [if_neg c2])
    · rw [if_pos rfl, Bool.not_eq_false'] at h
      have hno : ¬ (a ≠ t ∧ a ≠ X ∧ a ≠ Y) := fun q => by
        obtain ⟨q1, q2, q3⟩ := (cor a).mpr q
        rcases (inV3 a t (nx t) (nx (nx t))).mp h with z | z | z
        · exact q1 z.symm
        · exact q2 z.symm
        · exact q3 z.symm
      walk_at "go"
      refine ⟨K, _, _, rfl, s2, e2, nd, by omega, fun z => ?_⟩
      rw [old]
      exact ⟨.inl, fun q => q.elim id fun q => absurd q.1 hno⟩
  · rintro σ H' ⟨K, o7, o8, rfl, s2, e2, nd, kl, mem⟩
    walk_at "go"
    refine k K p _ nd (fun z => ?_) (s1.trans (same_unlock hd1 s2)) hp00 (at_ne e2 npd)
    rw [mem]
    unfold m1S
    rw [hgY, hgg, mem_mendS]
    constructor
    · rintro ⟨i, a, hi, ha', ⟨c1, c2, c3⟩, rfl⟩
      by_cases q : a = g
      · rw [if_pos q]
        exact ⟨hX, fun z => Fx.tx z.symm, Fx.xy, fun z => D.gx z.symm⟩
      · rw [if_neg q]
        exact ⟨List.mem_of_getElem? ha', c1, c3, q⟩
    · rintro ⟨hz, z1, z2, z3⟩
      by_cases q : z = X
      · obtain ⟨i, hi⟩ := List.getElem?_of_mem Fx.hg
        exact ⟨i, g, (List.getElem?_eq_some_iff.mp hi).1, hi, ⟨Fx.gt, D.gx, D.gy⟩, by rw [if_pos rfl]; exact q⟩
      · obtain ⟨i, hi⟩ := List.getElem?_of_mem hz
        exact ⟨i, z, (List.getElem?_eq_some_iff.mp hi).1, hi, ⟨z1, q, z2⟩, by rw [if_neg z3]⟩

/-! Wi: a film taken out. -/
theorem r_lcT {K : PySem.W.Frag} {H : Hp} {Q : VK} {σ : St} {a : Addr} {tl te : TE} {tt : TT} {i : Nat} {ns : List Int} (p : Int → Bool) (e : Int → V) (hs : SqT K H a (ns.map V.int)) (ht : ∀ Q : VK, Q (.ref a) H → tl σ H Q) (hn : ns.length < sizeLine)
    (h1 : ∀ x ∈ ns, ∀ (D : Addr) (u : HO), Free H D → ∀ R : Bool → Hp → Prop, R (p x) (upd H D u) → tt (σ.set i (some (.int x))) (upd H D u) R)
    (h2 : ∀ x ∈ ns, p x = true → ∀ (D : Addr) (u : HO), Free H D → ∀ Q : VK, Q (e x) (upd H D u) → te (σ.set i (some (.int x))) (upd H D u) Q)
    (h : ∀ D, Free H D → Q (.ref D) (upd H D (.lst ((ns.filter p).map e)))) : tLc (iTup K tl) (gName i) tt te [i] σ H Q := by
  refine ht _ ⟨a, rfl, ⟨_, hs⟩, fun D hD => ?_⟩
  refine lc_tup (xs := ns.map V.int) (fun j H' => H' = upd H D (.lst (((ns.take j).filter p).map e))) rfl (fun j H' _ q => ?_) (fun j x H' hx q => ?_) (fun H' q => ?_)
  · subst q
    exact same_tup (same_new (Same.refl H) hD) hs
  · subst q
    obtain ⟨n, hj, rfl⟩ := map_get hx
    have hm : n ∈ ns := List.mem_of_getElem? hj
    have et : ns.take (j + 1) = ns.take j ++ [n] := by rw [List.take_succ, hj]; rfl
    rw [wipe1]
    show _ ∧ _
    have es : (σ.set i none).set i (some (.int n)) = σ.set i (some (.int n)) := List.set_set _
    refine ⟨by rw [es]; exact List.set_set _, ?_⟩
    rw [es]
    refine h1 n hm D _ hD _ ?_
    cases hp : p n with
    | true =>
      rw [if_pos rfl]
      refine h2 n hm hp D _ hD _ ⟨_, upd_same, ?_, ?_⟩
      · rw [List.length_map]
        refine Nat.lt_of_le_of_lt (Nat.le_trans (List.length_filter_le _ _) ?_) hn
        rw [List.length_take]
        exact Nat.min_le_right _ _
      · rw [upd_upd, et, List.filter_append, List.map_append]
        simp [hp]
    | false =>
      rw [if_neg Bool.false_ne_true, et, List.filter_append]
      simp [hp]
  · subst q
    rw [List.length_map, List.take_length]
    exact h D hD
def Looped (nx : Int → Int) (e : Int) : Prop := nx e = ot e ∨ nx (nx e) = ot e
instance {nx : Int → Int} {e : Int} : Decidable (Looped nx e) := by unfold Looped; exact inferInstance
def wS (S : List Int) (nx : Int → Int) (e : Int) : List Int := if Looped nx e then burstLS S nx e else burstS S nx e
def wN (nx : Int → Int) (e : Int) : Int → Int := if Looped nx e then burstLN nx e else burstN nx e
def sp_l_without (G : Gx) : Sp := fun vs H Q _ => ∃ (d : Addr) (S : List Int) (nx : Int → Int) (f : Int), vs = [.ref d, .int f] ∧ H d = some (dW S nx) ∧ Web S nx ∧ 2 * f ∈ S ∧ (Looped nx (2 * f) ∨ ¬ Rim S nx (2 * f) (ot (2 * f))) ∧ S.length ≤ 90000 ∧
  ∀ (S' : List Int) p H', S'.Nodup → (∀ z, z ∈ S' ↔ z ∈ wS S nx (2 * f)) → Same H H' → Free H p → H' p = some (dW S' (wN nx (2 * f))) → Q (.ref p) H'
theorem len_l_without {G : Gx} : ∀ vs H Q E, sp_l_without G vs H Q E → vs.length = 2 := by rintro vs H Q E ⟨d, S, nx, t, rfl, _⟩; rfl
/-! _law_without: slots _law_web_here, _law_film, _law_left, _law_made, _law_at, _law_third -/
def t_l_without (G : Gx) : TS :=
  (tSeq (tAsg (tCall (sp_l_corner G) [] E0 (tCons (tVar 0) (tCons (tOp rMulI (tC (.int 2)) (tVar 1)) tNil))) (gName 2))
  (tSeq (tIfS (tTest (tOp (rIn G.K true) (tOp rAddI (tOp rMulI (tC (.int 2)) (tVar 1)) (tC (.int 1))) (tVar 2))) (tRet (tCall (sp_l_mended G) [] E0 (tCons (tCall (sp_l_mended G) [] E0 (tCons (tVar 0) (tCons (tOp rMulI (tC (.int 2)) (tVar 1)) tNil))) (tCons (tOp rAddI (tOp rMulI (tC (.int 2)) (tVar 1)) (tC (.int 1))) tNil)))) tNext)
  (tSeq (tAsg tDNewK (gName 3))
  (tSeq (tLock (tFor (iKeys (tVar 0)) (gName 4)
  (tIfS (tTest (tOp (rIn G.K true) (tVar 4) (tVar 2))) (sDPut (tVar 3) (tVar 4) (tDGet (tVar 0) (tVar 4))) tNext)))
  (tSeq (tAsg (tOp (rIxL G.K) (tLc (iTup G.K (tVar 2)) (gName 4) (tTest (tOp rNe (tOp rDivW (tVar 4) (tC (.int 2))) (tVar 1))) (tVar 4) [4]) (tC (.int 0))) (gName 5))
  (tRet (tCall (sp_l_mended G) [] E0 (tCons (tVar 3) (tCons (tCall (sp_l_other G) [] E0 (tCons (tVar 5) tNil)) tNil)))))))))
theorem nd_len_le {S T : List Int} (nd : S.Nodup) (h : ∀ z ∈ S, z ∈ T) : S.length ≤ T.length := sub_len nd h
theorem pure_l_without {G : Gx} {vs : List V} {H : Hp} {Q : VK} {E : XK} (h : sp_l_without G vs H Q E) : Body (t_l_without G) ["_law_web_here", "_law_film", "_law_left", "_law_made", "_law_at", "_law_third"] vs H Q := by
  obtain ⟨d, S, nx, f, rfl, hd, W, he, hc, hl, k⟩ := h
  show t_l_without G _ [some (.ref d), some (.int f), none, none, none, none] H
  unfold t_l_without
  have M := W.map
  have ha := M.cn _ he
  have hb := M.cn _ ha
  walk_at "go"
  refine ⟨d, S, nx, 2 * f, rfl, rd_in hd, he, ha, fun lt hlt => ?_⟩
  have s1 : Same H (upd H lt (.tup [.int (2 * f), .int (nx (2 * f)), .int (nx (nx (2 * f)))])) := by walk_at "sm"
  have e1 : upd H lt (.tup [.int (2 * f), .int (nx (2 * f)), .int (nx (nx (2 * f)))]) lt = some (.tup [.int (2 * f), .int (nx (2 * f)), .int (nx (nx (2 * f)))]) := upd_same
  have hlt0 : Free H lt := hlt
  generalize upd H lt (.tup [.int (2 * f), .int (nx (2 * f)), .int (nx (nx (2 * f)))]) = H1 at s1 e1 ⊢
  clear hlt
  have hd1 := s1 d _ hd
  walk_at "go"
  refine iteB (fun h => ?_) (fun h => ?_)
  · rw [if_pos rfl, Bool.not_eq_true'] at h
    have hno : ¬ Looped nx (2 * f) := fun z => by
      unfold Looped at z
      rw [ot_even] at z
      rw [(inV3 _ _ _ _).mpr (.inr z)] at h
      cases h
    have B := burst_web W he (fun z => hno (.inl z)) (fun z => hno (.inr z)) (hc.resolve_left hno)
    have D1 := B.D1
    have D2 := B.D2
    walk_at "go"
    refine ⟨d, S, _, nx, 2 * f, rfl, hd1, D1, hl, fun S1 p1 H2 nd1 m1 s2 f2 e2 => ?_⟩
    walk_at "go"
    rw [← ot_even]
    refine ⟨p1, S1, _, _, ot (2 * f), rfl, e2, D2.sameS nd1 m1, ?_, fun S2 p2 H3 nd2 m2 s3 f3 e3 => ?_⟩
    · have := nd_len_le (T := S) nd1 fun z hz => by
        have q := (m1 z).mp hz
        unfold m1S at q
        exact (mem_mendS.mp q).1
      omega
    · refine k S2 p2 H3 nd2 (fun z => ?_) ((s1.trans s2).trans s3) (s1.free (s2.free f3)) ?_
      · unfold wS
        rw [if_neg hno, m2]
        unfold burstS
        exact mem_m1S m1
      · unfold wN
        rw [if_neg hno]
        exact e3
  · rw [if_pos rfl, Bool.not_eq_false'] at h
    have hlo : Looped nx (2 * f) := by
      rcases (inV3 _ _ _ _).mp h with z | z | z
      · omega
      · exact .inl (by rw [z, ot_even])
      · exact .inr (by rw [z, ot_even])
    have B := burstL_web W he hlo
    walk_at "go"
    refine r_dnew (f := fun x => .int (nx x)) fun p hp => ?_
    have hp0 : Free H p := s1.free hp
    have npd : p ≠ d := fun z => by rw [z] at hp; unfold Free at hp; rw [hd1] at hp; cases hp
    have hd2 : upd H1 p (dW [] nx) d = some (dW S nx) := at_ne hd1 (Ne.symm npd)
    have ltd : lt ≠ d := ne_kind e1 hd1 (by intro z; cases z)
    walk_at "go"
    refine r_forD hd2 (fun _ _ q => ⟨_, rfl, q⟩) fun od => ?_
    have hpd : Free (upd H1 d (.frz od (dW S nx))) p := by unfold Free; rw [upd_ne npd]; exact hp
    have sm : Same (upd H1 d (.frz od (dW S nx))) (upd (upd H1 p (dW [] nx)) d (.frz od (dW S nx))) := fun b x e => by
      by_cases z : b = d
      · subst z
        rw [upd_same] at e ⊢
        exact e
      · rw [upd_ne z] at e ⊢
        exact at_new e hp
    refine ⟨fun j σ H' => ∃ (K : List Int) (o4 : Option V), σ = [some (.ref d), some (.int f), some (.ref lt), some (.ref p), o4, none] ∧ Same (upd H1 d (.frz od (dW S nx))) H' ∧ H' p = some (dW K nx) ∧ K.Nodup ∧ K.length ≤ j ∧
        ∀ z, z ∈ K ↔ ∃ i, i < j ∧ S[i]? = some z ∧ (z ≠ 2 * f ∧ z ≠ nx (2 * f) ∧ z ≠ nx (nx (2 * f))), ⟨[], _, rfl, sm, at_ne upd_same npd, .nil, Nat.zero_le _, fun z => ⟨fun h => absurd h List.not_mem_nil, fun ⟨i, h, _⟩ => absurd h (Nat.not_lt_zero _)⟩⟩, ?_, ?_, ?_⟩
    · rintro j σ H' _ ⟨K, o4, _, s2, _⟩
      exact s2 d _ upd_same
    · rintro j a σ H' hj ⟨K, o4, rfl, s2, e2, nd, kl, mem⟩
      have haS : a ∈ S := List.mem_of_getElem? hj
      have hjl : j < S.length := (List.getElem?_eq_some_iff.mp hj).1
      have hd3 : Rd H' d (dW S nx) := rd_frz (s2 d _ upd_same)
      have e3 : H' lt = some (.tup [.int (2 * f), .int (nx (2 * f)), .int (nx (nx (2 * f)))]) := s2 lt _ (at_ne e1 ltd)
      have hzK : K.length < sizeLine := size1000l (by omega)
      have old : ∀ z, (∃ i, i < j + 1 ∧ S[i]? = some z ∧ (z ≠ 2 * f ∧ z ≠ nx (2 * f) ∧ z ≠ nx (nx (2 * f)))) ↔ z ∈ K ∨ ((a ≠ 2 * f ∧ a ≠ nx (2 * f) ∧ a ≠ nx (nx (2 * f))) ∧ z = a) := fun z => by
        rw [mem]
        constructor
        · rintro ⟨i, hi, hb', c⟩
          by_cases q : i = j
          · subst q
            rw [hj] at hb'
            cases hb'
            exact .inr ⟨c, rfl⟩
          · exact .inl ⟨i, by omega, hb', c⟩
        · rintro (⟨i, hi, hb', c⟩ | ⟨c, rfl⟩)
          · exact ⟨i, by omega, hb', c⟩
          · exact ⟨j, by omega, hj, c⟩
      walk_at "go"
      refine iteB (fun h => ?_) (fun h => ?_)
      · rw [if_pos rfl, Bool.not_eq_true'] at h
        have ho : a ≠ 2 * f ∧ a ≠ nx (2 * f) ∧ a ≠ nx (nx (2 * f)) := by
          have q : ¬ (2 * f = a ∨ nx (2 * f) = a ∨ nx (nx (2 * f)) = a) := fun z => by rw [(inV3 _ _ _ _).mpr z] at h; cases h
          exact ⟨fun z => q (.inl z.symm), fun z => q (.inr (.inl z.symm)), fun z => q (.inr (.inr z.symm))⟩
        walk_at "go"
        rw [fset_id rfl]
        refine ⟨putS K a, _, rfl, same_mut s2 hpd, upd_same, nd_putS nd, by have := len_putS (S := K) (k := a); omega, fun z => ?_⟩
        rw [mem_putS, old]
        exact ⟨fun q => q.imp id fun q => ⟨ho, q⟩, fun q => q.imp id fun q => q.2⟩
      · rw [if_pos rfl, Bool.not_eq_false'] at h
        have hno : ¬ (a ≠ 2 * f ∧ a ≠ nx (2 * f) ∧ a ≠ nx (nx (2 * f))) := fun ⟨q1, q2, q3⟩ => by
          rcases (inV3 _ _ _ _).mp h with z | z | z
          · exact q1 z.symm
          · exact q2 z.symm
          · exact q3 z.symm
        walk_at "go"
        refine ⟨K, _, rfl, s2, e2, nd, by omega, fun z => ?_⟩
        rw [old]
        exact ⟨.inl, fun q => q.elim id fun q => absurd q.1 hno⟩
    · rintro σ H' ⟨K, o4, rfl, s2, e2, nd, kl, mem⟩
      have s3 : Same H1 (upd H' d (dW S nx)) := same_unlock hd1 s2
      have e4 : upd H' d (dW S nx) p = some (dW K nx) := at_ne e2 npd
      have e5 := s3 lt _ e1
      generalize upd H' d (dW S nx) = H2 at s3 e4 e5 ⊢
      have mK : ∀ z, z ∈ K ↔ z ∈ loopS S nx (2 * f) := fun z => by
        rw [mem]
        unfold loopS loopT
        rw [List.mem_filter, decide_eq_true_eq]
        have cor : (z ≠ 2 * f ∧ z ≠ nx (2 * f) ∧ z ≠ nx (nx (2 * f))) ↔ (z ≠ 2 * f ∧ z ≠ ot (2 * f) ∧ z ≠ if nx (2 * f) = ot (2 * f) then nx (nx (2 * f)) else nx (2 * f)) := by
          by_cases c : nx (2 * f) = ot (2 * f)
          · rw [if_pos c, c]
          · rw [if_neg c, hlo.resolve_left c]
            exact ⟨fun ⟨x, y, w⟩ => ⟨x, w, y⟩, fun ⟨x, y, w⟩ => ⟨x, w, y⟩⟩
        rw [← cor]
        constructor
        · rintro ⟨i, _, hi, c⟩
          exact ⟨List.mem_of_getElem? hi, c⟩
        · rintro ⟨hz, c⟩
          obtain ⟨i, hi⟩ := List.getElem?_of_mem hz
          exact ⟨i, (List.getElem?_eq_some_iff.mp hi).1, hi, c⟩
      have third : [2 * f, nx (2 * f), nx (nx (2 * f))].filter (fun x => !decide (x / 2 = f)) = [loopT nx (2 * f)] := by
        have d0 : decide (2 * f / 2 = f) = true := decide_eq_true (by omega)
        have dv : ∀ x, x ≠ 2 * f → x ≠ ot (2 * f) → decide (x / 2 = f) = false := fun x h1 h2 => decide_eq_false fun q => by rw [ot_even] at h2; omega
        have do_ : decide (ot (2 * f) / 2 = f) = true := decide_eq_true (by rw [ot_even]; omega)
        unfold loopT
        by_cases c : nx (2 * f) = ot (2 * f)
        · have d2 := dv (nx (nx (2 * f))) (M.n2 he) (by rw [← c]; exact M.n1 _ ha)
          rw [if_pos c]
          rw [c] at d2 ⊢
          simp only [List.filter_cons, List.filter_nil, d0, do_, d2]
          rfl
        · have c2 := hlo.resolve_left c
          have d1 := dv (nx (2 * f)) (M.n1 _ he) c
          rw [if_neg c, c2]
          simp only [List.filter_cons, List.filter_nil, d0, do_, d1]
          rfl
      walk_at "go"
      refine r_lcT (ns := [2 * f, nx (2 * f), nx (nx (2 * f))]) (p := fun x => !decide (x / 2 = f)) (e := V.int) (SqT.of e5) (fun _ q => ⟨_, rfl, q⟩) (by show 3 < sizeLine; decide) (fun x hx D u hD R q => ?_) (fun x hx _ D u hD Q q => ?_) (fun D hD => ?_)
      · walk_at "go"
        rw [show decide (V.int (x / 2) = V.int f) = decide (x / 2 = f) from decide_eq_decide.mpr ⟨fun h => V.int.inj h, fun h => by rw [h]⟩]
        exact q
      · walk_at "go"
        exact q
      · rw [third]
        walk_at "go"
        have e6 : upd H2 D (.lst ([loopT nx (2 * f)].map V.int)) p = some (dW K nx) := at_new e4 hD
        refine ⟨p, K, _, nx, ot (loopT nx (2 * f)), rfl, e6, B.D.sameS nd mK, by omega, fun S2 p2 H3 nd2 m2 s4 f4 e7 => ?_⟩
        have s5 := same_new (o := .lst ([loopT nx (2 * f)].map V.int)) (Same.refl H2) hD
        walk_at "go"
        refine k S2 p2 H3 nd2 (fun z => ?_) (((s1.trans s3).trans s5).trans s4) (s1.free (s3.free (s5.free f4))) ?_
        · unfold wS
          rw [if_pos hlo, m2]
          unfold burstLS
          exact mem_m1S mK
        · unfold wN
          rw [if_pos hlo]
          exact e7

/-! Wj: all rims. -/
open Classical in
noncomputable def rimL (f : Int → Int) (x : Int) : List Int := if h : ∃ n, Per f x n then rimO f x (Classical.choose h) else []
theorem rimL_eq {f : Int → Int} {x : Int} {n : Nat} (P : Per f x n) : rimL f x = rimO f x n := by
  unfold rimL
  have h : ∃ n, Per f x n := ⟨n, P⟩
  rw [dif_pos h, per_unique (Classical.choose_spec h) P]
def putL (P l : List Int) : List Int := l.foldl putS P
theorem mem_putL {l : List Int} : ∀ {P : List Int} {x : Int}, x ∈ putL P l ↔ x ∈ P ∨ x ∈ l := by
  unfold putL
  induction l with
  | nil => intro P x; simp
  | cons y r ih =>
    intro P x
    rw [List.foldl_cons, ih, mem_putS, List.mem_cons]
    exact or_assoc
theorem nd_putL {l : List Int} : ∀ {P : List Int}, P.Nodup → (putL P l).Nodup := by
  unfold putL
  induction l with
  | nil => intro P h; exact h
  | cons y r ih => intro P h; rw [List.foldl_cons]; exact ih (nd_putS h)
theorem putL_snoc {P l : List Int} {x : Int} : putL P (l ++ [x]) = putS (putL P l) x := by
  unfold putL
  rw [List.foldl_append]
  rfl
noncomputable def rimsG (f : Int → Int) : List Int → List Int → List (List Int)
  | [], _ => []
  | e :: r, P => if e ∈ P then rimsG f r P else rimL f e :: rimsG f r (putL P (rimL f e))
theorem rimsG_mem {f : Int → Int} : ∀ {es P : List Int} {l : List Int}, l ∈ rimsG f es P → ∃ e ∈ es, l = rimL f e
  | [], _, _, h => absurd h List.not_mem_nil
  | e :: r, P, l, h => by
    unfold rimsG at h
    split at h
    · obtain ⟨e', h1, h2⟩ := rimsG_mem h
      exact ⟨e', List.mem_cons_of_mem _ h1, h2⟩
    · rcases List.mem_cons.mp h with q | q
      · exact ⟨e, List.mem_cons_self, q⟩
      · obtain ⟨e', h1, h2⟩ := rimsG_mem q
        exact ⟨e', List.mem_cons_of_mem _ h1, h2⟩
theorem rimsG_ne {f : Int → Int} {e : Int} {r : List Int} : rimsG f (e :: r) [] ≠ [] := by
  unfold rimsG
  rw [if_neg List.not_mem_nil]
  exact fun h => nomatch h
structure Srt (S es : List Int) : Prop where
  perm : es.Perm S
  le : es.Pairwise (· ≤ ·)
theorem Srt.eq {S es es' : List Int} (h : Srt S es) (h' : Srt S es') : es = es' := sorted_eq (h.perm.trans h'.perm.symm) h.le h'.le
theorem Srt.of {S S' es es' : List Int} (h : Srt S es) (h' : Srt S' es') (p : S.Perm S') : es = es' := sorted_eq ((h.perm.trans p).trans h'.perm.symm) h.le h'.le
def sp_l_rims (G : Gx) : Sp := fun vs H Q _ => ∃ (d : Addr) (S : List Int) (nx : Int → Int), vs = [.ref d] ∧ Rd H d (dW S nx) ∧ Map S ot nx ∧ S.length ≤ 100000 ∧
  ∀ (es : List Int) (as : List Addr) p H', Srt S es → Same H H' → Free H p → H' p = some (.lst (as.map V.ref)) → Refs H' as (rimsG (face ot nx) es []) → (∀ a ∈ as, Free H a ∧ a ≠ p) → as.Nodup → Q (.ref p) H'
theorem len_l_rims {G : Gx} : ∀ vs H Q E, sp_l_rims G vs H Q E → vs.length = 1 := by rintro vs H Q E ⟨d, S, nx, rfl, _⟩; rfl
/-! _law_rims: slots _law_web_here, _law_found, _law_passed, _law_end, _law_at -/
def t_l_rims (G : Gx) : TS :=
  (tSeq (tAsg (tLst tNil) (gName 1))
  (tSeq (tAsg tDNewK (gName 2))
  (tSeq (tFor (iList G.K (tCB (rSortedI G.K) (tCons (tCB rListRd (tCons (tVar 0) tNil)) tNil))) (gName 3)
  (tIfS (tB (tDNotIn (tVar 3) (tVar 2))) (tSeq (tDrop (tBM G.K "list" rAppend (tVar 1) (tCons (tCall (sp_l_rim G) [] E0 (tCons (tVar 0) (tCons (tVar 3) tNil))) tNil)))
  (tFor (iList G.K (tOp (rIxL G.K) (tVar 1) (tUn rNegI (tC (.int 1))))) (gName 4)
  (sDPut (tVar 2) (tVar 4) (tC (.bl true))))) tNext))
  (tRet (tVar 1)))))
theorem rims_fit {f : Int → Int} {S : List Int} (Pm : Perm1 S f) {x : Int} (hx : x ∈ S) : ∃ n, n ≤ S.length ∧ Per f x n := per_ex Pm hx
theorem pure_l_rims {G : Gx} {vs : List V} {H : Hp} {Q : VK} {E : XK} (h : sp_l_rims G vs H Q E) : Body (t_l_rims G) ["_law_web_here", "_law_found", "_law_passed", "_law_end", "_law_at"] vs H Q := by
  obtain ⟨d, S, nx, rfl, hd, M, hl, k⟩ := h
  show t_l_rims G _ [some (.ref d), none, none, none, none] H
  unfold t_l_rims
  walk_at "go"
  refine ⟨by walk_at "sz", fun p hp => ?_⟩
  walk_at "go"
  refine r_dnew (f := fun _ => .bl true) fun q hq => ?_
  walk_at "go"
  intro l hl0
  walk_at "go"
  refine r_sorted (SqL.of upd_same) fun es lr hp1 hp2 hlr => ?_
  have hes : Srt S es := ⟨hp1, hp2⟩
  have s1 : Same H (upd (upd (upd (upd H p (.lst [])) q (dI [] fun _ => .bl true)) l (.lst (S.map V.int))) lr (.lst (es.map V.int))) := by walk_at "sm"
  have e1 : (upd (upd (upd (upd H p (.lst [])) q (dI [] fun _ => .bl true)) l (.lst (S.map V.int))) lr (.lst (es.map V.int))) p = some (.lst []) := by walk_at "hp"
  have e2 : (upd (upd (upd (upd H p (.lst [])) q (dI [] fun _ => .bl true)) l (.lst (S.map V.int))) lr (.lst (es.map V.int))) q = some (dI [] fun _ => .bl true) := by walk_at "hp"
  have e3 : (upd (upd (upd (upd H p (.lst [])) q (dI [] fun _ => .bl true)) l (.lst (S.map V.int))) lr (.lst (es.map V.int))) lr = some (.lst (es.map V.int)) := upd_same
  have hp0 : Free H p := hp
  have hq0 : Free H q := by walk_at "fr"
  have npq : p ≠ q := ne_fresh upd_same hq
  have nlp : lr ≠ p := ne_fresh' (u := .lst []) (by walk_at "hp") hlr
  have nlq : lr ≠ q := ne_fresh' (u := dI [] fun _ => .bl true) (by walk_at "hp") hlr
  generalize upd (upd (upd (upd H p (.lst [])) q (dI [] fun _ => .bl true)) l (.lst (S.map V.int))) lr (.lst (es.map V.int)) = H1 at s1 e1 e2 e3 ⊢
  clear hp hq hl0 hlr
  refine r_forI (SqL.of e3) (fun pre post σ H' => ∃ (o3 o4 : Option V) (as : List Addr) (P : List Int) (ls : List (List Int)), σ = [some (.ref d), some (.ref p), some (.ref q), o3, o4] ∧ Same H H' ∧ H' p = some (.lst (as.map V.ref)) ∧ H' q = some (dI P fun _ => .bl true) ∧ H' lr = some (.lst (es.map V.int)) ∧
      Refs H' as ls ∧ rimsG (face ot nx) es [] = ls ++ rimsG (face ot nx) post P ∧ (∀ a ∈ as, Free H a ∧ a ≠ p ∧ a ≠ q ∧ a ≠ lr) ∧ as.Nodup ∧ P.Nodup ∧ (∀ x ∈ P, x ∈ S) ∧ as.length ≤ pre.length)
    ⟨_, _, [], [], [], rfl, s1, e1, e2, e3, .nil, rfl, fun a h => absurd h List.not_mem_nil, .nil, .nil, fun a h => absurd h List.not_mem_nil, Nat.zero_le _⟩ (fun pre post σ H' _ ⟨o3, o4, as, P, ls, _, _, _, _, e, _⟩ => SqL.of e) ?_ ?_
  · rintro pre x post σ H' hes' ⟨o3, o4, as, P, ls, rfl, s2, f1, f2, f3, rf, rg, fr, nda, ndp, sub, la⟩
    have hxS : x ∈ S := hp1.subset (by rw [hes']; exact List.mem_append.mpr (.inr List.mem_cons_self))
    have hd' : Rd H' d (dW S nx) := same_rd s2 hd
    have hel : es.length = S.length := hp1.length_eq
    have hpl : pre.length < S.length := by rw [← hel, hes', List.length_append, List.length_cons]; omega
    walk_at "go"
    refine iteN (fun hn => ?_) (fun hi => ?_)
    · walk_at "go"
      refine ⟨d, S, nx, x, rfl, hd', M, hxS, hl, fun n b H2 P2 s3 fb e4 => ?_⟩
      have g1 := s3 _ _ f1
      have g2 := s3 _ _ f2
      have g3 := s3 _ _ f3
      have nbp : b ≠ p := fun z => by rw [z] at fb; unfold Free at fb; rw [f1] at fb; cases fb
      have nbq : b ≠ q := fun z => by rw [z] at fb; unfold Free at fb; rw [f2] at fb; cases fb
      have nbl : b ≠ lr := fun z => by rw [z] at fb; unfold Free at fb; rw [f3] at fb; cases fb
      have nba : b ∉ as := fun z => by
        obtain ⟨l', _, q'⟩ := rf.mem z
        unfold Free at fb
        rw [q'] at fb
        cases fb
      have fb0 : Free H b := s2.free fb
      have hnl := per_le M.perm hxS P2
      have rl := rimL_eq P2
      have rls : ∀ y ∈ rimL (face ot nx) x, y ∈ S := fun y hy => by rw [rl] at hy; exact rim_sub M.perm hxS hy
      rw [← rl] at e4
      have rll : (rimL (face ot nx) x).length ≤ S.length := by rw [rl, rimO_len]; exact hnl
      refine r_nil ?_
      refine r_app (xs := as.map V.ref) g1 (by rw [List.length_map]; exact size1000l (by omega)) ?_
      have s4 : Same H (upd H2 p (.lst (as.map V.ref ++ [.ref b]))) := same_mut (s2.trans s3) hp0
      have h1 : (upd H2 p (.lst (as.map V.ref ++ [.ref b]))) p = some (.lst ((as ++ [b]).map V.ref)) := by rw [List.map_append]; exact upd_same
      have h2 : (upd H2 p (.lst (as.map V.ref ++ [.ref b]))) q = some (dI P fun _ => .bl true) := at_ne g2 (Ne.symm npq)
      have h3 : (upd H2 p (.lst (as.map V.ref ++ [.ref b]))) lr = some (.lst (es.map V.int)) := at_ne g3 nlp
      have h4 : (upd H2 p (.lst (as.map V.ref ++ [.ref b]))) b = some (.lst ((rimL (face ot nx) x).map V.int)) := at_ne e4 nbp
      have r2 : Refs (upd H2 p (.lst (as.map V.ref ++ [.ref b]))) (as ++ [b]) (ls ++ [rimL (face ot nx) x]) := ((rf.same s3).upd fun a ha => (fr a ha).2.1).snoc h4
      have fr2 : ∀ a ∈ as ++ [b], Free H a ∧ a ≠ p ∧ a ≠ q ∧ a ≠ lr := fun a ha => by
        rcases List.mem_append.mp ha with z | z
        · exact fr a z
        · rw [List.mem_singleton.mp z]; exact ⟨fb0, nbp, nbq, nbl⟩
      generalize upd H2 p (.lst (as.map V.ref ++ [.ref b])) = H3 at s4 h1 h2 h3 h4 r2 ⊢
      walk_at "go"
      refine r_ixL (v := .ref b) (SqL.of h1) (by rw [List.map_append]; exact atI_last _ _) ?_
      refine r_forI (SqL.of h4) (fun pre2 post2 σ H' => ∃ (o4 : Option V), σ = [some (.ref d), some (.ref p), some (.ref q), some (.int x), o4] ∧ Same H H' ∧ H' p = some (.lst ((as ++ [b]).map V.ref)) ∧ H' q = some (dI (putL P pre2) fun _ => .bl true) ∧ H' lr = some (.lst (es.map V.int)) ∧
          Refs H' (as ++ [b]) (ls ++ [rimL (face ot nx) x]) ∧ H' b = some (.lst ((rimL (face ot nx) x).map V.int)))
        ⟨_, rfl, s4, h1, h2, h3, r2, h4⟩ (fun pre post σ H' _ ⟨o4, _, _, _, _, _, _, e⟩ => SqL.of e) ?_ ?_
      · rintro pre2 y post2 σ H4 e5 ⟨o4, rfl, t1, t2, t3, t4, t5, t6⟩
        have sub2 : ∀ z ∈ putL P pre2, z ∈ S := fun z hz => (mem_putL.mp hz).elim (sub z) fun h => rls z (by rw [e5]; exact List.mem_append.mpr (.inl h))
        have lz : (putL P pre2).length ≤ S.length := sub_len (nd_putL ndp) sub2
        walk_at "go"
        refine r_dputT t3 (size1000l (by omega)) ?_
        rw [← putL_snoc]
        exact ⟨_, rfl, same_mut t1 hq0, at_ne t2 npq, upd_same, at_ne t4 nlq, t5.upd fun a ha => (fr2 a ha).2.2.1, at_ne t6 nbq⟩
      · rintro σ H4 ⟨o4, rfl, t1, t2, t3, t4, t5, t6⟩
        refine ⟨_, _, as ++ [b], _, ls ++ [rimL (face ot nx) x], rfl, t1, t2, t3, t4, t5, ?_, fr2, ?_, nd_putL ndp, fun z hz => (mem_putL.mp hz).elim (sub z) (rls z), ?_⟩
        · rw [rg]
          conv => lhs; unfold rimsG
          rw [if_neg hn, List.append_assoc]
          rfl
        · refine List.nodup_append.mpr ⟨nda, List.Pairwise.cons (fun _ z => nomatch z) .nil, fun a ha c hc => ?_⟩
          rw [List.mem_singleton.mp hc]
          exact fun z => nba (z ▸ ha)
        · rw [List.length_append, List.length_append]
          simp only [List.length_singleton]
          omega
    · walk_at "go"
      refine ⟨_, _, as, P, ls, rfl, s2, f1, f2, f3, rf, ?_, fr, nda, ndp, sub, by rw [List.length_append]; omega⟩
      rw [rg]
      conv => lhs; unfold rimsG
      rw [if_pos hi]
  · rintro σ H' ⟨o3, o4, as, P, ls, rfl, s2, f1, f2, f3, rf, rg, fr, nda, ndp, sub, la⟩
    walk_at "go"
    have e9 : rimsG (face ot nx) es [] = ls := by rw [rg]; unfold rimsG; rw [List.append_nil]
    rw [← e9] at rf
    exact k es as p H' hes s2 hp0 f1 rf (fun a ha => ⟨(fr a ha).1, (fr a ha).2.1⟩) nda

/-! Wk: webs drawn. -/
theorem at_mod {l : List Int} (hne : l ≠ []) (w : Int) : ∃ y ∈ l, atI (l.map V.int) (w % ((l.map V.int).length : Int)) = some (.int y) := by
  have h0 : 0 < l.length := List.length_pos_iff.mpr hne
  rw [List.length_map]
  have h1 := Int.emod_nonneg w (show (l.length : Int) ≠ 0 by omega)
  have h2 := Int.emod_lt_of_pos w (show 0 < (l.length : Int) by omega)
  obtain ⟨j, hj⟩ := Int.eq_ofNat_of_zero_le h1
  rw [hj] at h2 ⊢
  have hjl : j < l.length := by omega
  refine ⟨l[j], List.getElem_mem hjl, atI_nat ?_⟩
  rw [List.getElem?_map, List.getElem?_eq_getElem hjl]
  rfl
theorem rimL_ne {S : List Int} {f : Int → Int} (Pm : Perm1 S f) {x : Int} (hx : x ∈ S) : rimL f x ≠ [] := by
  obtain ⟨n, _, P⟩ := per_ex Pm hx
  rw [rimL_eq P]
  exact fun z => absurd (congrArg List.length z) (by rw [rimO_len]; have := P.pos; simp; omega)
theorem rimL_sub {S : List Int} {f : Int → Int} (Pm : Perm1 S f) {x y : Int} (hx : x ∈ S) (hy : y ∈ rimL f x) : y ∈ S := by
  obtain ⟨n, _, P⟩ := per_ex Pm hx
  rw [rimL_eq P] at hy
  exact rim_sub Pm hx hy
theorem rimL_mem {S : List Int} {f : Int → Int} (Pm : Perm1 S f) {x y : Int} (hx : x ∈ S) : y ∈ rimL f x ↔ Eqv (fstep S f) x y := by
  obtain ⟨n, _, P⟩ := per_ex Pm hx
  rw [rimL_eq P]
  exact rim_mem Pm hx P
theorem r_minLen {K : PySem.W.Frag} {ta : TA} {σ : St} {H : Hp} {Q : VK} (h : ta σ H fun vs H1 => ∃ (a : Addr) (as : List Addr), vs = [.ref a] ∧ SqL K H1 a (as.map V.ref) ∧ as ≠ [] ∧ (∀ b ∈ as, ∃ xs, SqL K H1 b xs) ∧ ∀ b, b ∈ as → Q (.ref b) H1) : tMinLen K ta σ H Q := h
theorem len_blowS {S : List Int} {L : Int} : (blowS S L).length = S.length + 6 := by unfold blowS; rw [List.length_append]; rfl
structure Drawn (S : List Int) (nx : Int → Int) (f : Int) : Prop where
  web : Web S nx
  lt : ∀ x ∈ S, x < 2 * f
  len : S.length ≤ 345
  f0 : 0 ≤ f
theorem Drawn.same {S S' : List Int} {nx : Int → Int} {f : Int} (D : Drawn S nx f) (nd : S'.Nodup) (h : ∀ z, z ∈ S' ↔ z ∈ S) : Drawn S' nx f :=
  ⟨D.web.same nd h fun _ _ => rfl, fun x hx => D.lt x ((h x).mp hx), Nat.le_trans (sub_len nd fun z hz => (h z).mp hz) D.len, D.f0⟩
def sp_l_step (G : Gx) : Sp := fun vs H Q _ => ∃ (d : Addr) (S : List Int) (nx : Int → Int) (f c : Int), vs = [.ref d, .int f, .int c] ∧ H d = some (dW S nx) ∧ Drawn S nx f ∧
  ∀ (t p : Addr) (S' : List Int) (nx' : Int → Int) (f' : Int) H', Same H H' → H' t = some (.tup [.ref p, .int f']) → H' p = some (dW S' nx') → Drawn S' nx' f' → f' ≤ f + 3 → Q (.ref t) H'
theorem len_l_step {G : Gx} : ∀ vs H Q E, sp_l_step G vs H Q E → vs.length = 3 := by rintro vs H Q E ⟨d, S, nx, f, c, rfl, _⟩; rfl
/-! _law_step: slots _law_web_here, _law_first, _law_cell_here, _law_what, _law_pick, _law_walk, _law_ends, _law_end, _law_one, _law_film, _law_two -/
def t_l_step (G : Gx) : TS :=
  (tSeq (tAsg (tCall (sp_l_digits G) [] E0 (tCons (tVar 2) (tCons (tLst (tCons (tC (.int 8)) (tCons (tC (.int 4001)) (tCons (tC (.int 4003)) tNil)))) tNil))) (gUnl G.K 3 (gCons (gName 3) (gCons (gName 4) (gCons (gName 5) gNil)))))
  (tSeq (tAsg (tCB (rSortedI G.K) (tCons (tCB rListRd (tCons (tVar 0) tNil)) tNil)) (gName 6))
  (tSeq (tAsg (tOp (rIxL G.K) (tVar 6) (tOp rModI (tVar 4) (tCB (rLenSeq G.K) (tCons (tVar 6) tNil)))) (gName 7))
  (tCut (tIfS (tTest (tOp rEq (tVar 3) (tC (.int 7)))) (tSeq (tAsg (tMinLen G.K (tCons (tCall (sp_l_rims G) [] E0 (tCons (tVar 0) tNil)) tNil)) (gName 8))
  (tAsg (tOp (rIxL G.K) (tVar 8) (tOp rModI (tVar 5) (tCB (rLenSeq G.K) (tCons (tVar 8) tNil)))) (gName 7))) tNext)
  (tSeq (tAsg (tOp rDivW (tVar 7) (tC (.int 2))) (gName 9))
  (tCut (tIfS (tAnd (tTest (tOp (rIn G.K false) (tVar 3) (tTup (tCons (tC (.int 0)) (tCons (tC (.int 1)) (tCons (tC (.int 2)) (tCons (tC (.int 7)) tNil))))))) (tNot (tB (tCall (sp_l_loop G) [] E0 (tCons (tVar 0) (tCons (tVar 9) tNil)))))) (tRet (tTup (tCons (tCall (sp_l_push G) [] E0 (tCons (tVar 0) (tCons (tVar 9) (tCons (tOp rEq (tVar 3) (tC (.int 2))) tNil)))) (tCons (tVar 1) tNil)))) tNext)
  (tCut (tIfS (tAnd (tTest (tOp (rIn G.K false) (tVar 3) (tTup (tCons (tC (.int 3)) (tCons (tC (.int 6)) tNil))))) (tNot (tB (tCall (sp_l_one_bubble G) [] E0 (tCons (tVar 0) (tCons (tVar 9) tNil)))))) (tRet (tTup (tCons (tCall (sp_l_without G) [] E0 (tCons (tVar 0) (tCons (tVar 9) tNil))) (tCons (tVar 1) tNil)))) tNext)
  (tCut (tIfS (tAnd (tTest (tOp rEq (tVar 3) (tC (.int 4)))) (tTest (tOp rLtI (tCB rLenD (tCons (tVar 0) tNil)) (tC (.int 340))))) (tRet (tTup (tCons (tCall (sp_l_blow G) [] E0 (tCons (tVar 0) (tCons (tVar 7) (tCons (tVar 1) tNil)))) (tCons (tOp rAddI (tVar 1) (tC (.int 3))) tNil)))) tNext)
  (tCut (tIfS (tAnd (tTest (tOp rEq (tVar 3) (tC (.int 5)))) (tTest (tOp rLtI (tCB rLenD (tCons (tVar 0) tNil)) (tC (.int 340))))) (tSeq (tAsg (tCall (sp_l_rim G) [] E0 (tCons (tVar 0) (tCons (tVar 7) tNil))) (gName 8))
  (tSeq (tAsg (tOp (rIxL G.K) (tVar 8) (tOp rModI (tVar 5) (tCB (rLenSeq G.K) (tCons (tVar 8) tNil)))) (gName 10))
  (tIfS (tTest (tOp rNe (tOp rDivW (tVar 10) (tC (.int 2))) (tVar 9))) (tRet (tTup (tCons (tCall (sp_l_part G) [] E0 (tCons (tVar 0) (tCons (tVar 7) (tCons (tVar 10) (tCons (tVar 1) tNil))))) (tCons (tOp rAddI (tVar 1) (tC (.int 3))) tNil)))) tNext))) tNext)
  (tRet (tTup (tCons (tVar 0) (tCons (tVar 1) tNil)))))))))))))
theorem pure_l_step {G : Gx} {vs : List V} {H : Hp} {Q : VK} {E : XK} (h : sp_l_step G vs H Q E) : Body (t_l_step G) ["_law_web_here", "_law_first", "_law_cell_here", "_law_what", "_law_pick", "_law_walk", "_law_ends", "_law_end", "_law_one", "_law_film", "_law_two"] vs H Q := by
  obtain ⟨d, S, nx, f, c, rfl, hd, D, k⟩ := h
  show t_l_step G _ [some (.ref d), some (.int f), some (.int c), none, none, none, none, none, none, none, none] H
  unfold t_l_step
  have W := D.web
  have M := W.map
  have hl : S.length ≤ 100000 := by have := D.len; omega
  have f0 := D.f0
  have hl9 : S.length ≤ 90000 := by have := D.len; omega
  walk_at "go"
  refine ⟨by walk_at "sz", fun p hp => ?_⟩
  walk_at "go"
  refine c_digits3 (by walk_at "sq") (by decide) (by decide) (by decide) (fun d0 d1 d2 q H1 ed a0 b0 a1 b1 a2 b2 s1 hq e1 => ?_)
  refine g_unl (SqL.of e1) rfl ?_
  have s2 : Same H H1 := same_tr s1 (same_new (Same.refl H) hp)
  clear e1 hq ed s1 hp
  walk_at "go"
  intro l hl0
  walk_at "go"
  refine r_sorted (SqL.of upd_same) fun es lr hp1 hp2 hlr => ?_
  have nes : es ≠ [] := fun z => W.ne (by rw [z] at hp1; exact List.nil_perm.mp hp1)
  walk_at "go"
  obtain ⟨y0, hy0, at0⟩ := at_mod nes d1
  have y0S := hp1.subset hy0
  refine r_I (by show (0 : Int) < _; rw [List.length_map]; have := List.length_pos_iff.mpr nes; omega) ?_
  refine r_ixL (SqL.of upd_same) at0 ?_
  have s3 : Same H (upd (upd H1 l (.lst (S.map V.int))) lr (.lst (es.map V.int))) := by walk_at "sm"
  generalize upd (upd H1 l (.lst (S.map V.int))) lr (.lst (es.map V.int)) = H2 at s3 ⊢
  clear hl0 hlr s2
  refine r_cut (fun σ H' => ∃ (o8 : Option V) (e : Int), σ = [some (.ref d), some (.int f), some (.int c), some (.int d0), some (.int d1), some (.int d2), some (.ref lr), some (.int e), o8, none, none] ∧ e ∈ S ∧ Same H H') ?_ ?_
  · walk_at "go"
    refine iteI (fun h => ?_) (fun h => ?_)
    · walk_at "go"
      refine r_minLen ?_
      walk_at "go"
      refine ⟨d, S, nx, rfl, rd_in (s3 d _ hd), M, hl, fun es2 as p2 H3 he2 s4 f4 e4 rf fr nda => ?_⟩
      have ne2 : es2 ≠ [] := fun z => W.ne (by have := he2.perm; rw [z] at this; exact List.nil_perm.mp this)
      have nas : as ≠ [] := fun z => by
        have q1 := rf.len
        obtain ⟨x, r, rfl⟩ := List.exists_cons_of_ne_nil ne2
        rw [z] at q1
        exact rimsG_ne (List.length_eq_zero_iff.mp q1.symm)
      refine r_nil ?_
      refine ⟨p2, as, rfl, SqL.of e4, nas, fun b hb => ?_, fun b hb => ?_⟩
      · obtain ⟨l', _, q⟩ := rf.mem hb
        exact ⟨_, SqL.of q⟩
      · obtain ⟨l', hl', q⟩ := rf.mem hb
        obtain ⟨x, hx, rfl⟩ := rimsG_mem hl'
        have hxS := he2.perm.subset hx
        obtain ⟨y, hy, at1⟩ := at_mod (rimL_ne M.perm hxS) d2
        walk_at "go"
        refine r_I (by show (0 : Int) < _; rw [List.length_map]; have := List.length_pos_iff.mpr (rimL_ne M.perm hxS); omega) ?_
        refine r_ixL (SqL.of q) at1 ?_
        walk_at "go"
        exact ⟨_, _, rfl, rimL_sub M.perm hxS hy, s3.trans s4⟩
    · walk_at "go"
      exact ⟨_, _, rfl, y0S, s3⟩
  rintro σ H3 ⟨o8, e, rfl, heS, s4⟩
  clear s3 hy0 at0 y0S
  have he2 : 2 * (e / 2) ∈ S := by
    rcases ot_or (x := 2 * (e / 2)) (y := e) (by omega) with q | q
    · rw [q]; exact heS
    · rw [q]; exact M.ca e heS
  walk_at "go"
  refine r_cut (fun σ H' => σ = [some (.ref d), some (.int f), some (.int c), some (.int d0), some (.int d1), some (.int d2), some (.ref lr), some (.int e), o8, some (.int (e / 2)), none] ∧ Same H H') ?_ ?_
  · walk_at "go"
    refine ⟨by walk_at "sz", fun t ht => ?_⟩
    walk_at "go"
    refine iteB (fun h => ?_) (fun h => ?_)
    · walk_at "go"
      refine ⟨d, S, nx, e / 2, rfl, rd_in (at_new (s4 d _ hd) ht), he2, M.cn _ he2, fun b H4 hb s5 => ?_⟩
      have s6 : Same H H4 := same_tr s5 (same_new s4 ht)
      walk_at "go"
      refine iteNB (fun hb0 => ?_) (fun hb1 => ?_)
      · have nl : ¬ (nx (2 * (e / 2)) = ot (2 * (e / 2)) ∨ nx (nx (2 * (e / 2))) = ot (2 * (e / 2))) := fun z => by rw [hb.mpr z] at hb0; cases hb0
        walk_at "go"
        refine ⟨d, S, nx, e / 2, _, rfl, rd_in (s6 d _ hd), M, he2, hl9, fun p5 H5 s7 f7 e7 => ?_⟩
        walk_at "go"
        refine ⟨by walk_at "sz", fun t2 ht2 => ?_⟩
        refine k t2 p5 S _ f _ (by walk_at "sm") upd_same (at_new e7 ht2) ⟨?_, D.lt, D.len, f0⟩ (by omega)
        unfold pushB
        split
        · exact pull_web W he2 (fun z => nl (.inl z)) (fun z => nl (.inr z))
        · exact push_web W he2 (fun z => nl (.inl z)) (fun z => nl (.inr z))
      · walk_at "go"
        exact ⟨rfl, s6⟩
    · walk_at "go"
      exact ⟨rfl, same_new s4 ht⟩
  rintro σ H4 ⟨rfl, s5⟩
  refine r_cut (fun σ H' => σ = [some (.ref d), some (.int f), some (.int c), some (.int d0), some (.int d1), some (.int d2), some (.ref lr), some (.int e), o8, some (.int (e / 2)), none] ∧ Same H H') ?_ ?_
  · walk_at "go"
    refine ⟨by walk_at "sz", fun t ht => ?_⟩
    walk_at "go"
    refine iteB (fun h => ?_) (fun h => ?_)
    · walk_at "go"
      refine ⟨d, S, nx, e / 2, rfl, rd_in (at_new (s5 d _ hd) ht), M, he2, hl, fun b H5 hb s6 => ?_⟩
      have s7 : Same H H5 := same_tr s6 (same_new s5 ht)
      walk_at "go"
      refine iteNB (fun hb0 => ?_) (fun hb1 => ?_)
      · have nr : ¬ Rim S nx (2 * (e / 2)) (ot (2 * (e / 2))) := fun z => by rw [hb.mpr z] at hb0; cases hb0
        walk_at "go"
        refine ⟨d, S, nx, e / 2, rfl, s7 d _ hd, W, he2, .inr nr, hl9, fun S5 p5 H6 nd5 m5 s8 f8 e8 => ?_⟩
        walk_at "go"
        refine ⟨by walk_at "sz", fun t2 ht2 => ?_⟩
        have DD : Drawn (wS S nx (2 * (e / 2))) (wN nx (2 * (e / 2))) f := by
          unfold wS wN
          by_cases hlo : Looped nx (2 * (e / 2))
          · rw [if_pos hlo, if_pos hlo]
            have B := burstL_web W he2 hlo
            refine ⟨B.web, fun x hx => ?_, by have := B.len; have := D.len; omega, f0⟩
            unfold burstLS m1S at hx
            have q := (mem_mendS.mp hx).1
            unfold loopS at q
            exact D.lt x (List.mem_filter.mp q).1
          · rw [if_neg hlo, if_neg hlo]
            have B := burst_web W he2 (fun z => hlo (.inl z)) (fun z => hlo (.inr z)) nr
            refine ⟨B.web, fun x hx => ?_, by have := B.len; have := D.len; omega, f0⟩
            unfold burstS m1S at hx
            exact D.lt x (mem_mendS.mp (mem_mendS.mp hx).1).1
        exact k t2 p5 S5 _ f _ (by walk_at "sm") upd_same (at_new e8 ht2) (DD.same nd5 m5) (by omega)
      · walk_at "go"
        exact ⟨rfl, s7⟩
    · walk_at "go"
      exact ⟨rfl, same_new s5 ht⟩
  clear s4 s5
  rintro σ H4 ⟨rfl, s5⟩
  have hd4 := s5 d _ hd
  refine r_cut (fun σ H' => σ = [some (.ref d), some (.int f), some (.int c), some (.int d0), some (.int d1), some (.int d2), some (.ref lr), some (.int e), o8, some (.int (e / 2)), none] ∧ Same H H') ?_ ?_
  · walk_at "go"
    refine iteI (fun h => ?_) (fun h => ?_)
    · walk_at "go"
      refine iteD (fun h => ?_) (fun h => ?_)
      · walk_at "go"
        refine ⟨d, S, nx, e, f, rfl, rd_in hd4, M, heS, D.lt, hl9, fun p5 H6 s8 f8 e8 => ?_⟩
        walk_at "go"
        refine ⟨by walk_at "sz", fun t2 ht2 => ?_⟩
        obtain ⟨B1, B2⟩ := blow_web W heS D.lt (by omega) (by omega)
        refine k t2 p5 _ _ (f + 3) _ (by walk_at "sm") upd_same (at_new e8 ht2) ⟨B1, fun x hx => ?_, by omega, by omega⟩ (by omega)
        rcases mem_blowS.mp hx with q | q
        · have := D.lt x q; omega
        · unfold New6 at q; omega
      · walk_at "go"
        exact ⟨rfl, s5⟩
    · walk_at "go"
      exact ⟨rfl, s5⟩
  clear s5 hd4
  rintro σ H4 ⟨rfl, s5⟩
  have hd4 := s5 d _ hd
  refine r_cut (fun σ H' => ∃ o8 o10, σ = [some (.ref d), some (.int f), some (.int c), some (.int d0), some (.int d1), some (.int d2), some (.ref lr), some (.int e), o8, some (.int (e / 2)), o10] ∧ Same H H') ?_ ?_
  · walk_at "go"
    refine iteI (fun h => ?_) (fun h => ?_)
    · walk_at "go"
      refine iteD (fun h => ?_) (fun h => ?_)
      · walk_at "go"
        refine ⟨d, S, nx, e, rfl, rd_in hd4, M, heS, hl, fun n p5 H6 P s8 f8 e8 => ?_⟩
        rw [← rimL_eq P] at e8
        obtain ⟨y, hy, at1⟩ := at_mod (rimL_ne M.perm heS) d2
        have yS := rimL_sub M.perm heS hy
        walk_at "go"
        refine r_I (by show (0 : Int) < _; rw [List.length_map]; have := List.length_pos_iff.mpr (rimL_ne M.perm heS); omega) ?_
        refine r_ixL (SqL.of e8) at1 ?_
        walk_at "go"
        refine iteNI (fun h => ?_) (fun h => ?_)
        · walk_at "go"
          refine ⟨d, S, nx, e, y, f, rfl, rd_in (s8 d _ hd4), M, heS, yS, fun z => h z.symm, D.lt, hl9, fun S5 p6 H7 nd5 m5 s9 f9 e9 => ?_⟩
          walk_at "go"
          refine ⟨by walk_at "sz", fun t2 ht2 => ?_⟩
          obtain ⟨B1, B2⟩ := part_web W heS yS (fun z => h z.symm) ((rimL_mem M.perm heS).mp hy) D.lt (by omega) (by omega)
          have DD : Drawn (blowS S (2 * f)) (partF nx e y (2 * f)) (f + 3) := ⟨B1, fun x hx => by
            rcases mem_blowS.mp hx with q | q
            · have := D.lt x q; omega
            · unfold New6 at q; omega, by rw [len_blowS]; omega, by omega⟩
          exact k t2 p6 _ _ (f + 3) _ (by walk_at "sm") upd_same (at_new e9 ht2) (DD.same nd5 m5) (by omega)
        · walk_at "go"
          exact ⟨_, _, rfl, s5.trans s8⟩
      · walk_at "go"
        exact ⟨_, _, rfl, s5⟩
    · walk_at "go"
      exact ⟨_, _, rfl, s5⟩
  clear s5 hd4
  rintro σ H4 ⟨o8, o10, rfl, s5⟩
  walk_at "go"
  refine ⟨by walk_at "sz", fun t2 ht2 => ?_⟩
  exact k t2 d S nx f _ (by walk_at "sm") upd_same (at_new (s5 d _ hd) ht2) D (by omega)

/-! Iso: a web with other numbers. -/
structure Iso (S : List Int) (nx : Int → Int) (S' : List Int) (nx' : Int → Int) (g h : Int → Int) : Prop where
  gm : ∀ x ∈ S, g x ∈ S'
  hm : ∀ y ∈ S', h y ∈ S
  hg : ∀ x ∈ S, h (g x) = x
  gh : ∀ y ∈ S', g (h y) = y
  go : ∀ x ∈ S, g (ot x) = ot (g x)
  gn : ∀ x ∈ S, g (nx x) = nx' (g x)
section
variable {S S' : List Int} {nx nx' g h : Int → Int}
theorem Iso.symm (I : Iso S nx S' nx' g h) (M : Map S ot nx) : Iso S' nx' S nx h g :=
  ⟨I.hm, I.gm, I.gh, I.hg, fun y hy => by
    have e := I.go (h y) (I.hm y hy)
    rw [I.gh y hy] at e
    rw [← e, I.hg _ (M.ca _ (I.hm y hy))], fun y hy => by
    have e := I.gn (h y) (I.hm y hy)
    rw [I.gh y hy] at e
    rw [← e, I.hg _ (M.cn _ (I.hm y hy))]⟩
theorem Iso.map (I : Iso S nx S' nx' g h) (M : Map S ot nx) (nd : S'.Nodup) : Map S' ot nx' := by
  have J := I.symm M
  have ca : ∀ y ∈ S', ot y ∈ S' := fun y hy => by
    have e := I.go (h y) (I.hm y hy)
    rw [I.gh y hy] at e
    rw [← e]
    exact I.gm _ (M.ca _ (I.hm y hy))
  have ev : ∀ y ∈ S', nx' y = g (nx (h y)) := fun y hy => by
    have e := I.gn (h y) (I.hm y hy)
    rw [I.gh y hy] at e
    exact e.symm
  have cn : ∀ y ∈ S', nx' y ∈ S' := fun y hy => by
    rw [ev y hy]
    exact I.gm _ (M.cn _ (I.hm y hy))
  refine ⟨nd, ca, cn, fun y _ => ot_ot y, fun y hy => ?_, fun y hy z => ?_⟩
  · have hS := I.hm y hy
    rw [ev y hy, ← I.gn _ (M.cn _ hS), ← I.gn _ (M.cn _ (M.cn _ hS)), M.n3 _ hS, I.gh y hy]
  · rw [ev y hy] at z
    have q := congrArg h z
    rw [I.hg _ (M.cn _ (I.hm y hy))] at q
    exact M.n1 _ (I.hm y hy) q
theorem Iso.face (I : Iso S nx S' nx' g h) (M : Map S ot nx) {x : Int} (hx : x ∈ S) : g (face ot nx x) = face ot nx' (g x) := by
  show g (nx (ot x)) = nx' (ot (g x))
  rw [I.gn _ (M.ca x hx), I.go x hx]
theorem Iso.web (I : Iso S nx S' nx' g h) (W : Web S nx) (nd : S'.Nodup) (pos : ∀ y ∈ S', 0 ≤ y) (len : S'.length = S.length) : Web S' nx' := by
  have M := W.map
  have M' := I.map M nd
  have J := I.symm M
  obtain ⟨n, cl, e6⟩ := W.eul
  refine ⟨M', fun z => ?_, fun x hx y hy => ?_, ⟨n, ?_, by rw [len]; exact e6⟩, pos⟩
  · rw [z] at len
    exact W.ne (List.length_eq_zero_iff.mp len.symm)
  · have c := W.conn _ (I.hm x hx) _ (I.hm y hy)
    have c' : Eqv (cs S' ot nx') (g (h x)) (g (h y)) := Eqv.map (f := g) (fun u v ⟨hu, e⟩ => by
      rcases e with e | e
      · exact .step ⟨I.gm u hu, .inl (by rw [e, I.go u hu])⟩
      · exact .step ⟨I.gm u hu, .inr (by rw [e, I.gn u hu])⟩) c
    rw [I.gh x hx, I.gh y hy] at c'
    exact c'
  · exact cls_maps g h (fun x y ⟨hx, e⟩ => .step ⟨I.gm x hx, by rw [e, I.face M hx]⟩) (fun x y ⟨hx, e⟩ => .step ⟨I.hm x hx, by rw [e, J.face M' hx]⟩) I.gm I.hm (fun x hx => by rw [I.gh x hx]; exact .refl _) (fun x hx => by rw [I.hg x hx]; exact .refl _) cl
theorem Iso.rim (I : Iso S nx S' nx' g h) (M : Map S ot nx) {x y : Int} (e : Rim S nx x y) : Rim S' nx' (g x) (g y) :=
  Eqv.map (f := g) (fun u v ⟨hu, e⟩ => .step ⟨I.gm u hu, by rw [e, I.face M hu]⟩) e
end
/-- a map that keeps to itself on a list, with its way back -/
def backF (g : Int → Int) (S : List Int) : Int → Int := fun y => (S.find? fun x => decide (g x = y)).getD 0
theorem backF_g {g : Int → Int} {S : List Int} (inj : ∀ x ∈ S, ∀ y ∈ S, g x = g y → x = y) {x : Int} (hx : x ∈ S) : backF g S (g x) = x := by
  unfold backF
  cases e : S.find? fun z => decide (g z = g x) with
  | none => exact absurd (List.find?_eq_none.mp e x hx) (by simp)
  | some z =>
    have h1 := List.mem_of_find?_eq_some e
    have h2 := List.find?_some e
    exact inj z h1 x hx (of_decide_eq_true h2)
def isoN (g : Int → Int) (S : List Int) (nx : Int → Int) : Int → Int := fun y => g (nx (backF g S y))
theorem iso_mk {g : Int → Int} {S : List Int} {nx : Int → Int} (M : Map S ot nx) (inj : ∀ x ∈ S, ∀ y ∈ S, g x = g y → x = y) (go : ∀ x ∈ S, g (ot x) = ot (g x)) : Iso S nx (S.map g) (isoN g S nx) g (backF g S) :=
  ⟨fun x hx => List.mem_map.mpr ⟨x, hx, rfl⟩, fun y hy => by
    obtain ⟨x, hx, rfl⟩ := List.mem_map.mp hy
    rw [backF_g inj hx]; exact hx, fun x hx => backF_g inj hx, fun y hy => by
    obtain ⟨x, hx, rfl⟩ := List.mem_map.mp hy
    rw [backF_g inj hx], go, fun x hx => by unfold isoN; rw [backF_g inj hx]⟩
theorem nd_map {g : Int → Int} : ∀ {S : List Int}, S.Nodup → (∀ x ∈ S, ∀ y ∈ S, g x = g y → x = y) → (S.map g).Nodup
  | [], _, _ => .nil
  | x :: r, h, inj => by
    obtain ⟨h1, h2⟩ := List.pairwise_cons.mp h
    rw [List.map_cons]
    refine List.Pairwise.cons (fun y hy z => ?_) (nd_map h2 fun a ha b hb => inj a (List.mem_cons_of_mem _ ha) b (List.mem_cons_of_mem _ hb))
    obtain ⟨w, hw, rfl⟩ := List.mem_map.mp hy
    exact h1 w hw (inj x List.mem_cons_self w (List.mem_cons_of_mem _ hw) z)
/-! ### the product by a prime -/
theorem p_prime : ∀ d : Nat, 2 ≤ d → d < 498989 → 498989 % d ≠ 0 := by
  have h : ∀ d, d < 707 → 2 ≤ d → 498989 % d ≠ 0 := by
    have : (List.range 707).all (fun d => decide (d < 2) || decide (498989 % d ≠ 0)) = true := by decide +kernel
    intro d hd h2
    have q := List.all_eq_true.mp this d (List.mem_range.mpr hd)
    simp only [Bool.or_eq_true, decide_eq_true_eq] at q
    rcases q with q | q
    · omega
    · exact q
  intro d h2 hd hz
  rcases Nat.lt_or_ge d 707 with q | q
  · exact h d q h2 hz
  · obtain ⟨c, hc⟩ := Nat.dvd_of_mod_eq_zero hz
    have hc0 : c ≠ 0 := fun z => by rw [z, Nat.mul_zero] at hc; cases hc
    have hc1 : c ≠ 1 := fun z => by rw [z, Nat.mul_one] at hc; omega
    have hcl : c < 707 := by
      rcases Nat.lt_or_ge c 707 with w | w
      · exact w
      · have : 707 * 707 ≤ d * c := Nat.mul_le_mul q w
        omega
    exact h c hcl (by omega) (by rw [hc]; exact Nat.mul_mod_left d c)
theorem p_cop {b : Nat} (h0 : 0 < b) (h1 : b < 498989) : Nat.Coprime b 498989 := by
  have g1 := Nat.gcd_dvd_left b 498989
  have g2 := Nat.gcd_dvd_right b 498989
  have gl := Nat.le_of_dvd h0 g1
  have gp := Nat.gcd_pos_of_pos_left 498989 h0
  show Nat.gcd b 498989 = 1
  rcases Nat.lt_or_ge (Nat.gcd b 498989) 2 with q | q
  · omega
  · exact absurd (Nat.mod_eq_zero_of_dvd g2) (p_prime _ q (by omega))
theorem mul_inj {b x y : Nat} (h0 : 0 < b) (h1 : b < 498989) (hx : x < 498989) (hy : y < 498989) (hxy : x ≤ y) (e : x * b % 498989 = y * b % 498989) : x = y := by
  have d : 498989 ∣ (y - x) * b := by
    rw [Nat.sub_mul]
    exact Nat.dvd_of_mod_eq_zero (Nat.sub_mod_eq_zero_of_mod_eq e.symm)
  have d2 := (p_cop h0 h1).symm.dvd_of_dvd_mul_right d
  rcases Nat.eq_zero_or_pos (y - x) with q | q
  · omega
  · have := Nat.le_of_dvd q d2
    omega
def newF (b f : Int) : Int := f * b % 498989
def newE (b t x : Int) : Int := 2 * newF b (x / 2) + (x + (newF b (x / 2) + t) / 2 % 2) % 2
theorem newF_inj {b f f' : Int} (h0 : 0 < b) (h1 : b < 498989) (f0 : 0 ≤ f) (f1 : f < 498989) (g0 : 0 ≤ f') (g1 : f' < 498989) (e : newF b f = newF b f') : f = f' := by
  obtain ⟨b, rfl⟩ := Int.eq_ofNat_of_zero_le (Int.le_of_lt h0)
  obtain ⟨f, rfl⟩ := Int.eq_ofNat_of_zero_le f0
  obtain ⟨f', rfl⟩ := Int.eq_ofNat_of_zero_le g0
  unfold newF at e
  have e' : f * b % 498989 = f' * b % 498989 := by
    refine Int.ofNat.inj ?_
    show ((f * b % 498989 : Nat) : Int) = ((f' * b % 498989 : Nat) : Int)
    rw [Int.natCast_emod, Int.natCast_emod, Int.natCast_mul, Int.natCast_mul]
    exact e
  rcases Nat.le_total f f' with q | q
  · rw [mul_inj (by omega) (by omega) (by omega) (by omega) q e']
  · rw [mul_inj (by omega) (by omega) (by omega) (by omega) q e'.symm]
theorem newE_div {b t x : Int} : newE b t x / 2 = newF b (x / 2) := by unfold newE; omega
theorem newE_ot {b t x : Int} : newE b t (ot x) = ot (newE b t x) := by
  unfold newE ot
  split
  · rename_i h
    rw [show (x + 1) / 2 = x / 2 by omega]
    generalize newF b (x / 2) = n
    split <;> omega
  · rename_i h
    rw [show (x - 1) / 2 = x / 2 by omega]
    generalize newF b (x / 2) = n
    split <;> omega
theorem newE_b {b t x : Int} : 0 ≤ newE b t x ∧ newE b t x < 997978 := by
  unfold newE newF
  omega
theorem newE_inj {b t x y : Int} (h0 : 0 < b) (h1 : b < 498989) (x0 : 0 ≤ x) (x1 : x < 997978) (y0 : 0 ≤ y) (y1 : y < 997978) (e : newE b t x = newE b t y) : x = y := by
  have q := congrArg (· / 2) e
  simp only [newE_div] at q
  have r := newF_inj h0 h1 (by omega) (by omega) (by omega) (by omega) q
  unfold newE at e
  rw [r] at e
  omega

local macro_rules | `(tactic| walk_at "st") => `(tactic| first
  | with_reducible refine r_sl ?_
  | with_reducible refine r_noPart ?_
  | with_reducible refine r_part ?_
  | with_reducible refine r_partI ?_
  | with_reducible refine r_revS ?_
  | ((with_reducible refine r_rev (ns := ?ns) ?hs ?_); (case hs => walk_at "sq"))
  | ((with_reducible refine r_slL (ns := ?ns) ?hs ?_); (case hs => walk_at "sq")))
/-! Wl: drawn webs. -/
def sp_l_web (G : Gx) : Sp := fun vs H Q _ => ∃ (a : Addr) (ns : List Int) (m : Int), vs = [.ref a, .int m] ∧ SqL G.K H a (ns.map V.int) ∧ ns.length ≤ 63 ∧
  ∀ (p : Addr) (S : List Int) (nx : Int → Int) (f : Int) H', Same H H' → H' p = some (dW S nx) → Drawn S nx f → f ≤ 300 → Q (.ref p) H'
theorem len_l_web {G : Gx} : ∀ vs H Q E, sp_l_web G vs H Q E → vs.length = 2 := by rintro vs H Q E ⟨d, S, nx, rfl, _⟩; rfl
/-! _law_web: slots _law_script, _law_most, _law_rows, _law_cols, _law_big, _law_web_here, _law_first, _law_cell_here -/
def t_l_web (G : Gx) : TS :=
  (tSeq (tAsg (tCall (sp_l_digits G) [] E0 (tCons (tCall (sp_l_cell G) [] E0 (tCons (tVar 0) (tCons (tC (.int 0)) tNil))) (tCons (tLst (tCons (tC (.int 3)) (tCons (tC (.int 4)) (tCons (tC (.int 11)) tNil)))) tNil))) (gUnl G.K 3 (gCons (gName 2) (gCons (gName 3) (gCons (gName 4) gNil)))))
  (tSeq (tPar 2 3 (tCons (tOp rAddI (tVar 2) (tC (.int 1))) (tCons (tOp rAddI (tVar 3) (tC (.int 1))) tNil)))
  (tCut (tIfS (tTest (tOp rEq (tVar 4) (tC (.int 0)))) (tAsg (tTup (tCons (tC (.int 6)) (tCons (tC (.int 6)) tNil))) (gTup G.K 2 (gCons (gName 2) (gCons (gName 3) gNil)))) tNext)
  (tSeq (tAsg (tCall (sp_l_comb G) [] E0 (tCons (tVar 2) (tCons (tVar 3) tNil))) (gName 5))
  (tSeq (tAsg (tOp rMulI (tOp rMulI (tC (.int 3)) (tVar 2)) (tVar 3)) (gName 6))
  (tSeq (tFor (iList G.K (tSl (rSlL G.K) (tVar 0) (tPart (tC (.int 1))) (tPart (tOp rAddI (tC (.int 1)) (tVar 1))))) (gName 7)
  (tAsg (tCall (sp_l_step G) [] E0 (tCons (tVar 5) (tCons (tVar 6) (tCons (tVar 7) tNil)))) (gTup G.K 2 (gCons (gName 5) (gCons (gName 6) gNil)))))
  (tRet (tVar 5))))))))
theorem pure_l_web {G : Gx} {vs : List V} {H : Hp} {Q : VK} {E : XK} (h : sp_l_web G vs H Q E) : Body (t_l_web G) ["_law_script", "_law_most", "_law_rows", "_law_cols", "_law_big", "_law_web_here", "_law_first", "_law_cell_here"] vs H Q := by
  obtain ⟨a, ns, m, rfl, hS, hl, k⟩ := h
  show t_l_web G _ [some (.ref a), some (.int m), none, none, none, none, none, none] H
  unfold t_l_web
  walk_at "go"
  refine ⟨by walk_at "sz", fun p hp => ?_⟩
  walk_at "go"
  refine c_digits3 (by walk_at "sq") (by decide) (by decide) (by decide) (fun d0 d1 d2 q H1 ed a0 b0 a1 b1 a2 b2 s1 hq e1 => ?_)
  refine g_unl (SqL.of e1) rfl ?_
  have s2 : Same H H1 := same_tr s1 (same_new (Same.refl H) hp)
  clear e1 hq ed s1 hp
  walk_at "go"
  refine r_cut (fun σ H' => ∃ (r c : Int) (o4 : Option V), σ = [some (.ref a), some (.int m), some (.int r), some (.int c), o4, none, none, none] ∧ 0 < r ∧ r ≤ 6 ∧ 0 < c ∧ c ≤ 6 ∧ Same H1 H') ?_ ?_
  · walk_at "go"
    refine iteI (fun h => ?_) (fun h => ?_)
    · walk_at "go"
      refine ⟨by walk_at "sz", fun p6 h6 => ?_⟩
      refine g_tup (SqT.of upd_same) rfl ?_
      walk_at "go"
      exact ⟨6, 6, _, rfl, by decide, by decide, by decide, by decide, same_new (Same.refl _) h6⟩
    · walk_at "go"
      exact ⟨_, _, _, rfl, by omega, by omega, by omega, by omega, Same.refl _⟩
  rintro σ H2 ⟨r, c, o4, rfl, r0, r1, c0, c1, s12⟩
  replace s2 := s2.trans s12
  have rc36 : r * c ≤ 36 := by
    have : r * c ≤ 6 * c := Int.mul_le_mul_of_nonneg_right r1 (by omega)
    omega
  walk_at "go"
  refine ⟨r, c, rfl, r0, by omega, c0, by omega, by omega, fun p H3 s3 f3 e3 => ?_⟩
  have s4 : Same H H3 := s2.trans s3
  have C := comb_rc r0 c0
  have W0 := C.web
  walk_at "go"
  intro lp hlp
  have len0 := C.len
  have rc0 : 0 < r * c := Int.mul_pos r0 c0
  have D0 : Drawn (cS r c) (cN r c) (3 * r * c) := ⟨W0, fun x hx => by
    have := (C.mem x).mp hx
    rw [Int.mul_assoc]; omega, by omega, by rw [Int.mul_assoc]; omega⟩
  generalize hcs : cutI ns (some 1) (some (1 + m)) = cs
  have lcs : cs.length ≤ 63 := by rw [← hcs]; exact Nat.le_trans cutI_sub hl
  refine r_forI (SqL.of upd_same) (fun pre post σ H' => ∃ (p : Addr) (S : List Int) (nx : Int → Int) (f : Int) (o7 : Option V), σ = [some (.ref a), some (.int m), some (.int r), some (.int c), o4, some (.ref p), some (.int f), o7] ∧ Same H H' ∧ H' lp = some (.lst (cs.map V.int)) ∧ H' p = some (dW S nx) ∧ Drawn S nx f ∧ f ≤ 108 + 3 * (pre.length : Int))
    ⟨p, _, _, _, _, rfl, same_new s4 hlp, upd_same, at_new e3 hlp, D0, by rw [Int.mul_assoc]; simp only [List.length_nil]; omega⟩ (fun pre post σ H' _ ⟨_, _, _, _, _, _, _, e, _⟩ => SqL.of e) ?_ ?_
  · rintro pre x post σ H4 ex ⟨p, S, nx, f, o7, rfl, s5, e5, e6, D, fb⟩
    walk_at "go"
    refine ⟨p, S, nx, f, x, rfl, e6, D, fun t p2 S2 nx2 f2 H5 s6 e7 e8 D2 fb2 => ?_⟩
    refine g_tup (SqT.of e7) rfl ?_
    walk_at "go"
    exact ⟨p2, S2, nx2, f2, _, rfl, s5.trans s6, s6 _ _ e5, e8, D2, by rw [List.length_append, List.length_singleton]; omega⟩
  · rintro σ H4 ⟨p, S, nx, f, o7, rfl, s5, e5, e6, D, fb⟩
    walk_at "go"
    exact k p S nx f H4 s5 e6 D (by omega)
/-! ### renumbered -/
def sp_l_renumbered (G : Gx) : Sp := fun vs H Q _ => ∃ (d : Addr) (S : List Int) (nx : Int → Int) (c : Int), vs = [.ref d, .int c] ∧ H d = some (dW S nx) ∧ Web S nx ∧ (∀ x ∈ S, x < 900000) ∧ S.length ≤ 345 ∧
  ∀ (p : Addr) (S' : List Int) (nx' : Int → Int) H', Same H H' → H' p = some (dW S' nx') → Web S' nx' → (∀ x ∈ S', x < 1000000) → S'.length ≤ 345 → Q (.ref p) H'
theorem len_l_renumbered {G : Gx} : ∀ vs H Q E, sp_l_renumbered G vs H Q E → vs.length = 2 := by rintro vs H Q E ⟨d, S, nx, c, rfl, _⟩; rfl
/-! _law_renumbered: slots _law_web_here, _law_cell_here, _law_kind, _law_by, _law_turn, _law_goal, _law_end, _law_new, _law_made -/
def t_l_renumbered (G : Gx) : TS :=
  (tSeq (tAsg (tCall (sp_l_digits G) [] E0 (tCons (tVar 1) (tCons (tLst (tCons (tC (.int 3)) (tCons (tC (.int 498988)) (tCons (tC (.int 5)) tNil)))) tNil))) (gUnl G.K 3 (gCons (gName 2) (gCons (gName 3) (gCons (gName 4) gNil)))))
  (tSeq (tIfS (tTest (tOp rEq (tVar 2) (tC (.int 0)))) (tRet (tVar 0)) tNext)
  (tSeq (tAsg tDNewK (gName 5))
  (tSeq (tLock (tFor (iKeys (tVar 0)) (gName 6)
  (tSeq (tAsg (tOp rModI (tOp rMulI (tOp rDivW (tVar 6) (tC (.int 2))) (tOp rAddI (tVar 3) (tC (.int 1)))) (tC (.int 498989))) (gName 7))
  (sDPut (tVar 5) (tVar 6) (tOp rAddI (tOp rMulI (tC (.int 2)) (tVar 7)) (tOp rModI (tOp rAddI (tVar 6) (tOp rModI (tOp rDivW (tOp rAddI (tVar 7) (tVar 4)) (tC (.int 2))) (tC (.int 2)))) (tC (.int 2))))))))
  (tSeq (tAsg tDNewK (gName 8))
  (tSeq (tLock (tFor (iKeys (tVar 0)) (gName 6)
  (sDPut (tVar 8) (tDGet (tVar 5) (tVar 6)) (tDGet (tVar 5) (tDGet (tVar 0) (tVar 6))))))
  (tRet (tVar 8))))))))
theorem pure_l_renumbered {G : Gx} {vs : List V} {H : Hp} {Q : VK} {E : XK} (h : sp_l_renumbered G vs H Q E) : Body (t_l_renumbered G) ["_law_web_here", "_law_cell_here", "_law_kind", "_law_by", "_law_turn", "_law_goal", "_law_end", "_law_new", "_law_made"] vs H Q := by
  obtain ⟨d, S, nx, c, rfl, hd, W, hlt, hl, k⟩ := h
  show t_l_renumbered G _ [some (.ref d), some (.int c), none, none, none, none, none, none, none] H
  unfold t_l_renumbered
  have M := W.map
  walk_at "go"
  refine ⟨by walk_at "sz", fun p hp => ?_⟩
  walk_at "go"
  refine c_digits3 (by walk_at "sq") (by decide) (by decide) (by decide) (fun d0 d1 d2 q H1 ed a0 b0 a1 b1 a2 b2 s1 hq e1 => ?_)
  refine g_unl (SqL.of e1) rfl ?_
  have s2 : Same H H1 := same_tr s1 (same_new (Same.refl H) hp)
  clear e1 hq ed s1 hp
  walk_at "go"
  refine iteI (fun h => ?_) (fun h => ?_)
  · walk_at "go"
    exact k d S nx H1 s2 (s2 d _ hd) W (fun x hx => by have := hlt x hx; omega) hl
  walk_at "go"
  refine r_dnew (f := fun x => .int (newE (d1 + 1) d2 x)) fun g hg => ?_
  have hd1 := s2 d _ hd
  have hg0 : Free H g := s2.free hg
  have ngd : g ≠ d := fun z => by rw [z] at hg; unfold Free at hg; rw [hd1] at hg; cases hg
  have s3 : Same H (upd H1 g (dW [] (newE (d1 + 1) d2))) := same_new s2 hg
  have e1 : upd H1 g (dW [] (newE (d1 + 1) d2)) g = some (dW [] (newE (d1 + 1) d2)) := upd_same
  generalize upd H1 g (dW [] (newE (d1 + 1) d2)) = H2 at s3 e1 ⊢
  clear s2 hg hd1
  have hd2 := s3 d _ hd
  walk_at "go"
  refine r_forK hd2 (fun _ _ q => ⟨_, rfl, q⟩) (fun pre post σ H' => ∃ (o6 o7 : Option V), σ = [some (.ref d), some (.int c), some (.int d0), some (.int d1), some (.int d2), some (.ref g), o6, o7, none] ∧ SameX d H H' ∧ H' g = some (dW pre (newE (d1 + 1) d2))) (fun od => ⟨_, _, rfl, sx_lockS s3, at_ne e1 ngd⟩) ?_ ?_
  · rintro od pre x post σ H3 eS hl3 ⟨o6, o7, rfl, sx, e3⟩
    have hx : x ∈ S := by rw [eS]; exact List.mem_append.mpr (.inr List.mem_cons_self)
    have nxp : x ∉ pre := fun z => by
      have nd := M.nd
      rw [eS] at nd
      exact (List.nodup_append.mp nd).2.2 x z x List.mem_cons_self rfl
    have lpre : pre.length ≤ 345 := by
      have q := congrArg List.length eS
      rw [List.length_append] at q
      omega
    walk_at "go"
    rw [putS_out nxp, fset_id (show newE (d1 + 1) d2 x = 2 * (x / 2 * (d1 + 1) % 498989) + (x + (x / 2 * (d1 + 1) % 498989 + d2) / 2 % 2) % 2 from rfl)]
    exact ⟨at_ne hl3 (Ne.symm ngd), _, _, rfl, sx_mut sx hg0, upd_same⟩
  · rintro σ H3 ⟨o6, o7, rfl, sx, e3⟩
    have s4 := sx_end hd sx
    have e4 : upd H3 d (dW S nx) g = some (dW S (newE (d1 + 1) d2)) := at_ne e3 ngd
    generalize upd H3 d (dW S nx) = H4 at s4 e4 ⊢
    clear sx e3 s3 e1 hd2
    have inj : ∀ x ∈ S, ∀ y ∈ S, newE (d1 + 1) d2 x = newE (d1 + 1) d2 y → x = y := fun x hx y hy e => newE_inj (by omega) (by omega) (W.pos x hx) (by have := hlt x hx; omega) (W.pos y hy) (by have := hlt y hy; omega) e
    have I := iso_mk M inj (fun x _ => newE_ot)
    walk_at "go"
    refine r_dnew (f := fun x => .int (isoN (newE (d1 + 1) d2) S nx x)) fun m hm => ?_
    have hd4 := s4 d _ hd
    have hm0 : Free H m := s4.free hm
    have nmd : m ≠ d := fun z => by rw [z] at hm; unfold Free at hm; rw [hd4] at hm; cases hm
    have nmg : m ≠ g := fun z => by rw [z] at hm; unfold Free at hm; rw [e4] at hm; cases hm
    have s5 : Same H (upd H4 m (dW [] (isoN (newE (d1 + 1) d2) S nx))) := same_new s4 hm
    have e5 : upd H4 m (dW [] (isoN (newE (d1 + 1) d2) S nx)) m = some (dW [] (isoN (newE (d1 + 1) d2) S nx)) := upd_same
    have e6 : upd H4 m (dW [] (isoN (newE (d1 + 1) d2) S nx)) g = some (dW S (newE (d1 + 1) d2)) := at_new e4 hm
    generalize upd H4 m (dW [] (isoN (newE (d1 + 1) d2) S nx)) = H5 at s5 e5 e6 ⊢
    clear s4 hm e4 hd4
    have hd5 := s5 d _ hd
    walk_at "go"
    refine r_forK hd5 (fun _ _ q => ⟨_, rfl, q⟩) (fun pre post σ H' => ∃ (o6 : Option V), σ = [some (.ref d), some (.int c), some (.int d0), some (.int d1), some (.int d2), some (.ref g), o6, o7, some (.ref m)] ∧ SameX d H H' ∧ H' g = some (dW S (newE (d1 + 1) d2)) ∧ H' m = some (dW (pre.map (newE (d1 + 1) d2)) (isoN (newE (d1 + 1) d2) S nx))) (fun od => ⟨_, rfl, sx_lockS s5, at_ne e6 ngd, at_ne e5 nmd⟩) ?_ ?_
    · rintro od pre x post σ H6 eS hl6 ⟨o6, rfl, sx, e7, e8⟩
      have hx : x ∈ S := by rw [eS]; exact List.mem_append.mpr (.inr List.mem_cons_self)
      have hnx := M.cn x hx
      have hpre : ∀ y ∈ pre, y ∈ S := fun y hy => by rw [eS]; exact List.mem_append.mpr (.inl hy)
      have nxp : newE (d1 + 1) d2 x ∉ pre.map (newE (d1 + 1) d2) := fun z => by
        obtain ⟨y, hy, e⟩ := List.mem_map.mp z
        have nd := M.nd
        rw [eS] at nd
        exact (List.nodup_append.mp nd).2.2 y hy x List.mem_cons_self (inj y (hpre y hy) x hx e)
      have lpre : (pre.map (newE (d1 + 1) d2)).length < sizeLine := by
        have q := congrArg List.length eS
        rw [List.length_append] at q
        rw [List.length_map]
        exact size1000l (by omega)
      walk_at "go"
      refine r_dputW e8 lpre ?_
      rw [putS_out nxp, fset_id (show isoN (newE (d1 + 1) d2) S nx (newE (d1 + 1) d2 x) = newE (d1 + 1) d2 (nx x) by unfold isoN; rw [backF_g inj hx])]
      exact ⟨at_ne hl6 (Ne.symm nmd), _, rfl, sx_mut sx hm0, at_ne e7 (Ne.symm nmg), by rw [List.map_append]; exact upd_same⟩
    · rintro σ H6 ⟨o6, rfl, sx, e7, e8⟩
      have s6 := sx_end hd sx
      have e9 : upd H6 d (dW S nx) m = some (dW (S.map (newE (d1 + 1) d2)) (isoN (newE (d1 + 1) d2) S nx)) := at_ne e8 nmd
      generalize upd H6 d (dW S nx) = H7 at s6 e9 ⊢
      walk_at "go"
      have pos : ∀ y ∈ S.map (newE (d1 + 1) d2), 0 ≤ y ∧ y < 997978 := fun y hy => by
        obtain ⟨x, _, rfl⟩ := List.mem_map.mp hy
        exact newE_b
      exact k m _ _ H7 s6 e9 (I.web W (nd_map M.nd inj) (fun y hy => (pos y hy).1) (List.length_map _)) (fun y hy => by have := (pos y hy).2; omega) (by rw [List.length_map]; exact hl)
/-! ### drawn -/
def sp_l_drawn_web (G : Gx) : Sp := fun vs H Q _ => ∃ (a : Addr) (ns : List Int) (m : Int), vs = [.ref a, .int m] ∧ 0 ≤ m ∧ SqL G.K H a (ns.map V.int) ∧ ns.length ≤ 63 ∧
  ∀ (p : Addr) (S : List Int) (nx : Int → Int) H', Same H H' → H' p = some (dW S nx) → Web S nx → (∀ x ∈ S, x < 1000000) → S.length ≤ 345 → Q (.ref p) H'
theorem len_l_drawn_web {G : Gx} : ∀ vs H Q E, sp_l_drawn_web G vs H Q E → vs.length = 2 := by rintro vs H Q E ⟨d, S, nx, rfl, _⟩; rfl
/-! _law_drawn_web: slots _law_script, _law_most -/
def t_l_drawn_web (G : Gx) : TS :=
  (tRet (tCall (sp_l_renumbered G) [] E0 (tCons (tCall (sp_l_web G) [] E0 (tCons (tVar 0) (tCons (tVar 1) tNil))) (tCons (tCall (sp_l_cell G) [] E0 (tCons (tVar 0) (tCons (tOp rAddI (tVar 1) (tC (.int 1))) tNil))) tNil))))
theorem pure_l_drawn_web {G : Gx} {vs : List V} {H : Hp} {Q : VK} {E : XK} (h : sp_l_drawn_web G vs H Q E) : Body (t_l_drawn_web G) ["_law_script", "_law_most"] vs H Q := by
  obtain ⟨a, ns, m, rfl, m0, hS, hl, k⟩ := h
  show t_l_drawn_web G _ [some (.ref a), some (.int m)] H
  unfold t_l_drawn_web
  walk_at "go"
  refine ⟨a, ns, m, rfl, hS, hl, fun p S nx f H1 s1 e1 D fb => ?_⟩
  walk_at "go"
  exact ⟨p, S, nx, _, rfl, e1, D.web, fun x hx => by have := D.lt x hx; omega, D.len, fun p2 S2 nx2 H2 s2 e2 W2 h2 l2 => k p2 S2 nx2 H2 (s1.trans s2) e2 W2 h2 l2⟩

/-! Wm: corners. -/
inductive RefO (H : Hp) : List Addr → List HO → Prop
  | nil : RefO H [] []
  | cons {a : Addr} {o : HO} {as : List Addr} {os : List HO} (h : H a = some o) (r : RefO H as os) : RefO H (a :: as) (o :: os)
section
variable {H H' : Hp} {as : List Addr} {os : List HO} {p : Addr} {o : HO}
theorem RefO.imp (h : RefO H as os) (k : ∀ a ∈ as, ∀ u, H a = some u → H' a = some u) : RefO H' as os := by
  induction h with
  | nil => exact .nil
  | cons h r ih => exact .cons (k _ List.mem_cons_self _ h) (ih fun a ha => k a (List.mem_cons_of_mem _ ha))
theorem RefO.same (h : RefO H as os) (s : Same H H') : RefO H' as os := h.imp fun a _ u e => s a u e
theorem RefO.upd (h : RefO H as os) (k : ∀ a ∈ as, a ≠ p) : RefO (upd H p o) as os := h.imp fun a ha u e => at_ne e (k a ha)
theorem RefO.len (h : RefO H as os) : as.length = os.length := by
  induction h with
  | nil => rfl
  | cons h r ih => rw [List.length_cons, List.length_cons, ih]
theorem RefO.snoc {a : Addr} (h : RefO H as os) (e : H a = some o) : RefO H (as ++ [a]) (os ++ [o]) := by
  induction h with
  | nil => exact .cons e .nil
  | cons h r ih => exact .cons h ih
theorem RefO.get (h : RefO H as os) {i : Nat} {a : Addr} (e : as[i]? = some a) : ∃ o, os[i]? = some o ∧ H a = some o := by
  induction h generalizing i with
  | nil => cases e
  | cons h r ih =>
    cases i with
    | zero => cases e; exact ⟨_, rfl, h⟩
    | succ i => exact ih e
end
theorem Refs.toO {H : Hp} {as : List Addr} {ls : List (List Int)} (h : Refs H as ls) : RefO H as (ls.map fun l => .lst (l.map V.int)) := by
  induction h with
  | nil => exact .nil
  | cons h r ih => exact .cons h ih
/-! ### a comprehension over two lists of refs, side by side, each turn a True -/
theorem r_yes {σ : St} {H : Hp} {R : Bool → Hp → Prop} (h : R true H) : tYes σ H R := h
theorem r_lcZ {K : PySem.W.Frag} {H : Hp} {Q : VK} {σ : St} {a b : Addr} {ta : TA} {te : TE} {i j : Nat} {xs ys : List V} {τ : V → V → St} (ha : SqL K H a xs) (hb : SqL K H b ys) (hl : xs.length = ys.length) (hn : xs.length < sizeLine) (ht : ∀ R : List V → Hp → Prop, R [.ref a, .ref b] H → ta σ H R)
    (hτ : ∀ x y, ((wipe σ [i, j]).set i (some x)).set j (some y) = τ x y ∧ wipe (τ x y) [i, j] = wipe σ [i, j])
    (h2 : ∀ (k : Nat) x y, xs[k]? = some x → ys[k]? = some y → ∀ H', Same H H' → ∀ Q : VK, (∀ H'', Same H' H'' → Q (.bl true) H'') → te (τ x y) H' Q)
    (h : ∀ D H', Same H H' → Free H D → H' D = some (.lst ((List.replicate xs.length true).map V.bl)) → Q (.ref D) H') : tLc (iZip K ta) (gTup K 2 (gCons (gName i) (gCons (gName j) gNil))) tYes te [i, j] σ H Q := by
  refine ht _ ⟨a, b, xs, ys, rfl, ha, hb, fun D hD => ?_⟩
  refine lc_it (walk_zip (xs := xs) (ys := ys) (n := xs.length) (by omega)) (fun k H' => Same H H' ∧ H' D = some (.lst ((List.replicate k true).map V.bl))) ⟨same_new (Same.refl H) hD, upd_same⟩ (fun k H' _ q => ⟨lst_same q.1 ha, lst_same q.1 hb⟩) (fun k v H1 H2 hk q y => ?_) (fun H' q => h D H' q.1 hD q.2)
  obtain ⟨s1, e1⟩ := q
  obtain ⟨T, x, y, rfl, hT, rfl, hx, hy⟩ := y
  have hT' : Free H1 T := hT
  refine g_tup (SqT.of upd_same) rfl ?_
  refine g_cons (g_name (g_cons (g_name (g_nil ?_))))
  rw [(hτ x y).1]
  refine ⟨(hτ x y).2, ?_⟩
  refine r_yes ?_
  rw [if_pos rfl]
  refine h2 k x y hx hy _ (same_new s1 hT') _ fun H3 s3 => ?_
  have nDT : D ≠ T := ne_fresh e1 hT'
  refine ⟨_, s3 D _ (at_ne e1 nDT), ?_, same_mut ((same_new s1 hT').trans s3) hD, ?_⟩
  · rw [List.length_map, List.length_replicate]
    exact Nat.lt_trans hk hn
  · rw [List.replicate_succ', List.map_append]
    exact upd_same
theorem rep_all (n : Nat) : (List.replicate n true).all id = true := by
  induction n with
  | zero => rfl
  | succ n ih => rw [List.replicate_succ, List.all_cons, ih]; rfl
/-! ### other -/
def sp_p_other (G : Gx) : Sp := sp_l_other G
theorem len_p_other {G : Gx} : ∀ vs H Q E, sp_p_other G vs H Q E → vs.length = 1 := len_l_other
/-! other: slots end -/
def t_p_other (G : Gx) : TS :=
  (tRet (tOp rSubI (tOp rAddI (tVar 0) (tC (.int 1))) (tOp rMulI (tC (.int 2)) (tOp rModI (tVar 0) (tC (.int 2))))))
theorem pure_p_other {G : Gx} {vs : List V} {H : Hp} {Q : VK} {E : XK} (h : sp_p_other G vs H Q E) : Body (t_p_other G) ["end"] vs H Q := by
  obtain ⟨e, rfl, k⟩ := h
  show t_p_other G _ [some (.int e)] H
  unfold t_p_other
  walk_at "go"
  rw [show e + 1 - 2 * (e % 2) = ot e by unfold ot; split <;> omega]
  exact k
theorem c_otherP {G : Gx} {e : Int} {H : Hp} {Q : VK} {E : XK} (h : Q (.int (ot e)) H) : sp_p_other G [.int e] H Q E := ⟨e, rfl, h⟩
local macro_rules | `(tactic| walk_at "st") => `(tactic| first
  | with_reducible refine c_otherP ?_
  | with_reducible refine r_raise ?_
  | with_reducible refine r_callS ?_)
/-! ### corner -/
def tup3 (nx : Int → Int) (e : Int) : HO := .tup [.int e, .int (nx e), .int (nx (nx e))]
def sp_p_corner (G : Gx) : Sp := fun vs H Q E => ∃ (d : Addr) (S : List Int) (nx : Int → Int) (e : Int), vs = [.ref d, .int e] ∧ Rd H d (dW S nx) ∧ (∀ x ∈ S, nx x ∈ S) ∧ (e ∈ S → ∀ t, Free H t → Q (.ref t) (upd H t (tup3 nx e))) ∧ (e ∉ S → E (.ref (G.ad "NoEnd")) none H)
theorem len_p_corner {G : Gx} : ∀ vs H Q E, sp_p_corner G vs H Q E → vs.length = 2 := by rintro vs H Q E ⟨d, S, nx, e, rfl, _⟩; rfl
/-! corner: slots web, end -/
def t_p_corner (G : Gx) (E : XK) : TS :=
  (tSeq (tIfS (tB (tDNotIn (tVar 1) (tVar 0))) (tRaise E (G.ad "NoEnd")) tNext)
  (tRet (tTup (tCons (tVar 1) (tCons (tDGet (tVar 0) (tVar 1)) (tCons (tDGet (tVar 0) (tDGet (tVar 0) (tVar 1))) tNil))))))
theorem pure_p_corner {G : Gx} {vs : List V} {H : Hp} {Q : VK} {E : XK} (h : sp_p_corner G vs H Q E) : Body (t_p_corner G E) ["web", "end"] vs H Q := by
  obtain ⟨d, S, nx, e, rfl, hd, cn, k1, k2⟩ := h
  show t_p_corner G E _ [some (.ref d), some (.int e)] H
  unfold t_p_corner
  walk_at "go"
  refine iteN (fun hn => ?_) (fun hi => ?_)
  · walk_at "go"
    exact k2 hn
  · have hn := cn e hi
    walk_at "go"
    exact ⟨by walk_at "sz", k1 hi⟩
/-! ### corners -/
def isMin (nx : Int → Int) (e : Int) : Bool := decide (e ≤ nx e ∧ e ≤ nx (nx e))
def sp_p_corners (G : Gx) : Sp := fun vs H Q _ => ∃ (d : Addr) (S : List Int) (nx : Int → Int), vs = [.ref d] ∧ Rd H d (dW S nx) ∧ Map S ot nx ∧ S.length ≤ 100000 ∧
  ∀ (es : List Int) (as : List Addr) p H', Srt S es → Same H H' → Free H p → H' p = some (.lst (as.map V.ref)) → RefO H' as ((es.filter (isMin nx)).map (tup3 nx)) → Q (.ref p) H'
def sp_l_corners (G : Gx) : Sp := sp_p_corners G
theorem len_p_corners {G : Gx} : ∀ vs H Q E, sp_p_corners G vs H Q E → vs.length = 1 := by rintro vs H Q E ⟨d, S, nx, rfl, _⟩; rfl
theorem len_l_corners {G : Gx} : ∀ vs H Q E, sp_l_corners G vs H Q E → vs.length = 1 := len_p_corners
/-! corners: slots web, found, end, one -/
def t_p_corners (G : Gx) : TS :=
  (tSeq (tAsg (tLst tNil) (gName 1))
  (tSeq (tFor (iList G.K (tCB (rSortedI G.K) (tCons (tCB rListRd (tCons (tVar 0) tNil)) tNil))) (gName 2)
  (tSeq (tAsg (tCall (sp_p_corner G) [] E0 (tCons (tVar 0) (tCons (tVar 2) tNil))) (gName 3))
  (tIfS (tTest (tOp rEq (tVar 2) (tCB (rMinTp G.K) (tCons (tVar 3) tNil)))) (tDrop (tBM G.K "list" rAppend (tVar 1) (tCons (tVar 3) tNil))) tNext)))
  (tRet (tVar 1))))
theorem filt_snoc {p : Int → Bool} {l : List Int} {x : Int} : (l ++ [x]).filter p = l.filter p ++ if p x = true then [x] else [] := by
  rw [List.filter_append]
  simp only [List.filter_cons, List.filter_nil]
theorem pure_p_corners {G : Gx} {vs : List V} {H : Hp} {Q : VK} {E : XK} (h : sp_p_corners G vs H Q E) : Body (t_p_corners G) ["web", "found", "end", "one"] vs H Q := by
  obtain ⟨d, S, nx, rfl, hd, M, hl, k⟩ := h
  show t_p_corners G _ [some (.ref d), none, none, none] H
  unfold t_p_corners
  walk_at "go"
  refine ⟨by walk_at "sz", fun p hp => ?_⟩
  walk_at "go"
  intro l hl0
  walk_at "go"
  refine r_sorted (SqL.of upd_same) fun es lr hp1 hp2 hlr => ?_
  have hes : Srt S es := ⟨hp1, hp2⟩
  have s1 : Same H (upd (upd (upd H p (.lst [])) l (.lst (S.map V.int))) lr (.lst (es.map V.int))) := by walk_at "sm"
  have e1 : (upd (upd (upd H p (.lst [])) l (.lst (S.map V.int))) lr (.lst (es.map V.int))) p = some (.lst []) := by walk_at "hp"
  have e3 : (upd (upd (upd H p (.lst [])) l (.lst (S.map V.int))) lr (.lst (es.map V.int))) lr = some (.lst (es.map V.int)) := upd_same
  have nlp : lr ≠ p := ne_fresh' (u := .lst []) (by walk_at "hp") hlr
  generalize upd (upd (upd H p (.lst [])) l (.lst (S.map V.int))) lr (.lst (es.map V.int)) = H1 at s1 e1 e3 ⊢
  clear hl0 hlr
  refine r_forI (SqL.of e3) (fun pre post σ H' => ∃ (o2 o3 : Option V) (as : List Addr), σ = [some (.ref d), some (.ref p), o2, o3] ∧ Same H H' ∧ H' p = some (.lst (as.map V.ref)) ∧ H' lr = some (.lst (es.map V.int)) ∧ RefO H' as ((pre.filter (isMin nx)).map (tup3 nx)) ∧ (∀ a ∈ as, a ≠ p))
    ⟨_, _, [], rfl, s1, e1, e3, .nil, fun a h => absurd h List.not_mem_nil⟩ (fun pre post σ H' _ ⟨_, _, _, _, _, _, e, _⟩ => SqL.of e) ?_ ?_
  · rintro pre x post σ H2 hes' ⟨o2, o3, as, rfl, s2, f1, f3, rf, fr⟩
    have hxS : x ∈ S := hp1.subset (by rw [hes']; exact List.mem_append.mpr (.inr List.mem_cons_self))
    have hd2 : Rd H2 d (dW S nx) := same_rd s2 hd
    have hpl : pre.length < S.length := by rw [← hp1.length_eq, hes', List.length_append, List.length_cons]; omega
    walk_at "go"
    refine ⟨d, S, nx, x, rfl, hd2, M.cn, fun _ t ht => ?_, fun z => absurd hxS z⟩
    have s3 : Same H (upd H2 t (tup3 nx x)) := same_new s2 ht
    have f4 : upd H2 t (tup3 nx x) t = some (tup3 nx x) := upd_same
    have g1 : upd H2 t (tup3 nx x) p = some (.lst (as.map V.ref)) := at_new f1 ht
    have g3 : upd H2 t (tup3 nx x) lr = some (.lst (es.map V.int)) := at_new f3 ht
    have rf2 : RefO (upd H2 t (tup3 nx x)) as ((pre.filter (isMin nx)).map (tup3 nx)) := rf.same (same_new (Same.refl _) ht)
    have ntp : t ≠ p := ne_fresh' f1 ht
    generalize upd H2 t (tup3 nx x) = H3 at s3 f4 g1 g3 rf2 ⊢
    have las : as.length ≤ pre.length := by
      rw [rf.len, List.length_map]
      exact List.length_filter_le _ _
    walk_at "go"
    refine ⟨t, [x, nx x, nx (nx x)], rfl, SqT.of f4, by show 0 < 3; decide, fun m hm hle => ?_⟩
    walk_at "go"
    have mx : x = m ↔ isMin nx x = true := by
      unfold isMin
      rw [decide_eq_true_eq]
      have h1 := hle x List.mem_cons_self
      have h2 := hle (nx x) (by simp)
      have h3 := hle (nx (nx x)) (by simp)
      simp only [List.mem_cons, List.not_mem_nil, or_false] at hm
      constructor
      · intro h; omega
      · intro h; omega
    refine iteI (fun h => ?_) (fun h => ?_)
    · walk_at "go"
      refine ⟨_, _, as ++ [t], rfl, same_mut s3 hp, by rw [List.map_append]; exact upd_same, at_ne g3 nlp, ?_, ?_⟩
      · rw [filt_snoc, if_pos (mx.mp h), List.map_append]
        exact (rf2.upd fr).snoc (at_ne f4 ntp)
      · intro a ha
        rcases List.mem_append.mp ha with z | z
        · exact fr a z
        · rw [List.mem_singleton.mp z]; exact ntp
    · walk_at "go"
      refine ⟨_, _, as, rfl, s3, g1, g3, ?_, fr⟩
      rw [filt_snoc, if_neg (fun z => h (mx.mpr z)), List.append_nil]
      exact rf2
  · rintro σ H2 ⟨o2, o3, as, rfl, s2, f1, f3, rf, fr⟩
    walk_at "go"
    exact k es as p H2 hes s2 hp f1 rf
/-! _law_corners: slots _law_web_here, _law_found, _law_end, _law_one -/
def t_l_corners (G : Gx) : TS :=
  (tSeq (tAsg (tLst tNil) (gName 1))
  (tSeq (tFor (iList G.K (tCB (rSortedI G.K) (tCons (tCB rListRd (tCons (tVar 0) tNil)) tNil))) (gName 2)
  (tSeq (tAsg (tCall (sp_l_corner G) [] E0 (tCons (tVar 0) (tCons (tVar 2) tNil))) (gName 3))
  (tIfS (tAnd (tTest (tOp rLtI (tVar 2) (tOp (rIxT G.K) (tVar 3) (tC (.int 1))))) (tTest (tOp rLtI (tVar 2) (tOp (rIxT G.K) (tVar 3) (tC (.int 2)))))) (tDrop (tBM G.K "list" rAppend (tVar 1) (tCons (tVar 3) tNil))) tNext)))
  (tRet (tVar 1))))
theorem pure_l_corners {G : Gx} {vs : List V} {H : Hp} {Q : VK} {E : XK} (h : sp_l_corners G vs H Q E) : Body (t_l_corners G) ["_law_web_here", "_law_found", "_law_end", "_law_one"] vs H Q := by
  obtain ⟨d, S, nx, rfl, hd, M, hl, k⟩ := h
  show t_l_corners G _ [some (.ref d), none, none, none] H
  unfold t_l_corners
  walk_at "go"
  refine ⟨by walk_at "sz", fun p hp => ?_⟩
  walk_at "go"
  intro l hl0
  walk_at "go"
  refine r_sorted (SqL.of upd_same) fun es lr hp1 hp2 hlr => ?_
  have hes : Srt S es := ⟨hp1, hp2⟩
  have s1 : Same H (upd (upd (upd H p (.lst [])) l (.lst (S.map V.int))) lr (.lst (es.map V.int))) := by walk_at "sm"
  have e1 : (upd (upd (upd H p (.lst [])) l (.lst (S.map V.int))) lr (.lst (es.map V.int))) p = some (.lst []) := by walk_at "hp"
  have e3 : (upd (upd (upd H p (.lst [])) l (.lst (S.map V.int))) lr (.lst (es.map V.int))) lr = some (.lst (es.map V.int)) := upd_same
  have nlp : lr ≠ p := ne_fresh' (u := .lst []) (by walk_at "hp") hlr
  generalize upd (upd (upd H p (.lst [])) l (.lst (S.map V.int))) lr (.lst (es.map V.int)) = H1 at s1 e1 e3 ⊢
  clear hl0 hlr
  refine r_forI (SqL.of e3) (fun pre post σ H' => ∃ (o2 o3 : Option V) (as : List Addr), σ = [some (.ref d), some (.ref p), o2, o3] ∧ Same H H' ∧ H' p = some (.lst (as.map V.ref)) ∧ H' lr = some (.lst (es.map V.int)) ∧ RefO H' as ((pre.filter (isMin nx)).map (tup3 nx)) ∧ (∀ a ∈ as, a ≠ p))
    ⟨_, _, [], rfl, s1, e1, e3, .nil, fun a h => absurd h List.not_mem_nil⟩ (fun pre post σ H' _ ⟨_, _, _, _, _, _, e, _⟩ => SqL.of e) ?_ ?_
  · rintro pre x post σ H2 hes' ⟨o2, o3, as, rfl, s2, f1, f3, rf, fr⟩
    have hxS : x ∈ S := hp1.subset (by rw [hes']; exact List.mem_append.mpr (.inr List.mem_cons_self))
    have hd2 : Rd H2 d (dW S nx) := same_rd s2 hd
    have hpl : pre.length < S.length := by rw [← hp1.length_eq, hes', List.length_append, List.length_cons]; omega
    walk_at "go"
    refine ⟨d, S, nx, x, rfl, hd2, hxS, M.cn x hxS, fun t ht => ?_⟩
    have s3 : Same H (upd H2 t (.tup [.int x, .int (nx x), .int (nx (nx x))])) := same_new s2 ht
    have f4 : upd H2 t (.tup [.int x, .int (nx x), .int (nx (nx x))]) t = some (.tup [.int x, .int (nx x), .int (nx (nx x))]) := upd_same
    have g1 : upd H2 t (.tup [.int x, .int (nx x), .int (nx (nx x))]) p = some (.lst (as.map V.ref)) := at_new f1 ht
    have g3 : upd H2 t (.tup [.int x, .int (nx x), .int (nx (nx x))]) lr = some (.lst (es.map V.int)) := at_new f3 ht
    have rf2 : RefO (upd H2 t (.tup [.int x, .int (nx x), .int (nx (nx x))])) as ((pre.filter (isMin nx)).map (tup3 nx)) := rf.same (same_new (Same.refl _) ht)
    have ntp : t ≠ p := ne_fresh' f1 ht
    generalize upd H2 t (.tup [.int x, .int (nx x), .int (nx (nx x))]) = H3 at s3 f4 g1 g3 rf2 ⊢
    have las : as.length ≤ pre.length := by
      rw [rf.len, List.length_map]
      exact List.length_filter_le _ _
    have mx : (x < nx x ∧ x < nx (nx x)) ↔ isMin nx x = true := by
      unfold isMin
      rw [decide_eq_true_eq]
      have h1 := M.n1 x hxS
      have h2 := M.n2 hxS
      constructor
      · intro h; omega
      · intro h; omega
    have no : ¬ (x < nx x ∧ x < nx (nx x)) → ∃ (o2 o3 : Option V) (as' : List Addr), [some (V.ref d), some (.ref p), some (.int x), some (.ref t)] = [some (.ref d), some (.ref p), o2, o3] ∧ Same H H3 ∧ H3 p = some (.lst (as'.map V.ref)) ∧ H3 lr = some (.lst (es.map V.int)) ∧ RefO H3 as' (((pre ++ [x]).filter (isMin nx)).map (tup3 nx)) ∧ (∀ a ∈ as', a ≠ p) := fun h => by
      refine ⟨_, _, as, rfl, s3, g1, g3, ?_, fr⟩
      rw [filt_snoc, if_neg (fun z => h (mx.mpr z)), List.append_nil]
      exact rf2
    walk_at "go"
    refine iteD (fun h => ?_) (fun h => ?_)
    · walk_at "go"
      refine iteD (fun h' => ?_) (fun h' => ?_)
      · walk_at "go"
        refine ⟨_, _, as ++ [t], rfl, same_mut s3 hp, by rw [List.map_append]; exact upd_same, at_ne g3 nlp, ?_, ?_⟩
        · rw [filt_snoc, if_pos (mx.mp ⟨h, h'⟩), List.map_append]
          exact (rf2.upd fr).snoc (at_ne f4 ntp)
        · intro a ha
          rcases List.mem_append.mp ha with z | z
          · exact fr a z
          · rw [List.mem_singleton.mp z]; exact ntp
      · walk_at "go"
        exact no fun z => h' z.2
    · walk_at "go"
      exact no fun z => h z.1
  · rintro σ H2 ⟨o2, o3, as, rfl, s2, f1, f3, rf, fr⟩
    walk_at "go"
    exact k es as p H2 hes s2 hp f1 rf
/-! ### is_corner, are_corners -/
def sp_l_is_corner (G : Gx) : Sp := fun vs H Q _ => ∃ (f d : Addr) (x y z : Int), vs = [.ref f, .ref d] ∧ H f = some (.tup [.int x, .int y, .int z]) ∧ H d = some (.tup [.int x, .int y, .int z]) ∧ ∀ H', Same H H' → Q (.bl true) H'
theorem len_l_is_corner {G : Gx} : ∀ vs H Q E, sp_l_is_corner G vs H Q E → vs.length = 2 := by rintro vs H Q E ⟨f, d, x, y, z, rfl, _⟩; rfl
/-! _law_is_corner: slots _law_found, _law_due, _law_end -/
def t_l_is_corner (G : Gx) : TS :=
  (tSeq (tIfS (tOr (tNot (tB (tCB (rIsi G.K) (tCons (tVar 0) (tCons (tC (.ty "tuple")) tNil))))) (tTest (tOp rNe (tCB (rLenSeq G.K) (tCons (tVar 0) tNil)) (tC (.int 3))))) (tRet (tC (.bl false))) tNext)
  (tRet (tAndV (tCB (rAll G.K) (tCons (tLc (iTup G.K (tVar 0)) (gName 2) tYes (tCall (sp_l_whole G) [] E0 (tCons (tVar 2) tNil)) [2]) tNil)) (tOp (rEqD G.K) (tVar 0) (tVar 1)))))
theorem filt_true {α : Type} (l : List α) : (l.filter fun _ => true) = l := List.filter_eq_self.mpr fun _ _ => rfl
theorem pure_l_is_corner {G : Gx} {vs : List V} {H : Hp} {Q : VK} {E : XK} (h : sp_l_is_corner G vs H Q E) : Body (t_l_is_corner G) ["_law_found", "_law_due", "_law_end"] vs H Q := by
  obtain ⟨f, d, x, y, z, rfl, hf, hd, k⟩ := h
  show t_l_is_corner G _ [some (.ref f), some (.ref d), none] H
  unfold t_l_is_corner
  walk_at "go"
  refine iteNI (fun h => absurd rfl h) (fun _ => ?_)
  walk_at "go"
  refine r_lcT (ns := [x, y, z]) (fun _ => true) (fun _ => .bl true) (SqT.of hf) (fun _ q => ⟨_, rfl, q⟩) (by show 3 < sizeLine; decide) (fun u _ D o hD R q => q) (fun u _ _ D o hD Q q => ?_) (fun D hD => ?_)
  · walk_at "go"
    exact q
  · walk_at "go"
    refine r_all (bs := [true, true, true]) (SqL.of upd_same) ?_
    refine ⟨_, rfl, ?_⟩
    rw [show ([true, true, true].all id) = true from rfl, if_pos rfl]
    walk_at "go"
    rw [eqv_same rfl]
    exact k _ (by walk_at "sm")
def sp_l_are_corners (G : Gx) : Sp := fun vs H Q _ => ∃ (f d : Addr) (as bs : List Addr) (es : List Int) (nx : Int → Int), vs = [.ref f, .ref d] ∧ H f = some (.lst (as.map V.ref)) ∧ H d = some (.lst (bs.map V.ref)) ∧ RefO H as (es.map (tup3 nx)) ∧ RefO H bs (es.map (tup3 nx)) ∧ es.length ≤ 100000 ∧ ∀ H', Same H H' → Q (.bl true) H'
theorem len_l_are_corners {G : Gx} : ∀ vs H Q E, sp_l_are_corners G vs H Q E → vs.length = 2 := by rintro vs H Q E ⟨f, d, x, y, z, w, rfl, _⟩; rfl
/-! _law_are_corners: slots _law_found, _law_due, _law_one, _law_two -/
def t_l_are_corners (G : Gx) : TS :=
  (tSeq (tIfS (tOr (tNot (tB (tCB (rIsi G.K) (tCons (tVar 0) (tCons (tC (.ty "list")) tNil))))) (tTest (tOp rNe (tCB (rLenSeq G.K) (tCons (tVar 0) tNil)) (tCB (rLenSeq G.K) (tCons (tVar 1) tNil))))) (tRet (tC (.bl false))) tNext)
  (tRet (tCB (rAll G.K) (tCons (tLc (iZip G.K (tCons (tVar 0) (tCons (tVar 1) tNil))) (gTup G.K 2 (gCons (gName 2) (gCons (gName 3) gNil))) tYes (tCall (sp_l_is_corner G) [] E0 (tCons (tVar 2) (tCons (tVar 3) tNil))) [2, 3]) tNil))))
theorem pure_l_are_corners {G : Gx} {vs : List V} {H : Hp} {Q : VK} {E : XK} (h : sp_l_are_corners G vs H Q E) : Body (t_l_are_corners G) ["_law_found", "_law_due", "_law_one", "_law_two"] vs H Q := by
  obtain ⟨f, d, as, bs, es, nx, rfl, hf, hd, ra, rb, hl, k⟩ := h
  show t_l_are_corners G _ [some (.ref f), some (.ref d), none, none] H
  unfold t_l_are_corners
  have la : as.length = es.length := by rw [ra.len, List.length_map]
  have lb : bs.length = es.length := by rw [rb.len, List.length_map]
  walk_at "go"
  rw [List.length_map, List.length_map, la, lb]
  refine iteNI (fun h => absurd rfl h) (fun _ => ?_)
  walk_at "go"
  refine r_lcZ (xs := as.map V.ref) (ys := bs.map V.ref) (τ := fun x y => [some (.ref f), some (.ref d), some x, some y]) (SqL.of hf) (SqL.of hd) (by rw [List.length_map, List.length_map, la, lb]) (by rw [List.length_map, la]; exact size1000l (by omega)) (fun R q => ?_) (fun x y => ⟨rfl, rfl⟩) (fun i x y hx hy H1 s1 Q q => ?_) (fun D H1 s1 hD e1 => ?_)
  · walk_at "go"
    exact q
  · obtain ⟨a, ha, rfl⟩ := map_get hx
    obtain ⟨b, hb, rfl⟩ := map_get hy
    obtain ⟨o, ho, e1⟩ := ra.get ha
    obtain ⟨o', ho', e2⟩ := rb.get hb
    rw [ho] at ho'
    cases ho'
    obtain ⟨e, he, rfl⟩ := map_get ho
    walk_at "go"
    exact ⟨a, b, _, _, _, rfl, s1 _ _ e1, s1 _ _ e2, q⟩
  · walk_at "go"
    refine r_all (SqL.of e1) ?_
    rw [rep_all]
    exact k _ s1
/-! ### turned dict, free -/
theorem nd_rev {S : List Int} (h : S.Nodup) : S.reverse.Nodup := List.pairwise_reverse.mpr (h.imp fun q => Ne.symm q)
def sp_l_turned_dict (G : Gx) : Sp := fun vs H Q _ => ∃ (d : Addr) (S : List Int) (nx : Int → Int), vs = [.ref d] ∧ Rd H d (dW S nx) ∧ S.Nodup ∧ S.length ≤ 100000 ∧ ∀ p H', Same H H' → Free H p → H' p = some (dW S.reverse nx) → Q (.ref p) H'
theorem len_l_turned_dict {G : Gx} : ∀ vs H Q E, sp_l_turned_dict G vs H Q E → vs.length = 1 := by rintro vs H Q E ⟨d, S, nx, rfl, _⟩; rfl
/-! _law_turned_dict: slots _law_web_here, _law_made, _law_end -/
def t_l_turned_dict (G : Gx) : TS :=
  (tSeq (tAsg tDNewK (gName 1))
  (tSeq (tFor (iList G.K (tRevL G.K (tCB rListRd (tCons (tVar 0) tNil)))) (gName 2)
  (sDPut (tVar 1) (tVar 2) (tDGet (tVar 0) (tVar 2))))
  (tRet (tVar 1))))
theorem pure_l_turned_dict {G : Gx} {vs : List V} {H : Hp} {Q : VK} {E : XK} (h : sp_l_turned_dict G vs H Q E) : Body (t_l_turned_dict G) ["_law_web_here", "_law_made", "_law_end"] vs H Q := by
  obtain ⟨d, S, nx, rfl, hd, nd, hl, k⟩ := h
  show t_l_turned_dict G _ [some (.ref d), none, none] H
  unfold t_l_turned_dict
  walk_at "go"
  refine r_dnew (f := fun x => .int (nx x)) fun p hp => ?_
  walk_at "go"
  intro l hl0
  walk_at "go"
  intro r hr
  have s1 : Same H (upd (upd (upd H p (dW [] nx)) l (.lst (S.map V.int))) r (.lst (S.reverse.map V.int))) := by walk_at "sm"
  have e1 : (upd (upd (upd H p (dW [] nx)) l (.lst (S.map V.int))) r (.lst (S.reverse.map V.int))) p = some (dW [] nx) := by walk_at "hp"
  have e2 : (upd (upd (upd H p (dW [] nx)) l (.lst (S.map V.int))) r (.lst (S.reverse.map V.int))) r = some (.lst (S.reverse.map V.int)) := upd_same
  have nrp : r ≠ p := ne_fresh' (u := dW [] nx) (by walk_at "hp") hr
  generalize upd (upd (upd H p (dW [] nx)) l (.lst (S.map V.int))) r (.lst (S.reverse.map V.int)) = H1 at s1 e1 e2 ⊢
  refine r_forI (SqL.of e2) (fun pre post σ H' => ∃ (o2 : Option V), σ = [some (.ref d), some (.ref p), o2] ∧ Same H H' ∧ H' p = some (dW pre nx) ∧ H' r = some (.lst (S.reverse.map V.int)))
    ⟨_, rfl, s1, e1, e2⟩ (fun pre post σ H' _ ⟨_, _, _, _, e⟩ => SqL.of e) ?_ ?_
  · rintro pre x post σ H2 eS ⟨o2, rfl, s2, f1, f2⟩
    have hx : x ∈ S := List.mem_reverse.mp (by rw [eS]; exact List.mem_append.mpr (.inr List.mem_cons_self))
    have nxp : x ∉ pre := fun z => by
      have nd' := nd_rev nd
      rw [eS] at nd'
      exact (List.nodup_append.mp nd').2.2 x z x List.mem_cons_self rfl
    have lpre : pre.length ≤ S.length := by
      have q := congrArg List.length eS
      rw [List.length_append, List.length_reverse] at q
      omega
    have hd2 : Rd H2 d (dW S nx) := same_rd s2 hd
    walk_at "go"
    rw [putS_out nxp, fset_id rfl]
    exact ⟨_, rfl, same_mut s2 hp, upd_same, at_ne f2 nrp⟩
  · rintro σ H2 ⟨o2, rfl, s2, f1, f2⟩
    walk_at "go"
    exact k p H2 s2 hp f1
def sp_l_free (G : Gx) : Sp := fun vs H Q _ => ∃ (d : Addr) (S : List Int) (nx : Int → Int), vs = [.ref d] ∧ Rd H d (dW S nx) ∧ S ≠ [] ∧ ∀ (m : Int) H', m ∈ S → (∀ y ∈ S, y ≤ m) → Same H H' → Q (.int (1 + m / 2)) H'
theorem len_l_free {G : Gx} : ∀ vs H Q E, sp_l_free G vs H Q E → vs.length = 1 := by rintro vs H Q E ⟨d, S, nx, rfl, _⟩; rfl
/-! _law_free: slots _law_web_here -/
def t_l_free (G : Gx) : TS :=
  (tRet (tOp rAddI (tC (.int 1)) (tOp rDivW (tCB (rMax G.K) (tCons (tCB rListRd (tCons (tVar 0) tNil)) tNil)) (tC (.int 2)))))
theorem pure_l_free {G : Gx} {vs : List V} {H : Hp} {Q : VK} {E : XK} (h : sp_l_free G vs H Q E) : Body (t_l_free G) ["_law_web_here"] vs H Q := by
  obtain ⟨d, S, nx, rfl, hd, ne, k⟩ := h
  show t_l_free G _ [some (.ref d)] H
  unfold t_l_free
  walk_at "go"
  intro l hl
  walk_at "go"
  refine ⟨l, S, rfl, SqL.of upd_same, List.length_pos_iff.mpr ne, fun m hm hle => ?_⟩
  walk_at "go"
  exact k m _ hm hle (by walk_at "sm")

/-! Wn: the program's rims. -/
def sp_p_rim (G : Gx) : Sp := fun vs H Q E => ∃ (d : Addr) (S : List Int) (nx : Int → Int) (e : Int), vs = [.ref d, .int e] ∧ Rd H d (dW S nx) ∧ Map S ot nx ∧ S.length ≤ 100000 ∧
  (e ∈ S → ∀ p H', Same H H' → Free H p → H' p = some (.lst ((rimL (face ot nx) e).map V.int)) → Q (.ref p) H') ∧ (e ∉ S → E (.ref (G.ad "NoEnd")) none H)
theorem len_p_rim {G : Gx} : ∀ vs H Q E, sp_p_rim G vs H Q E → vs.length = 2 := by rintro vs H Q E ⟨d, S, nx, e, rfl, _⟩; rfl
/-! rim: slots web, end, found, at -/
def t_p_rim (G : Gx) (E : XK) : TS :=
  (tSeq (tIfS (tB (tDNotIn (tVar 1) (tVar 0))) (tRaise E (G.ad "NoEnd")) tNext)
  (tSeq (tAsg (tLst (tCons (tVar 1) tNil)) (gName 2))
  (tSeq (tAsg (tDGet (tVar 0) (tCall (sp_p_other G) [] E0 (tCons (tVar 1) tNil))) (gName 3))
  (tSeq (tWhile (tTest (tOp rNe (tVar 3) (tVar 1))) (tSeq (tDrop (tBM G.K "list" rAppend (tVar 2) (tCons (tVar 3) tNil)))
  (tAsg (tDGet (tVar 0) (tCall (sp_p_other G) [] E0 (tCons (tVar 3) tNil))) (gName 3))))
  (tRet (tVar 2))))))
theorem pure_p_rim {G : Gx} {vs : List V} {H : Hp} {Q : VK} {E : XK} (h : sp_p_rim G vs H Q E) : Body (t_p_rim G E) ["web", "end", "found", "at"] vs H Q := by
  obtain ⟨d, S, nx, e, rfl, hd, M, hl, k1, k2⟩ := h
  show t_p_rim G E _ [some (.ref d), some (.int e), none, none] H
  unfold t_p_rim
  walk_at "go"
  refine iteN (fun hn => ?_) (fun he => ?_)
  · walk_at "go"
    exact k2 hn
  obtain ⟨n, hn, P⟩ := per_ex M.perm he
  have hot := M.ca e he
  walk_at "go"
  refine ⟨by walk_at "sz", fun p hp => ?_⟩
  walk_at "go"
  refine r_whileG (α := Nat) (fun i σ H' => σ = [some (.ref d), some (.int e), some (.ref p), some (.int (iter (face ot nx) (i + 1) e))] ∧ Same H H' ∧ H' p = some (.lst ((rimO (face ot nx) e (i + 1)).map V.int)) ∧ i < n)
    (fun i => n - i) 0 ⟨rfl, by walk_at "sm", upd_same, P.pos⟩ ?_
  rintro i σ H1 ⟨rfl, s1, e1, hin⟩
  have hd1 : Rd H1 d (dW S nx) := same_rd s1 hd
  have hm := iter_mem M.perm he (i + 1)
  have hm' := M.ca _ hm
  have sz : ((rimO (face ot nx) e (i + 1)).map V.int).length < sizeLine := by rw [List.length_map, rimO_len]; exact size1000l (by omega)
  walk_at "go"
  refine iteNI (fun h => ?_) (fun h => ?_)
  · refine r_wG ?_
    walk_at "go"
    refine r_app e1 sz ?_
    have hd2 : Rd (upd H1 p (.lst ((rimO (face ot nx) e (i + 1)).map V.int ++ [.int (iter (face ot nx) (i + 1) e)]))) d (dW S nx) := same_rd (same_mut s1 hp) hd
    walk_at "go"
    refine ⟨i + 1, ⟨rfl, same_mut s1 hp, by rw [rimO_succ (n := i + 1), List.map_append]; exact upd_same, ?_⟩, by omega⟩
    rcases Nat.lt_or_ge (i + 1) n with q | q
    · exact q
    · exact absurd (show iter (face ot nx) (i + 1) e = e by rw [show i + 1 = n by omega]; exact P.ret) h
  · have en : n = i + 1 := by
      rcases Nat.lt_or_ge (i + 1) n with q | q
      · exact absurd h (P.first (i + 1) (Nat.succ_pos _) q)
      · omega
    walk_at "go"
    rw [← en, ← rimL_eq P] at e1
    exact k1 he p _ s1 hp e1
def sp_p_rims (G : Gx) : Sp := sp_l_rims G
theorem len_p_rims {G : Gx} : ∀ vs H Q E, sp_p_rims G vs H Q E → vs.length = 1 := len_l_rims
/-! rims: slots web, found, passed, end, one, at -/
def t_p_rims (G : Gx) : TS :=
  (tSeq (tAsg (tLst tNil) (gName 1))
  (tSeq (tAsg tDNewK (gName 2))
  (tSeq (tFor (iList G.K (tCB (rSortedI G.K) (tCons (tCB rListRd (tCons (tVar 0) tNil)) tNil))) (gName 3)
  (tIfS (tB (tDNotIn (tVar 3) (tVar 2))) (tSeq (tAsg (tCall (sp_p_rim G) [] E0 (tCons (tVar 0) (tCons (tVar 3) tNil))) (gName 4))
  (tSeq (tFor (iList G.K (tVar 4)) (gName 5)
  (sDPut (tVar 2) (tVar 5) (tC (.bl true))))
  (tDrop (tBM G.K "list" rAppend (tVar 1) (tCons (tVar 4) tNil))))) tNext))
  (tRet (tVar 1)))))
theorem pure_p_rims {G : Gx} {vs : List V} {H : Hp} {Q : VK} {E : XK} (h : sp_p_rims G vs H Q E) : Body (t_p_rims G) ["web", "found", "passed", "end", "one", "at"] vs H Q := by
  obtain ⟨d, S, nx, rfl, hd, M, hl, k⟩ := h
  show t_p_rims G _ [some (.ref d), none, none, none, none, none] H
  unfold t_p_rims
  walk_at "go"
  refine ⟨by walk_at "sz", fun p hp => ?_⟩
  walk_at "go"
  refine r_dnew (f := fun _ => .bl true) fun q hq => ?_
  walk_at "go"
  intro l hl0
  walk_at "go"
  refine r_sorted (SqL.of upd_same) fun es lr hp1 hp2 hlr => ?_
  have hes : Srt S es := ⟨hp1, hp2⟩
  have s1 : Same H (upd (upd (upd (upd H p (.lst [])) q (dI [] fun _ => .bl true)) l (.lst (S.map V.int))) lr (.lst (es.map V.int))) := by walk_at "sm"
  have e1 : (upd (upd (upd (upd H p (.lst [])) q (dI [] fun _ => .bl true)) l (.lst (S.map V.int))) lr (.lst (es.map V.int))) p = some (.lst []) := by walk_at "hp"
  have e2 : (upd (upd (upd (upd H p (.lst [])) q (dI [] fun _ => .bl true)) l (.lst (S.map V.int))) lr (.lst (es.map V.int))) q = some (dI [] fun _ => .bl true) := by walk_at "hp"
  have e3 : (upd (upd (upd (upd H p (.lst [])) q (dI [] fun _ => .bl true)) l (.lst (S.map V.int))) lr (.lst (es.map V.int))) lr = some (.lst (es.map V.int)) := upd_same
  have hp0 : Free H p := hp
  have hq0 : Free H q := by walk_at "fr"
  have npq : p ≠ q := ne_fresh upd_same hq
  have nlp : lr ≠ p := ne_fresh' (u := .lst []) (by walk_at "hp") hlr
  have nlq : lr ≠ q := ne_fresh' (u := dI [] fun _ => .bl true) (by walk_at "hp") hlr
  generalize upd (upd (upd (upd H p (.lst [])) q (dI [] fun _ => .bl true)) l (.lst (S.map V.int))) lr (.lst (es.map V.int)) = H1 at s1 e1 e2 e3 ⊢
  clear hp hq hl0 hlr
  refine r_forI (SqL.of e3) (fun pre post σ H' => ∃ (o3 o4 o5 : Option V) (as : List Addr) (P : List Int) (ls : List (List Int)), σ = [some (.ref d), some (.ref p), some (.ref q), o3, o4, o5] ∧ Same H H' ∧ H' p = some (.lst (as.map V.ref)) ∧ H' q = some (dI P fun _ => .bl true) ∧ H' lr = some (.lst (es.map V.int)) ∧
      Refs H' as ls ∧ rimsG (face ot nx) es [] = ls ++ rimsG (face ot nx) post P ∧ (∀ a ∈ as, Free H a ∧ a ≠ p ∧ a ≠ q ∧ a ≠ lr) ∧ as.Nodup ∧ P.Nodup ∧ (∀ x ∈ P, x ∈ S) ∧ as.length ≤ pre.length)
    ⟨_, _, _, [], [], [], rfl, s1, e1, e2, e3, .nil, rfl, fun a h => absurd h List.not_mem_nil, .nil, .nil, fun a h => absurd h List.not_mem_nil, Nat.zero_le _⟩ (fun pre post σ H' _ ⟨o3, o4, o5, as, P, ls, _, _, _, _, e, _⟩ => SqL.of e) ?_ ?_
  · rintro pre x post σ H' hes' ⟨o3, o4, o5, as, P, ls, rfl, s2, f1, f2, f3, rf, rg, fr, nda, ndp, sub, la⟩
    have hxS : x ∈ S := hp1.subset (by rw [hes']; exact List.mem_append.mpr (.inr List.mem_cons_self))
    have hd' : Rd H' d (dW S nx) := same_rd s2 hd
    have hel : es.length = S.length := hp1.length_eq
    have hpl : pre.length < S.length := by rw [← hel, hes', List.length_append, List.length_cons]; omega
    walk_at "go"
    refine iteN (fun hn => ?_) (fun hi => ?_)
    · walk_at "go"
      refine ⟨d, S, nx, x, rfl, hd', M, hl, fun _ b H2 s3 fb e4 => ?_, fun z => absurd hxS z⟩
      have g1 := s3 _ _ f1
      have g2 := s3 _ _ f2
      have g3 := s3 _ _ f3
      have nbp : b ≠ p := fun z => by rw [z] at fb; unfold Free at fb; rw [f1] at fb; cases fb
      have nbq : b ≠ q := fun z => by rw [z] at fb; unfold Free at fb; rw [f2] at fb; cases fb
      have nbl : b ≠ lr := fun z => by rw [z] at fb; unfold Free at fb; rw [f3] at fb; cases fb
      have nba : b ∉ as := fun z => by
        obtain ⟨l', _, q'⟩ := rf.mem z
        unfold Free at fb
        rw [q'] at fb
        cases fb
      have fb0 : Free H b := s2.free fb
      have rls : ∀ y ∈ rimL (face ot nx) x, y ∈ S := fun y hy => rimL_sub M.perm hxS hy
      have s4 : Same H H2 := s2.trans s3
      have r2 := rf.same s3
      walk_at "go"
      refine r_forI (SqL.of e4) (fun pre2 post2 σ H' => ∃ (o5 : Option V), σ = [some (.ref d), some (.ref p), some (.ref q), some (.int x), some (.ref b), o5] ∧ Same H H' ∧ H' p = some (.lst (as.map V.ref)) ∧ H' q = some (dI (putL P pre2) fun _ => .bl true) ∧ H' lr = some (.lst (es.map V.int)) ∧
          Refs H' as ls ∧ H' b = some (.lst ((rimL (face ot nx) x).map V.int)))
        ⟨_, rfl, s4, g1, g2, g3, r2, e4⟩ (fun pre post σ H' _ ⟨o4, _, _, _, _, _, _, e⟩ => SqL.of e) ?_ ?_
      · rintro pre2 y post2 σ H4 e5 ⟨o5, rfl, t1, t2, t3, t4, t5, t6⟩
        have sub2 : ∀ z ∈ putL P pre2, z ∈ S := fun z hz => (mem_putL.mp hz).elim (sub z) fun h => rls z (by rw [e5]; exact List.mem_append.mpr (.inl h))
        have lz : (putL P pre2).length ≤ S.length := sub_len (nd_putL ndp) sub2
        walk_at "go"
        refine r_dputT t3 (size1000l (by omega)) ?_
        rw [← putL_snoc]
        exact ⟨_, rfl, same_mut t1 hq0, at_ne t2 npq, upd_same, at_ne t4 nlq, t5.upd fun a ha => (fr a ha).2.2.1, at_ne t6 nbq⟩
      · rintro σ H4 ⟨o5, rfl, t1, t2, t3, t4, t5, t6⟩
        walk_at "go"
        refine ⟨_, _, _, as ++ [b], _, ls ++ [rimL (face ot nx) x], rfl, same_mut t1 hp0, by rw [List.map_append]; exact upd_same, at_ne t3 (Ne.symm npq), at_ne t4 nlp, (t5.upd fun a ha => (fr a ha).2.1).snoc (at_ne t6 nbp), ?_, fun a ha => ?_, ?_, nd_putL ndp, fun z hz => (mem_putL.mp hz).elim (sub z) (rls z), ?_⟩
        · rw [rg]
          conv => lhs; unfold rimsG
          rw [if_neg hn, List.append_assoc]
          rfl
        · rcases List.mem_append.mp ha with z | z
          · exact fr a z
          · rw [List.mem_singleton.mp z]; exact ⟨fb0, nbp, nbq, nbl⟩
        · refine List.nodup_append.mpr ⟨nda, List.Pairwise.cons (fun _ z => nomatch z) .nil, fun a ha c hc => ?_⟩
          rw [List.mem_singleton.mp hc]
          exact fun z => nba (z ▸ ha)
        · rw [List.length_append, List.length_append]
          simp only [List.length_singleton]
          omega
    · walk_at "go"
      refine ⟨_, _, _, as, P, ls, rfl, s2, f1, f2, f3, rf, ?_, fr, nda, ndp, sub, by rw [List.length_append]; omega⟩
      rw [rg]
      conv => lhs; unfold rimsG
      rw [if_pos hi]
  · rintro σ H' ⟨o3, o4, o5, as, P, ls, rfl, s2, f1, f2, f3, rf, rg, fr, nda, ndp, sub, la⟩
    walk_at "go"
    have e9 : rimsG (face ot nx) es [] = ls := by rw [rg]; unfold rimsG; rw [List.append_nil]
    rw [← e9] at rf
    exact k es as p H' hes s2 hp0 f1 rf (fun a ha => ⟨(fr a ha).1, (fr a ha).2.1⟩) nda
/-! ### are_ends, are_rims -/
def sp_l_are_ends (G : Gx) : Sp := fun vs H Q _ => ∃ (f d : Addr) (l : List Int), vs = [.ref f, .ref d] ∧ H f = some (.lst (l.map V.int)) ∧ H d = some (.lst (l.map V.int)) ∧ l.length ≤ 100000 ∧ ∀ H', Same H H' → Q (.bl true) H'
theorem len_l_are_ends {G : Gx} : ∀ vs H Q E, sp_l_are_ends G vs H Q E → vs.length = 2 := by rintro vs H Q E ⟨f, d, l, rfl, _⟩; rfl
/-! _law_are_ends: slots _law_found, _law_due, _law_end -/
def t_l_are_ends (G : Gx) : TS :=
  (tSeq (tIfS (tOr (tNot (tB (tCB (rIsi G.K) (tCons (tVar 0) (tCons (tC (.ty "list")) tNil))))) (tTest (tOp rNe (tCB (rLenSeq G.K) (tCons (tVar 0) tNil)) (tCB (rLenSeq G.K) (tCons (tVar 1) tNil))))) (tRet (tC (.bl false))) tNext)
  (tRet (tAndV (tCB (rAll G.K) (tCons (tLc (iList G.K (tVar 0)) (gName 2) tYes (tCall (sp_l_whole G) [] E0 (tCons (tVar 2) tNil)) [2]) tNil)) (tOp (rEqD G.K) (tVar 0) (tVar 1)))))
theorem shaped_ints (l : List Int) : SeqAt.shaped (.list (l.map PyData.int)) = true := shaped_list fun d hd => by
  obtain ⟨x, _, rfl⟩ := List.mem_map.mp hd
  exact ⟨rfl, by show (0 : Nat) ≤ 60; decide⟩
theorem pure_l_are_ends {G : Gx} {vs : List V} {H : Hp} {Q : VK} {E : XK} (h : sp_l_are_ends G vs H Q E) : Body (t_l_are_ends G) ["_law_found", "_law_due", "_law_end"] vs H Q := by
  obtain ⟨f, d, l, rfl, hf, hd, hl, k⟩ := h
  show t_l_are_ends G _ [some (.ref f), some (.ref d), none] H
  unfold t_l_are_ends
  walk_at "go"
  refine iteNI (fun h => absurd rfl h) (fun _ => ?_)
  walk_at "go"
  refine r_lcL (ns := l) (fun _ => true) (fun _ => .bl true) (SqL.of hf) (fun _ q => ⟨_, rfl, q⟩) (size1000l (by omega)) (fun u _ D o hD R q => q) (fun u _ _ D o hD Q q => ?_) (fun D hD => ?_)
  · walk_at "go"
    exact q
  · rw [filt_true]
    walk_at "go"
    refine r_all (bs := l.map fun _ => true) (by rw [List.map_map]; exact SqL.of upd_same) ?_
    rw [all_true]
    refine ⟨_, rfl, ?_⟩
    rw [if_pos rfl]
    walk_at "go"
    refine r_eqD (Dp.lst (SqL.of (at_new hf hD)) (dp_ints l)) (Dp.lst (SqL.of (at_new hd hD)) (dp_ints l)) (shaped_ints l) (shaped_ints l) ?_
    rw [eqv_same (shaped_ints l)]
    exact k _ (by walk_at "sm")
def sp_l_are_rims (G : Gx) : Sp := fun vs H Q _ => ∃ (f d : Addr) (as bs : List Addr) (ls : List (List Int)), vs = [.ref f, .ref d] ∧ H f = some (.lst (as.map V.ref)) ∧ H d = some (.lst (bs.map V.ref)) ∧ Refs H as ls ∧ Refs H bs ls ∧ ls.length ≤ 100000 ∧ (∀ l ∈ ls, l.length ≤ 100000) ∧ ∀ H', Same H H' → Q (.bl true) H'
theorem len_l_are_rims {G : Gx} : ∀ vs H Q E, sp_l_are_rims G vs H Q E → vs.length = 2 := by rintro vs H Q E ⟨f, d, x, y, z, rfl, _⟩; rfl
/-! _law_are_rims: slots _law_found, _law_due, _law_one, _law_two -/
def t_l_are_rims (G : Gx) : TS :=
  (tSeq (tIfS (tOr (tNot (tB (tCB (rIsi G.K) (tCons (tVar 0) (tCons (tC (.ty "list")) tNil))))) (tTest (tOp rNe (tCB (rLenSeq G.K) (tCons (tVar 0) tNil)) (tCB (rLenSeq G.K) (tCons (tVar 1) tNil))))) (tRet (tC (.bl false))) tNext)
  (tRet (tCB (rAll G.K) (tCons (tLc (iZip G.K (tCons (tVar 0) (tCons (tVar 1) tNil))) (gTup G.K 2 (gCons (gName 2) (gCons (gName 3) gNil))) tYes (tCall (sp_l_are_ends G) [] E0 (tCons (tVar 2) (tCons (tVar 3) tNil))) [2, 3]) tNil))))
theorem pure_l_are_rims {G : Gx} {vs : List V} {H : Hp} {Q : VK} {E : XK} (h : sp_l_are_rims G vs H Q E) : Body (t_l_are_rims G) ["_law_found", "_law_due", "_law_one", "_law_two"] vs H Q := by
  obtain ⟨f, d, as, bs, ls, rfl, hf, hd, ra, rb, hl, hll, k⟩ := h
  show t_l_are_rims G _ [some (.ref f), some (.ref d), none, none] H
  unfold t_l_are_rims
  have la := ra.len
  have lb := rb.len
  walk_at "go"
  rw [List.length_map, List.length_map, la, lb]
  refine iteNI (fun h => absurd rfl h) (fun _ => ?_)
  walk_at "go"
  refine r_lcZ (xs := as.map V.ref) (ys := bs.map V.ref) (τ := fun x y => [some (.ref f), some (.ref d), some x, some y]) (SqL.of hf) (SqL.of hd) (by rw [List.length_map, List.length_map, la, lb]) (by rw [List.length_map, la]; exact size1000l (by omega)) (fun R q => ?_) (fun x y => ⟨rfl, rfl⟩) (fun i x y hx hy H1 s1 Q q => ?_) (fun D H1 s1 hD e1 => ?_)
  · walk_at "go"
    exact q
  · obtain ⟨a, ha, rfl⟩ := map_get hx
    obtain ⟨b, hb, rfl⟩ := map_get hy
    obtain ⟨l, ho, e1⟩ := ra.get ha
    obtain ⟨l', ho', e2⟩ := rb.get hb
    rw [ho] at ho'
    cases ho'
    walk_at "go"
    exact ⟨a, b, l, rfl, s1 _ _ e1, s1 _ _ e2, hll l (List.mem_of_getElem? ho), q⟩
  · walk_at "go"
    refine r_all (SqL.of e1) ?_
    rw [rep_all]
    exact k _ s1

/-! Wq: the program's deeds at a web. -/
theorem two_ot {S : List Int} {nx : Int → Int} (M : Map S ot nx) {f : Int} (h : 2 * f ∈ S) : 2 * f + 1 ∈ S := by
  have := M.ca _ h
  rwa [ot_even] at this
theorem r_lcOT {K : PySem.W.Frag} {σ : St} {H : Hp} {Q : VK} {tl : TE} {g : TG} {tt : TT} {te : TE} {vs : List Nat} (h : tl σ H fun x H1 => tLc (iTup K (tC x)) g tt te vs σ H1 Q) : tLc (iTup K tl) g tt te vs σ H Q := h
def sp_p_looped (G : Gx) : Sp := fun vs H Q _ => ∃ (d : Addr) (S : List Int) (nx : Int → Int) (f : Int), vs = [.ref d, .int f] ∧ Rd H d (dW S nx) ∧ (∀ x ∈ S, nx x ∈ S) ∧ 2 * f ∈ S ∧ ∀ (b : Bool) H', (b = true ↔ Looped nx (2 * f)) → Same H H' → Q (.bl b) H'
theorem len_p_looped {G : Gx} : ∀ vs H Q E, sp_p_looped G vs H Q E → vs.length = 2 := by rintro vs H Q E ⟨d, S, nx, e, rfl, _⟩; rfl
/-! looped: slots web, film -/
def t_p_looped (G : Gx) : TS :=
  (tRet (tOp (rIn G.K false) (tOp rAddI (tOp rMulI (tC (.int 2)) (tVar 1)) (tC (.int 1))) (tCall (sp_p_corner G) [] E0 (tCons (tVar 0) (tCons (tOp rMulI (tC (.int 2)) (tVar 1)) tNil)))))
theorem pure_p_looped {G : Gx} {vs : List V} {H : Hp} {Q : VK} {E : XK} (h : sp_p_looped G vs H Q E) : Body (t_p_looped G) ["web", "film"] vs H Q := by
  obtain ⟨d, S, nx, f, rfl, hd, cn, he, k⟩ := h
  show t_p_looped G _ [some (.ref d), some (.int f)] H
  unfold t_p_looped
  walk_at "go"
  refine ⟨d, S, nx, 2 * f, rfl, hd, cn, fun _ t ht => ?_, fun z => absurd he z⟩
  refine r_inT (SqT.of (xs := [.int (2 * f), .int (nx (2 * f)), .int (nx (nx (2 * f)))]) upd_same) rfl rfl ?_
  refine k _ _ ?_ (by walk_at "sm")
  rw [if_neg Bool.false_ne_true, inV3]
  unfold Looped
  rw [ot_even]
  constructor
  · rintro (h | h | h)
    · omega
    · exact .inl h
    · exact .inr h
  · rintro (h | h)
    · exact .inr (.inl h)
    · exact .inr (.inr h)
def sp_p_film_there (G : Gx) : Sp := fun vs H Q E => ∃ (d : Addr) (S : List Int) (nx : Int → Int) (f : Int), vs = [.ref d, .int f] ∧ Rd H d (dW S nx) ∧ (2 * f ∈ S → Q .non H) ∧ (2 * f ∉ S → E (.ref (G.ad "NoFilm")) none H)
theorem len_p_film_there {G : Gx} : ∀ vs H Q E, sp_p_film_there G vs H Q E → vs.length = 2 := by rintro vs H Q E ⟨d, S, nx, e, rfl, _⟩; rfl
/-! film_there: slots web, film -/
def t_p_film_there (G : Gx) (E : XK) : TS :=
  (tIfS (tB (tDNotIn (tOp rMulI (tC (.int 2)) (tVar 1)) (tVar 0))) (tRaise E (G.ad "NoFilm")) tNext)
theorem pure_p_film_there {G : Gx} {vs : List V} {H : Hp} {Q : VK} {E : XK} (h : sp_p_film_there G vs H Q E) : Body (t_p_film_there G E) ["web", "film"] vs H Q := by
  obtain ⟨d, S, nx, f, rfl, hd, k1, k2⟩ := h
  show t_p_film_there G E _ [some (.ref d), some (.int f)] H
  unfold t_p_film_there
  walk_at "go"
  refine iteN (fun hn => ?_) (fun hi => ?_)
  · walk_at "go"
    exact k2 hn
  · walk_at "go"
    exact k1 hi
def sp_p_two_corners (G : Gx) : Sp := fun vs H Q E => ∃ (d : Addr) (S : List Int) (nx : Int → Int) (f : Int), vs = [.ref d, .int f] ∧ Rd H d (dW S nx) ∧ Map S ot nx ∧ (2 * f ∉ S → E (.ref (G.ad "NoFilm")) none H) ∧ (2 * f ∈ S → Looped nx (2 * f) → ∀ H', Same H H' → E (.ref (G.ad "Looped")) none H') ∧
  (2 * f ∈ S → ¬ Looped nx (2 * f) → ∀ t t1 t2 H', Same H H' → H' t = some (.tup [.ref t1, .ref t2]) → H' t1 = some (tup3 nx (2 * f)) → H' t2 = some (tup3 nx (2 * f + 1)) → Q (.ref t) H')
theorem len_p_two_corners {G : Gx} : ∀ vs H Q E, sp_p_two_corners G vs H Q E → vs.length = 2 := by rintro vs H Q E ⟨d, S, nx, e, rfl, _⟩; rfl
/-! two_corners: slots web, film -/
def t_p_two_corners (G : Gx) (E : XK) : TS :=
  (tSeq (tDrop (tCall (sp_p_film_there G) [] E (tCons (tVar 0) (tCons (tVar 1) tNil))))
  (tSeq (tIfS (tB (tCall (sp_p_looped G) [] E0 (tCons (tVar 0) (tCons (tVar 1) tNil)))) (tRaise E (G.ad "Looped")) tNext)
  (tRet (tTup (tCons (tCall (sp_p_corner G) [] E (tCons (tVar 0) (tCons (tOp rMulI (tC (.int 2)) (tVar 1)) tNil))) (tCons (tCall (sp_p_corner G) [] E (tCons (tVar 0) (tCons (tOp rAddI (tOp rMulI (tC (.int 2)) (tVar 1)) (tC (.int 1))) tNil))) tNil))))))
theorem pure_p_two_corners {G : Gx} {vs : List V} {H : Hp} {Q : VK} {E : XK} (h : sp_p_two_corners G vs H Q E) : Body (t_p_two_corners G E) ["web", "film"] vs H Q := by
  obtain ⟨d, S, nx, f, rfl, hd, M, k1, k2, k3⟩ := h
  show t_p_two_corners G E _ [some (.ref d), some (.int f)] H
  unfold t_p_two_corners
  walk_at "go"
  refine ⟨d, S, nx, f, rfl, hd, fun hi => ?_, k1⟩
  have ho := two_ot M hi
  walk_at "go"
  refine ⟨d, S, nx, f, rfl, hd, M.cn, hi, fun b H1 hb s1 => ?_⟩
  have hd1 : Rd H1 d (dW S nx) := same_rd s1 hd
  walk_at "go"
  refine iteB (fun h => ?_) (fun h => ?_)
  · walk_at "go"
    exact k2 hi (hb.mp h) _ s1
  · have hno : ¬ Looped nx (2 * f) := fun z => by rw [hb.mpr z] at h; cases h
    walk_at "go"
    refine ⟨d, S, nx, 2 * f, rfl, hd1, M.cn, fun _ t1 h1 => ?_, fun z => absurd hi z⟩
    walk_at "go"
    refine ⟨d, S, nx, 2 * f + 1, rfl, by walk_at "rd", M.cn, fun _ t2 h2 => ?_, fun z => absurd ho z⟩
    walk_at "go"
    refine ⟨by walk_at "sz", fun t h3 => ?_⟩
    exact k3 hi hno t t1 t2 _ (by walk_at "sm") upd_same (by walk_at "hp") (by walk_at "hp")
/-! ### pushed, pulled -/
def spPush (G : Gx) (F : (Int → Int) → Int → Int → Int) : Sp := fun vs H Q E => ∃ (d : Addr) (S : List Int) (nx : Int → Int) (f : Int), vs = [.ref d, .int f] ∧ Rd H d (dW S nx) ∧ Map S ot nx ∧ S.length ≤ 90000 ∧ (2 * f ∉ S → E (.ref (G.ad "NoFilm")) none H) ∧ (2 * f ∈ S → Looped nx (2 * f) → ∀ H', Same H H' → E (.ref (G.ad "Looped")) none H') ∧
  (2 * f ∈ S → ¬ Looped nx (2 * f) → ∀ p H', Same H H' → Free H p → H' p = some (dW S (F nx (2 * f))) → Q (.ref p) H')
def sp_p_pushed (G : Gx) : Sp := spPush G pushF
def sp_p_pulled (G : Gx) : Sp := spPush G pullF
theorem len_p_pushed {G : Gx} : ∀ vs H Q E, sp_p_pushed G vs H Q E → vs.length = 2 := by rintro vs H Q E ⟨d, S, nx, e, rfl, _⟩; rfl
theorem len_p_pulled {G : Gx} : ∀ vs H Q E, sp_p_pulled G vs H Q E → vs.length = 2 := by rintro vs H Q E ⟨d, S, nx, e, rfl, _⟩; rfl
theorem c_seatS {G : Gx} {H0 H1 : Hp} {p u : Addr} {T : List Int} {w : Int → Int} {x y z : Int} {Q : VK} {E : XK} (s1 : Same H0 H1) (hp0 : Free H0 p) (e1 : H1 p = some (dW T w)) (hT : T.length ≤ 100000) (hu : Free H1 u)
    (k : ∀ H2, Same H0 H2 → H2 p = some (dW (putS3 T x y z) (seatF w x y z)) → Q .non H2) : sp_p_seat G [.ref p, .ref u] (upd H1 u (.tup [.int x, .int y, .int z])) Q E :=
  ⟨p, u, T, w, x, y, z, rfl, at_new e1 hu, SqT.of upd_same, hT, k _ (same_mut (same_new s1 hu) hp0) upd_same⟩
theorem c_seatI {G : Gx} {H0 H1 : Hp} {p u : Addr} {T : List Int} {w : Int → Int} {x y z : Int} {Q : VK} {E : XK} (s1 : Same H0 H1) (hp0 : Free H0 p) (e1 : H1 p = some (dW T w)) (hT : T.length ≤ 100000) (hx : x ∈ T) (hy : y ∈ T) (hz : z ∈ T) (hu : Free H1 u)
    (k : ∀ H2, Same H0 H2 → H2 p = some (dW T (seatF w x y z)) → Q .non H2) : sp_p_seat G [.ref p, .ref u] (upd H1 u (.tup [.int x, .int y, .int z])) Q E :=
  c_seatS s1 hp0 e1 hT hu fun H2 s e => k H2 s (by rw [putS3_in hx hy hz] at e; exact e)
/-! pushed: slots web, film, e, a, b, o, c, d, made -/
def t_p_pushed (G : Gx) (E : XK) : TS :=
  (tSeq (tAsg (tCall (sp_p_two_corners G) [] E (tCons (tVar 0) (tCons (tVar 1) tNil))) (gTup G.K 2 (gCons (gTup G.K 3 (gCons (gName 2) (gCons (gName 3) (gCons (gName 4) gNil)))) (gCons (gTup G.K 3 (gCons (gName 5) (gCons (gName 6) (gCons (gName 7) gNil)))) gNil))))
  (tSeq (tAsg (tCB rDictRd (tCons (tVar 0) tNil)) (gName 8))
  (tSeq (tDrop (tCall (sp_p_seat G) [] E0 (tCons (tVar 8) (tCons (tTup (tCons (tVar 2) (tCons (tVar 4) (tCons (tVar 6) tNil)))) tNil))))
  (tSeq (tDrop (tCall (sp_p_seat G) [] E0 (tCons (tVar 8) (tCons (tTup (tCons (tVar 5) (tCons (tVar 7) (tCons (tVar 3) tNil)))) tNil))))
  (tRet (tVar 8))))))
theorem pure_p_pushed {G : Gx} {vs : List V} {H : Hp} {Q : VK} {E : XK} (h : sp_p_pushed G vs H Q E) : Body (t_p_pushed G E) ["web", "film", "e", "a", "b", "o", "c", "d", "made"] vs H Q := by
  obtain ⟨d, S, nx, f, rfl, hd, M, hl, k1, k2, k3⟩ := h
  show t_p_pushed G E _ [some (.ref d), some (.int f), none, none, none, none, none, none, none] H
  unfold t_p_pushed
  walk_at "go"
  refine ⟨d, S, nx, f, rfl, hd, M, k1, k2, fun hi hno t t1 t2 H1 s1 e1 e2 e3 => ?_⟩
  have ho := two_ot M hi
  refine g_tup (SqT.of e1) rfl ?_
  refine g_cons (g_tup (SqT.of e2) rfl ?_)
  refine g_cons (g_name (g_cons (g_name (g_cons (g_name (g_nil ?_))))))
  refine g_cons (g_tup (SqT.of e3) rfl ?_)
  refine g_cons (g_name (g_cons (g_name (g_cons (g_name (g_nil ?_))))))
  refine g_nil ?_
  have hd1 : Rd H1 d (dW S nx) := same_rd s1 hd
  have hl1 : S.length ≤ 100000 := by omega
  dsimp only [List.set]
  walk_at "go"
  intro p hp
  have hp0 : Free H p := s1.free hp
  have s2 := same_new (o := dW S nx) s1 hp
  have f2 : upd H1 p (dW S nx) p = some (dW S nx) := upd_same
  generalize upd H1 p (dW S nx) = H2 at s2 f2 ⊢
  have ha := M.cn _ hi
  have hb := M.cn _ ha
  have hc := M.cn _ ho
  have hd' := M.cn _ hc
  walk_at "go"
  refine ⟨by walk_at "sz", fun u hu => ?_⟩
  walk_at "go"
  refine c_seatI s2 hp0 f2 hl1 hi hb hc hu fun H3 s3 f3 => ?_
  walk_at "go"
  refine ⟨by walk_at "sz", fun u2 hu2 => ?_⟩
  walk_at "go"
  refine c_seatI s3 hp0 f3 hl1 ho hd' ha hu2 fun H4 s4 f4 => ?_
  walk_at "go"
  refine k3 hi hno p _ s4 hp0 ?_
  unfold pushF
  rw [ot_even]
  exact f4
/-! pulled: slots web, film, e, a, b, o, c, d, made -/
def t_p_pulled (G : Gx) (E : XK) : TS :=
  (tSeq (tAsg (tCall (sp_p_two_corners G) [] E (tCons (tVar 0) (tCons (tVar 1) tNil))) (gTup G.K 2 (gCons (gTup G.K 3 (gCons (gName 2) (gCons (gName 3) (gCons (gName 4) gNil)))) (gCons (gTup G.K 3 (gCons (gName 5) (gCons (gName 6) (gCons (gName 7) gNil)))) gNil))))
  (tSeq (tAsg (tCB rDictRd (tCons (tVar 0) tNil)) (gName 8))
  (tSeq (tDrop (tCall (sp_p_seat G) [] E0 (tCons (tVar 8) (tCons (tTup (tCons (tVar 2) (tCons (tVar 7) (tCons (tVar 3) tNil)))) tNil))))
  (tSeq (tDrop (tCall (sp_p_seat G) [] E0 (tCons (tVar 8) (tCons (tTup (tCons (tVar 5) (tCons (tVar 4) (tCons (tVar 6) tNil)))) tNil))))
  (tRet (tVar 8))))))
theorem pure_p_pulled {G : Gx} {vs : List V} {H : Hp} {Q : VK} {E : XK} (h : sp_p_pulled G vs H Q E) : Body (t_p_pulled G E) ["web", "film", "e", "a", "b", "o", "c", "d", "made"] vs H Q := by
  obtain ⟨d, S, nx, f, rfl, hd, M, hl, k1, k2, k3⟩ := h
  show t_p_pulled G E _ [some (.ref d), some (.int f), none, none, none, none, none, none, none] H
  unfold t_p_pulled
  walk_at "go"
  refine ⟨d, S, nx, f, rfl, hd, M, k1, k2, fun hi hno t t1 t2 H1 s1 e1 e2 e3 => ?_⟩
  have ho := two_ot M hi
  refine g_tup (SqT.of e1) rfl ?_
  refine g_cons (g_tup (SqT.of e2) rfl ?_)
  refine g_cons (g_name (g_cons (g_name (g_cons (g_name (g_nil ?_))))))
  refine g_cons (g_tup (SqT.of e3) rfl ?_)
  refine g_cons (g_name (g_cons (g_name (g_cons (g_name (g_nil ?_))))))
  refine g_nil ?_
  have hd1 : Rd H1 d (dW S nx) := same_rd s1 hd
  have hl1 : S.length ≤ 100000 := by omega
  dsimp only [List.set]
  walk_at "go"
  intro p hp
  have hp0 : Free H p := s1.free hp
  have s2 := same_new (o := dW S nx) s1 hp
  have f2 : upd H1 p (dW S nx) p = some (dW S nx) := upd_same
  generalize upd H1 p (dW S nx) = H2 at s2 f2 ⊢
  have ha := M.cn _ hi
  have hb := M.cn _ ha
  have hc := M.cn _ ho
  have hd' := M.cn _ hc
  walk_at "go"
  refine ⟨by walk_at "sz", fun u hu => ?_⟩
  walk_at "go"
  refine c_seatI s2 hp0 f2 hl1 hi hd' ha hu fun H3 s3 f3 => ?_
  walk_at "go"
  refine ⟨by walk_at "sz", fun u2 hu2 => ?_⟩
  walk_at "go"
  refine c_seatI s3 hp0 f3 hl1 ho hb hc hu2 fun H4 s4 f4 => ?_
  walk_at "go"
  refine k3 hi hno p _ s4 hp0 ?_
  unfold pullF
  rw [ot_even]
  exact f4
/-! ### blown -/
def sp_p_blown (G : Gx) : Sp := fun vs H Q E => ∃ (d : Addr) (S : List Int) (nx : Int → Int) (e f : Int), vs = [.ref d, .int e, .int f] ∧ Rd H d (dW S nx) ∧ Map S ot nx ∧ (∀ x ∈ S, x < 2 * f) ∧ S.length ≤ 90000 ∧ (e ∉ S → E (.ref (G.ad "NoEnd")) none H) ∧
  (e ∈ S → ∀ p H', Same H H' → Free H p → H' p = some (dW (blowS S (2 * f)) (blowF nx e (2 * f))) → Q (.ref p) H')
theorem len_p_blown {G : Gx} : ∀ vs H Q E, sp_p_blown G vs H Q E → vs.length = 3 := by rintro vs H Q E ⟨d, S, nx, e, f, rfl, _⟩; rfl
theorem blow_keys {S : List Int} {e a b L : Int} (he : e ∈ S) (ha : a ∈ S) (hb : b ∈ S) (hL : ∀ x ∈ S, x < L) : putS3 S e L (L + 5) = S ++ [L, L + 5] ∧ putS3 (S ++ [L, L + 5]) a (L + 2) (L + 1) = S ++ [L, L + 5, L + 2, L + 1] ∧
    putS3 (S ++ [L, L + 5, L + 2, L + 1]) b (L + 4) (L + 3) = blowS S L := by
  have no : ∀ i : Int, 0 ≤ i → L + i ∉ S := fun i hi q => by have := hL _ q; omega
  refine ⟨putS3_1 he (fun q => by have := hL _ q; omega) (no 5 (by decide)) (by omega), ?_, ?_⟩
  · rw [putS3_1 (List.mem_append.mpr (.inl ha)) (fun q => ?_) (fun q => ?_) (by omega), List.append_assoc]
    · rfl
    · rcases List.mem_append.mp q with q | q
      · exact no 2 (by decide) q
      · simp only [List.mem_cons, List.not_mem_nil, or_false] at q
        omega
    · rcases List.mem_append.mp q with q | q
      · exact no 1 (by decide) q
      · simp only [List.mem_cons, List.not_mem_nil, or_false] at q
        omega
  · rw [putS3_1 (List.mem_append.mpr (.inl hb)) (fun q => ?_) (fun q => ?_) (by omega), List.append_assoc]
    · rfl
    · rcases List.mem_append.mp q with q | q
      · exact no 4 (by decide) q
      · simp only [List.mem_cons, List.not_mem_nil, or_false] at q
        omega
    · rcases List.mem_append.mp q with q | q
      · exact no 3 (by decide) q
      · simp only [List.mem_cons, List.not_mem_nil, or_false] at q
        omega
/-! blown: slots web, end, first, e, a, b, made, low -/
def t_p_blown (G : Gx) (E : XK) : TS :=
  (tSeq (tAsg (tCall (sp_p_corner G) [] E (tCons (tVar 0) (tCons (tVar 1) tNil))) (gTup G.K 3 (gCons (gName 3) (gCons (gName 4) (gCons (gName 5) gNil)))))
  (tSeq (tAsg (tCB rDictRd (tCons (tVar 0) tNil)) (gName 6))
  (tSeq (tAsg (tOp rMulI (tC (.int 2)) (tVar 2)) (gName 7))
  (tSeq (tDrop (tCall (sp_p_seat G) [] E0 (tCons (tVar 6) (tCons (tTup (tCons (tVar 3) (tCons (tVar 7) (tCons (tOp rAddI (tVar 7) (tC (.int 5))) tNil)))) tNil))))
  (tSeq (tDrop (tCall (sp_p_seat G) [] E0 (tCons (tVar 6) (tCons (tTup (tCons (tVar 4) (tCons (tOp rAddI (tVar 7) (tC (.int 2))) (tCons (tOp rAddI (tVar 7) (tC (.int 1))) tNil)))) tNil))))
  (tSeq (tDrop (tCall (sp_p_seat G) [] E0 (tCons (tVar 6) (tCons (tTup (tCons (tVar 5) (tCons (tOp rAddI (tVar 7) (tC (.int 4))) (tCons (tOp rAddI (tVar 7) (tC (.int 3))) tNil)))) tNil))))
  (tRet (tVar 6))))))))
theorem pure_p_blown {G : Gx} {vs : List V} {H : Hp} {Q : VK} {E : XK} (h : sp_p_blown G vs H Q E) : Body (t_p_blown G E) ["web", "end", "first", "e", "a", "b", "made", "low"] vs H Q := by
  obtain ⟨d, S, nx, e, f, rfl, hd, M, hL, hl, k1, k2⟩ := h
  show t_p_blown G E _ [some (.ref d), some (.int e), some (.int f), none, none, none, none, none] H
  unfold t_p_blown
  walk_at "go"
  refine ⟨d, S, nx, e, rfl, hd, M.cn, fun he t1 h1 => ?_, k1⟩
  refine g_tup (SqT.of (xs := [.int e, .int (nx e), .int (nx (nx e))]) upd_same) rfl ?_
  have s1 : Same H (upd H t1 (tup3 nx e)) := same_new (Same.refl _) h1
  generalize upd H t1 (tup3 nx e) = H1 at s1 ⊢
  have hd1 : Rd H1 d (dW S nx) := same_rd s1 hd
  walk_at "go"
  intro p hp
  have hp0 : Free H p := s1.free hp
  have s2 := same_new (o := dW S nx) s1 hp
  have f2 : upd H1 p (dW S nx) p = some (dW S nx) := upd_same
  generalize upd H1 p (dW S nx) = H2 at s2 f2 ⊢
  have ha := M.cn _ he
  have hb := M.cn _ ha
  obtain ⟨q1, q2, q3⟩ := blow_keys he ha hb hL
  walk_at "go"
  refine ⟨by walk_at "sz", fun u hu => ?_⟩
  walk_at "go"
  refine c_seatS s2 hp0 f2 (by omega) hu fun H3 s3 f3 => ?_
  rw [q1] at f3
  walk_at "go"
  refine ⟨by walk_at "sz", fun u2 hu2 => ?_⟩
  walk_at "go"
  refine c_seatS s3 hp0 f3 (by rw [List.length_append]; simp only [List.length_cons, List.length_nil]; omega) hu2 fun H4 s4 f4 => ?_
  rw [q2] at f4
  walk_at "go"
  refine ⟨by walk_at "sz", fun u3 hu3 => ?_⟩
  walk_at "go"
  refine c_seatS s4 hp0 f4 (by rw [List.length_append]; simp only [List.length_cons, List.length_nil]; omega) hu3 fun H5 s5 f5 => ?_
  rw [q3] at f5
  walk_at "go"
  exact k2 he p _ s5 hp0 f5
/-! ### put_in_place, mend -/
def sp_p_put_in_place (G : Gx) : Sp := fun vs H Q _ => ∃ (d : Addr) (T : List Int) (w : Int → Int) (e g : Int), vs = [.ref d, .int e, .int g] ∧ H d = some (dW T w) ∧ e ∈ T ∧ g ∈ T ∧ w g ∈ T ∧ w (w g) ∈ T ∧ T.length ≤ 90000 ∧ Q .non (upd H d (dW (T.filter fun z => decide (z ≠ g)) (fset (fset w e (w g)) (w (w g)) e)))
theorem len_p_put_in_place {G : Gx} : ∀ vs H Q E, sp_p_put_in_place G vs H Q E → vs.length = 3 := by rintro vs H Q E ⟨d, T, w, e, g, rfl, _⟩; rfl
/-! put_in_place: slots web, end, gone, after, ahead -/
def t_p_put_in_place (G : Gx) : TS :=
  (tSeq (tAsg (tDGet (tVar 0) (tVar 2)) (gName 3))
  (tSeq (tAsg (tDGet (tVar 0) (tVar 3)) (gName 4))
  (tSeq (sDPut (tVar 0) (tVar 1) (tVar 3))
  (tSeq (sDPut (tVar 0) (tVar 4) (tVar 1))
  (tDrop (tDPop1 (tVar 0) (tVar 2)))))))
theorem pure_p_put_in_place {G : Gx} {vs : List V} {H : Hp} {Q : VK} {E : XK} (h : sp_p_put_in_place G vs H Q E) : Body (t_p_put_in_place G) ["web", "end", "gone", "after", "ahead"] vs H Q := by
  obtain ⟨d, T, w, e, g, rfl, hd, he, hg, hp, hq, hl, k⟩ := h
  show t_p_put_in_place G _ [some (.ref d), some (.int e), some (.int g), none, none] H
  unfold t_p_put_in_place
  have hl1 : T.length < sizeLine := size1000l (by omega)
  walk_at "go"
  rw [putS_in he]
  have e2 : upd H d (dW T (fset w e (w g))) d = some (dW T (fset w e (w g))) := upd_same
  generalize hw : upd H d (dW T (fset w e (w g))) = H2 at e2 ⊢
  walk_at "go"
  rw [putS_in hq]
  have e3 : upd H2 d (dW T (fset (fset w e (w g)) (w (w g)) e)) d = some (dW T (fset (fset w e (w g)) (w (w g)) e)) := upd_same
  refine r_dpop ?_
  walk_at "go"
  refine ⟨d, rfl, isD_I (rd_in e3), ?_⟩
  walk_at "go"
  refine r_dpop1 e3 hg ?_
  rw [upd_upd, ← hw, upd_upd]
  exact k
def sp_p_mend (G : Gx) : Sp := fun vs H Q _ => ∃ (d : Addr) (S : List Int) (al nx : Int → Int) (t : Int), vs = [.ref d, .int t] ∧ H d = some (dW S nx) ∧ Mend S al nx t (mX nx t) (mY nx t) (ot (mY nx t)) ∧ S.length ≤ 90000 ∧ Q .non (upd H d (dW (m1S S nx t) (m1N nx t)))
theorem len_p_mend {G : Gx} : ∀ vs H Q E, sp_p_mend G vs H Q E → vs.length = 2 := by rintro vs H Q E ⟨d, S, al, nx, t, rfl, _⟩; rfl
/-! mend: slots web, end, one, two, kept, lost -/
def t_p_mend (G : Gx) : TS :=
  (tSeq (tPar 2 3 (tCons (tDGet (tVar 0) (tVar 1)) (tCons (tDGet (tVar 0) (tDGet (tVar 0) (tVar 1))) tNil)))
  (tSeq (tPar 4 5 (tCons (tCB rMin2 (tCons (tVar 2) (tCons (tVar 3) tNil))) (tCons (tCB rMax2 (tCons (tVar 2) (tCons (tVar 3) tNil))) tNil)))
  (tSeq (tDrop (tDPop1 (tVar 0) (tVar 1)))
  (tSeq (tDrop (tDPop1 (tVar 0) (tVar 5)))
  (tDrop (tCall (sp_p_put_in_place G) [] E0 (tCons (tVar 0) (tCons (tVar 4) (tCons (tCall (sp_p_other G) [] E0 (tCons (tVar 5) tNil)) tNil)))))))))
theorem pure_p_mend {G : Gx} {vs : List V} {H : Hp} {Q : VK} {E : XK} (h : sp_p_mend G vs H Q E) : Body (t_p_mend G) ["web", "end", "one", "two", "kept", "lost"] vs H Q := by
  obtain ⟨d, S, al, nx, t, rfl, hd, D, hl, k⟩ := h
  show t_p_mend G _ [some (.ref d), some (.int t), none, none, none, none] H
  unfold t_p_mend
  have M := D.M
  have ha := M.cn _ D.ht
  have hb := M.cn _ ha
  have F := D.facts
  have ht := D.ht
  have hy := D.hy
  walk_at "go"
  rw [show (if nx (nx t) < nx t then nx (nx t) else nx t) = mX nx t by unfold mX; split <;> omega, show (if nx (nx t) > nx t then nx (nx t) else nx t) = mY nx t by unfold mY; split <;> omega]
  unfold m1S m1N at k
  generalize mX nx t = X at *
  generalize mY nx t = Y at *
  generalize hg : ot Y = g at *
  refine r_dpop ?_
  walk_at "go"
  refine ⟨d, rfl, isD_I (rd_in hd), ?_⟩
  walk_at "go"
  refine r_dpop1 hd ht ?_
  have e2 : upd H d (dW (S.filter fun x => decide (x ≠ t)) nx) d = some (dW (S.filter fun x => decide (x ≠ t)) nx) := upd_same
  generalize hw : upd H d (dW (S.filter fun x => decide (x ≠ t)) nx) = H2 at e2 ⊢
  have hy2 : Y ∈ S.filter fun x => decide (x ≠ t) := List.mem_filter.mpr ⟨hy, decide_eq_true (Ne.symm F.ty)⟩
  walk_at "go"
  refine r_dpop ?_
  walk_at "go"
  refine ⟨d, rfl, isD_I (rd_in e2), ?_⟩
  walk_at "go"
  refine r_dpop1 e2 hy2 ?_
  have eT : ((S.filter fun x => decide (x ≠ t)).filter fun x => decide (x ≠ Y)) = S.filter fun x => decide (x ≠ t ∧ x ≠ Y) := by
    rw [List.filter_filter]
    refine List.filter_congr fun x _ => ?_
    by_cases h1 : x = t <;> by_cases h2 : x = Y <;> simp [h1, h2]
  rw [eT]
  have mT : ∀ z, z ∈ S → z ≠ t → z ≠ Y → z ∈ S.filter fun x => decide (x ≠ t ∧ x ≠ Y) := fun z h1 h2 h3 => List.mem_filter.mpr ⟨h1, decide_eq_true ⟨h2, h3⟩⟩
  walk_at "go"
  rw [hg]
  refine ⟨d, _, nx, X, g, rfl, upd_same, mT X F.hx (Ne.symm F.tx) F.xy, mT g F.hg F.gt D.gy, mT _ F.hp F.pt F.py, mT _ F.hq F.qt F.qy, ?_, ?_⟩
  · have := List.length_filter_le (fun x => decide (x ≠ t ∧ x ≠ Y)) S
    omega
  rw [upd_upd, ← hw, upd_upd]
  have eK : ((S.filter fun x => decide (x ≠ t ∧ x ≠ Y)).filter fun z => decide (z ≠ g)) = mendS S t Y g := by
    unfold mendS
    rw [List.filter_filter]
    refine List.filter_congr fun x _ => ?_
    by_cases h1 : x = t <;> by_cases h2 : x = Y <;> by_cases h3 : x = g <;> simp [h1, h2, h3]
  rw [eK]
  have eV : dW (mendS S t Y g) (fset (fset nx X (nx g)) (nx (nx g)) X) = dW (mendS S t Y g) (mendN nx X g) := dI_congr fun z hz => congrArg V.int (by
    have hzS := (mem_mendS.mp hz).1
    by_cases q : z = nx (nx g)
    · rw [q, fset_same]
      unfold mendN
      rw [if_neg F.qx, if_pos F.qg]
    · rw [fset_ne q]
      by_cases x : z = X
      · rw [x, fset_same]
        unfold mendN
        rw [if_pos rfl]
      · rw [fset_ne x]
        unfold mendN
        rw [if_neg x, if_neg fun h => q (M.ninj hzS F.hq (h.trans F.qg.symm))])
  rw [eV]
  exact k
/-! ### without, burst -/
def sp_p_without (G : Gx) : Sp := fun vs H Q _ => ∃ (d : Addr) (S : List Int) (nx : Int → Int) (f : Int), vs = [.ref d, .int f] ∧ Rd H d (dW S nx) ∧ Web S nx ∧ 2 * f ∈ S ∧ (Looped nx (2 * f) ∨ ¬ Rim S nx (2 * f) (ot (2 * f))) ∧ S.length ≤ 90000 ∧
  ∀ (S' : List Int) p H', S'.Nodup → (∀ z, z ∈ S' ↔ z ∈ wS S nx (2 * f)) → Same H H' → Free H p → H' p = some (dW S' (wN nx (2 * f))) → Q (.ref p) H'
theorem len_p_without {G : Gx} : ∀ vs H Q E, sp_p_without G vs H Q E → vs.length = 2 := by rintro vs H Q E ⟨d, S, nx, f, rfl, _⟩; rfl
/-! without: slots web, film, made, low, left, end -/
def t_p_without (G : Gx) : TS :=
  (tSeq (tAsg (tCB rDictRd (tCons (tVar 0) tNil)) (gName 2))
  (tSeq (tAsg (tOp rMulI (tC (.int 2)) (tVar 1)) (gName 3))
  (tSeq (tIfS (tNot (tB (tCall (sp_p_looped G) [] E0 (tCons (tVar 0) (tCons (tVar 1) tNil))))) (tSeq (tDrop (tCall (sp_p_mend G) [] E0 (tCons (tVar 2) (tCons (tVar 3) tNil))))
  (tSeq (tDrop (tCall (sp_p_mend G) [] E0 (tCons (tVar 2) (tCons (tOp rAddI (tVar 3) (tC (.int 1))) tNil))))
  (tRet (tVar 2)))) tNext)
  (tSeq (tAsg (tOp (rIxL G.K) (tLc (iTup G.K (tCall (sp_p_corner G) [] E0 (tCons (tVar 0) (tCons (tVar 3) tNil)))) (gName 5) (tTest (tOp rNe (tOp rDivW (tVar 5) (tC (.int 2))) (tVar 1))) (tVar 5) [5]) (tC (.int 0))) (gName 4))
  (tSeq (tFor (iTup G.K (tTup (tCons (tVar 3) (tCons (tOp rAddI (tVar 3) (tC (.int 1))) (tCons (tVar 4) tNil))))) (gName 5)
  (tDrop (tDPop1 (tVar 2) (tVar 5))))
  (tSeq (tDrop (tCall (sp_p_mend G) [] E0 (tCons (tVar 2) (tCons (tCall (sp_p_other G) [] E0 (tCons (tVar 4) tNil)) tNil))))
  (tRet (tVar 2))))))))
theorem m1S_nd {S : List Int} {nx : Int → Int} {t : Int} (h : S.Nodup) : (m1S S nx t).Nodup := h.filter _
theorem m1S_len {S : List Int} {nx : Int → Int} {t : Int} : (m1S S nx t).length ≤ S.length := List.length_filter_le _ _
theorem loop_third {S : List Int} {nx : Int → Int} {f : Int} (M : Map S ot nx) (he : 2 * f ∈ S) (hlo : Looped nx (2 * f)) : [2 * f, nx (2 * f), nx (nx (2 * f))].filter (fun x => !decide (x / 2 = f)) = [loopT nx (2 * f)] := by
  have ha := M.cn _ he
  have d0 : decide (2 * f / 2 = f) = true := decide_eq_true (by omega)
  have dv : ∀ x, x ≠ 2 * f → x ≠ ot (2 * f) → decide (x / 2 = f) = false := fun x h1 h2 => decide_eq_false fun q => by rw [ot_even] at h2; omega
  have do_ : decide (ot (2 * f) / 2 = f) = true := decide_eq_true (by rw [ot_even]; omega)
  unfold loopT
  by_cases c : nx (2 * f) = ot (2 * f)
  · have d2 := dv (nx (nx (2 * f))) (M.n2 he) (by rw [← c]; exact M.n1 _ ha)
    rw [if_pos c]
    rw [c] at d2 ⊢
    simp only [List.filter_cons, List.filter_nil, d0, do_, d2]
    rfl
  · have c2 := hlo.resolve_left c
    have d1 := dv (nx (2 * f)) (M.n1 _ he) c
    rw [if_neg c, c2]
    simp only [List.filter_cons, List.filter_nil, d0, do_, d1]
    rfl
theorem pure_p_without {G : Gx} {vs : List V} {H : Hp} {Q : VK} {E : XK} (h : sp_p_without G vs H Q E) : Body (t_p_without G) ["web", "film", "made", "low", "left", "end"] vs H Q := by
  obtain ⟨d, S, nx, f, rfl, hd, W, he, hc, hl, k⟩ := h
  show t_p_without G _ [some (.ref d), some (.int f), none, none, none, none] H
  unfold t_p_without
  have M := W.map
  have ha := M.cn _ he
  have hb := M.cn _ ha
  walk_at "go"
  intro p hp
  have s1 : Same H (upd H p (dW S nx)) := same_new (Same.refl _) hp
  have e1 : upd H p (dW S nx) p = some (dW S nx) := upd_same
  generalize upd H p (dW S nx) = H1 at s1 e1 ⊢
  walk_at "go"
  refine ⟨d, S, nx, f, rfl, same_rd s1 hd, M.cn, he, fun b H2 hb s2 => ?_⟩
  have e2 := s2 _ _ e1
  have s3 := s1.trans s2
  walk_at "go"
  refine iteNB (fun h => ?_) (fun h => ?_)
  · have hno : ¬ Looped nx (2 * f) := fun z => by rw [hb.mpr z] at h; cases h
    have B := burst_web W he (fun z => hno (.inl z)) (fun z => hno (.inr z)) (hc.resolve_left hno)
    have D1 := B.D1
    have D2 := B.D2
    walk_at "go"
    refine ⟨p, S, _, nx, 2 * f, rfl, e2, D1, hl, ?_⟩
    walk_at "go"
    rw [← ot_even]
    refine ⟨p, _, _, _, ot (2 * f), rfl, upd_same, D2, Nat.le_trans m1S_len hl, ?_⟩
    rw [upd_upd]
    walk_at "go"
    refine k (m1S (m1S S nx (2 * f)) (m1N nx (2 * f)) (ot (2 * f))) p _ (m1S_nd (m1S_nd M.nd)) (fun z => ?_) (same_mut s3 hp) hp ?_
    · unfold wS burstS
      rw [if_neg hno]
    · unfold wN
      rw [if_neg hno]
      exact upd_same
  · have hlo := hb.mp h
    have B := burstL_web W he hlo
    walk_at "go"
    refine r_lcOT ?_
    walk_at "go"
    refine ⟨d, S, nx, 2 * f, rfl, same_rd s3 hd, M.cn, fun _ t1 h1 => ?_, fun z => absurd he z⟩
    have s4 : Same H (upd H2 t1 (tup3 nx (2 * f))) := same_new s3 h1
    have e3 : upd H2 t1 (tup3 nx (2 * f)) p = some (dW S nx) := at_new e2 h1
    have e4 : upd H2 t1 (tup3 nx (2 * f)) t1 = some (.tup ([2 * f, nx (2 * f), nx (nx (2 * f))].map V.int)) := upd_same
    generalize upd H2 t1 (tup3 nx (2 * f)) = H3 at s4 e3 e4 ⊢
    refine r_lcT (ns := [2 * f, nx (2 * f), nx (nx (2 * f))]) (p := fun x => !decide (x / 2 = f)) (e := V.int) (SqT.of e4) (fun _ q => q) (by show 3 < sizeLine; decide) (fun x hx D u hD R q => ?_) (fun x hx _ D u hD Q q => ?_) (fun D hD => ?_)
    · walk_at "go"
      rw [show decide (V.int (x / 2) = V.int f) = decide (x / 2 = f) from decide_eq_decide.mpr ⟨fun h => V.int.inj h, fun h => by rw [h]⟩]
      exact q
    · walk_at "go"
      exact q
    rw [loop_third M he hlo]
    have s5 : Same H (upd H3 D (.lst ([loopT nx (2 * f)].map V.int))) := same_new s4 hD
    have e5 : upd H3 D (.lst ([loopT nx (2 * f)].map V.int)) p = some (dW S nx) := at_new e3 hD
    have e6 : upd H3 D (.lst ([loopT nx (2 * f)].map V.int)) D = some (.lst [.int (loopT nx (2 * f))]) := upd_same
    generalize upd H3 D (.lst ([loopT nx (2 * f)].map V.int)) = H4 at s5 e5 e6 ⊢
    have hT : loopT nx (2 * f) ∈ S ∧ loopT nx (2 * f) ≠ 2 * f ∧ loopT nx (2 * f) ≠ ot (2 * f) := by
      unfold loopT
      by_cases c : nx (2 * f) = ot (2 * f)
      · rw [if_pos c]
        exact ⟨M.cn _ ha, M.n2 he, by rw [← c]; exact M.n1 _ ha⟩
      · rw [if_neg c]
        exact ⟨ha, M.n1 _ he, c⟩
    obtain ⟨hT1, hT2, hT3⟩ := hT
    walk_at "go"
    refine ⟨by walk_at "sz", fun t2 h2 => ?_⟩
    have nt2 : p ≠ t2 := ne_fresh e5 h2
    have e7 : upd H4 t2 (.tup [.int (2 * f), .int (2 * f + 1), .int (loopT nx (2 * f))]) t2 = some (.tup [.int (2 * f), .int (2 * f + 1), .int (loopT nx (2 * f))]) := upd_same
    refine r_forT (SqT.of e7) (fun pre post σ H' => ∃ (o5 : Option V), σ = [some (.ref d), some (.int f), some (.ref p), some (.int (2 * f)), some (.int (loopT nx (2 * f))), o5] ∧ Same H H' ∧ H' t2 = some (.tup [.int (2 * f), .int (2 * f + 1), .int (loopT nx (2 * f))]) ∧ H' p = some (dW (S.filter fun z => decide (V.int z ∉ pre)) nx))
      ⟨_, rfl, same_new s5 h2, e7, by rw [at_ne e5 nt2]; congr 2; exact (List.filter_eq_self.mpr fun _ _ => decide_eq_true List.not_mem_nil).symm⟩ (fun _ _ _ _ _ ⟨_, _, _, e, _⟩ => SqT.of e) ?_ ?_
    · rintro pre v post σ H5 es ⟨o5, rfl, s6, e8, e9⟩
      have hv : v ∈ [V.int (2 * f), .int (2 * f + 1), .int (loopT nx (2 * f))] := by rw [es]; exact List.mem_append.mpr (.inr List.mem_cons_self)
      have ndv : [V.int (2 * f), .int (2 * f + 1), .int (loopT nx (2 * f))].Nodup := by
        rw [ot_even] at hT3
        refine List.nodup_cons.mpr ⟨fun z => ?_, List.nodup_cons.mpr ⟨fun z => ?_, List.Pairwise.cons (fun _ z => nomatch z) .nil⟩⟩
        · simp only [List.mem_cons, List.not_mem_nil, or_false, V.int.injEq] at z
          omega
        · simp only [List.mem_cons, List.not_mem_nil, or_false, V.int.injEq] at z
          exact hT3 z.symm
      obtain ⟨z, rfl, hz⟩ : ∃ z, v = .int z ∧ z ∈ S := by
        simp only [List.mem_cons, List.not_mem_nil, or_false] at hv
        rcases hv with rfl | rfl | rfl
        · exact ⟨_, rfl, he⟩
        · exact ⟨_, rfl, two_ot M he⟩
        · exact ⟨_, rfl, hT1⟩
      have nz : V.int z ∉ pre := fun q => by
        rw [es] at ndv
        exact (List.nodup_append.mp ndv).2.2 _ q _ List.mem_cons_self rfl
      walk_at "go"
      refine r_dpop ?_
      walk_at "go"
      refine ⟨p, rfl, isD_I (rd_in e9), ?_⟩
      walk_at "go"
      refine r_dpop1 (Q := fun _ H' => ∃ (o5 : Option V), [some (V.ref d), some (.int f), some (.ref p), some (.int (2 * f)), some (.int (loopT nx (2 * f))), some (.int z)] = [some (.ref d), some (.int f), some (.ref p), some (.int (2 * f)), some (.int (loopT nx (2 * f))), o5] ∧ Same H H' ∧ H' t2 = some (.tup [.int (2 * f), .int (2 * f + 1), .int (loopT nx (2 * f))]) ∧ H' p = some (dW (S.filter fun x => decide (V.int x ∉ pre ++ [V.int z])) nx)) e9 (List.mem_filter.mpr ⟨hz, decide_eq_true nz⟩) ?_
      refine ⟨_, rfl, same_mut s6 hp, at_ne e8 (Ne.symm nt2), ?_⟩
      rw [upd_same, List.filter_filter]
      congr 2
      refine List.filter_congr fun x _ => ?_
      by_cases q1 : x = z
      · simp [q1]
      · by_cases q2 : V.int x ∈ pre
        · simp [q1, q2]
        · simp [q1, q2]
    · rintro σ H5 ⟨o5, rfl, s6, e8, e9⟩
      have eL : (S.filter fun z => decide (V.int z ∉ [V.int (2 * f), .int (2 * f + 1), .int (loopT nx (2 * f))])) = loopS S nx (2 * f) := by
        unfold loopS
        refine List.filter_congr fun x _ => decide_eq_decide.mpr ?_
        rw [ot_even]
        simp only [List.mem_cons, List.not_mem_nil, or_false, V.int.injEq, not_or]
      rw [eL] at e9
      walk_at "go"
      refine ⟨p, _, _, nx, ot (loopT nx (2 * f)), rfl, e9, B.D, Nat.le_trans (List.length_filter_le _ _) hl, ?_⟩
      walk_at "go"
      refine k (burstLS S nx (2 * f)) p _ (m1S_nd (M.nd.filter _)) (fun z => ?_) (same_mut s6 hp) hp ?_
      · unfold wS
        rw [if_pos hlo]
      · unfold wN burstLN burstLS
        rw [if_pos hlo]
        exact upd_same
def sp_p_burst (G : Gx) : Sp := fun vs H Q E => ∃ (d : Addr) (S : List Int) (nx : Int → Int) (f : Int), vs = [.ref d, .int f] ∧ Rd H d (dW S nx) ∧ Web S nx ∧ S.length ≤ 90000 ∧ (2 * f ∉ S → E (.ref (G.ad "NoFilm")) none H) ∧ (2 * f ∈ S → Rim S nx (2 * f) (ot (2 * f)) → ∀ H', Same H H' → E (.ref (G.ad "OneBubble")) none H') ∧
  (2 * f ∈ S → ¬ Rim S nx (2 * f) (ot (2 * f)) → ∀ (S' : List Int) p H', S'.Nodup → (∀ z, z ∈ S' ↔ z ∈ wS S nx (2 * f)) → Same H H' → Free H p → H' p = some (dW S' (wN nx (2 * f))) → Q (.ref p) H')
theorem len_p_burst {G : Gx} : ∀ vs H Q E, sp_p_burst G vs H Q E → vs.length = 2 := by rintro vs H Q E ⟨d, S, nx, f, rfl, _⟩; rfl
/-! burst: slots web, film -/
def t_p_burst (G : Gx) (E : XK) : TS :=
  (tSeq (tDrop (tCall (sp_p_film_there G) [] E (tCons (tVar 0) (tCons (tVar 1) tNil))))
  (tSeq (tIfS (tTest (tOp (rIn G.K false) (tOp rAddI (tOp rMulI (tC (.int 2)) (tVar 1)) (tC (.int 1))) (tCall (sp_p_rim G) [] E (tCons (tVar 0) (tCons (tOp rMulI (tC (.int 2)) (tVar 1)) tNil))))) (tRaise E (G.ad "OneBubble")) tNext)
  (tRet (tCall (sp_p_without G) [] E0 (tCons (tVar 0) (tCons (tVar 1) tNil))))))
theorem pure_p_burst {G : Gx} {vs : List V} {H : Hp} {Q : VK} {E : XK} (h : sp_p_burst G vs H Q E) : Body (t_p_burst G E) ["web", "film"] vs H Q := by
  obtain ⟨d, S, nx, f, rfl, hd, W, hl, k1, k2, k3⟩ := h
  show t_p_burst G E _ [some (.ref d), some (.int f)] H
  unfold t_p_burst
  have M := W.map
  walk_at "go"
  refine ⟨d, S, nx, f, rfl, hd, fun he => ?_, k1⟩
  walk_at "go"
  refine ⟨d, S, nx, 2 * f, rfl, hd, M, by omega, fun _ p H1 s1 f1 e1 => ?_, fun z => absurd he z⟩
  refine r_inL (SqL.of e1) rfl (all_flat _) ?_
  walk_at "go"
  refine iteB (fun h => ?_) (fun h => ?_)
  · rw [if_neg Bool.false_ne_true, inV_mem, rimL_mem M.perm he, ← ot_even] at h
    walk_at "go"
    exact k2 he h _ s1
  · have hr : ¬ Rim S nx (2 * f) (ot (2 * f)) := fun z => by
      rw [if_neg Bool.false_ne_true, (inV_mem _ _).mpr ((rimL_mem M.perm he).mpr (by rw [← ot_even]; exact z))] at h
      cases h
    walk_at "go"
    exact ⟨d, S, nx, f, rfl, same_rd s1 hd, W, he, .inr hr, hl, fun S' p' H2 nd m s2 f2 e2 => k3 he hr S' p' H2 nd m (s1.trans s2) (s1.free f2) e2⟩

/-! PartQ: a bubble parted, in the program's order. -/
def hv1 (w : Int → Int) (p h : Int) : Int → Int := fset (fset w h (w p)) (w (w p)) h
theorem hv1_at {w : Int → Int} {p h z : Int} : hv1 w p h z = if z = w (w p) then h else if z = h then w p else w z := rfl
theorem part_prog {S : List Int} {nx : Int → Int} {one two L : Int} (M : Map S ot nx) (h1 : one ∈ S) (h2 : two ∈ S) (hf : one / 2 ≠ two / 2) (hL : ∀ x ∈ S, x < L) :
    (∀ z, z ∈ S ∨ New6 L z → seatF (seatF (hv1 (hv1 nx (ot one) (L + 1)) (ot two) (L + 3)) (ot one) (L + 4) L) (ot two) (L + 5) (L + 2) z = partF nx one two L z) ∧
    (hv1 nx (ot one) (L + 1) (ot two) ∈ S ∨ hv1 nx (ot one) (L + 1) (ot two) = L + 1) ∧
    (hv1 nx (ot one) (L + 1) (hv1 nx (ot one) (L + 1) (ot two)) ∈ S ∨ hv1 nx (ot one) (L + 1) (hv1 nx (ot one) (L + 1) (ot two)) = L + 1) := by
  have hp := M.ca one h1
  have hq := M.ca two h2
  have hpq : ot one ≠ ot two := fun e => hf (by rw [← ot_div one, ← ot_div two, e])
  unfold partF
  generalize ot one = p at hp hpq ⊢
  generalize ot two = q at hq hpq ⊢
  have ha := M.cn p hp
  have hb := M.cn _ ha
  have bp := M.n3 p hp
  have n1 := M.n1 p hp
  have n2 := M.n2 hp
  have n3 := M.n1 _ ha
  have ninj : ∀ {x y}, x ∈ S → y ∈ S → nx x = nx y → x = y := fun hx hy e => M.ninj hx hy e
  have l1 := hL p hp
  have l2 := hL q hq
  have l3 := hL _ ha
  have l4 := hL _ hb
  have sub : ∀ v, subP p q L v = if v = p then L + 1 else if v = q then L + 3 else v := fun _ => rfl
  -- the values behind both halvings
  have key : (∀ z ∈ S, z ≠ p → z ≠ q → hv1 (hv1 nx p (L + 1)) q (L + 3) z = subP p q L (nx z)) ∧ hv1 (hv1 nx p (L + 1)) q (L + 3) (L + 1) = subP p q L (nx p) ∧ hv1 (hv1 nx p (L + 1)) q (L + 3) (L + 3) = subP p q L (nx q) ∧
      (hv1 nx p (L + 1) q ∈ S ∨ hv1 nx p (L + 1) q = L + 1) ∧ (hv1 nx p (L + 1) (hv1 nx p (L + 1) q) ∈ S ∨ hv1 nx p (L + 1) (hv1 nx p (L + 1) q) = L + 1) := by
    by_cases c1 : q = nx p
    · have a1 : hv1 nx p (L + 1) q = nx (nx p) := by rw [hv1_at, c1, if_neg (Ne.symm n3), if_neg (by omega)]
      have b1 : hv1 nx p (L + 1) (nx (nx p)) = L + 1 := by rw [hv1_at, if_pos rfl]
      have W : ∀ z, hv1 (hv1 nx p (L + 1)) q (L + 3) z = if z = L + 1 then L + 3 else if z = L + 3 then nx (nx p) else hv1 nx p (L + 1) z := fun z => by rw [hv1_at (w := hv1 nx p (L + 1)), a1, b1]
      refine ⟨fun z hz z1 z2 => ?_, ?_, ?_, .inl (by rw [a1]; exact hb), .inr (by rw [a1, b1])⟩
      · have lz := hL z hz
        rw [W, if_neg (by omega), if_neg (by omega), hv1_at, sub]
        by_cases e : z = nx (nx p)
        · rw [if_pos e, e, bp, if_pos rfl]
        · rw [if_neg e, if_neg (by omega), if_neg (fun x => e (ninj hz hb (x.trans bp.symm))), if_neg (fun x => z1 (ninj hz hp (x.trans c1)))]
      · rw [W, if_pos rfl, sub, if_neg n1, if_pos c1.symm]
      · rw [W, if_neg (by omega), if_pos rfl, sub, c1, if_neg n2, if_neg n3]
    · by_cases c2 : q = nx (nx p)
      · have a1 : hv1 nx p (L + 1) q = L + 1 := by rw [hv1_at, if_pos c2]
        have b1 : hv1 nx p (L + 1) (L + 1) = nx p := by rw [hv1_at, if_neg (by omega), if_pos rfl]
        have W : ∀ z, hv1 (hv1 nx p (L + 1)) q (L + 3) z = if z = nx p then L + 3 else if z = L + 3 then L + 1 else hv1 nx p (L + 1) z := fun z => by rw [hv1_at (w := hv1 nx p (L + 1)), a1, b1]
        refine ⟨fun z hz z1 z2 => ?_, ?_, ?_, .inr a1, .inl (by rw [a1, b1]; exact ha)⟩
        · have lz := hL z hz
          rw [W]
          by_cases e : z = nx p
          · rw [if_pos e, e, sub, if_neg n2, if_pos c2.symm]
          · rw [if_neg e, if_neg (by omega), hv1_at, sub, if_neg (by rw [← c2]; exact z2), if_neg (by omega), if_neg (fun x => z2 (by rw [c2]; exact ninj hz hb (x.trans bp.symm))), if_neg (fun x => e (ninj hz ha (x.trans c2)))]
        · rw [W, if_neg (by omega), if_neg (by omega), b1, sub, if_neg n1, if_neg (fun x => c1 x.symm)]
        · rw [W, if_neg (by omega), if_pos rfl, sub, c2, bp, if_pos rfl]
      · have hc := M.cn q hq
        have hd := M.cn _ hc
        have dq := M.n3 q hq
        have lc := hL _ hc
        have ld := hL _ hd
        have cb : nx q ≠ nx (nx p) := fun x => c1 (ninj hq ha x)
        have cp : nx q ≠ p := fun x => c2 (ninj hq hb (x.trans bp.symm))
        have a1 : hv1 nx p (L + 1) q = nx q := by rw [hv1_at, if_neg c2, if_neg (by omega)]
        have b1 : hv1 nx p (L + 1) (nx q) = nx (nx q) := by rw [hv1_at, if_neg cb, if_neg (by omega)]
        have W : ∀ z, hv1 (hv1 nx p (L + 1)) q (L + 3) z = if z = nx (nx q) then L + 3 else if z = L + 3 then nx q else hv1 nx p (L + 1) z := fun z => by rw [hv1_at (w := hv1 nx p (L + 1)), a1, b1]
        refine ⟨fun z hz z1 z2 => ?_, ?_, ?_, .inl (by rw [a1]; exact hc), .inl (by rw [a1, b1]; exact hd)⟩
        · have lz := hL z hz
          rw [W]
          by_cases e : z = nx (nx q)
          · rw [if_pos e, e, dq, sub, if_neg (Ne.symm hpq), if_pos rfl]
          · rw [if_neg e, if_neg (by omega), hv1_at, sub]
            by_cases e2 : z = nx (nx p)
            · rw [if_pos e2, e2, bp, if_pos rfl]
            · rw [if_neg e2, if_neg (by omega), if_neg (fun x => e2 (ninj hz hb (x.trans bp.symm))), if_neg (fun x => e (ninj hz hd (x.trans dq.symm)))]
        · rw [W, if_neg (by omega), if_neg (by omega), hv1_at, if_neg (by omega), if_pos rfl, sub, if_neg n1, if_neg (fun x => c1 x.symm)]
        · rw [W, if_neg (by omega), if_pos rfl, sub, if_neg cp, if_neg (M.n1 q hq)]
  obtain ⟨k1, k2, k3, k4, k5⟩ := key
  generalize hv1 (hv1 nx p (L + 1)) q (L + 3) = w2 at k1 k2 k3 ⊢
  refine ⟨fun z hz => ?_, k4, k5⟩
  by_cases zp : z = p
  · rw [zp, seat_o hpq (by omega) (by omega), seat_1 (by omega) (by omega), if_pos rfl]
  by_cases zq : z = q
  · rw [zq, seat_1 (by omega) (by omega), if_neg (Ne.symm hpq), if_pos rfl]
  rw [if_neg zp, if_neg zq]
  rcases hz with hz | hz
  · have lz := hL z hz
    rw [seat_o zq (by omega) (by omega), seat_o zp (by omega) (by omega), if_neg (by omega), if_neg (by omega), if_neg (by omega), if_neg (by omega), if_neg (by omega), if_neg (by omega)]
    exact k1 z hz zp zq
  · rcases hz with e | e | e | e | e | e
    · rw [e, if_pos rfl, seat_o (by omega) (by omega) (by omega), seat_3]
    · rw [e, if_neg (by omega), if_pos rfl, seat_o (by omega) (by omega) (by omega), seat_o (by omega) (by omega) (by omega)]
      exact k2
    · rw [e, if_neg (by omega), if_neg (by omega), if_pos rfl, seat_3]
    · rw [e, if_neg (by omega), if_neg (by omega), if_neg (by omega), if_pos rfl, seat_o (by omega) (by omega) (by omega), seat_o (by omega) (by omega) (by omega)]
      exact k3
    · rw [e, if_neg (by omega), if_neg (by omega), if_neg (by omega), if_neg (by omega), if_pos rfl, seat_o (by omega) (by omega) (by omega), seat_2 (by omega)]
    · rw [e, if_neg (by omega), if_neg (by omega), if_neg (by omega), if_neg (by omega), if_neg (by omega), if_pos rfl, seat_2 (by omega)]

/-! Wr: a bubble parted; all deeds by orders. -/
def sp_p_halved (G : Gx) : Sp := fun vs H Q _ => ∃ (d : Addr) (T : List Int) (w : Int → Int) (e h : Int), vs = [.ref d, .int e, .int h] ∧ H d = some (dW T w) ∧ ot e ∈ T ∧ w (ot e) ∈ T ∧ T.length ≤ 90100 ∧ Q .non (upd H d (dW (putS (putS T (h + 1)) (w (w (ot e)))) (hv1 w (ot e) (h + 1))))
theorem len_p_halved {G : Gx} : ∀ vs H Q E, sp_p_halved G vs H Q E → vs.length = 3 := by rintro vs H Q E ⟨d, T, w, e, h, rfl, _⟩; rfl
/-! halved: slots web, end, far, gone, after, ahead -/
def t_p_halved (G : Gx) : TS :=
  (tSeq (tAsg (tCall (sp_p_other G) [] E0 (tCons (tVar 1) tNil)) (gName 3))
  (tSeq (tAsg (tDGet (tVar 0) (tVar 3)) (gName 4))
  (tSeq (tAsg (tDGet (tVar 0) (tVar 4)) (gName 5))
  (tSeq (sDPut (tVar 0) (tOp rAddI (tVar 2) (tC (.int 1))) (tVar 4))
  (sDPut (tVar 0) (tVar 5) (tOp rAddI (tVar 2) (tC (.int 1))))))))
theorem pure_p_halved {G : Gx} {vs : List V} {H : Hp} {Q : VK} {E : XK} (h : sp_p_halved G vs H Q E) : Body (t_p_halved G) ["web", "end", "far", "gone", "after", "ahead"] vs H Q := by
  obtain ⟨d, T, w, e, h, rfl, hd, h1, h2, hl, k⟩ := h
  show t_p_halved G _ [some (.ref d), some (.int e), some (.int h), none, none, none] H
  unfold t_p_halved
  have l1 := len_putS (S := T) (k := h + 1)
  have hl1 : T.length < sizeLine := size1000l (by omega)
  have hl2 : (putS T (h + 1)).length < sizeLine := size1000l (by omega)
  walk_at "go"
  rw [upd_upd]
  exact k
def sp_p_parted (G : Gx) : Sp := fun vs H Q E => ∃ (d : Addr) (S : List Int) (nx : Int → Int) (one two f : Int), vs = [.ref d, .int one, .int two, .int f] ∧ Rd H d (dW S nx) ∧ Map S ot nx ∧ (∀ x ∈ S, x < 2 * f) ∧ S.length ≤ 90000 ∧
  (¬ (one ∈ S ∧ two ∈ S) → E (.ref (G.ad "NoEnd")) none H) ∧ (one ∈ S → two ∈ S → ¬ Rim S nx one two → ∀ H', Same H H' → E (.ref (G.ad "NotOne")) none H') ∧ (one ∈ S → two ∈ S → Rim S nx one two → one / 2 = two / 2 → ∀ H', Same H H' → E (.ref (G.ad "SameFilm")) none H') ∧
  (one ∈ S → two ∈ S → Rim S nx one two → one / 2 ≠ two / 2 → ∀ (S' : List Int) p H', S'.Nodup → (∀ z, z ∈ S' ↔ z ∈ blowS S (2 * f)) → Same H H' → Free H p → H' p = some (dW S' (partF nx one two (2 * f))) → Q (.ref p) H')
theorem len_p_parted {G : Gx} : ∀ vs H Q E, sp_p_parted G vs H Q E → vs.length = 4 := by rintro vs H Q E ⟨d, S, nx, e, t, f, rfl, _⟩; rfl
/-! parted: slots web, one, two, first, made, low -/
def t_p_parted (G : Gx) (E : XK) : TS :=
  (tSeq (tIfS (tOr (tB (tDNotIn (tVar 1) (tVar 0))) (tB (tDNotIn (tVar 2) (tVar 0)))) (tRaise E (G.ad "NoEnd")) tNext)
  (tSeq (tIfS (tTest (tOp (rIn G.K true) (tVar 2) (tCall (sp_p_rim G) [] E (tCons (tVar 0) (tCons (tVar 1) tNil))))) (tRaise E (G.ad "NotOne")) tNext)
  (tSeq (tIfS (tTest (tOp rEq (tOp rDivW (tVar 1) (tC (.int 2))) (tOp rDivW (tVar 2) (tC (.int 2))))) (tRaise E (G.ad "SameFilm")) tNext)
  (tSeq (tAsg (tCB rDictRd (tCons (tVar 0) tNil)) (gName 4))
  (tSeq (tAsg (tOp rMulI (tC (.int 2)) (tVar 3)) (gName 5))
  (tSeq (tDrop (tCall (sp_p_halved G) [] E0 (tCons (tVar 4) (tCons (tVar 1) (tCons (tVar 5) tNil)))))
  (tSeq (tDrop (tCall (sp_p_halved G) [] E0 (tCons (tVar 4) (tCons (tVar 2) (tCons (tOp rAddI (tVar 5) (tC (.int 2))) tNil)))))
  (tSeq (tDrop (tCall (sp_p_seat G) [] E0 (tCons (tVar 4) (tCons (tTup (tCons (tCall (sp_p_other G) [] E0 (tCons (tVar 1) tNil)) (tCons (tOp rAddI (tVar 5) (tC (.int 4))) (tCons (tVar 5) tNil)))) tNil))))
  (tSeq (tDrop (tCall (sp_p_seat G) [] E0 (tCons (tVar 4) (tCons (tTup (tCons (tCall (sp_p_other G) [] E0 (tCons (tVar 2) tNil)) (tCons (tOp rAddI (tVar 5) (tC (.int 5))) (tCons (tOp rAddI (tVar 5) (tC (.int 2))) tNil)))) tNil))))
  (tRet (tVar 4)))))))))))
theorem pure_p_parted {G : Gx} {vs : List V} {H : Hp} {Q : VK} {E : XK} (h : sp_p_parted G vs H Q E) : Body (t_p_parted G E) ["web", "one", "two", "first", "made", "low"] vs H Q := by
  obtain ⟨d, S, nx, one, two, f, rfl, hd, M, hL, hl, k1, k2, k3, k4⟩ := h
  show t_p_parted G E _ [some (.ref d), some (.int one), some (.int two), some (.int f), none, none] H
  unfold t_p_parted
  walk_at "go"
  refine iteN (fun hn => ?_) (fun h1 => ?_)
  · walk_at "go"
    exact k1 fun z => hn z.1
  walk_at "go"
  refine iteN (fun hn => ?_) (fun h2 => ?_)
  · walk_at "go"
    exact k1 fun z => hn z.2
  walk_at "go"
  refine ⟨d, S, nx, one, rfl, hd, M, by omega, fun _ p H1 s1 f1 e1 => ?_, fun z => absurd h1 z⟩
  refine r_inL (SqL.of e1) rfl (all_flat _) ?_
  walk_at "go"
  rw [if_pos rfl]
  refine iteNB (fun h => ?_) (fun h => ?_)
  · have hr : ¬ Rim S nx one two := fun z => by
      rw [(inV_mem _ _).mpr ((rimL_mem M.perm h1).mpr z)] at h
      cases h
    walk_at "go"
    exact k2 h1 h2 hr _ s1
  have hr : Rim S nx one two := (rimL_mem M.perm h1).mp ((inV_mem _ _).mp h)
  have hd1 : Rd H1 d (dW S nx) := same_rd s1 hd
  walk_at "go"
  refine iteI (fun h => ?_) (fun hf => ?_)
  · walk_at "go"
    exact k3 h1 h2 hr h _ s1
  obtain ⟨PV, PX, PY⟩ := part_prog M h1 h2 hf hL
  have hp := M.ca _ h1
  have hq := M.ca _ h2
  have ha := M.cn _ hp
  have hb := M.cn _ ha
  walk_at "go"
  intro m hm
  have hm0 : Free H m := s1.free hm
  have s2 := same_new (o := dW S nx) s1 hm
  have e2 : upd H1 m (dW S nx) m = some (dW S nx) := upd_same
  generalize upd H1 m (dW S nx) = H2 at s2 e2 ⊢
  walk_at "go"
  refine ⟨m, S, nx, one, 2 * f, rfl, e2, hp, ha, by omega, ?_⟩
  have kb : putS (putS S (2 * f + 1)) (nx (nx (ot one))) = S ++ [2 * f + 1] := by
    rw [putS_out (S := S) (k := 2 * f + 1) fun z => by have := hL _ z; omega, putS_in (List.mem_append.mpr (.inl hb))]
  rw [kb]
  have s3 := same_mut (o := dW (S ++ [2 * f + 1]) (hv1 nx (ot one) (2 * f + 1))) s2 hm0
  have e3 : upd H2 m (dW (S ++ [2 * f + 1]) (hv1 nx (ot one) (2 * f + 1))) m = some (dW (S ++ [2 * f + 1]) (hv1 nx (ot one) (2 * f + 1))) := upd_same
  generalize upd H2 m (dW (S ++ [2 * f + 1]) (hv1 nx (ot one) (2 * f + 1))) = H3 at s3 e3 ⊢
  have inT : ∀ v, (v ∈ S ∨ v = 2 * f + 1) → v ∈ S ++ [2 * f + 1] := fun v h => List.mem_append.mpr (h.imp id List.mem_singleton.mpr)
  walk_at "go"
  refine ⟨m, _, _, two, 2 * f + 2, rfl, e3, inT _ (.inl hq), inT _ PX, by rw [List.length_append, List.length_singleton]; omega, ?_⟩
  have kc : putS (putS (S ++ [2 * f + 1]) (2 * f + 2 + 1)) (hv1 nx (ot one) (2 * f + 1) (hv1 nx (ot one) (2 * f + 1) (ot two))) = S ++ [2 * f + 1, 2 * f + 3] := by
    rw [show 2 * f + 2 + 1 = 2 * f + 3 by omega, putS_out (S := S ++ [2 * f + 1]) (k := 2 * f + 3) fun z => ?_, putS_in (List.mem_append.mpr (.inl (inT _ PY))), List.append_assoc]
    · rfl
    · rcases List.mem_append.mp z with z | z
      · have := hL _ z; omega
      · have := List.mem_singleton.mp z; omega
  rw [kc, show 2 * f + 2 + 1 = 2 * f + 3 by omega]
  have s4 := same_mut (o := dW (S ++ [2 * f + 1, 2 * f + 3]) (hv1 (hv1 nx (ot one) (2 * f + 1)) (ot two) (2 * f + 3))) s3 hm0
  have e4 : upd H3 m (dW (S ++ [2 * f + 1, 2 * f + 3]) (hv1 (hv1 nx (ot one) (2 * f + 1)) (ot two) (2 * f + 3))) m = some (dW (S ++ [2 * f + 1, 2 * f + 3]) (hv1 (hv1 nx (ot one) (2 * f + 1)) (ot two) (2 * f + 3))) := upd_same
  generalize upd H3 m (dW (S ++ [2 * f + 1, 2 * f + 3]) (hv1 (hv1 nx (ot one) (2 * f + 1)) (ot two) (2 * f + 3))) = H4 at s4 e4 ⊢
  have nd4 : (S ++ [2 * f + 1, 2 * f + 3]).Nodup := by
    rw [← kc]
    exact nd_putS (nd_putS (by rw [← kb]; exact nd_putS (nd_putS M.nd)))
  have l4 : (S ++ [2 * f + 1, 2 * f + 3]).length = S.length + 2 := by rw [List.length_append]; rfl
  walk_at "go"
  refine ⟨by walk_at "sz", fun u hu => ?_⟩
  walk_at "go"
  refine c_seatS s4 hm0 e4 (by omega) hu fun H5 s5 e5 => ?_
  have l5 := len_putS3 (S := S ++ [2 * f + 1, 2 * f + 3]) (x := ot one) (y := 2 * f + 4) (z := 2 * f)
  walk_at "go"
  refine ⟨by walk_at "sz", fun u2 hu2 => ?_⟩
  walk_at "go"
  refine c_seatS s5 hm0 e5 (by omega) hu2 fun H6 s6 e6 => ?_
  walk_at "go"
  have m2 : ∀ z, z ∈ putS3 (putS3 (S ++ [2 * f + 1, 2 * f + 3]) (ot one) (2 * f + 4) (2 * f)) (ot two) (2 * f + 5) (2 * f + 2) ↔ z ∈ blowS S (2 * f) := fun z => by
    rw [mem_putS3, mem_putS3, List.mem_append, mem_blowS]
    unfold New6
    simp only [List.mem_cons, List.not_mem_nil, or_false]
    constructor
    · rintro (((h | h | h) | h | h | h) | h | h | h)
      · exact .inl h
      · exact .inr (by omega)
      · exact .inr (by omega)
      · exact .inl (h ▸ hp)
      · exact .inr (by omega)
      · exact .inr (by omega)
      · exact .inl (h ▸ hq)
      · exact .inr (by omega)
      · exact .inr (by omega)
    · rintro (h | h | h | h | h | h | h)
      · exact .inl (.inl (.inl h))
      · exact .inl (.inr (.inr (.inr h)))
      · exact .inl (.inl (.inr (.inl h)))
      · exact .inr (.inr (.inr h))
      · exact .inl (.inl (.inr (.inr h)))
      · exact .inl (.inr (.inr (.inl h)))
      · exact .inr (.inr (.inl h))
  refine k4 h1 h2 hr hf _ m H6 (nd_putS3 (nd_putS3 nd4)) m2 s6 hm0 ?_
  exact e6.trans (congrArg some (dI_congr fun z hz => congrArg V.int (PV z (mem_blowS.mp ((m2 z).mp hz)))))
/-! ### pick -/
def sp_l_pick (G : Gx) : Sp := fun vs H Q _ => ∃ (d : Addr) (S : List Int) (nx : Int → Int) (c : Int), vs = [.ref d, .int c] ∧ Rd H d (dW S nx) ∧ Web S nx ∧ S.length ≤ 90000 ∧ ∀ (x : Int) H', x ∈ S → Same H H' → Q (.int x) H'
theorem len_l_pick {G : Gx} : ∀ vs H Q E, sp_l_pick G vs H Q E → vs.length = 2 := by rintro vs H Q E ⟨d, S, nx, c, rfl, _⟩; rfl
/-! _law_pick: slots _law_web_here, _law_cell_here, _law_pick_here, _law_kind, _law_ends -/
def t_l_pick (G : Gx) : TS :=
  (tSeq (tAsg (tCall (sp_l_digits G) [] E0 (tCons (tVar 1) (tCons (tLst (tCons (tC (.int 4001)) (tCons (tC (.int 3)) tNil))) tNil))) (gUnl G.K 2 (gCons (gName 2) (gCons (gName 3) gNil))))
  (tSeq (tAsg (tCB (rSortedI G.K) (tCons (tCB rListRd (tCons (tVar 0) tNil)) tNil)) (gName 4))
  (tCut (tIfS (tTest (tOp rEq (tVar 3) (tC (.int 1)))) (tAsg (tMinLen G.K (tCons (tCall (sp_l_rims G) [] E0 (tCons (tVar 0) tNil)) tNil)) (gName 4)) tNext)
  (tRet (tOp (rIxL G.K) (tVar 4) (tOp rModI (tVar 2) (tCB (rLenSeq G.K) (tCons (tVar 4) tNil))))))))
theorem pure_l_pick {G : Gx} {vs : List V} {H : Hp} {Q : VK} {E : XK} (h : sp_l_pick G vs H Q E) : Body (t_l_pick G) ["_law_web_here", "_law_cell_here", "_law_pick_here", "_law_kind", "_law_ends"] vs H Q := by
  obtain ⟨d, S, nx, c, rfl, hd, W, sl, k⟩ := h
  show t_l_pick G _ [some (.ref d), some (.int c), none, none, none] H
  unfold t_l_pick
  have M := W.map
  have Pm := M.perm
  walk_at "go"
  refine ⟨by walk_at "sz", fun t1 h1 => ?_⟩
  walk_at "go"
  refine c_digits2 (by walk_at "sq") (by decide) (by decide) (fun d0 d1 q H2 ed a0 b0 a1 b1 s2 hq e2 => ?_)
  refine g_unl (SqL.of e2) rfl ?_
  have s3 : Same H H2 := same_tr s2 (same_new (Same.refl _) h1)
  have hd2 := same_rd s3 hd
  clear s2 h1 hq e2 ed
  walk_at "go"
  intro l hl0
  walk_at "go"
  refine r_sorted (SqL.of upd_same) fun es lr hp1 hp2 hlr => ?_
  have nes : es ≠ [] := fun z => W.ne (by rw [z] at hp1; exact List.nil_perm.mp hp1)
  have s4 : Same H (upd (upd H2 l (.lst (S.map V.int))) lr (.lst (es.map V.int))) := by walk_at "sm"
  have e4 : (upd (upd H2 l (.lst (S.map V.int))) lr (.lst (es.map V.int))) lr = some (.lst (es.map V.int)) := upd_same
  generalize upd (upd H2 l (.lst (S.map V.int))) lr (.lst (es.map V.int)) = H3 at s4 e4 ⊢
  clear hl0 hlr
  walk_at "go"
  refine r_cut (fun σ H' => ∃ (L : List Int) (lp : Addr), σ = [some (.ref d), some (.int c), some (.int d0), some (.int d1), some (.ref lp)] ∧ Same H H' ∧ H' lp = some (.lst (L.map V.int)) ∧ L ≠ [] ∧ ∀ x ∈ L, x ∈ S) ?_ ?_
  · walk_at "go"
    refine iteI (fun h => ?_) (fun h => ?_)
    · walk_at "go"
      refine r_minLen ?_
      walk_at "go"
      refine ⟨d, S, nx, rfl, same_rd s4 hd, M, by omega, fun es2 as p2 H4 he2 s5 f5 e5 rf fr nda => ?_⟩
      have ne2 : es2 ≠ [] := fun z => W.ne (by have := he2.perm; rw [z] at this; exact List.nil_perm.mp this)
      have nas : as ≠ [] := fun z => by
        have q1 := rf.len
        obtain ⟨x, r, rfl⟩ := List.exists_cons_of_ne_nil ne2
        rw [z] at q1
        exact rimsG_ne (List.length_eq_zero_iff.mp q1.symm)
      refine r_nil ?_
      refine ⟨p2, as, rfl, SqL.of e5, nas, fun b hb => ?_, fun b hb => ?_⟩
      · obtain ⟨l', _, q⟩ := rf.mem hb
        exact ⟨_, SqL.of q⟩
      · obtain ⟨l', hl', q⟩ := rf.mem hb
        obtain ⟨x, hx, rfl⟩ := rimsG_mem hl'
        have hxS := he2.perm.subset hx
        walk_at "go"
        exact ⟨_, b, rfl, s4.trans s5, q, rimL_ne Pm hxS, fun y hy => rimL_sub Pm hxS hy⟩
    · walk_at "go"
      exact ⟨es, lr, rfl, s4, e4, nes, fun x hx => hp1.subset hx⟩
  rintro σ H4 ⟨L, lp, rfl, s5, e6, nL, LS⟩
  obtain ⟨x, hx, at0⟩ := at_mod nL d0
  walk_at "go"
  refine r_I (by show (0 : Int) < _; rw [List.length_map]; have := List.length_pos_iff.mpr nL; omega) ?_
  refine r_ixL (SqL.of e6) at0 ?_
  exact k x _ (LS x hx) s5

/-! Ws: deeds by orders, as the laws do them. -/
theorem iteDt {c A B : Prop} [Decidable c] (h : c) (k : A) : if decide c = true then A else B := by rw [decide_eq_true h, if_pos rfl]; exact k
theorem iteDf {c A B : Prop} [Decidable c] (h : ¬ c) (k : B) : if decide c = true then A else B := by rw [decide_eq_false h, if_neg Bool.false_ne_true]; exact k
theorem iteNDt {c A B : Prop} [Decidable c] (h : c) (k : B) : if (!decide c) = true then A else B := by rw [decide_eq_true h]; exact iteNt k
theorem iteNDf {c A B : Prop} [Decidable c] (h : ¬ c) (k : A) : if (!decide c) = true then A else B := by rw [decide_eq_false h]; exact iteNf k
local macro_rules | `(tactic| walk_at "st") => `(tactic| first
  | ((with_reducible refine iteDt ?hc ?_); (case hc => (with_reducible rfl)))
  | ((with_reducible refine iteDf ?hc ?_); (case hc => decide +kernel))
  | ((with_reducible refine iteNDt ?hc ?_); (case hc => (with_reducible rfl)))
  | ((with_reducible refine iteNDf ?hc ?_); (case hc => decide +kernel)))
inductive Ord where
  | push (f : Int)
  | pull (f : Int)
  | burst (f : Int)
  | part (o t f : Int)
  | blow (e f : Int)
def Ord.vals : Ord → List V
  | .push f => [.str "push", .int f]
  | .pull f => [.str "pull", .int f]
  | .burst f => [.str "burst", .int f]
  | .part o t f => [.str "part", .int o, .int t, .int f]
  | .blow e f => [.str "blow", .int e, .int f]
/-- new films stand above all -/
def Ord.ok (S : List Int) : Ord → Prop
  | .part _ _ f => ∀ x ∈ S, x < 2 * f
  | .blow _ f => ∀ x ∈ S, x < 2 * f
  | _ => True
open Classical in
noncomputable def wordF (S : List Int) (nx : Int → Int) : Ord → Str
  | .push f => if 2 * f ∉ S then "film" else if Looped nx (2 * f) then "looped" else ""
  | .pull f => if 2 * f ∉ S then "film" else if Looped nx (2 * f) then "looped" else ""
  | .burst f => if 2 * f ∉ S then "film" else if Rim S nx (2 * f) (ot (2 * f)) then "one bubble" else ""
  | .part o t f => if ¬ (o ∈ S ∧ t ∈ S) then "end" else if ¬ Rim S nx o t then "not one" else if o / 2 = t / 2 then "same film" else ""
  | .blow e f => if e ∉ S then "end" else ""
noncomputable def moveS (S : List Int) (nx : Int → Int) : Ord → List Int
  | .push _ => S
  | .pull _ => S
  | .burst f => wS S nx (2 * f)
  | .part _ _ f => blowS S (2 * f)
  | .blow _ f => blowS S (2 * f)
noncomputable def moveN (nx : Int → Int) : Ord → Int → Int
  | .push f => pushF nx (2 * f)
  | .pull f => pullF nx (2 * f)
  | .burst f => wN nx (2 * f)
  | .part o t f => partF nx o t (2 * f)
  | .blow e f => blowF nx e (2 * f)
section
variable {S : List Int} {nx : Int → Int} {f o t e : Int}
theorem w_film1 (h : 2 * f ∉ S) : wordF S nx (.push f) = "film" ∧ wordF S nx (.pull f) = "film" ∧ wordF S nx (.burst f) = "film" := by
  unfold wordF
  simp only [h, not_false_eq_true, if_true, and_self]
theorem w_loop (h : 2 * f ∈ S) (l : Looped nx (2 * f)) : wordF S nx (.push f) = "looped" ∧ wordF S nx (.pull f) = "looped" := by
  unfold wordF
  simp only [h, l, not_true_eq_false, if_false, if_true, and_self]
theorem w_push (h : 2 * f ∈ S) (l : ¬ Looped nx (2 * f)) : wordF S nx (.push f) = "" ∧ wordF S nx (.pull f) = "" := by
  unfold wordF
  simp only [h, l, not_true_eq_false, if_false, and_self]
theorem w_one (h : 2 * f ∈ S) (l : Rim S nx (2 * f) (ot (2 * f))) : wordF S nx (.burst f) = "one bubble" := by
  unfold wordF
  simp only [h, l, not_true_eq_false, if_false, if_true]
theorem w_burst (h : 2 * f ∈ S) (l : ¬ Rim S nx (2 * f) (ot (2 * f))) : wordF S nx (.burst f) = "" := by
  unfold wordF
  simp only [h, l, not_true_eq_false, if_false]
theorem w_end (h : ¬ (o ∈ S ∧ t ∈ S)) : wordF S nx (.part o t f) = "end" := by
  unfold wordF
  dsimp only
  rw [if_pos h]
theorem w_notone (h1 : o ∈ S) (h2 : t ∈ S) (h : ¬ Rim S nx o t) : wordF S nx (.part o t f) = "not one" := by
  unfold wordF
  dsimp only
  rw [if_neg (fun z => z ⟨h1, h2⟩), if_pos h]
theorem w_same (h1 : o ∈ S) (h2 : t ∈ S) (h : Rim S nx o t) (g : o / 2 = t / 2) : wordF S nx (.part o t f) = "same film" := by
  unfold wordF
  dsimp only
  rw [if_neg (fun z => z ⟨h1, h2⟩), if_neg (fun z => z h), if_pos g]
theorem w_part (h1 : o ∈ S) (h2 : t ∈ S) (h : Rim S nx o t) (g : o / 2 ≠ t / 2) : wordF S nx (.part o t f) = "" := by
  unfold wordF
  dsimp only
  rw [if_neg (fun z => z ⟨h1, h2⟩), if_neg (fun z => z h), if_neg g]
theorem w_noend (h : e ∉ S) : wordF S nx (.blow e f) = "end" := by
  unfold wordF
  dsimp only
  rw [if_pos h]
theorem w_blow (h : e ∈ S) : wordF S nx (.blow e f) = "" := by
  unfold wordF
  dsimp only
  rw [if_neg (fun z => z h)]
end
theorem blow_nd {S : List Int} {L : Int} (nd : S.Nodup) (hL : ∀ x ∈ S, x < L) : (blowS S L).Nodup := by
  unfold blowS
  refine List.nodup_append.mpr ⟨nd, nodup6 L, fun a ha b hb z => ?_⟩
  have := hL a ha
  simp only [List.mem_cons, List.not_mem_nil, or_false] at hb
  omega
/-! ### move -/
def Made (H H' : Hp) (S : List Int) (nx : Int → Int) (o : Ord) (v : V) : Prop :=
  (wordF S nx o = "" → ∃ p S', v = .ref p ∧ Free H p ∧ S'.Nodup ∧ (∀ z, z ∈ S' ↔ z ∈ moveS S nx o) ∧ H' p = some (dW S' (moveN nx o))) ∧ (wordF S nx o ≠ "" → v = .non)
def sp_l_move (G : Gx) : Sp := fun vs H Q _ => ∃ (d t : Addr) (S : List Int) (nx : Int → Int) (o : Ord), vs = [.ref d, .ref t] ∧ Rd H d (dW S nx) ∧ SqT G.K H t o.vals ∧ Web S nx ∧ o.ok S ∧ S.length ≤ 90000 ∧
  ∀ r v H', Same H H' → H' r = some (.tup [.str (wordF S nx o), v]) → Made H H' S nx o v → Q (.ref r) H'
theorem len_l_move {G : Gx} : ∀ vs H Q E, sp_l_move G vs H Q E → vs.length = 2 := by rintro vs H Q E ⟨d, t, S, nx, o, rfl, _⟩; rfl
abbrev SIX : List Str := ["NoFilm", "NoEnd", "Looped", "OneBubble", "NotOne", "SameFilm"]
/-! _law_move: slots _law_web_here, _law_order, _law_word, _law_made -/
def t_l_move (G : Gx) : TS :=
  (tSeq (tAsg (tC (.str "")) (gName 2))
  (tSeq (tAsg (tC .non) (gName 3))
  (tSeq (tTryM G [("NoFilm", (tAsg (tC (.str "film")) (gName 2))), ("NoEnd", (tAsg (tC (.str "end")) (gName 2))), ("Looped", (tAsg (tC (.str "looped")) (gName 2))), ("OneBubble", (tAsg (tC (.str "one bubble")) (gName 2))), ("NotOne", (tAsg (tC (.str "not one")) (gName 2))), ("SameFilm", (tAsg (tC (.str "same film")) (gName 2)))] fun W => (tIfS (tTest (tOp rEq (tOp (rIxT G.K) (tVar 1) (tC (.int 0))) (tC (.str "push")))) (tAsg (tCallS (sp_p_pushed G) (WE W) (tCons (tVar 0) (tCons (tOp (rIxT G.K) (tVar 1) (tC (.int 1))) tNil))) (gName 3)) (tIfS (tTest (tOp rEq (tOp (rIxT G.K) (tVar 1) (tC (.int 0))) (tC (.str "pull")))) (tAsg (tCallS (sp_p_pulled G) (WE W) (tCons (tVar 0) (tCons (tOp (rIxT G.K) (tVar 1) (tC (.int 1))) tNil))) (gName 3)) (tIfS (tTest (tOp rEq (tOp (rIxT G.K) (tVar 1) (tC (.int 0))) (tC (.str "burst")))) (tAsg (tCallS (sp_p_burst G) (WE W) (tCons (tVar 0) (tCons (tOp (rIxT G.K) (tVar 1) (tC (.int 1))) tNil))) (gName 3)) (tIfS (tTest (tOp rEq (tOp (rIxT G.K) (tVar 1) (tC (.int 0))) (tC (.str "part")))) (tAsg (tCallS (sp_p_parted G) (WE W) (tCons (tVar 0) (tCons (tOp (rIxT G.K) (tVar 1) (tC (.int 1))) (tCons (tOp (rIxT G.K) (tVar 1) (tC (.int 2))) (tCons (tOp (rIxT G.K) (tVar 1) (tC (.int 3))) tNil))))) (gName 3)) (tAsg (tCallS (sp_p_blown G) (WE W) (tCons (tVar 0) (tCons (tOp (rIxT G.K) (tVar 1) (tC (.int 1))) (tCons (tOp (rIxT G.K) (tVar 1) (tC (.int 2))) tNil)))) (gName 3)))))))
  (tRet (tTup (tCons (tVar 2) (tCons (tVar 3) tNil)))))))
theorem made_no {H H' : Hp} {S : List Int} {nx : Int → Int} {o : Ord} {w : Str} (e : wordF S nx o = w) (h : w ≠ "") : Made H H' S nx o .non := ⟨fun z => absurd (e.symm.trans z) h, fun _ => rfl⟩
theorem made_of {H H' : Hp} {S S' : List Int} {nx : Int → Int} {o : Ord} {p : Addr} (e : wordF S nx o = "") (f : Free H p) (nd : S'.Nodup) (m : ∀ z, z ∈ S' ↔ z ∈ moveS S nx o) (h : H' p = some (dW S' (moveN nx o))) : Made H H' S nx o (.ref p) := ⟨fun _ => ⟨p, S', rfl, f, nd, m, h⟩, fun z => absurd e z⟩
theorem pure_l_move {G : Gx} {vs : List V} {H : Hp} {Q : VK} {E : XK} (X : Exm G SIX) (h : sp_l_move G vs H Q E) : Body (t_l_move G) ["_law_web_here", "_law_order", "_law_word", "_law_made"] vs H Q := by
  obtain ⟨d, t, S, nx, o, rfl, hd, ht, W, ok, hl, k⟩ := h
  show t_l_move G _ [some (.ref d), some (.ref t), none, none] H
  unfold t_l_move
  have M := W.map
  have out : ∀ (i : Nat) (w : Str) (H' : Hp), Same H H' → wordF S nx o = w → w ≠ "" → [V.str w, .non].length ≤ sizeLine ∧ ∀ p, Free H' p → Q (.ref p) (upd H' p (.tup [.str w, .non])) := fun i w H' s e hw => by
    refine ⟨by walk_at "sz", fun r hr => ?_⟩
    exact k r .non _ (same_new s hr) (by rw [e]; exact upd_same) (made_no e hw)
  have fin : ∀ (p : Addr) (S' : List Int) (H' : Hp), Same H H' → wordF S nx o = "" → Free H p → S'.Nodup → (∀ z, z ∈ S' ↔ z ∈ moveS S nx o) → H' p = some (dW S' (moveN nx o)) →
      [V.str "", .ref p].length ≤ sizeLine ∧ ∀ r, Free H' r → Q (.ref r) (upd H' r (.tup [.str "", .ref p])) := fun p S' H' s e f nd m h => by
    refine ⟨by walk_at "sz", fun r hr => ?_⟩
    exact k r (.ref p) _ (same_new s hr) (by rw [e]; exact upd_same) (made_of e f nd m (at_new h hr))
  walk_at "go"
  unfold tTryM
  cases o with
  | push f =>
    have ht' : SqT G.K H t [.str "push", .int f] := ht
    walk_at "go"
    refine ⟨d, S, nx, f, rfl, hd, M, hl, fun hn => ?_, fun hi hlo H1 s1 => ?_, fun hi hno p H1 s1 f1 e1 => ?_⟩
    · refine hit X 0 rfl rfl ?_
      walk_at "go"
      exact out 0 "film" _ (Same.refl _) (w_film1 hn).1 (by decide)
    · refine hit X 2 rfl rfl ?_
      walk_at "go"
      exact out 0 "looped" _ s1 (w_loop hi hlo).1 (by decide)
    · walk_at "go"
      exact fin p S H1 s1 (w_push hi hno).1 f1 M.nd (fun _ => Iff.rfl) e1
  | pull f =>
    have ht' : SqT G.K H t [.str "pull", .int f] := ht
    walk_at "go"
    refine ⟨d, S, nx, f, rfl, hd, M, hl, fun hn => ?_, fun hi hlo H1 s1 => ?_, fun hi hno p H1 s1 f1 e1 => ?_⟩
    · refine hit X 0 rfl rfl ?_
      walk_at "go"
      exact out 0 "film" _ (Same.refl _) (w_film1 hn).2.1 (by decide)
    · refine hit X 2 rfl rfl ?_
      walk_at "go"
      exact out 0 "looped" _ s1 (w_loop hi hlo).2 (by decide)
    · walk_at "go"
      exact fin p S H1 s1 (w_push hi hno).2 f1 M.nd (fun _ => Iff.rfl) e1
  | burst f =>
    have ht' : SqT G.K H t [.str "burst", .int f] := ht
    walk_at "go"
    refine ⟨d, S, nx, f, rfl, hd, W, hl, fun hn => ?_, fun hi hlo H1 s1 => ?_, fun hi hno S' p H1 nd m s1 f1 e1 => ?_⟩
    · refine hit X 0 rfl rfl ?_
      walk_at "go"
      exact out 0 "film" _ (Same.refl _) (w_film1 hn).2.2 (by decide)
    · refine hit X 3 rfl rfl ?_
      walk_at "go"
      exact out 0 "one bubble" _ s1 (w_one hi hlo) (by decide)
    · walk_at "go"
      exact fin p S' H1 s1 (w_burst hi hno) f1 nd m e1
  | part o t2 f =>
    have ht' : SqT G.K H t [.str "part", .int o, .int t2, .int f] := ht
    walk_at "go"
    refine ⟨d, S, nx, o, t2, f, rfl, hd, M, ok, hl, fun hn => ?_, fun h1 h2 hno H1 s1 => ?_, fun h1 h2 hr he H1 s1 => ?_, fun h1 h2 hr he S' p H1 nd m s1 f1 e1 => ?_⟩
    · refine hit X 1 rfl rfl ?_
      walk_at "go"
      exact out 0 "end" _ (Same.refl _) (w_end hn) (by decide)
    · refine hit X 4 rfl rfl ?_
      walk_at "go"
      exact out 0 "not one" _ s1 (w_notone h1 h2 hno) (by decide)
    · refine hit X 5 rfl rfl ?_
      walk_at "go"
      exact out 0 "same film" _ s1 (w_same h1 h2 hr he) (by decide)
    · walk_at "go"
      exact fin p S' H1 s1 (w_part h1 h2 hr he) f1 nd m e1
  | blow e f =>
    have ht' : SqT G.K H t [.str "blow", .int e, .int f] := ht
    walk_at "go"
    refine ⟨d, S, nx, e, f, rfl, hd, M, ok, hl, fun hn => ?_, fun hi p H1 s1 f1 e1 => ?_⟩
    · refine hit X 1 rfl rfl ?_
      walk_at "go"
      exact out 0 "end" _ (Same.refl _) (w_noend hn) (by decide)
    · walk_at "go"
      exact fin p (blowS S (2 * f)) H1 s1 (w_blow hi) f1 (blow_nd M.nd ok) (fun _ => Iff.rfl) e1
/-! ### move_word -/
def sp_l_move_word (G : Gx) : Sp := fun vs H Q _ => ∃ (d t : Addr) (S : List Int) (nx : Int → Int) (o : Ord), vs = [.ref d, .ref t] ∧ Rd H d (dW S nx) ∧ SqT G.K H t o.vals ∧ Map S ot nx ∧ S.length ≤ 90000 ∧ ∀ H', Same H H' → Q (.str (wordF S nx o)) H'
theorem len_l_move_word {G : Gx} : ∀ vs H Q E, sp_l_move_word G vs H Q E → vs.length = 2 := by rintro vs H Q E ⟨d, t, S, nx, o, rfl, _⟩; rfl
/-! _law_move_word: slots _law_web_here, _law_order, _law_name, _law_one -/
def t_l_move_word (G : Gx) : TS :=
  (tSeq (tPar 2 3 (tCons (tOp (rIxT G.K) (tVar 1) (tC (.int 0))) (tCons (tOp (rIxT G.K) (tVar 1) (tC (.int 1))) tNil)))
  (tSeq (tIfS (tTest (tOp (rIn G.K false) (tVar 2) (tTup (tCons (tC (.str "push")) (tCons (tC (.str "pull")) (tCons (tC (.str "burst")) tNil)))))) (tSeq (tIfS (tB (tDNotIn (tOp rMulI (tC (.int 2)) (tVar 3)) (tVar 0))) (tRet (tC (.str "film"))) tNext)
  (tSeq (tIfS (tAnd (tTest (tOp rEq (tVar 2) (tC (.str "burst")))) (tB (tCall (sp_l_one_bubble G) [] E0 (tCons (tVar 0) (tCons (tVar 3) tNil))))) (tRet (tC (.str "one bubble"))) tNext)
  (tSeq (tIfS (tAnd (tTest (tOp rNe (tVar 2) (tC (.str "burst")))) (tB (tCall (sp_l_loop G) [] E0 (tCons (tVar 0) (tCons (tVar 3) tNil))))) (tRet (tC (.str "looped"))) tNext)
  (tRet (tC (.str "")))))) tNext)
  (tSeq (tIfS (tOr (tB (tDNotIn (tVar 3) (tVar 0))) (tAnd (tTest (tOp rEq (tVar 2) (tC (.str "part")))) (tB (tDNotIn (tOp (rIxT G.K) (tVar 1) (tC (.int 2))) (tVar 0))))) (tRet (tC (.str "end"))) tNext)
  (tSeq (tIfS (tAnd (tTest (tOp rEq (tVar 2) (tC (.str "part")))) (tTest (tOp (rIn G.K true) (tOp (rIxT G.K) (tVar 1) (tC (.int 2))) (tCall (sp_l_rim G) [] E0 (tCons (tVar 0) (tCons (tVar 3) tNil)))))) (tRet (tC (.str "not one"))) tNext)
  (tSeq (tIfS (tAnd (tTest (tOp rEq (tVar 2) (tC (.str "part")))) (tTest (tOp rEq (tOp rDivW (tOp (rIxT G.K) (tVar 1) (tC (.int 2))) (tC (.int 2))) (tOp rDivW (tVar 3) (tC (.int 2)))))) (tRet (tC (.str "same film"))) tNext)
  (tRet (tC (.str ""))))))))
theorem pure_l_move_word {G : Gx} {vs : List V} {H : Hp} {Q : VK} {E : XK} (h : sp_l_move_word G vs H Q E) : Body (t_l_move_word G) ["_law_web_here", "_law_order", "_law_name", "_law_one"] vs H Q := by
  obtain ⟨d, t, S, nx, o, rfl, hd, ht, M, hl, k⟩ := h
  show t_l_move_word G _ [some (.ref d), some (.ref t), none, none] H
  unfold t_l_move_word
  cases o with
  | push f =>
    have ht' : SqT G.K H t [.str "push", .int f] := ht
    walk_at "go"
    refine ⟨by walk_at "sz", fun u hu => ?_⟩
    have hd1 := rdb_new (o := .tup [.str "push", .str "pull", .str "burst"]) hu hd
    walk_at "go"
    rw [show inV (.str "push") [.str "push", .str "pull", .str "burst"] = true by decide +kernel, if_neg Bool.false_ne_true]
    walk_at "go"
    refine iteN (fun hn => ?_) (fun hi => ?_)
    · walk_at "go"
      rw [← (w_film1 (nx := nx) hn).1]
      exact k _ (by walk_at "sm")
    walk_at "go"
    refine ⟨d, S, nx, f, rfl, hd1, hi, M.cn _ hi, fun b H1 hb s1 => ?_⟩
    have s2 := same_tr s1 (same_new (Same.refl H) hu)
    walk_at "go"
    refine iteB (fun h => ?_) (fun h => ?_)
    · walk_at "go"
      rw [← (w_loop hi (hb.mp h)).1]
      exact k _ s2
    · walk_at "go"
      rw [← (w_push hi (fun z => by rw [hb.mpr z] at h; cases h)).1]
      exact k _ s2
  | pull f =>
    have ht' : SqT G.K H t [.str "pull", .int f] := ht
    walk_at "go"
    refine ⟨by walk_at "sz", fun u hu => ?_⟩
    have hd1 := rdb_new (o := .tup [.str "push", .str "pull", .str "burst"]) hu hd
    walk_at "go"
    rw [show inV (.str "pull") [.str "push", .str "pull", .str "burst"] = true by decide +kernel, if_neg Bool.false_ne_true]
    walk_at "go"
    refine iteN (fun hn => ?_) (fun hi => ?_)
    · walk_at "go"
      rw [← (w_film1 (nx := nx) hn).2.1]
      exact k _ (by walk_at "sm")
    walk_at "go"
    refine ⟨d, S, nx, f, rfl, hd1, hi, M.cn _ hi, fun b H1 hb s1 => ?_⟩
    have s2 := same_tr s1 (same_new (Same.refl H) hu)
    walk_at "go"
    refine iteB (fun h => ?_) (fun h => ?_)
    · walk_at "go"
      rw [← (w_loop hi (hb.mp h)).2]
      exact k _ s2
    · walk_at "go"
      rw [← (w_push hi (fun z => by rw [hb.mpr z] at h; cases h)).2]
      exact k _ s2
  | burst f =>
    have ht' : SqT G.K H t [.str "burst", .int f] := ht
    walk_at "go"
    refine ⟨by walk_at "sz", fun u hu => ?_⟩
    have hd1 := rdb_new (o := .tup [.str "push", .str "pull", .str "burst"]) hu hd
    walk_at "go"
    rw [show inV (.str "burst") [.str "push", .str "pull", .str "burst"] = true by decide +kernel, if_neg Bool.false_ne_true]
    walk_at "go"
    refine iteN (fun hn => ?_) (fun hi => ?_)
    · walk_at "go"
      rw [← (w_film1 (nx := nx) hn).2.2]
      exact k _ (by walk_at "sm")
    walk_at "go"
    refine ⟨d, S, nx, f, rfl, hd1, M, hi, by omega, fun b H1 hb s1 => ?_⟩
    have s2 := same_tr s1 (same_new (Same.refl H) hu)
    walk_at "go"
    refine iteB (fun h => ?_) (fun h => ?_)
    · walk_at "go"
      rw [← w_one hi (hb.mp h)]
      exact k _ s2
    · walk_at "go"
      rw [← w_burst hi (fun z => by rw [hb.mpr z] at h; cases h)]
      exact k _ s2
  | part o t2 f =>
    have ht' : SqT G.K H t [.str "part", .int o, .int t2, .int f] := ht
    walk_at "go"
    refine ⟨by walk_at "sz", fun u hu => ?_⟩
    have hd1 := rdb_new (o := .tup [.str "push", .str "pull", .str "burst"]) hu hd
    have ht1 : SqT G.K (upd H u (.tup [.str "push", .str "pull", .str "burst"])) t [.str "part", .int o, .int t2, .int f] := same_tup (same_new (Same.refl _) hu) ht'
    have s1 : Same H (upd H u (.tup [.str "push", .str "pull", .str "burst"])) := same_new (Same.refl _) hu
    walk_at "go"
    rw [show inV (.str "part") [.str "push", .str "pull", .str "burst"] = false by decide +kernel, if_neg Bool.false_ne_true]
    generalize upd H u (.tup [.str "push", .str "pull", .str "burst"]) = H1 at hd1 ht1 s1 ⊢
    walk_at "go"
    refine iteN (fun hn => ?_) (fun h1 => ?_)
    · walk_at "go"
      rw [← w_end (nx := nx) (f := f) (fun z : o ∈ S ∧ t2 ∈ S => hn z.1)]
      exact k _ s1
    walk_at "go"
    refine iteN (fun hn => ?_) (fun h2 => ?_)
    · walk_at "go"
      rw [← w_end (nx := nx) (f := f) (fun z : o ∈ S ∧ t2 ∈ S => hn z.2)]
      exact k _ s1
    walk_at "go"
    refine ⟨d, S, nx, o, rfl, hd1, M, h1, by omega, fun n p H2 P s2 f2 e2 => ?_⟩
    rw [← rimL_eq P] at e2
    have s3 := s1.trans s2
    have ht2 := same_tup s2 ht1
    refine r_inL (SqL.of e2) rfl (all_flat _) ?_
    walk_at "go"
    rw [if_pos rfl]
    refine iteNB (fun h => ?_) (fun h => ?_)
    · have hr : ¬ Rim S nx o t2 := fun z => by
        rw [(inV_mem _ _).mpr ((rimL_mem M.perm h1).mpr z)] at h
        cases h
      walk_at "go"
      rw [← w_notone (f := f) h1 h2 hr]
      exact k _ s3
    have hr : Rim S nx o t2 := (rimL_mem M.perm h1).mp ((inV_mem _ _).mp h)
    walk_at "go"
    refine iteI (fun h => ?_) (fun h => ?_)
    · walk_at "go"
      rw [← w_same (f := f) h1 h2 hr h.symm]
      exact k _ s3
    · walk_at "go"
      rw [← w_part (f := f) h1 h2 hr (fun z => h z.symm)]
      exact k _ s3
  | blow e f =>
    have ht' : SqT G.K H t [.str "blow", .int e, .int f] := ht
    walk_at "go"
    refine ⟨by walk_at "sz", fun u hu => ?_⟩
    have hd1 := rdb_new (o := .tup [.str "push", .str "pull", .str "burst"]) hu hd
    have s1 : Same H (upd H u (.tup [.str "push", .str "pull", .str "burst"])) := same_new (Same.refl _) hu
    walk_at "go"
    rw [show inV (.str "blow") [.str "push", .str "pull", .str "burst"] = false by decide +kernel, if_neg Bool.false_ne_true]
    generalize upd H u (.tup [.str "push", .str "pull", .str "burst"]) = H1 at hd1 s1 ⊢
    walk_at "go"
    refine iteN (fun hn => ?_) (fun h1 => ?_)
    · walk_at "go"
      rw [← w_noend (nx := nx) (f := f) hn]
      exact k _ s1
    · walk_at "go"
      rw [← w_blow (nx := nx) (f := f) h1]
      exact k _ s1
/-! ### moved -/
def sp_l_moved (G : Gx) : Sp := fun vs H Q _ => ∃ (d t : Addr) (S : List Int) (nx : Int → Int) (o : Ord), vs = [.ref d, .ref t] ∧ H d = some (dW S nx) ∧ SqT G.K H t o.vals ∧ Web S nx ∧ o.ok S ∧ wordF S nx o = "" ∧ S.length ≤ 90000 ∧
  ∀ S' p H', S'.Nodup → (∀ z, z ∈ S' ↔ z ∈ moveS S nx o) → Same H H' → Free H p → H' p = some (dW S' (moveN nx o)) → Q (.ref p) H'
theorem len_l_moved {G : Gx} : ∀ vs H Q E, sp_l_moved G vs H Q E → vs.length = 2 := by rintro vs H Q E ⟨d, t, S, nx, o, rfl, _⟩; rfl
section
variable {S : List Int} {nx : Int → Int} {f o t e : Int}
theorem i_push (h : wordF S nx (.push f) = "") : 2 * f ∈ S ∧ ¬ Looped nx (2 * f) := by
  by_cases h1 : 2 * f ∈ S
  · refine ⟨h1, fun z => ?_⟩
    rw [(w_loop h1 z).1] at h
    exact absurd h (by decide)
  · rw [(w_film1 h1).1] at h
    exact absurd h (by decide)
theorem i_pull (h : wordF S nx (.pull f) = "") : 2 * f ∈ S ∧ ¬ Looped nx (2 * f) := by
  by_cases h1 : 2 * f ∈ S
  · refine ⟨h1, fun z => ?_⟩
    rw [(w_loop h1 z).2] at h
    exact absurd h (by decide)
  · rw [(w_film1 h1).2.1] at h
    exact absurd h (by decide)
theorem i_burst (h : wordF S nx (.burst f) = "") : 2 * f ∈ S ∧ ¬ Rim S nx (2 * f) (ot (2 * f)) := by
  by_cases h1 : 2 * f ∈ S
  · refine ⟨h1, fun z => ?_⟩
    rw [w_one h1 z] at h
    exact absurd h (by decide)
  · rw [(w_film1 h1).2.2] at h
    exact absurd h (by decide)
theorem i_part (h : wordF S nx (.part o t f) = "") : o ∈ S ∧ t ∈ S ∧ Rim S nx o t ∧ o / 2 ≠ t / 2 := by
  by_cases h1 : o ∈ S ∧ t ∈ S
  · by_cases h2 : Rim S nx o t
    · refine ⟨h1.1, h1.2, h2, fun z => ?_⟩
      rw [w_same h1.1 h1.2 h2 z] at h
      exact absurd h (by decide)
    · rw [w_notone h1.1 h1.2 h2] at h
      exact absurd h (by decide)
  · rw [w_end h1] at h
    exact absurd h (by decide)
theorem i_blow (h : wordF S nx (.blow e f) = "") : e ∈ S := by
  by_cases h1 : e ∈ S
  · exact h1
  · rw [w_noend h1] at h
    exact absurd h (by decide)
end
/-! _law_moved: slots _law_web_here, _law_order -/
def t_l_moved (G : Gx) : TS :=
  (tSeq (tIfS (tOr (tTest (tOp rEq (tOp (rIxT G.K) (tVar 1) (tC (.int 0))) (tC (.str "push")))) (tTest (tOp rEq (tOp (rIxT G.K) (tVar 1) (tC (.int 0))) (tC (.str "pull"))))) (tRet (tCall (sp_l_push G) [] E0 (tCons (tVar 0) (tCons (tOp (rIxT G.K) (tVar 1) (tC (.int 1))) (tCons (tOp rEq (tOp (rIxT G.K) (tVar 1) (tC (.int 0))) (tC (.str "pull"))) tNil))))) tNext)
  (tSeq (tIfS (tTest (tOp rEq (tOp (rIxT G.K) (tVar 1) (tC (.int 0))) (tC (.str "burst")))) (tRet (tCall (sp_l_without G) [] E0 (tCons (tVar 0) (tCons (tOp (rIxT G.K) (tVar 1) (tC (.int 1))) tNil)))) tNext)
  (tSeq (tIfS (tTest (tOp rEq (tOp (rIxT G.K) (tVar 1) (tC (.int 0))) (tC (.str "part")))) (tRet (tCall (sp_l_part G) [] E0 (tCons (tVar 0) (tCons (tOp (rIxT G.K) (tVar 1) (tC (.int 1))) (tCons (tOp (rIxT G.K) (tVar 1) (tC (.int 2))) (tCons (tOp (rIxT G.K) (tVar 1) (tC (.int 3))) tNil)))))) tNext)
  (tRet (tCall (sp_l_blow G) [] E0 (tCons (tVar 0) (tCons (tOp (rIxT G.K) (tVar 1) (tC (.int 1))) (tCons (tOp (rIxT G.K) (tVar 1) (tC (.int 2))) tNil))))))))
theorem pure_l_moved {G : Gx} {vs : List V} {H : Hp} {Q : VK} {E : XK} (h : sp_l_moved G vs H Q E) : Body (t_l_moved G) ["_law_web_here", "_law_order"] vs H Q := by
  obtain ⟨d, t, S, nx, o, rfl, hd, ht, W, ok, hw, hl, k⟩ := h
  show t_l_moved G _ [some (.ref d), some (.ref t)] H
  unfold t_l_moved
  have M := W.map
  cases o with
  | push f =>
    have ht' : SqT G.K H t [.str "push", .int f] := ht
    obtain ⟨h1, h2⟩ := i_push hw
    walk_at "go"
    refine ⟨d, S, nx, f, _, rfl, rd_in hd, M, h1, hl, fun p H1 s1 f1 e1 => ?_⟩
    rw [show decide (V.str "push" = V.str "pull") = false by decide +kernel] at e1
    exact k S p H1 M.nd (fun _ => Iff.rfl) s1 f1 e1
  | pull f =>
    have ht' : SqT G.K H t [.str "pull", .int f] := ht
    obtain ⟨h1, h2⟩ := i_pull hw
    walk_at "go"
    refine ⟨d, S, nx, f, _, rfl, rd_in hd, M, h1, hl, fun p H1 s1 f1 e1 => ?_⟩
    rw [show decide (V.str "pull" = V.str "pull") = true by decide +kernel] at e1
    exact k S p H1 M.nd (fun _ => Iff.rfl) s1 f1 e1
  | burst f =>
    have ht' : SqT G.K H t [.str "burst", .int f] := ht
    obtain ⟨h1, h2⟩ := i_burst hw
    walk_at "go"
    exact ⟨d, S, nx, f, rfl, hd, W, h1, .inr h2, hl, k⟩
  | part o t2 f =>
    have ht' : SqT G.K H t [.str "part", .int o, .int t2, .int f] := ht
    obtain ⟨h1, h2, h3, h4⟩ := i_part hw
    walk_at "go"
    exact ⟨d, S, nx, o, t2, f, rfl, rd_in hd, M, h1, h2, h4, ok, hl, k⟩
  | blow e f =>
    have ht' : SqT G.K H t [.str "blow", .int e, .int f] := ht
    have h1 := i_blow hw
    walk_at "go"
    exact ⟨d, S, nx, e, f, rfl, rd_in hd, M, h1, ok, hl, fun p H1 s1 f1 e1 => k _ p H1 (blow_nd M.nd ok) (fun _ => Iff.rfl) s1 f1 e1⟩
/-! ### move_right -/
def sp_l_move_right (G : Gx) : Sp := fun vs H Q _ => ∃ (d t : Addr) (S : List Int) (nx : Int → Int) (o : Ord), vs = [.ref d, .ref t] ∧ H d = some (dW S nx) ∧ SqT G.K H t o.vals ∧ Web S nx ∧ o.ok S ∧ S.length ≤ 80000 ∧ ∀ H', Same H H' → Q (.bl true) H'
theorem len_l_move_right {G : Gx} : ∀ vs H Q E, sp_l_move_right G vs H Q E → vs.length = 2 := by rintro vs H Q E ⟨d, t, S, nx, o, rfl, _⟩; rfl
/-! _law_move_right: slots _law_web_here, _law_order, _law_handed, _law_word, _law_made, _law_due -/
def t_l_move_right (G : Gx) : TS :=
  (tSeq (tAsg (tCB rDictRd (tCons (tVar 0) tNil)) (gName 2))
  (tSeq (tAsg (tCall (sp_l_move G) [] E0 (tCons (tVar 2) (tCons (tVar 1) tNil))) (gTup G.K 2 (gCons (gName 3) (gCons (gName 4) gNil))))
  (tSeq (tAsg (tCall (sp_l_move_word G) [] E0 (tCons (tVar 0) (tCons (tVar 1) tNil))) (gName 5))
  (tSeq (tIfS (tOr (tTest (tOp rNe (tVar 3) (tVar 5))) (tNot (tB (tCall (sp_l_is_web G) [] E0 (tCons (tVar 2) (tCons (tVar 0) tNil)))))) (tRet (tC (.bl false))) tNext)
  (tRet (tOrV (tOp rNe (tVar 3) (tC (.str ""))) (tCall (sp_l_is_web G) [] E0 (tCons (tVar 4) (tCons (tCall (sp_l_moved G) [] E0 (tCons (tVar 0) (tCons (tVar 1) tNil))) tNil)))))))))
theorem same_len {S T : List Int} (h1 : S.Nodup) (h2 : T.Nodup) (h : ∀ z, z ∈ S ↔ z ∈ T) : S.length = T.length := Nat.le_antisymm (sub_len h1 fun z hz => (h z).mp hz) (sub_len h2 fun z hz => (h z).mpr hz)
theorem move_len {S : List Int} {nx : Int → Int} {o : Ord} : (moveS S nx o).length ≤ S.length + 6 := by
  cases o with
  | push f => exact Nat.le_add_right _ _
  | pull f => exact Nat.le_add_right _ _
  | burst f =>
    show (wS S nx (2 * f)).length ≤ S.length + 6
    unfold wS
    split
    · unfold burstLS
      exact Nat.le_trans m1S_len (Nat.le_trans (List.length_filter_le _ _) (Nat.le_add_right _ _))
    · unfold burstS
      exact Nat.le_trans m1S_len (Nat.le_trans m1S_len (Nat.le_add_right _ _))
  | part o t f => show (blowS S (2 * f)).length ≤ _; rw [len_blowS]; exact Nat.le_refl _
  | blow e f => show (blowS S (2 * f)).length ≤ _; rw [len_blowS]; exact Nat.le_refl _
theorem pure_l_move_right {G : Gx} {vs : List V} {H : Hp} {Q : VK} {E : XK} (h : sp_l_move_right G vs H Q E) : Body (t_l_move_right G) ["_law_web_here", "_law_order", "_law_handed", "_law_word", "_law_made", "_law_due"] vs H Q := by
  obtain ⟨d, t, S, nx, o, rfl, hd, ht, W, ok, hl, k⟩ := h
  show t_l_move_right G _ [some (.ref d), some (.ref t), none, none, none, none] H
  unfold t_l_move_right
  have M := W.map
  have hd0 := rd_in hd
  walk_at "go"
  intro q hq
  have nqd : q ≠ d := ne_fresh' hd hq
  have s1 : Same H (upd H q (dW S nx)) := same_new (Same.refl _) hq
  have e1 : upd H q (dW S nx) q = some (dW S nx) := upd_same
  have e2 : upd H q (dW S nx) d = some (dW S nx) := at_new hd hq
  generalize upd H q (dW S nx) = H1 at s1 e1 e2 ⊢
  have ht1 := same_tup s1 ht
  walk_at "go"
  refine ⟨q, t, S, nx, o, rfl, rd_in e1, ht1, W, ok, by omega, fun r v H2 s2 e3 md => ?_⟩
  refine g_tup (SqT.of e3) rfl ?_
  have ht2 := same_tup s2 ht1
  walk_at "go"
  refine ⟨d, t, S, nx, o, rfl, rd_in (s2 _ _ e2), ht2, M, by omega, fun H3 s3 => ?_⟩
  have ht3 := same_tup s3 ht2
  have g1 := s3 _ _ (s2 _ _ e1)
  have g2 := s3 _ _ (s2 _ _ e2)
  have s4 := (s1.trans s2).trans s3
  walk_at "go"
  refine ⟨q, d, S, S, nx, nx, rfl, g1, g2, nqd, rfl, by omega, fun x hx => ⟨hx, rfl⟩, fun H4 s5 => ?_⟩
  have s6 := s4.trans s5
  walk_at "go"
  refine iteN (fun hw => ?_) (fun hw => ?_)
  · exact k _ s6
  · have hw' : wordF S nx o = "" := V.str.inj hw
    obtain ⟨p, S', rfl, fp, nd, m, e4⟩ := md.1 hw'
    have e5 := s5 _ _ (s3 _ _ e4)
    walk_at "go"
    refine ⟨d, t, S, nx, o, rfl, s5 _ _ g2, same_tup s5 ht3, W, ok, hw', by omega, fun S2 p2 H5 nd2 m2 s7 f7 e6 => ?_⟩
    have e7 := s7 _ _ e5
    have mm : ∀ z, z ∈ S' ↔ z ∈ S2 := fun z => (m z).trans (m2 z).symm
    walk_at "go"
    refine ⟨p, p2, S2, S', _, _, rfl, e7, e6, ne_fresh e5 f7, same_len nd nd2 mm, ?_, fun x hx => ⟨(mm x).mpr hx, rfl⟩, fun H6 s8 => k _ ((s6.trans s7).trans s8)⟩
    have := sub_len nd2 fun z hz => (m2 z).mp hz
    have := move_len (S := S) (nx := nx) (o := o)
    omega

/-! RimT: all rims together are all ends, once each. -/
theorem putL_disj : ∀ {l P : List Int}, l.Nodup → (∀ x ∈ l, x ∉ P) → putL P l = P ++ l
  | [], P, _, _ => by unfold putL; rw [List.append_nil]; rfl
  | x :: r, P, h, hd => by
    obtain ⟨h1, h2⟩ := List.nodup_cons.mp h
    have e : putL P (x :: r) = putL (putS P x) r := rfl
    rw [e, putS_out (hd x List.mem_cons_self), putL_disj h2 fun y hy z => ?_, List.append_assoc]
    · rfl
    · rcases List.mem_append.mp z with z | z
      · exact hd y (List.mem_cons_of_mem _ hy) z
      · rw [List.mem_singleton.mp z] at hy
        exact h1 hy
theorem closed_eqv {S P : List Int} {f : Int → Int} (Pm : Perm1 S f) (sub : ∀ x ∈ P, x ∈ S) (cl : ∀ x ∈ P, f x ∈ P) {x y : Int} (hx : x ∈ P) (e : Eqv (fstep S f) x y) : y ∈ P := by
  obtain ⟨n, hn, rfl⟩ := eqv_iter Pm (sub x hx) e
  clear e hn
  induction n with
  | zero => exact hx
  | succ n ih => exact cl _ ih
theorem rimL_nd {S : List Int} {f : Int → Int} (Pm : Perm1 S f) {x : Int} (hx : x ∈ S) : (rimL f x).Nodup := by
  obtain ⟨n, _, P⟩ := per_ex Pm hx
  rw [rimL_eq P]
  exact rim_nd Pm hx P
theorem rimL_self {S : List Int} {f : Int → Int} (Pm : Perm1 S f) {x : Int} (hx : x ∈ S) : x ∈ rimL f x := (rimL_mem Pm hx).mpr (.refl _)
theorem rimL_cl {S : List Int} {f : Int → Int} (Pm : Perm1 S f) {x y : Int} (hx : x ∈ S) (hy : y ∈ rimL f x) : f y ∈ rimL f x := by
  rw [rimL_mem Pm hx] at hy ⊢
  exact hy.trans (.step ⟨rimL_sub Pm hx ((rimL_mem Pm hx).mpr hy), rfl⟩)
theorem rimL_len {S : List Int} {f : Int → Int} (Pm : Perm1 S f) {x : Int} (hx : x ∈ S) : (rimL f x).length ≤ S.length := sub_len (rimL_nd Pm hx) fun _ hy => rimL_sub Pm hx hy
theorem rimL_head {f : Int → Int} {x : Int} (h : rimL f x ≠ []) : (rimL f x)[0]? = some x := by
  unfold rimL at h ⊢
  split
  · rename_i q
    exact rimO_at (Classical.choose_spec q).pos
  · rename_i q
    rw [dif_neg q] at h
    exact absurd rfl h
theorem rimsG_flat {S : List Int} {f : Int → Int} (Pm : Perm1 S f) : ∀ {es P : List Int}, (∀ e ∈ es, e ∈ S) → P.Nodup → (∀ x ∈ P, f x ∈ P) → (∀ x ∈ P, x ∈ S) →
    (P ++ (rimsG f es P).flatten).Nodup ∧ (∀ e ∈ es, e ∈ P ∨ e ∈ (rimsG f es P).flatten) ∧ ∀ x ∈ (rimsG f es P).flatten, x ∈ S
  | [], P, _, nd, _, _ => by
    unfold rimsG
    rw [List.flatten_nil, List.append_nil]
    exact ⟨nd, fun e h => absurd h List.not_mem_nil, fun e h => absurd h List.not_mem_nil⟩
  | e :: r, P, hS, nd, cl, sub => by
    have he := hS e List.mem_cons_self
    have hr : ∀ x ∈ r, x ∈ S := fun x hx => hS x (List.mem_cons_of_mem _ hx)
    unfold rimsG
    split
    · rename_i hi
      obtain ⟨h1, h2, h3⟩ := rimsG_flat Pm hr nd cl sub
      refine ⟨h1, fun x hx => ?_, h3⟩
      rcases List.mem_cons.mp hx with q | q
      · exact .inl (q ▸ hi)
      · exact h2 x q
    · rename_i hn
      have dj : ∀ x ∈ rimL f e, x ∉ P := fun x hx z => hn (closed_eqv Pm sub cl z ((rimL_mem Pm he).mp hx).symm)
      have ep := putL_disj (rimL_nd Pm he) dj
      obtain ⟨h1, h2, h3⟩ := rimsG_flat (P := putL P (rimL f e)) Pm hr (nd_putL nd) (fun x hx => mem_putL.mpr ((mem_putL.mp hx).imp (cl x) (rimL_cl Pm he))) (fun x hx => (mem_putL.mp hx).elim (sub x) (rimL_sub Pm he))
      rw [ep, List.append_assoc] at h1
      refine ⟨by rw [ep, List.flatten_cons]; exact h1, fun x hx => ?_, fun x hx => ?_⟩
      · rw [List.flatten_cons]
        rcases List.mem_cons.mp hx with q | q
        · rw [q]; exact .inr (List.mem_append.mpr (.inl (rimL_self Pm he)))
        · rcases h2 x q with w | w
          · exact (mem_putL.mp w).imp id fun z => List.mem_append.mpr (.inl z)
          · exact .inr (List.mem_append.mpr (.inr w))
      · rw [List.flatten_cons] at hx
        rcases List.mem_append.mp hx with w | w
        · exact rimL_sub Pm he w
        · exact h3 x w
theorem rimsG_all {S es : List Int} {f : Int → Int} (Pm : Perm1 S f) (nd : S.Nodup) (hs : Srt S es) : (rimsG f es []).flatten.Nodup ∧ (∀ x, x ∈ (rimsG f es []).flatten ↔ x ∈ S) ∧ (rimsG f es []).flatten.length = S.length := by
  obtain ⟨h1, h2, h3⟩ := rimsG_flat (es := es) (P := []) Pm (fun e he => hs.perm.subset he) .nil (fun x h => absurd h List.not_mem_nil) (fun x h => absurd h List.not_mem_nil)
  rw [List.nil_append] at h1
  have h4 : ∀ x ∈ S, x ∈ (rimsG f es []).flatten := fun x hx => (h2 x (hs.perm.symm.subset hx)).resolve_left List.not_mem_nil
  exact ⟨h1, fun x => ⟨h3 x, h4 x⟩, Nat.le_antisymm (sub_len h1 h3) (sub_len nd h4)⟩
theorem rimsG_cnt {S : List Int} {f : Int → Int} (Pm : Perm1 S f) : ∀ {es P : List Int} {n : Nat}, (∀ e ∈ es, e ∈ S) → Cnt S f P n → ∃ P', Cnt S f P' (n + (rimsG f es P).length) ∧ (∀ x ∈ P, x ∈ P') ∧ ∀ e ∈ es, e ∈ P'
  | [], P, n, _, c => by
    unfold rimsG
    exact ⟨P, c, fun _ h => h, fun e h => absurd h List.not_mem_nil⟩
  | e :: r, P, n, hS, c => by
    have he := hS e List.mem_cons_self
    have hr : ∀ x ∈ r, x ∈ S := fun x hx => hS x (List.mem_cons_of_mem _ hx)
    unfold rimsG
    split
    · rename_i hi
      obtain ⟨P', h1, h2, h3⟩ := rimsG_cnt Pm hr c
      refine ⟨P', h1, h2, fun x hx => ?_⟩
      rcases List.mem_cons.mp hx with q | q
      · exact h2 x (q ▸ hi)
      · exact h3 x q
    · rename_i hn
      have c2 := c.more Pm (P' := putL P (rimL f e)) he hn (fun x hx => mem_putL.mpr (.inl hx)) (fun x hx => mem_putL.mpr ((mem_putL.mp hx).imp (c.cl x) (rimL_cl Pm he))) (mem_putL.mpr (.inr (rimL_self Pm he))) (fun x hx => (mem_putL.mp hx).imp id (rimL_mem Pm he).mp)
      obtain ⟨P', h1, h2, h3⟩ := rimsG_cnt Pm hr c2
      refine ⟨P', by rw [List.length_cons, show n + ((rimsG f r (putL P (rimL f e))).length + 1) = n + 1 + (rimsG f r (putL P (rimL f e))).length by omega]; exact h1, fun x hx => h2 x (mem_putL.mpr (.inl hx)), fun x hx => ?_⟩
      rcases List.mem_cons.mp hx with q | q
      · rw [q]; exact h2 e (mem_putL.mpr (.inr (rimL_self Pm he)))
      · exact h3 x q
theorem rimsG_cls {S es : List Int} {f : Int → Int} (Pm : Perm1 S f) (hs : Srt S es) : Cls S (fstep S f) (rimsG f es []).length := by
  obtain ⟨P', h1, _, h3⟩ := rimsG_cnt (es := es) Pm (fun e he => hs.perm.subset he) cnt_nil
  rw [Nat.zero_add] at h1
  exact h1.all fun x hx => h3 x (hs.perm.symm.subset hx)
/-! ### a comprehension over a list that leaves the heap as it is -/
theorem r_yes1 {σ : St} {H : Hp} {R : Bool → Hp → Prop} (h : R true H) : tYes σ H R := h
theorem r_lcG {K : PySem.W.Frag} {H : Hp} {Q : VK} {σ : St} {a : Addr} {tl te : TE} {i : Nat} {xs ys : List V} (hs : SqL K H a xs) (hl : xs.length = ys.length) (hn : xs.length < sizeLine) (ht : ∀ Q : VK, Q (.ref a) H → tl σ H Q)
    (h2 : ∀ (k : Nat) x y, xs[k]? = some x → ys[k]? = some y → ∀ (D : Addr) (u : HO), Free H D → ∀ Q : VK, Q y (upd H D u) → te (σ.set i (some x)) (upd H D u) Q)
    (h : ∀ D, Free H D → Q (.ref D) (upd H D (.lst ys))) : tLc (iList K tl) (gName i) tYes te [i] σ H Q := by
  refine ht _ ⟨a, rfl, ⟨_, hs⟩, fun D hD => ?_⟩
  refine lc_list (xs := xs) (fun j H' => H' = upd H D (.lst (ys.take j))) rfl (fun j H' _ q => ?_) (fun j x H' hx q => ?_) (fun H' q => ?_)
  · subst q
    exact lst_same (same_new (Same.refl H) hD) hs
  · subst q
    have hj : j < ys.length := by rw [← hl]; exact (List.getElem?_eq_some_iff.mp hx).1
    have hy : ys[j]? = some ys[j] := List.getElem?_eq_getElem hj
    have et : ys.take (j + 1) = ys.take j ++ [ys[j]] := by rw [List.take_succ, hy]; rfl
    rw [wipe1]
    have es : (σ.set i none).set i (some x) = σ.set i (some x) := List.set_set _
    refine ⟨by rw [es]; exact List.set_set _, ?_⟩
    rw [es]
    refine r_yes1 ?_
    rw [if_pos rfl]
    refine h2 j x _ hx hy D _ hD _ ⟨_, upd_same, ?_, ?_⟩
    · rw [List.length_take]
      omega
    · rw [upd_upd, et]
  · subst q
    rw [hl, List.take_length]
    exact h D hD
/-- .. whose test and item may make new things -/
theorem r_lcS {K : PySem.W.Frag} {H : Hp} {Q : VK} {σ : St} {a : Addr} {tl te : TE} {tt : TT} {i : Nat} {ns : List Int} (p : Int → Bool) (e : Int → V) (hs : SqL K H a (ns.map V.int)) (ht : ∀ Q : VK, Q (.ref a) H → tl σ H Q) (hn : ns.length < sizeLine)
    (h1 : ∀ x ∈ ns, ∀ H', Same H H' → ∀ R : Bool → Hp → Prop, (∀ H'', Same H' H'' → R (p x) H'') → tt (σ.set i (some (.int x))) H' R)
    (h2 : ∀ x ∈ ns, p x = true → ∀ H', Same H H' → ∀ Q : VK, (∀ H'', Same H' H'' → Q (e x) H'') → te (σ.set i (some (.int x))) H' Q)
    (h : ∀ D H', Same H H' → Free H D → H' D = some (.lst ((ns.filter p).map e)) → Q (.ref D) H') : tLc (iList K tl) (gName i) tt te [i] σ H Q := by
  refine ht _ ⟨a, rfl, ⟨_, hs⟩, fun D hD => ?_⟩
  refine lc_list (xs := ns.map V.int) (fun j H' => Same H H' ∧ H' D = some (.lst (((ns.take j).filter p).map e))) ⟨same_new (Same.refl H) hD, upd_same⟩ (fun j H' _ q => lst_same q.1 hs) (fun j x H' hx q => ?_) (fun H' q => ?_)
  · obtain ⟨s1, e1⟩ := q
    obtain ⟨n, hj, rfl⟩ := map_get hx
    have hm : n ∈ ns := List.mem_of_getElem? hj
    have et : ns.take (j + 1) = ns.take j ++ [n] := by rw [List.take_succ, hj]; rfl
    rw [wipe1]
    show _ ∧ _
    have es : (σ.set i none).set i (some (.int n)) = σ.set i (some (.int n)) := List.set_set _
    refine ⟨by rw [es]; exact List.set_set _, ?_⟩
    rw [es]
    refine h1 n hm H' s1 _ fun H2 s2 => ?_
    cases hp : p n with
    | true =>
      rw [if_pos rfl]
      refine h2 n hm hp H2 (s1.trans s2) _ fun H3 s3 => ⟨_, s3 _ _ (s2 _ _ e1), ?_, same_mut ((s1.trans s2).trans s3) hD, ?_⟩
      · rw [List.length_map]
        refine Nat.lt_of_le_of_lt (Nat.le_trans (List.length_filter_le _ _) ?_) hn
        rw [List.length_take]
        exact Nat.min_le_right _ _
      · rw [upd_same, et, List.filter_append, List.map_append]
        simp [hp]
    | false =>
      rw [if_neg Bool.false_ne_true, et, List.filter_append]
      refine ⟨s1.trans s2, ?_⟩
      have q : [n].filter p = [] := by simp [hp]
      rw [q, List.append_nil]
      exact s2 _ _ e1
  · rw [List.length_map, List.take_length] at q
    exact h D H' q.1 hD q.2

/-! PushT: a push taken back, twice, four times. -/
section
variable {S : List Int} {nx : Int → Int} {e o a b c d : Int}
theorem film_push (W : Web S nx) (F : Film S nx e o a b c d) : Film S (pushF nx e) e o b c d a ∧ Web S (pushF nx e) := by
  have h1 : nx e ≠ ot e := by rw [F.ea, F.eo]; exact F.n_oa.symm
  have h2 : nx (nx e) ≠ ot e := by rw [F.ea, F.ab, F.eo]; exact F.n_ob.symm
  have W' := push_web W F.he h1 h2
  obtain ⟨⟨v1, v2, v3, v4, v5, v6⟩, _⟩ := push_vals F
  exact ⟨⟨W'.map, F.he, F.ho, F.hb, F.hc, F.hd, F.ha, F.eo, F.oe, v1, v2, v3, v4, v5, v6, F.n_eo, F.n_eb, F.n_ec, F.n_ed, F.n_ea, F.n_ob, F.n_oc, F.n_od, F.n_oa, F.n_bc, F.n_bd, F.n_ab.symm, F.n_cd, F.n_ac.symm, F.n_ad.symm⟩, W'⟩
theorem film_pull (W : Web S nx) (F : Film S nx e o a b c d) : Film S (pullF nx e) e o d a b c ∧ Web S (pullF nx e) := by
  have h1 : nx e ≠ ot e := by rw [F.ea, F.eo]; exact F.n_oa.symm
  have h2 : nx (nx e) ≠ ot e := by rw [F.ea, F.ab, F.eo]; exact F.n_ob.symm
  have W' := pull_web W F.he h1 h2
  obtain ⟨⟨v1, v2, v3, v4, v5, v6⟩, _⟩ := pull_vals F
  exact ⟨⟨W'.map, F.he, F.ho, F.hd, F.ha, F.hb, F.hc, F.eo, F.oe, v1, v2, v3, v4, v5, v6, F.n_eo, F.n_ed, F.n_ea, F.n_eb, F.n_ec, F.n_od, F.n_oa, F.n_ob, F.n_oc, F.n_ad.symm, F.n_bd.symm, F.n_cd.symm, F.n_ab, F.n_ac, F.n_bc⟩, W'⟩
theorem Film.no (F : Film S nx e o a b c d) : nx e ≠ ot e ∧ nx (nx e) ≠ ot e := by
  rw [F.ea, F.ab, F.eo]
  exact ⟨F.n_oa.symm, F.n_ob.symm⟩
theorem six_perm1 {z : Int} (h : ¬ Six e o a b c d z) : ¬ Six e o b c d a z := fun q => h (by unfold Six at *; omega)
theorem six_perm2 {z : Int} (h : ¬ Six e o a b c d z) : ¬ Six e o d a b c z := fun q => h (by unfold Six at *; omega)
theorem push_pull (W : Web S nx) (F : Film S nx e o a b c d) (z : Int) : pullF (pushF nx e) e z = nx z := by
  obtain ⟨⟨v1, v2, v3, v4, v5, v6⟩, vo⟩ := pull_vals (film_push W F).1
  by_cases h : Six e o a b c d z
  · rcases h with rfl | rfl | rfl | rfl | rfl | rfl
    · rw [v1, F.ea]
    · rw [v4, F.oc]
    · rw [v2, F.ab]
    · rw [v3, F.be]
    · rw [v5, F.cd]
    · rw [v6, F.do_]
  · rw [vo z (six_perm1 h), (push_vals F).2 z h]
theorem pull_push (W : Web S nx) (F : Film S nx e o a b c d) (z : Int) : pushF (pullF nx e) e z = nx z := by
  obtain ⟨⟨v1, v2, v3, v4, v5, v6⟩, vo⟩ := push_vals (film_pull W F).1
  by_cases h : Six e o a b c d z
  · rcases h with rfl | rfl | rfl | rfl | rfl | rfl
    · rw [v1, F.ea]
    · rw [v4, F.oc]
    · rw [v2, F.ab]
    · rw [v3, F.be]
    · rw [v5, F.cd]
    · rw [v6, F.do_]
  · rw [vo z (six_perm2 h), (pull_vals F).2 z h]
def sw (e z : Int) : Int := if z = e then ot e else if z = ot e then e else z
theorem sw_sw (e z : Int) : sw e (sw e z) = z := by
  have h := ot_ne e
  unfold sw
  by_cases h1 : z = e
  · rw [if_pos h1, if_neg h, if_pos rfl, h1]
  · rw [if_neg h1]
    by_cases h2 : z = ot e
    · rw [if_pos h2, if_pos rfl, h2]
    · rw [if_neg h2, if_neg h1, if_neg h2]
theorem sw_o {z : Int} (h1 : z ≠ e) (h2 : z ≠ ot e) : sw e z = z := by unfold sw; rw [if_neg h1, if_neg h2]
theorem sw_e : sw e e = ot e := by unfold sw; rw [if_pos rfl]
theorem sw_t : sw e (ot e) = e := by unfold sw; rw [if_neg (ot_ne e), if_pos rfl]
def swN (nx : Int → Int) (e : Int) : Int → Int := fun z => sw e (nx (sw e z))
theorem push_push (W : Web S nx) (F : Film S nx e o a b c d) {z : Int} (hz : z ∈ S) : pushF (pushF nx e) e z = swN nx e z := by
  obtain ⟨⟨v1, v2, v3, v4, v5, v6⟩, vo⟩ := push_vals (film_push W F).1
  have M := W.map
  unfold swN
  by_cases h : Six e o a b c d z
  · have eo := F.eo
    subst eo
    rcases h with rfl | rfl | rfl | rfl | rfl | rfl
    · rw [v1, sw_e, F.oc, sw_o F.n_ec.symm F.n_oc.symm]
    · rw [v4, sw_t, F.ea, sw_o F.n_ea.symm F.n_oa.symm]
    · rw [v5, sw_o F.n_ea.symm F.n_oa.symm, F.ab, sw_o F.n_eb.symm F.n_ob.symm]
    · rw [v6, sw_o F.n_eb.symm F.n_ob.symm, F.be, sw_e]
    · rw [v2, sw_o F.n_ec.symm F.n_oc.symm, F.cd, sw_o F.n_ed.symm F.n_od.symm]
    · rw [v3, sw_o F.n_ed.symm F.n_od.symm, F.do_, sw_t]
  · obtain ⟨z1, z2, z3, z4, z5, z6⟩ := six_no h
    rw [vo z (six_perm1 h), (push_vals F).2 z h, sw_o z1 (by rw [F.eo]; exact z2), sw_o]
    · exact fun q => z4 (M.ninj hz F.hb (q.trans F.be.symm))
    · rw [F.eo]
      exact fun q => z6 (M.ninj hz F.hd (q.trans F.do_.symm))
theorem push4 (W : Web S nx) (F : Film S nx e o a b c d) {z : Int} (hz : z ∈ S) : pushF (pushF (pushF (pushF nx e) e) e) e z = nx z := by
  obtain ⟨F1, W1⟩ := film_push W F
  obtain ⟨F2, W2⟩ := film_push W1 F1
  have hs : sw e z ∈ S := by
    unfold sw
    split
    · rw [F.eo]; exact F.ho
    · split
      · exact F.he
      · exact hz
  rw [push_push W2 F2 hz]
  unfold swN
  rw [push_push W F hs]
  unfold swN
  rw [sw_sw, sw_sw]
end

/-! CntT: how long a rim is, and what a deed makes of it. -/
noncomputable def eqB (S : List Int) (f : Int → Int) (x y : Int) : Bool := @decide (Eqv (fstep S f) x y) (Classical.propDecidable _)
theorem eqB_iff {S : List Int} {f : Int → Int} {x y : Int} : eqB S f x y = true ↔ Eqv (fstep S f) x y := by
  unfold eqB
  exact @decide_eq_true_iff _ (Classical.propDecidable _)
theorem eqB_congr {S S' : List Int} {f f' : Int → Int} {x y x' y' : Int} (h : Eqv (fstep S f) x y ↔ Eqv (fstep S' f') x' y') : eqB S f x y = eqB S' f' x' y' := by
  rw [Bool.eq_iff_iff, eqB_iff, eqB_iff, h]
theorem eqB_r {S : List Int} {f : Int → Int} {x y x' y' : Int} (h1 : Eqv (fstep S f) x x') (h2 : Eqv (fstep S f) y y') : eqB S f x y = eqB S f x' y' :=
  eqB_congr ⟨fun h => (h1.symm.trans h).trans h2, fun h => (h1.trans h).trans h2.symm⟩
/-- from an end of S one stays in S -/
theorem eqv_mem {S : List Int} {f : Int → Int} (Pm : Perm1 S f) {x y : Int} (hx : x ∈ S) (e : Eqv (fstep S f) x y) : y ∈ S := by
  obtain ⟨n, _, rfl⟩ := eqv_iter Pm hx e
  exact iter_mem Pm hx n
/-- a rim's length, counted over all ends -/
theorem rim_cnt {S : List Int} {f : Int → Int} (Pm : Perm1 S f) (nd : S.Nodup) {x : Int} (hx : x ∈ S) : (rimL f x).length = S.countP (eqB S f x) := by
  rw [List.countP_eq_length_filter]
  refine Nat.le_antisymm (sub_len (rimL_nd Pm hx) fun y hy => ?_) (sub_len (nd.filter _) fun y hy => ?_)
  · exact List.mem_filter.mpr ⟨rimL_sub Pm hx hy, eqB_iff.mpr ((rimL_mem Pm hx).mp hy)⟩
  · exact (rimL_mem Pm hx).mpr (eqB_iff.mp (List.mem_filter.mp hy).2)
structure Fold (S : List Int) (f : Int → Int) (S' : List Int) (f' : Int → Int) (φ ψ : Int → Int) : Prop where
  fwd : ∀ u ∈ S', Eqv (fstep S f) (φ u) (φ (f' u))
  bwd : ∀ u ∈ S, Eqv (fstep S' f') (ψ u) (ψ (f u))
  back : ∀ y ∈ S', φ y ∈ S → Eqv (fstep S' f') (ψ (φ y)) y
theorem Fold.iff {S S' : List Int} {f f' φ ψ : Int → Int} (F : Fold S f S' f' φ ψ) (Pm : Perm1 S f) {x y : Int} (hx : x ∈ S) (hx1 : Eqv (fstep S f) (φ x) x) (hx2 : Eqv (fstep S' f') (ψ x) x) (hy : y ∈ S') : Eqv (fstep S' f') x y ↔ Eqv (fstep S f) x (φ y) := by
  constructor
  · intro e
    exact hx1.symm.trans (Eqv.map (f := φ) (fun u v ⟨hu, q⟩ => by rw [q]; exact F.fwd u hu) e)
  · intro e
    have h := Eqv.map (f := ψ) (fun u v ⟨hu, q⟩ => by rw [q]; exact F.bwd u hu) e
    exact (hx2.symm.trans h).trans (F.back y hy (eqv_mem Pm hx e))
/-- .. so its length behind the deed is counted by what stood ahead -/
theorem Fold.len {S S' : List Int} {f f' φ ψ : Int → Int} (F : Fold S f S' f' φ ψ) (Pm : Perm1 S f) (Pm' : Perm1 S' f') (nd' : S'.Nodup) {x : Int} (hx : x ∈ S) (hx' : x ∈ S') (hx1 : Eqv (fstep S f) (φ x) x) (hx2 : Eqv (fstep S' f') (ψ x) x) :
    (rimL f' x).length = S'.countP fun y => eqB S f x (φ y) := by
  rw [rim_cnt Pm' nd' hx']
  exact List.countP_congr fun y hy => by rw [eqB_iff, eqB_iff]; exact F.iff Pm hx hx1 hx2 hy
/-! ### a bubble blown -/
def blowP (e a b L z : Int) : Int := if z = L then a else if z = L + 2 then b else if z = L + 4 then e else if z = L + 1 then L + 1 else if z = L + 3 then L + 1 else if z = L + 5 then L + 1 else z
theorem blow_fold {S : List Int} {nx nx' : Int → Int} {e a b L : Int} (M : Map S ot nx) (M' : Map (blowS S L) ot nx') (V : BlowV S nx nx' e a b L) (hL : ∀ x ∈ S, x < L) (h2 : L % 2 = 0) : Fold S (face ot nx) (blowS S L) (face ot nx') (blowP e a b L) id := by
  obtain ⟨o0, o1, o2, o3, o4, o5⟩ := ot_L h2
  have ph0 : blowP e a b L L = a := by unfold blowP; rw [if_pos rfl]
  have ph2 : blowP e a b L (L + 2) = b := by unfold blowP; rw [if_neg (by omega), if_pos rfl]
  have ph4 : blowP e a b L (L + 4) = e := by unfold blowP; rw [if_neg (by omega), if_neg (by omega), if_pos rfl]
  have ph1 : blowP e a b L (L + 1) = L + 1 := by unfold blowP; rw [if_neg (by omega), if_neg (by omega), if_neg (by omega), if_pos rfl]
  have ph3 : blowP e a b L (L + 3) = L + 1 := by unfold blowP; rw [if_neg (by omega), if_neg (by omega), if_neg (by omega), if_neg (by omega), if_pos rfl]
  have ph5 : blowP e a b L (L + 5) = L + 1 := by unfold blowP; rw [if_neg (by omega), if_neg (by omega), if_neg (by omega), if_neg (by omega), if_neg (by omega), if_pos rfl]
  have phS : ∀ z ∈ S, blowP e a b L z = z := fun z hz => by
    have := hL z hz
    unfold blowP
    rw [if_neg (by omega), if_neg (by omega), if_neg (by omega), if_neg (by omega), if_neg (by omega), if_neg (by omega)]
  have memS : ∀ z ∈ S, z ∈ blowS S L := fun z hz => mem_blowS.mpr (.inl hz)
  have memN : ∀ z, New6 L z → z ∈ blowS S L := fun z hz => mem_blowS.mpr (.inr hz)
  have st : ∀ z, z ∈ blowS S L → Eqv (fstep (blowS S L) (face ot nx')) z (face ot nx' z) := fun z hz => .step ⟨hz, rfl⟩
  refine ⟨fun u hu => ?_, fun u hu => ?_, fun y hy hp => ?_⟩
  · show Eqv _ _ (blowP e a b L (nx' (ot u)))
    rcases mem_blowS.mp hu with hu | hu
    · have hou := M.ca u hu
      rw [phS u hu]
      have s0 : Eqv (fstep S (face ot nx)) u (nx (ot u)) := .step ⟨hu, rfl⟩
      by_cases c1 : ot u = e
      · rw [c1, V.v_e, ph0]
        rw [c1, V.ea] at s0
        exact s0
      by_cases c2 : ot u = a
      · rw [c2, V.v_a, ph2]
        rw [c2, V.ab] at s0
        exact s0
      by_cases c3 : ot u = b
      · rw [c3, V.v_b, ph4]
        rw [c3, V.be] at s0
        exact s0
      rw [V.v_o _ hou c1 c2 c3, phS _ (M.cn _ hou)]
      exact s0
    · rcases hu with h | h | h | h | h | h
      · rw [h, o0, V.v_1, ph0, phS a V.ha]; exact .refl _
      · rw [h, o1, V.v_0, ph1, ph5]; exact .refl _
      · rw [h, o2, V.v_3, ph2, phS b V.hb]; exact .refl _
      · rw [h, o3, V.v_2, ph3, ph1]; exact .refl _
      · rw [h, o4, V.v_5, ph4, phS e V.he]; exact .refl _
      · rw [h, o5, V.v_4, ph5, ph3]; exact .refl _
  · show Eqv _ u (nx (ot u))
    have hou := M.ca u hu
    have s0 := st u (memS u hu)
    by_cases c1 : ot u = e
    · have s1 := st L (memN L (.inl rfl))
      rw [show face ot nx' u = L by show nx' (ot u) = L; rw [c1, V.v_e]] at s0
      rw [show face ot nx' L = a by show nx' (ot L) = a; rw [o0, V.v_1]] at s1
      rw [c1, V.ea]
      exact s0.trans s1
    by_cases c2 : ot u = a
    · have s1 := st (L + 2) (memN _ (by unfold New6; omega))
      rw [show face ot nx' u = L + 2 by show nx' (ot u) = L + 2; rw [c2, V.v_a]] at s0
      rw [show face ot nx' (L + 2) = b by show nx' (ot (L + 2)) = b; rw [o2, V.v_3]] at s1
      rw [c2, V.ab]
      exact s0.trans s1
    by_cases c3 : ot u = b
    · have s1 := st (L + 4) (memN _ (by unfold New6; omega))
      rw [show face ot nx' u = L + 4 by show nx' (ot u) = L + 4; rw [c3, V.v_b]] at s0
      rw [show face ot nx' (L + 4) = e by show nx' (ot (L + 4)) = e; rw [o4, V.v_5]] at s1
      rw [c3, V.be]
      exact s0.trans s1
    rw [show face ot nx' u = nx (ot u) by show nx' (ot u) = _; exact V.v_o _ hou c1 c2 c3] at s0
    exact s0
  · show Eqv _ (blowP e a b L y) y
    rcases mem_blowS.mp hy with hy' | hy'
    · rw [phS y hy']; exact .refl _
    · rcases hy' with h | h | h | h | h | h
      · subst h
        have s1 := st y hy
        rw [show face ot nx' y = a by show nx' (ot y) = a; rw [o0, V.v_1]] at s1
        rw [ph0]; exact s1.symm
      · rw [h, ph1] at hp; have := hL _ hp; omega
      · rw [h] at hy ⊢
        have s1 := st _ hy
        rw [show face ot nx' (L + 2) = b by show nx' (ot (L + 2)) = b; rw [o2, V.v_3]] at s1
        rw [ph2]; exact s1.symm
      · rw [h, ph3] at hp; have := hL _ hp; omega
      · rw [h] at hy ⊢
        have s1 := st _ hy
        rw [show face ot nx' (L + 4) = e by show nx' (ot (L + 4)) = e; rw [o4, V.v_5]] at s1
        rw [ph4]; exact s1.symm
      · rw [h, ph5] at hp; have := hL _ hp; omega
theorem blow_len {S : List Int} {nx : Int → Int} {e L : Int} (W : Web S nx) (he : e ∈ S) (hL : ∀ x ∈ S, x < L) (h0 : 0 ≤ L) (h2 : L % 2 = 0) {x : Int} (hx : x ∈ S) :
    (rimL (face ot (blowF nx e L)) x).length = (S ++ [e, nx e, nx (nx e)]).countP (eqB S (face ot nx) x) := by
  have M := W.map
  have V := blow_vals M he hL
  obtain ⟨W', _⟩ := blow_web W he hL h0 h2
  have F := blow_fold M W'.map V hL h2
  have lx := hL x hx
  have phS : ∀ z ∈ S, blowP e (nx e) (nx (nx e)) L z = z := fun z hz => by
    have := hL z hz
    unfold blowP
    rw [if_neg (by omega), if_neg (by omega), if_neg (by omega), if_neg (by omega), if_neg (by omega), if_neg (by omega)]
  rw [F.len M.perm W'.map.perm W'.map.nd hx (mem_blowS.mpr (.inl hx)) (by rw [phS x hx]; exact .refl _) (.refl _)]
  unfold blowS
  rw [List.countP_append, List.countP_append]
  have e1 : S.countP (fun y => eqB S (face ot nx) x (blowP e (nx e) (nx (nx e)) L y)) = S.countP (eqB S (face ot nx) x) := List.countP_congr fun y hy => by rw [phS y hy]
  rw [e1]
  have no : eqB S (face ot nx) x (L + 1) = false := by
    cases q : eqB S (face ot nx) x (L + 1) with
    | false => rfl
    | true => have := hL _ (eqv_mem M.perm hx (eqB_iff.mp q)); omega
  have ph0 : blowP e (nx e) (nx (nx e)) L L = nx e := by unfold blowP; rw [if_pos rfl]
  have ph2 : blowP e (nx e) (nx (nx e)) L (L + 2) = nx (nx e) := by unfold blowP; rw [if_neg (by omega), if_pos rfl]
  have ph4 : blowP e (nx e) (nx (nx e)) L (L + 4) = e := by unfold blowP; rw [if_neg (by omega), if_neg (by omega), if_pos rfl]
  have ph1 : blowP e (nx e) (nx (nx e)) L (L + 1) = L + 1 := by unfold blowP; rw [if_neg (by omega), if_neg (by omega), if_neg (by omega), if_pos rfl]
  have ph3 : blowP e (nx e) (nx (nx e)) L (L + 3) = L + 1 := by unfold blowP; rw [if_neg (by omega), if_neg (by omega), if_neg (by omega), if_neg (by omega), if_pos rfl]
  have ph5 : blowP e (nx e) (nx (nx e)) L (L + 5) = L + 1 := by unfold blowP; rw [if_neg (by omega), if_neg (by omega), if_neg (by omega), if_neg (by omega), if_neg (by omega), if_pos rfl]
  simp only [List.countP_cons, List.countP_nil, ph0, ph1, ph2, ph3, ph4, ph5, no]
  simp only [Bool.false_eq_true, if_false]
  omega
theorem new_rim {S : List Int} {nx nx' : Int → Int} {e a b L : Int} (V : BlowV S nx nx' e a b L) (h2 : L % 2 = 0) : rimL (face ot nx') (L + 1) = [L + 1, L + 5, L + 3] := by
  obtain ⟨o0, o1, o2, o3, o4, o5⟩ := ot_L h2
  have f1 : face ot nx' (L + 1) = L + 5 := by show nx' (ot (L + 1)) = _; rw [o1, V.v_0]
  have f5 : face ot nx' (L + 5) = L + 3 := by show nx' (ot (L + 5)) = _; rw [o5, V.v_4]
  have f3 : face ot nx' (L + 3) = L + 1 := by show nx' (ot (L + 3)) = _; rw [o3, V.v_2]
  have i1 : iter (face ot nx') 1 (L + 1) = L + 5 := f1
  have i2 : iter (face ot nx') 2 (L + 1) = L + 3 := by show face ot nx' (face ot nx' (L + 1)) = _; rw [f1, f5]
  have i3 : iter (face ot nx') 3 (L + 1) = L + 1 := by show face ot nx' (face ot nx' (face ot nx' (L + 1))) = _; rw [f1, f5, f3]
  have P : Per (face ot nx') (L + 1) 3 := ⟨by decide, i3, fun i h0 h3 => by
    have : i = 1 ∨ i = 2 := by omega
    rcases this with rfl | rfl
    · rw [i1]; omega
    · rw [i2]; omega⟩
  rw [rimL_eq P]
  show [L + 1, iter (face ot nx') 1 (L + 1), iter (face ot nx') 2 (L + 1)] = _
  rw [i1, i2]
/-! ### a film turned -/
theorem cnt_two {S : List Int} (nd : S.Nodup) {e o : Int} (he : e ∈ S) (ho : o ∈ S) (ne : e ≠ o) (p : Int → Bool) : S.countP p = ((S.erase e).erase o).countP p + (if p e = true then 1 else 0) + (if p o = true then 1 else 0) := by
  have p1 := (List.perm_cons_erase he).countP_eq p
  have ho' : o ∈ S.erase e := (List.mem_erase_of_ne (Ne.symm ne)).mpr ho
  have p2 := (List.perm_cons_erase ho').countP_eq p
  rw [p1, List.countP_cons, p2, List.countP_cons]
  omega
theorem two_mem {S : List Int} (nd : S.Nodup) {e o z : Int} (hz : z ∈ (S.erase e).erase o) : z ∈ S ∧ z ≠ e ∧ z ≠ o := by
  have nd1 := nd.erase e
  have h1 := (nd1.mem_erase_iff).mp hz
  have h2 := (nd.mem_erase_iff).mp h1.2
  exact ⟨h2.2, h2.1, h1.1⟩
structure Turn (S : List Int) (nx nx' : Int → Int) (e o a b c d u v : Int) : Prop where
  F : Film S nx e o a b c d
  uv : (u = e ∧ v = o) ∨ (u = o ∧ v = e)
  tb : nx' b = c
  td : nx' d = a
  ta : nx' a = u
  tc : nx' c = v
  tu : nx' (ot u) = b
  tv : nx' (ot v) = d
  off : ∀ z ∈ S, ¬ Six e o a b c d z → nx' z = nx z
theorem turn_fold {S : List Int} {nx nx' : Int → Int} {e o a b c d u v : Int} (T : Turn S nx nx' e o a b c d u v) : Fold S (face ot nx) S (face ot nx') (fun z => if z = u then b else if z = v then d else z) (fun z => if z = e then c else if z = o then a else z) := by
  have F := T.F
  have M := F.M
  have nu : ∀ {z}, z ≠ e → z ≠ o → z ≠ u ∧ z ≠ v := fun {z} h1 h2 => by
    rcases T.uv with ⟨h, h'⟩ | ⟨h, h'⟩
    · rw [h, h']; exact ⟨h1, h2⟩
    · rw [h, h']; exact ⟨h2, h1⟩
  have un : ∀ {z}, z ≠ u → z ≠ v → z ≠ e ∧ z ≠ o := fun {z} h1 h2 => by
    rcases T.uv with ⟨h, h'⟩ | ⟨h, h'⟩
    · rw [h] at h1; rw [h'] at h2; exact ⟨h1, h2⟩
    · rw [h] at h1; rw [h'] at h2; exact ⟨h2, h1⟩
  have nuv : u ≠ v := by
    rcases T.uv with ⟨h, h'⟩ | ⟨h, h'⟩
    · rw [h, h']; exact F.n_eo
    · rw [h, h']; exact Ne.symm F.n_eo
  have uS : u ∈ S := by
    rcases T.uv with ⟨h, _⟩ | ⟨h, _⟩
    · rw [h]; exact F.he
    · rw [h]; exact F.ho
  have vS : v ∈ S := by
    rcases T.uv with ⟨_, h⟩ | ⟨_, h⟩
    · rw [h]; exact F.ho
    · rw [h]; exact F.he
  have ph : ∀ {z}, z ≠ e → z ≠ o → (if z = u then b else if z = v then d else z) = z := fun h1 h2 => by
    obtain ⟨h3, h4⟩ := nu h1 h2
    rw [if_neg h3, if_neg h4]
  have ps : ∀ {z}, z ≠ e → z ≠ o → (if z = e then c else if z = o then a else z) = z := fun h1 h2 => by rw [if_neg h1, if_neg h2]
  have st : ∀ z, z ∈ S → Eqv (fstep S (face ot nx)) z (nx (ot z)) := fun z hz => .step ⟨hz, rfl⟩
  have st' : ∀ z, z ∈ S → Eqv (fstep S (face ot nx')) z (nx' (ot z)) := fun z hz => .step ⟨hz, rfl⟩
  have ao := Ne.symm F.n_oa
  have ae := Ne.symm F.n_ea
  have bo := Ne.symm F.n_ob
  have be := Ne.symm F.n_eb
  have co := Ne.symm F.n_oc
  have ce := Ne.symm F.n_ec
  have d_o := Ne.symm F.n_od
  have de := Ne.symm F.n_ed
  have se := st e F.he
  rw [F.eo, F.oc] at se
  have so := st o F.ho
  rw [F.oe, F.ea] at so
  -- an end whose other end is none of the six
  have other : ∀ z ∈ S, z ≠ e → z ≠ o → ot z ≠ a → ot z ≠ b → ot z ≠ c → ot z ≠ d → nx' (ot z) = nx (ot z) ∧ nx (ot z) ≠ e ∧ nx (ot z) ≠ o := fun z hz z1 z2 h1 h2 h3 h4 => by
    have hoz := M.ca z hz
    have h5 : ot z ≠ e := fun q => z2 (by rw [← ot_ot z, q, F.eo])
    have h6 : ot z ≠ o := fun q => z1 (by rw [← ot_ot z, q, F.oe])
    refine ⟨T.off _ hoz ?_, fun q => h2 (M.ninj hoz F.hb (q.trans F.be.symm)), fun q => h4 (M.ninj hoz F.hd (q.trans F.do_.symm))⟩
    rintro (q | q | q | q | q | q)
    · exact h5 q
    · exact h6 q
    · exact h1 q
    · exact h2 q
    · exact h3 q
    · exact h4 q
  refine ⟨fun z hz => ?_, fun z hz => ?_, fun y hy _ => ?_⟩
  · show Eqv _ (if z = u then b else if z = v then d else z) (if nx' (ot z) = u then b else if nx' (ot z) = v then d else nx' (ot z))
    by_cases z1 : z = u
    · rw [if_pos z1, z1, T.tu, ph be bo]; exact .refl _
    by_cases z2 : z = v
    · rw [if_neg z1, if_pos z2, z2, T.tv, ph de d_o]; exact .refl _
    obtain ⟨z3, z4⟩ := un z1 z2
    rw [if_neg z1, if_neg z2]
    have s0 := st z hz
    by_cases c1 : ot z = b
    · rw [c1, T.tb, ph ce co]
      rw [c1, F.be] at s0
      exact s0.trans se
    by_cases c2 : ot z = d
    · rw [c2, T.td, ph ae ao]
      rw [c2, F.do_] at s0
      exact s0.trans so
    by_cases c3 : ot z = a
    · rw [c3, T.ta, if_pos rfl]
      rw [c3, F.ab] at s0
      exact s0
    by_cases c4 : ot z = c
    · rw [c4, T.tc, if_neg (Ne.symm nuv), if_pos rfl]
      rw [c4, F.cd] at s0
      exact s0
    obtain ⟨q1, q2, q3⟩ := other z hz z3 z4 c3 c1 c4 c2
    rw [q1, ph q2 q3]
    exact s0
  · show Eqv _ (if z = e then c else if z = o then a else z) (if nx (ot z) = e then c else if nx (ot z) = o then a else nx (ot z))
    by_cases z1 : z = e
    · rw [if_pos z1, z1, F.eo, F.oc, ps ce co]; exact .refl _
    by_cases z2 : z = o
    · rw [if_neg z1, if_pos z2, z2, F.oe, F.ea, ps ae ao]; exact .refl _
    rw [if_neg z1, if_neg z2]
    have s0 := st' z hz
    by_cases c1 : ot z = b
    · rw [c1, F.be, if_pos rfl]
      rw [c1, T.tb] at s0
      exact s0
    by_cases c2 : ot z = d
    · rw [c2, F.do_, if_neg (Ne.symm F.n_eo), if_pos rfl]
      rw [c2, T.td] at s0
      exact s0
    by_cases c3 : ot z = a
    · rw [c3, F.ab, ps be bo]
      rw [c3, T.ta] at s0
      have s1 := st' u uS
      rw [T.tu] at s1
      exact s0.trans s1
    by_cases c4 : ot z = c
    · rw [c4, F.cd, ps de d_o]
      rw [c4, T.tc] at s0
      have s1 := st' v vS
      rw [T.tv] at s1
      exact s0.trans s1
    obtain ⟨q1, q2, q3⟩ := other z hz z1 z2 c3 c1 c4 c2
    rw [ps q2 q3, ← q1]
    exact s0
  · show Eqv _ (if (if y = u then b else if y = v then d else y) = e then c else if (if y = u then b else if y = v then d else y) = o then a else (if y = u then b else if y = v then d else y)) y
    by_cases z1 : y = u
    · rw [if_pos z1, ps be bo, z1]
      have s1 := st' u uS
      rw [T.tu] at s1
      exact s1.symm
    by_cases z2 : y = v
    · rw [if_neg z1, if_pos z2, ps de d_o, z2]
      have s1 := st' v vS
      rw [T.tv] at s1
      exact s1.symm
    obtain ⟨z3, z4⟩ := un z1 z2
    rw [if_neg z1, if_neg z2, ps z3 z4]
    exact .refl _
theorem turn_len {S : List Int} {nx nx' : Int → Int} {e o a b c d u v : Int} (T : Turn S nx nx' e o a b c d u v) (M' : Map S ot nx') {x : Int} (hx : x ∈ S) (x1 : x ≠ e) (x2 : x ≠ o) :
    (rimL (face ot nx') x).length + (if eqB S (face ot nx) x e = true then 1 else 0) + (if eqB S (face ot nx) x o = true then 1 else 0) = S.countP (eqB S (face ot nx) x) + (if eqB S (face ot nx) x b = true then 1 else 0) + (if eqB S (face ot nx) x d = true then 1 else 0) := by
  have F := T.F
  have M := F.M
  have hu : x ≠ u ∧ x ≠ v := by
    rcases T.uv with ⟨h, h'⟩ | ⟨h, h'⟩
    · rw [h, h']; exact ⟨x1, x2⟩
    · rw [h, h']; exact ⟨x2, x1⟩
  rw [(turn_fold T).len M.perm M'.perm M.nd hx hx (by rw [if_neg hu.1, if_neg hu.2]; exact .refl _) (by rw [if_neg x1, if_neg x2]; exact .refl _)]
  rw [cnt_two M.nd F.he F.ho F.n_eo, cnt_two (p := eqB S (face ot nx) x) M.nd F.he F.ho F.n_eo]
  have eqT : ((S.erase e).erase o).countP (fun y => eqB S (face ot nx) x (if y = u then b else if y = v then d else y)) = ((S.erase e).erase o).countP (eqB S (face ot nx) x) := List.countP_congr fun y hy => by
    obtain ⟨_, h1, h2⟩ := two_mem M.nd hy
    have h3 : y ≠ u ∧ y ≠ v := by
      rcases T.uv with ⟨h, h'⟩ | ⟨h, h'⟩
      · rw [h, h']; exact ⟨h1, h2⟩
      · rw [h, h']; exact ⟨h2, h1⟩
    rw [if_neg h3.1, if_neg h3.2]
  rw [eqT]
  have eo := F.n_eo
  rcases T.uv with ⟨h, h'⟩ | ⟨h, h'⟩
  · rw [h, h', if_pos rfl, if_neg (Ne.symm eo), if_pos rfl]
    omega
  · rw [h, h', if_neg eo, if_pos rfl, if_pos rfl]
    omega
theorem push_turn {S : List Int} {nx : Int → Int} {e o a b c d : Int} (F : Film S nx e o a b c d) : Turn S nx (pushF nx e) e o a b c d o e := by
  obtain ⟨⟨v1, v2, v3, v4, v5, v6⟩, vo⟩ := push_vals F
  exact ⟨F, .inr ⟨rfl, rfl⟩, v2, v5, v6, v3, by rw [F.oe]; exact v1, by rw [F.eo]; exact v4, fun z _ h => vo z h⟩
theorem pull_turn {S : List Int} {nx : Int → Int} {e o a b c d : Int} (F : Film S nx e o a b c d) : Turn S nx (pullF nx e) e o a b c d e o := by
  obtain ⟨⟨v1, v2, v3, v4, v5, v6⟩, vo⟩ := pull_vals F
  exact ⟨F, .inl ⟨rfl, rfl⟩, v5, v2, v3, v6, by rw [F.eo]; exact v4, by rw [F.oe]; exact v1, fun z _ h => vo z h⟩

/-! Wt: labels of rims, and tallies by them. -/
theorem r_dget2 {σ : St} {H : Hp} {Q : VK} {td ty tx : TE} (h : td σ H fun x H1 => ∃ a, x = .ref a ∧ IsD H1 a ∧ ty σ H1 fun y H2 => tx σ H2 fun z H3 => ∃ o, DGet H3 a y o ∧ Q (o.getD z) H3) : tDGet2 td ty tx σ H Q := h
theorem r_dget2a {H : Hp} {Q : VK} {a : Addr} {S : List Int} {f : Int → V} {k : Int} {z : V} (hd : Rd H a (dI S f)) (h : Q (if k ∈ S then f k else z) H) : ∃ o, DGet H a (.int k) o ∧ Q (o.getD z) H := by
  refine ⟨_, .inl ⟨_, Sum.inl k, hd, rfl, rfl⟩, ?_⟩
  by_cases q : k ∈ S
  · rw [valV_in q]
    rw [if_pos q] at h
    exact h
  · rw [valV_out q]
    rw [if_neg q] at h
    exact h
def rDAug (td ty tv : TE) (rd : V → V → Hp → VK → Prop) (nx : St → Hp → Prop) (σ : St) (x y : V) (H2 : Hp) : Prop := ∃ a v, x = .ref a ∧ DGet H2 a y (some v) ∧ tv σ H2 fun y2 H3 => rd v y2 H3 fun z H4 => ∃ H5, DPut H4 a y z H5 ∧ nx σ H5
theorem r_daugS {σ : St} {H : Hp} {td ty tv : TE} {rd : V → V → Hp → VK → Prop} {nx bk ct : St → Hp → Prop} {rt : VK} (h : td σ H fun x H1 => ty σ H1 fun y H2 => rDAug td ty tv rd nx σ x y H2) : sDAug td ty tv rd ⟨nx, rt, bk, ct⟩ σ H := h
theorem r_daug {σ : St} {H : Hp} {td ty tv : TE} {rd : V → V → Hp → VK → Prop} {nx : St → Hp → Prop} {a : Addr} {S : List Int} {w : Int → Int} {k : Int} (g : Int → Int) (hd : H a = some (dW S w)) (hm : k ∈ S) (hl : S.length < sizeLine)
    (hv : ∀ Q : VK, Q (.int (g (w k))) H → tv σ H fun y2 H3 => rd (.int (w k)) y2 H3 Q) (h : nx σ (upd H a (dW S (fset w k (g (w k)))))) : rDAug td ty tv rd nx σ (.ref a) (.int k) H := by
  refine ⟨a, .int (w k), rfl, .inl ⟨_, Sum.inl k, rd_in hd, rfl, (valV_in (f := fun x => V.int (w x)) hm).symm⟩, hv _ ?_⟩
  refine ⟨_, .inl ⟨_, Sum.inl k, hd, rfl, by rw [kvI_len]; exact hl, rfl⟩, ?_⟩
  rw [putK_I, putS_in hm]
  have e : (fun x => if x = k then V.int (g (w k)) else V.int (w x)) = fun x => V.int (fset w k (g (w k)) x) := funext fun x => by unfold fset; split <;> rfl
  rw [e]
  exact h
/-! ### label -/
def lbF (ls : List (List Int)) (z : Int) : Int := ((ls.find? fun l => decide (z ∈ l)).getD []).headD 0
theorem flat_one : ∀ {ls : List (List Int)}, ls.flatten.Nodup → ∀ {l l' : List Int} {z : Int}, l ∈ ls → l' ∈ ls → z ∈ l → z ∈ l' → l = l'
  | [], _, _, _, _, h, _, _, _ => absurd h List.not_mem_nil
  | m :: r, nd, l, l', z, h1, h2, z1, z2 => by
    rw [List.flatten_cons] at nd
    obtain ⟨n1, n2, n3⟩ := List.nodup_append.mp nd
    rcases List.mem_cons.mp h1 with rfl | h1'
    · rcases List.mem_cons.mp h2 with rfl | h2'
      · rfl
      · exact absurd rfl (n3 z z1 z (List.mem_flatten.mpr ⟨l', h2', z2⟩))
    · rcases List.mem_cons.mp h2 with rfl | h2'
      · exact absurd rfl (n3 z z2 z (List.mem_flatten.mpr ⟨l, h1', z1⟩))
      · exact flat_one n2 h1' h2' z1 z2
theorem lbF_at {ls : List (List Int)} (nd : ls.flatten.Nodup) {l : List Int} {z : Int} (h : l ∈ ls) (hz : z ∈ l) : lbF ls z = l.headD 0 := by
  unfold lbF
  cases q : ls.find? fun l => decide (z ∈ l) with
  | none => exact absurd (List.find?_eq_none.mp q l h) (by simp [hz])
  | some m =>
    have h1 := List.mem_of_find?_eq_some q
    have h2 : z ∈ m := by simpa using List.find?_some q
    rw [flat_one nd h1 h h2 hz]
    rfl
structure Lab (S : List Int) (nx : Int → Int) (lb : Int → Int) : Prop where
  iff : ∀ x ∈ S, ∀ y ∈ S, lb x = lb y ↔ Rim S nx x y
  eq : ∃ es, Srt S es ∧ lb = lbF (rimsG (face ot nx) es [])
theorem Lab.one {S S' : List Int} {nx lb lb' : Int → Int} (h : Lab S nx lb) (h' : Lab S' nx lb') (p : S.Perm S') : lb = lb' := by
  obtain ⟨es, hs, rfl⟩ := h.eq
  obtain ⟨es', hs', rfl⟩ := h'.eq
  rw [hs.of hs' p]
def sp_l_label (G : Gx) : Sp := fun vs H Q _ => ∃ (d : Addr) (S : List Int) (nx : Int → Int), vs = [.ref d] ∧ Rd H d (dW S nx) ∧ Map S ot nx ∧ S.length ≤ 90000 ∧ ∀ (lb : Int → Int) (T : List Int) p H', Lab S nx lb → (∀ z, z ∈ T ↔ z ∈ S) → Same H H' → Free H p → H' p = some (dW T lb) → Q (.ref p) H'
theorem len_l_label {G : Gx} : ∀ vs H Q E, sp_l_label G vs H Q E → vs.length = 1 := by rintro vs H Q E ⟨d, S, nx, rfl, _⟩; rfl
/-! _law_label: slots _law_web_here, _law_found, _law_one, _law_end -/
def t_l_label (G : Gx) : TS :=
  (tSeq (tAsg tDNewK (gName 1))
  (tSeq (tFor (iList G.K (tCall (sp_l_rims G) [] E0 (tCons (tVar 0) tNil))) (gName 2)
  (tFor (iList G.K (tVar 2)) (gName 3)
  (sDPut (tVar 1) (tVar 3) (tOp (rIxL G.K) (tVar 2) (tC (.int 0))))))
  (tRet (tVar 1))))
theorem head_rimL {S : List Int} {f : Int → Int} (Pm : Perm1 S f) {x : Int} (hx : x ∈ S) : ∃ r, rimL f x = x :: r := by
  have h := rimL_head (rimL_ne Pm hx)
  cases e : rimL f x with
  | nil => rw [e] at h; cases h
  | cons y r => rw [e] at h; cases h; exact ⟨r, rfl⟩
theorem lab_of {S es : List Int} {nx : Int → Int} (M : Map S ot nx) (hs : Srt S es) : Lab S nx (lbF (rimsG (face ot nx) es [])) := by
  obtain ⟨n1, n2, _⟩ := rimsG_all M.perm M.nd hs
  have key : ∀ x ∈ S, ∃ e ∈ es, rimL (face ot nx) e ∈ rimsG (face ot nx) es [] ∧ x ∈ rimL (face ot nx) e ∧ lbF (rimsG (face ot nx) es []) x = e := fun x hx => by
    obtain ⟨l, hl, hxl⟩ := List.mem_flatten.mp ((n2 x).mpr hx)
    obtain ⟨e, he, rfl⟩ := rimsG_mem hl
    refine ⟨e, he, hl, hxl, ?_⟩
    rw [lbF_at n1 hl hxl]
    obtain ⟨r, hr⟩ := head_rimL M.perm (hs.perm.subset he)
    rw [hr]
    rfl
  refine ⟨fun x hx y hy => ?_, es, hs, rfl⟩
  obtain ⟨e, he, l1, x1, q1⟩ := key x hx
  obtain ⟨e', he', l2, y1, q2⟩ := key y hy
  rw [q1, q2]
  have r1 := (rimL_mem M.perm (hs.perm.subset he)).mp x1
  have r2 := (rimL_mem M.perm (hs.perm.subset he')).mp y1
  constructor
  · intro h
    rw [h] at r1
    exact r1.symm.trans r2
  · intro h
    have y2 : y ∈ rimL (face ot nx) e := (rimL_mem M.perm (hs.perm.subset he)).mpr (r1.trans h)
    have eq := flat_one n1 l1 l2 y2 y1
    obtain ⟨r, hr⟩ := head_rimL M.perm (hs.perm.subset he)
    obtain ⟨r', hr'⟩ := head_rimL M.perm (hs.perm.subset he')
    rw [hr, hr'] at eq
    cases eq
    rfl
theorem pure_l_label {G : Gx} {vs : List V} {H : Hp} {Q : VK} {E : XK} (h : sp_l_label G vs H Q E) : Body (t_l_label G) ["_law_web_here", "_law_found", "_law_one", "_law_end"] vs H Q := by
  obtain ⟨d, S, nx, rfl, hd, M, hl, k⟩ := h
  show t_l_label G _ [some (.ref d), none, none, none] H
  unfold t_l_label
  walk_at "go"
  obtain ⟨es, hes⟩ : ∃ es, Srt S es := ⟨S.mergeSort (· ≤ ·), S.mergeSort_perm _, (List.pairwise_mergeSort (fun a b c h1 h2 => by simp only [decide_eq_true_eq] at *; omega) (fun a b => by simp only [Bool.or_eq_true, decide_eq_true_eq]; omega) S).imp fun h => of_decide_eq_true h⟩
  have Lb := lab_of M hes
  obtain ⟨n1, n2, n3⟩ := rimsG_all M.perm M.nd hes
  refine r_dnew (f := fun x => .int (lbF (rimsG (face ot nx) es []) x)) fun p hp => ?_
  have s1 : Same H (upd H p (dW [] (lbF (rimsG (face ot nx) es [])))) := same_new (Same.refl _) hp
  have e1 : upd H p (dW [] (lbF (rimsG (face ot nx) es []))) p = some (dW [] (lbF (rimsG (face ot nx) es []))) := upd_same
  generalize upd H p (dW [] (lbF (rimsG (face ot nx) es []))) = H1 at s1 e1 ⊢
  walk_at "go"
  refine ⟨d, S, nx, rfl, same_rd s1 hd, M, by omega, fun es2 as rp H2 hs2 s2 f2 e2 rf fr nda => ?_⟩
  rw [hs2.eq hes] at rf
  have e3 := s2 _ _ e1
  have nrp : rp ≠ p := ne_fresh' e1 f2
  have nap : ∀ a ∈ as, a ≠ p := fun a ha => ne_fresh' e1 (fr a ha).1
  have s3 := s1.trans s2
  have ls_of : ∀ l ∈ rimsG (face ot nx) es [], ∃ e r, l = e :: r := fun l hl => by
    obtain ⟨e, he, rfl⟩ := rimsG_mem hl
    obtain ⟨r, hr⟩ := head_rimL M.perm (hes.perm.subset he)
    exact ⟨e, r, hr⟩
  generalize hls : rimsG (face ot nx) es [] = ls at *
  have rlen := rf.len
  refine r_forV (SqL.of e2) (fun pre post σ H' => ∃ (o2 o3 : Option V), σ = [some (.ref d), some (.ref p), o2, o3] ∧ Same H H' ∧ H' rp = some (.lst (as.map V.ref)) ∧ Refs H' as ls ∧ H' p = some (dW (ls.take pre.length).flatten (lbF ls)))
    ⟨_, _, rfl, s3, e2, rf, e3⟩ (fun _ _ _ _ _ ⟨_, _, _, _, e, _⟩ => SqL.of e) ?_ ?_
  · rintro pre v post σ H3 ev ⟨o2, o3, rfl, s4, e4, rf4, e5⟩
    have hv : (as.map V.ref)[pre.length]? = some v := by rw [ev]; simp
    obtain ⟨b, hb, rfl⟩ := map_get hv
    obtain ⟨l, hl', e6⟩ := rf4.get hb
    have hlm := List.mem_of_getElem? hl'
    obtain ⟨h0, r0, hr0⟩ := ls_of l hlm
    have tk : ls.take (pre.length + 1) = ls.take pre.length ++ [l] := by rw [List.take_succ, hl']; rfl
    have ndk : ((ls.take pre.length).flatten ++ l).Nodup := by
      have q : ls = ls.take pre.length ++ (l :: ls.drop (pre.length + 1)) := by
        obtain ⟨hlt, hx'⟩ := List.getElem?_eq_some_iff.mp hl'
        rw [← hx', ← List.drop_eq_getElem_cons hlt, List.take_append_drop]
      rw [q, List.flatten_append, List.flatten_cons, ← List.append_assoc] at n1
      exact (List.nodup_append.mp n1).1
    have lenk : ((ls.take pre.length).flatten ++ l).length ≤ S.length := sub_len ndk fun z hz => by
      refine (n2 z).mp ?_
      rcases List.mem_append.mp hz with q | q
      · obtain ⟨m, hm, hzm⟩ := List.mem_flatten.mp q
        exact List.mem_flatten.mpr ⟨m, List.mem_of_mem_take hm, hzm⟩
      · exact List.mem_flatten.mpr ⟨l, hlm, q⟩
    walk_at "go"
    refine r_forI (SqL.of e6) (fun pre2 post2 σ H' => ∃ (o3 : Option V), σ = [some (.ref d), some (.ref p), some (.ref b), o3] ∧ Same H H' ∧ H' rp = some (.lst (as.map V.ref)) ∧ Refs H' as ls ∧ H' b = some (.lst (l.map V.int)) ∧ H' p = some (dW ((ls.take pre.length).flatten ++ pre2) (lbF ls)))
      ⟨_, rfl, s4, e4, rf4, e6, by rw [List.append_nil]; exact e5⟩ (fun _ _ _ _ _ ⟨_, _, _, _, _, e, _⟩ => SqL.of e) ?_ ?_
    · rintro pre2 z post2 σ H4 ez ⟨o3, rfl, s5, e7, rf5, e8, e9⟩
      have hz : z ∈ l := by rw [ez]; exact List.mem_append.mpr (.inr List.mem_cons_self)
      have nz : z ∉ (ls.take pre.length).flatten ++ pre2 := fun q => by
        rw [ez, ← List.append_assoc] at ndk
        exact (List.nodup_append.mp ndk).2.2 z q z List.mem_cons_self rfl
      have lz : ((ls.take pre.length).flatten ++ pre2).length < sizeLine := by
        have q := congrArg List.length ez
        rw [List.length_append] at q lenk ⊢
        exact size1000l (by omega)
      have at0 : atI (l.map V.int) 0 = some (.int h0) := by rw [hr0]; exact atI_nat (j := 0) rfl
      walk_at "go"
      refine r_ixL (SqL.of e8) at0 ?_
      walk_at "go"
      refine r_dputW e9 lz ?_
      rw [putS_out nz, fset_id (show lbF ls z = h0 by rw [lbF_at n1 hlm hz, hr0]; rfl), List.append_assoc]
      have hbm : b ∈ as := List.mem_of_getElem? hb
      exact ⟨_, rfl, same_mut s5 hp, at_ne e7 nrp, rf5.upd nap, at_ne e8 (nap b hbm), upd_same⟩
    · rintro σ H4 ⟨o3, rfl, s5, e7, rf5, e8, e9⟩
      refine ⟨_, _, rfl, s5, e7, rf5, ?_⟩
      rw [List.length_append, List.length_singleton, tk, List.flatten_append]
      simpa using e9
  · rintro σ H3 ⟨o2, o3, rfl, s4, e4, rf4, e5⟩
    walk_at "go"
    rw [List.length_map, rlen, List.take_length] at e5
    exact k _ _ p H3 Lb n2 s4 hp e5
/-! ### tallies -/
structure Tal (lb : Int → Int) (pre K : List Int) : Prop where
  nd : K.Nodup
  mem : ∀ l, l ∈ K ↔ ∃ y ∈ pre, lb y = l
def talF (lb : Int → Int) (pre : List Int) (l : Int) : Int := (pre.countP fun y => decide (lb y = l) : Nat)
theorem tal_nil {lb : Int → Int} : Tal lb [] [] := ⟨.nil, fun l => ⟨fun h => absurd h List.not_mem_nil, fun ⟨_, h, _⟩ => absurd h List.not_mem_nil⟩⟩
theorem tal_snoc {lb : Int → Int} {pre K : List Int} {x : Int} (T : Tal lb pre K) : Tal lb (pre ++ [x]) (putS K (lb x)) ∧ fset (talF lb pre) (lb x) ((if lb x ∈ K then talF lb pre (lb x) else 0) + 1) = talF lb (pre ++ [x]) := by
  refine ⟨⟨nd_putS T.nd, fun l => ?_⟩, funext fun l => ?_⟩
  · rw [mem_putS, T.mem]
    constructor
    · rintro (⟨y, hy, h⟩ | h)
      · exact ⟨y, List.mem_append.mpr (.inl hy), h⟩
      · exact ⟨x, List.mem_append.mpr (.inr (List.mem_singleton.mpr rfl)), h.symm⟩
    · rintro ⟨y, hy, h⟩
      rcases List.mem_append.mp hy with q | q
      · exact .inl ⟨y, q, h⟩
      · rw [List.mem_singleton.mp q] at h; exact .inr h.symm
  · have z : lb x ∉ K → talF lb pre (lb x) = 0 := fun h => by
      unfold talF
      have : pre.countP (fun y => decide (lb y = lb x)) = 0 := List.countP_eq_zero.mpr fun y hy q => h ((T.mem _).mpr ⟨y, hy, of_decide_eq_true q⟩)
      rw [this]
      rfl
    have e : (if lb x ∈ K then talF lb pre (lb x) else 0) = talF lb pre (lb x) := by
      split
      · rfl
      · rename_i h; exact (z h).symm
    rw [e]
    unfold fset talF
    rw [List.countP_append]
    simp only [List.countP_cons, List.countP_nil]
    by_cases h : l = lb x
    · rw [if_pos h, h]
      simp
    · rw [if_neg h]
      simp [Ne.symm h]
theorem tal_len {lb : Int → Int} {pre K : List Int} (T : Tal lb pre K) : K.length ≤ pre.length := by
  have := sub_len (m := pre.map lb) T.nd fun l hl => by
    obtain ⟨y, hy, h⟩ := (T.mem l).mp hl
    exact List.mem_map.mpr ⟨y, hy, h⟩
  rwa [List.length_map] at this
/-- the tally by labels is the count by rims -/
theorem tal_cnt {S : List Int} {nx lb : Int → Int} (L : Lab S nx lb) {pre : List Int} (h : ∀ y ∈ pre, y ∈ S) {x : Int} (hx : x ∈ S) : talF lb pre (lb x) = (pre.countP (eqB S (face ot nx) x) : Nat) := by
  unfold talF
  congr 1
  refine List.countP_congr fun y hy => ?_
  rw [eqB_iff, decide_eq_true_eq, L.iff y (h y hy) x hx]
  exact ⟨fun q => q.symm, fun q => q.symm⟩
theorem lab_b {S : List Int} {nx lb : Int → Int} (L : Lab S nx lb) {x y : Int} (hx : x ∈ S) (hy : y ∈ S) : (if eqB S (face ot nx) x y = true then (1 : Int) else 0) = if lb x = lb y then 1 else 0 := by
  by_cases h : lb x = lb y
  · rw [if_pos h, if_pos (eqB_iff.mpr ((L.iff x hx y hy).mp h))]
  · rw [if_neg h, if_neg fun q => h ((L.iff x hx y hy).mpr (eqB_iff.mp q))]
theorem r_tally {σ : St} {H : Hp} {nx bk ct : St → Hp → Prop} {rt : VK} {i5 i6 i7 : Nat} {p5 p6 : Addr} {x : Int} {T K pre : List Int} {lb : Int → Int} (h5 : σ[i5]? = some (some (.ref p5))) (h6 : σ[i6]? = some (some (.ref p6))) (h7 : σ[i7]? = some (some (.int x)))
    (e5 : Rd H p5 (dW T lb)) (hx : x ∈ T) (e6 : H p6 = some (dW K (talF lb pre))) (Tl : Tal lb pre K) (hl : K.length < sizeLine) (h : nx σ (upd H p6 (dW (putS K (lb x)) (talF lb (pre ++ [x]))))) :
    sDPut (tVar i6) (tDGet (tVar i5) (tVar i7)) (tOp rAddI (tDGet2 (tVar i6) (tDGet (tVar i5) (tVar i7)) (tC (.int 0))) (tC (.int 1))) ⟨nx, rt, bk, ct⟩ σ H := by
  refine r_dputS (r_op (r_dget2 (r_var h6 ⟨p6, rfl, isD_I (rd_in e6), r_dgetS (r_var h5 (r_var h7 (r_dget e5 hx (r_c ?_))))⟩)))
  refine r_dget2a (Q := fun v H' => tC (.int 1) σ H' fun y H2 => rAddI v y H2 fun v H1 => tVar i6 σ H1 fun x H2 => tDGet (tVar i5) (tVar i7) σ H2 fun y H3 => rDPut x y v H3 fun H4 => nx σ H4) (rd_in e6) (r_c ?_)
  have ei : (if lb x ∈ K then V.int (talF lb pre (lb x)) else V.int 0) = V.int (if lb x ∈ K then talF lb pre (lb x) else 0) := by split <;> rfl
  rw [ei]
  refine r_I0 (r_var h6 (r_dgetS (r_var h5 (r_var h7 (r_dget e5 hx ?_)))))
  refine r_dputW e6 hl ?_
  rw [(tal_snoc (x := x) Tl).2]
  exact h
theorem r_lcDS {H : Hp} {Q : VK} {σ : St} {a : Addr} {tl te : TE} {i : Nat} {S : List Int} {f : Int → V} (e : Int → V) (hd : H a = some (dI S f)) (ht : ∀ (H' : Hp) (Q : VK), Q (.ref a) H' → tl σ H' Q) (hn : S.length < sizeLine)
    (h2 : ∀ x ∈ S, ∀ od H', SameX a H H' → H' a = some (.frz od (dI S f)) → ∀ Q : VK, (∀ H'', Same H' H'' → Q (e x) H'') → te (σ.set i (some (.int x))) H' Q)
    (h : ∀ D H', Same H H' → Free H D → H' D = some (.lst (S.map e)) → Q (.ref D) H') : tLockE (tLc (iKeys tl) (gName i) tYes te [i]) σ H Q := by
  refine ⟨a, _, hd, trivial, fun od => ?_⟩
  refine ht _ _ ⟨a, od, rfl, .inl ⟨kvI S f, upd_same, fun D hD => ?_⟩⟩
  have hDa : D ≠ a := fun z => by rw [z, upd_same] at hD; cases hD
  have hD0 : Free H D := by rw [upd_ne hDa] at hD; exact hD
  have el := kvI_len (S := S) (f := f)
  refine lc_it walk_keys (fun j H' => SameX a H H' ∧ H' a = some (.frz od (dI S f)) ∧ H' D = some (.lst ((S.take j).map e))) ⟨sx_mut sx_lock hD0, at_ne upd_same (Ne.symm hDa), upd_same⟩ (fun j H' _ q => q.2.1) (fun j x H' H'' hj q y => ?_) (fun H' q => ?_)
  · obtain ⟨s1, e1, e2⟩ := q
    obtain ⟨rfl, k, v, hk, rfl⟩ := y
    obtain ⟨n, hn', ek⟩ := map_get hk
    cases ek
    have hm : n ∈ S := List.mem_of_getElem? hn'
    have et : S.take (j + 1) = S.take j ++ [n] := by rw [List.take_succ, hn']; rfl
    rw [wipe1]
    show _ ∧ _
    have es : (σ.set i none).set i (some (.int n)) = σ.set i (some (.int n)) := List.set_set _
    refine ⟨by show List.set ((σ.set i none).set i (some (.int n))) _ _ = _; rw [es]; exact List.set_set _, ?_⟩
    show te ((σ.set i none).set i (some (.int n))) _ _
    rw [es]
    refine h2 n hm od H'' s1 e1 _ fun H3 s3 => ⟨_, s3 _ _ e2, ?_, sx_mut (sx_same s1 s3) hD0, at_ne (s3 _ _ e1) (Ne.symm hDa), ?_⟩
    · rw [List.length_map]
      refine Nat.lt_of_le_of_lt ?_ hn
      rw [List.length_take]
      exact Nat.min_le_right _ _
    · rw [upd_same, et, List.map_append]
      rfl
  · obtain ⟨s1, e1, e2⟩ := q
    rw [el, List.take_length] at e2
    exact ⟨e1, h D _ (sx_end hd s1) hD0 (at_ne e2 hDa)⟩

/-! Wu: neighbours. -/
theorem un65 {A : Around} {k : Nat} (hr : Room k A) : A.units + 65 < cLine := by have := hr.un; omega
def sp_p_least_ends (G : Gx) : Sp := sp_l_label G
theorem len_p_least_ends {G : Gx} : ∀ vs H Q E, sp_p_least_ends G vs H Q E → vs.length = 1 := len_l_label
/-! least_ends: slots web, found, one, end -/
def t_p_least_ends (G : Gx) : TS :=
  (tSeq (tAsg tDNewK (gName 1))
  (tSeq (tFor (iList G.K (tCall (sp_p_rims G) [] E0 (tCons (tVar 0) tNil))) (gName 2)
  (tFor (iList G.K (tVar 2)) (gName 3)
  (sDPut (tVar 1) (tVar 3) (tOp (rIxL G.K) (tVar 2) (tC (.int 0))))))
  (tRet (tVar 1))))
theorem pure_p_least_ends {G : Gx} {vs : List V} {H : Hp} {Q : VK} {E : XK} (h : sp_p_least_ends G vs H Q E) : Body (t_p_least_ends G) ["web", "found", "one", "end"] vs H Q := by
  obtain ⟨d, S, nx, rfl, hd, M, hl, k⟩ := h
  show t_p_least_ends G _ [some (.ref d), none, none, none] H
  unfold t_p_least_ends
  walk_at "go"
  obtain ⟨es, hes⟩ : ∃ es, Srt S es := ⟨S.mergeSort (· ≤ ·), S.mergeSort_perm _, (List.pairwise_mergeSort (fun a b c h1 h2 => by simp only [decide_eq_true_eq] at *; omega) (fun a b => by simp only [Bool.or_eq_true, decide_eq_true_eq]; omega) S).imp fun h => of_decide_eq_true h⟩
  have Lb := lab_of M hes
  obtain ⟨n1, n2, n3⟩ := rimsG_all M.perm M.nd hes
  refine r_dnew (f := fun x => .int (lbF (rimsG (face ot nx) es []) x)) fun p hp => ?_
  have s1 : Same H (upd H p (dW [] (lbF (rimsG (face ot nx) es [])))) := same_new (Same.refl _) hp
  have e1 : upd H p (dW [] (lbF (rimsG (face ot nx) es []))) p = some (dW [] (lbF (rimsG (face ot nx) es []))) := upd_same
  generalize upd H p (dW [] (lbF (rimsG (face ot nx) es []))) = H1 at s1 e1 ⊢
  walk_at "go"
  refine ⟨d, S, nx, rfl, same_rd s1 hd, M, by omega, fun es2 as rp H2 hs2 s2 f2 e2 rf fr nda => ?_⟩
  rw [hs2.eq hes] at rf
  have e3 := s2 _ _ e1
  have nrp : rp ≠ p := ne_fresh' e1 f2
  have nap : ∀ a ∈ as, a ≠ p := fun a ha => ne_fresh' e1 (fr a ha).1
  have s3 := s1.trans s2
  have ls_of : ∀ l ∈ rimsG (face ot nx) es [], ∃ e r, l = e :: r := fun l hl => by
    obtain ⟨e, he, rfl⟩ := rimsG_mem hl
    obtain ⟨r, hr⟩ := head_rimL M.perm (hes.perm.subset he)
    exact ⟨e, r, hr⟩
  generalize hls : rimsG (face ot nx) es [] = ls at *
  have rlen := rf.len
  refine r_forV (SqL.of e2) (fun pre post σ H' => ∃ (o2 o3 : Option V), σ = [some (.ref d), some (.ref p), o2, o3] ∧ Same H H' ∧ H' rp = some (.lst (as.map V.ref)) ∧ Refs H' as ls ∧ H' p = some (dW (ls.take pre.length).flatten (lbF ls)))
    ⟨_, _, rfl, s3, e2, rf, e3⟩ (fun _ _ _ _ _ ⟨_, _, _, _, e, _⟩ => SqL.of e) ?_ ?_
  · rintro pre v post σ H3 ev ⟨o2, o3, rfl, s4, e4, rf4, e5⟩
    have hv : (as.map V.ref)[pre.length]? = some v := by rw [ev]; simp
    obtain ⟨b, hb, rfl⟩ := map_get hv
    obtain ⟨l, hl', e6⟩ := rf4.get hb
    have hlm := List.mem_of_getElem? hl'
    obtain ⟨h0, r0, hr0⟩ := ls_of l hlm
    have tk : ls.take (pre.length + 1) = ls.take pre.length ++ [l] := by rw [List.take_succ, hl']; rfl
    have ndk : ((ls.take pre.length).flatten ++ l).Nodup := by
      have q : ls = ls.take pre.length ++ (l :: ls.drop (pre.length + 1)) := by
        obtain ⟨hlt, hx'⟩ := List.getElem?_eq_some_iff.mp hl'
        rw [← hx', ← List.drop_eq_getElem_cons hlt, List.take_append_drop]
      rw [q, List.flatten_append, List.flatten_cons, ← List.append_assoc] at n1
      exact (List.nodup_append.mp n1).1
    have lenk : ((ls.take pre.length).flatten ++ l).length ≤ S.length := sub_len ndk fun z hz => by
      refine (n2 z).mp ?_
      rcases List.mem_append.mp hz with q | q
      · obtain ⟨m, hm, hzm⟩ := List.mem_flatten.mp q
        exact List.mem_flatten.mpr ⟨m, List.mem_of_mem_take hm, hzm⟩
      · exact List.mem_flatten.mpr ⟨l, hlm, q⟩
    walk_at "go"
    refine r_forI (SqL.of e6) (fun pre2 post2 σ H' => ∃ (o3 : Option V), σ = [some (.ref d), some (.ref p), some (.ref b), o3] ∧ Same H H' ∧ H' rp = some (.lst (as.map V.ref)) ∧ Refs H' as ls ∧ H' b = some (.lst (l.map V.int)) ∧ H' p = some (dW ((ls.take pre.length).flatten ++ pre2) (lbF ls)))
      ⟨_, rfl, s4, e4, rf4, e6, by rw [List.append_nil]; exact e5⟩ (fun _ _ _ _ _ ⟨_, _, _, _, _, e, _⟩ => SqL.of e) ?_ ?_
    · rintro pre2 z post2 σ H4 ez ⟨o3, rfl, s5, e7, rf5, e8, e9⟩
      have hz : z ∈ l := by rw [ez]; exact List.mem_append.mpr (.inr List.mem_cons_self)
      have nz : z ∉ (ls.take pre.length).flatten ++ pre2 := fun q => by
        rw [ez, ← List.append_assoc] at ndk
        exact (List.nodup_append.mp ndk).2.2 z q z List.mem_cons_self rfl
      have lz : ((ls.take pre.length).flatten ++ pre2).length < sizeLine := by
        have q := congrArg List.length ez
        rw [List.length_append] at q lenk ⊢
        exact size1000l (by omega)
      have at0 : atI (l.map V.int) 0 = some (.int h0) := by rw [hr0]; exact atI_nat (j := 0) rfl
      walk_at "go"
      refine r_ixL (SqL.of e8) at0 ?_
      walk_at "go"
      refine r_dputW e9 lz ?_
      rw [putS_out nz, fset_id (show lbF ls z = h0 by rw [lbF_at n1 hlm hz, hr0]; rfl), List.append_assoc]
      have hbm : b ∈ as := List.mem_of_getElem? hb
      exact ⟨_, rfl, same_mut s5 hp, at_ne e7 nrp, rf5.upd nap, at_ne e8 (nap b hbm), upd_same⟩
    · rintro σ H4 ⟨o3, rfl, s5, e7, rf5, e8, e9⟩
      refine ⟨_, _, rfl, s5, e7, rf5, ?_⟩
      rw [List.length_append, List.length_singleton, tk, List.flatten_append]
      simpa using e9
  · rintro σ H3 ⟨o2, o3, rfl, s4, e4, rf4, e5⟩
    walk_at "go"
    rw [List.length_map, rlen, List.take_length] at e5
    exact k _ _ p H3 Lb n2 s4 hp e5
/-! ### a comprehension that makes new things -/
theorem r_lcN {K : PySem.W.Frag} {H : Hp} {Q : VK} {σ : St} {a : Addr} {tl te : TE} {i : Nat} {ns : List Int} (o : Int → HO) (hs : SqL K H a (ns.map V.int)) (ht : ∀ Q : VK, Q (.ref a) H → tl σ H Q) (hn : ns.length < sizeLine)
    (h2 : ∀ x ∈ ns, ∀ H', Same H H' → ∀ Q : VK, (∀ t H'', Same H' H'' → Free H' t → H'' t = some (o x) → Q (.ref t) H'') → te (σ.set i (some (.int x))) H' Q)
    (h : ∀ D as H', Same H H' → Free H D → H' D = some (.lst (as.map V.ref)) → RefO H' as (ns.map o) → (∀ b ∈ as, Free H b ∧ b ≠ D) → Q (.ref D) H') : tLc (iList K tl) (gName i) tYes te [i] σ H Q := by
  refine ht _ ⟨a, rfl, ⟨_, hs⟩, fun D hD => ?_⟩
  refine lc_list (xs := ns.map V.int) (fun j H' => ∃ as : List Addr, Same H H' ∧ H' D = some (.lst (as.map V.ref)) ∧ RefO H' as ((ns.take j).map o) ∧ ∀ b ∈ as, Free H b ∧ b ≠ D) ⟨[], same_new (Same.refl H) hD, upd_same, .nil, fun b hb => absurd hb List.not_mem_nil⟩ (fun j H' _ ⟨_, s, _⟩ => lst_same s hs) (fun j x H' hx q => ?_) (fun H' q => ?_)
  · obtain ⟨as, s1, e1, rf, fr⟩ := q
    obtain ⟨n, hj, rfl⟩ := map_get hx
    have hm : n ∈ ns := List.mem_of_getElem? hj
    have et : ns.take (j + 1) = ns.take j ++ [n] := by rw [List.take_succ, hj]; rfl
    rw [wipe1]
    show _ ∧ _
    have es : (σ.set i none).set i (some (.int n)) = σ.set i (some (.int n)) := List.set_set _
    refine ⟨by rw [es]; exact List.set_set _, ?_⟩
    rw [es]
    refine r_yes1 ?_
    rw [if_pos rfl]
    refine h2 n hm H' s1 _ fun t H3 s3 ft e3 => ?_
    have ntD : t ≠ D := ne_fresh' e1 ft
    refine ⟨_, s3 _ _ e1, ?_, as ++ [t], same_mut (s1.trans s3) hD, ?_, ?_, fun b hb => ?_⟩
    · rw [List.length_map, rf.len, List.length_map, List.length_take]
      omega
    · rw [List.map_append]; exact upd_same
    · rw [et, List.map_append]
      exact ((rf.same s3).upd fun b hb => (fr b hb).2).snoc (at_ne e3 ntD)
    · rcases List.mem_append.mp hb with z | z
      · exact fr b z
      · rw [List.mem_singleton.mp z]; exact ⟨s1.free ft, ntD⟩
  · obtain ⟨as, s1, e1, rf, fr⟩ := q
    rw [List.length_map, List.take_length] at rf
    exact h D as H' s1 hD e1 rf fr
/-! ### the tally over a rim's further sides -/
theorem r_tally5 {σ : St} {H : Hp} {nx bk ct : St → Hp → Prop} {rt : VK} {i6 i7 : Nat} {p6 : Addr} {x : Int} {K pre : List Int} {lb : Int → Int} (h6 : σ[i6]? = some (some (.ref p6))) (h7 : σ[i7]? = some (some (.int (lb x))))
    (e6 : H p6 = some (dW K (talF lb pre))) (Tl : Tal lb pre K) (hl : K.length < sizeLine) (h : nx σ (upd H p6 (dW (putS K (lb x)) (talF lb (pre ++ [x]))))) :
    sDPut (tVar i6) (tVar i7) (tOp rAddI (tDGet2 (tVar i6) (tVar i7) (tC (.int 0))) (tC (.int 1))) ⟨nx, rt, bk, ct⟩ σ H := by
  refine r_dputS (r_op (r_dget2 (r_var h6 ⟨p6, rfl, isD_I (rd_in e6), r_var h7 (r_c ?_)⟩)))
  refine r_dget2a (Q := fun v H' => tC (.int 1) σ H' fun y H2 => rAddI v y H2 fun v H1 => tVar i6 σ H1 fun x H2 => tVar i7 σ H2 fun y H3 => rDPut x y v H3 fun H4 => nx σ H4) (rd_in e6) (r_c ?_)
  have ei : (if lb x ∈ K then V.int (talF lb pre (lb x)) else V.int 0) = V.int (if lb x ∈ K then talF lb pre (lb x) else 0) := by split <;> rfl
  rw [ei]
  refine r_I0 (r_var h6 (r_var h7 ?_))
  refine r_dputW e6 hl ?_
  rw [(tal_snoc (x := x) Tl).2]
  exact h
structure Rows (w : Int → Int) (L ks : List Int) : Prop where
  le : ks.Pairwise (· ≤ ·)
  nd : ks.Nodup
  mem : ∀ l, l ∈ ks ↔ ∃ y ∈ L, w y = l
theorem Rows.one {w : Int → Int} {L ks ks' : List Int} (h : Rows w L ks) (h' : Rows w L ks') : ks = ks' :=
  sorted_eq ((List.perm_ext_iff_of_nodup h.nd h'.nd).mpr fun l => (h.mem l).trans (h'.mem l).symm) h.le h'.le
def rowO (w : Int → Int) (L : List Int) (k : Int) : HO := .tup [.int k, .int (talF w L k)]
def sp_p_neighbours (G : Gx) : Sp := fun vs H Q E => ∃ (d : Addr) (S : List Int) (nx : Int → Int) (e : Int), vs = [.ref d, .int e] ∧ Rd H d (dW S nx) ∧ Map S ot nx ∧ S.length ≤ 90000 ∧
  (e ∈ S → ∀ (lb : Int → Int) (ks : List Int) (as : List Addr) p H', Lab S nx lb → Rows (fun y => lb (ot y)) (rimL (face ot nx) e) ks → Same H H' → Free H p → H' p = some (.lst (as.map V.ref)) → RefO H' as (ks.map (rowO (fun y => lb (ot y)) (rimL (face ot nx) e))) → (∀ b ∈ as, Free H b ∧ b ≠ p) → Q (.ref p) H') ∧
  (e ∉ S → ∀ H', Same H H' → E (.ref (G.ad "NoEnd")) none H')
theorem len_p_neighbours {G : Gx} : ∀ vs H Q E, sp_p_neighbours G vs H Q E → vs.length = 2 := by rintro vs H Q E ⟨d, S, nx, e, rfl, _⟩; rfl
/-! neighbours: slots web, end, least, many, at, beyond -/
def t_p_neighbours (G : Gx) (E : XK) : TS :=
  (tSeq (tAsg (tCall (sp_p_least_ends G) [] E0 (tCons (tVar 0) tNil)) (gName 2))
  (tSeq (tAsg tDNewK (gName 3))
  (tSeq (tFor (iList G.K (tCall (sp_p_rim G) [] E (tCons (tVar 0) (tCons (tVar 1) tNil)))) (gName 4)
  (tSeq (tAsg (tDGet (tVar 2) (tCall (sp_p_other G) [] E0 (tCons (tVar 4) tNil))) (gName 5))
  (sDPut (tVar 3) (tVar 5) (tOp rAddI (tDGet2 (tVar 3) (tVar 5) (tC (.int 0))) (tC (.int 1))))))
  (tRet (tLc (iList G.K (tCB (rSortedI G.K) (tCons (tCB rListRd (tCons (tVar 3) tNil)) tNil))) (gName 5) tYes (tTup (tCons (tVar 5) (tCons (tDGet (tVar 3) (tVar 5)) tNil))) [5])))))
theorem pure_p_neighbours {G : Gx} {vs : List V} {H : Hp} {Q : VK} {E : XK} (h : sp_p_neighbours G vs H Q E) : Body (t_p_neighbours G E) ["web", "end", "least", "many", "at", "beyond"] vs H Q := by
  obtain ⟨d, S, nx, e, rfl, hd, M, hl, k1, k2⟩ := h
  show t_p_neighbours G E _ [some (.ref d), some (.int e), none, none, none, none] H
  unfold t_p_neighbours
  walk_at "go"
  refine ⟨d, S, nx, rfl, hd, M, hl, fun lb T lq H1 Lb mT s1 f1 e1 => ?_⟩
  walk_at "go"
  refine r_dnew (f := fun l => .int (talF (fun y => lb (ot y)) [] l)) fun sd hsd => ?_
  have nsl : lq ≠ sd := ne_fresh e1 hsd
  have s2 : Same H (upd H1 sd (dW [] (talF (fun y => lb (ot y)) []))) := same_new s1 hsd
  have e2 := at_new (o := dW [] (talF (fun y => lb (ot y)) [])) e1 hsd
  have e3 : upd H1 sd (dW [] (talF (fun y => lb (ot y)) [])) sd = some (dW [] (talF (fun y => lb (ot y)) [])) := upd_same
  have fsd : Free H sd := s1.free hsd
  generalize upd H1 sd (dW [] (talF (fun y => lb (ot y)) [])) = H2 at s2 e2 e3 ⊢
  walk_at "go"
  refine ⟨d, S, nx, e, rfl, same_rd s2 hd, M, by omega, fun he r H3 s3 f3 e4 => ?_, fun hn => k2 hn _ s2⟩
  have s4 := s2.trans s3
  have e5 := s3 _ _ e2
  have e6 := s3 _ _ e3
  have nrs : r ≠ sd := ne_fresh' e3 f3
  have lr : (rimL (face ot nx) e).length ≤ S.length := rimL_len M.perm he
  generalize hL : rimL (face ot nx) e = L at *
  have LS : ∀ y ∈ L, y ∈ S := fun y hy => by rw [← hL] at hy; exact rimL_sub M.perm he hy
  refine r_forI (SqL.of e4) (fun pre post σ H' => ∃ (o4 o5 : Option V) (K : List Int), σ = [some (.ref d), some (.int e), some (.ref lq), some (.ref sd), o4, o5] ∧ Same H H' ∧ H' r = some (.lst (L.map V.int)) ∧ H' lq = some (dW T lb) ∧ H' sd = some (dW K (talF (fun y => lb (ot y)) pre)) ∧ Tal (fun y => lb (ot y)) pre K)
    ⟨_, _, [], rfl, s4, e4, e5, e6, tal_nil⟩ (fun _ _ _ _ _ ⟨_, _, _, _, _, e, _⟩ => SqL.of e) ?_ ?_
  · rintro pre y post σ H4 ey ⟨o4, o5, K, rfl, s5, e7, e8, e9, Tl⟩
    have hy : y ∈ L := by rw [ey]; exact List.mem_append.mpr (.inr List.mem_cons_self)
    have oT : ot y ∈ T := (mT _).mpr (M.ca _ (LS y hy))
    have lk := tal_len Tl
    have lp2 : pre.length ≤ L.length := by
      have q := congrArg List.length ey
      rw [List.length_append] at q
      omega
    refine r_seq (r_asg (r_dgetS (r_var rfl (r_call (r_cons (r_var rfl (r_nil ⟨y, rfl, r_dget (rd_in e8) oT ?_⟩)))))))
    refine r_tally5 (lb := fun y => lb (ot y)) (x := y) (p6 := sd) (by rfl) (by rfl) e9 Tl (size1000l (by omega)) ?_
    exact ⟨_, _, _, rfl, same_mut s5 fsd, at_ne e7 nrs, at_ne e8 nsl, upd_same, (tal_snoc Tl).1⟩
  rintro σ H4 ⟨o4, o5, K, rfl, s5, e7, e8, e9, Tl⟩
  walk_at "go"
  refine r_lcO ?_
  walk_at "go"
  intro l1 hl1
  walk_at "go"
  refine r_sorted (SqL.of upd_same) fun ks l2 hp1 hp2 hl2 => ?_
  have R : Rows (fun y => lb (ot y)) L ks := ⟨hp2, hp1.nodup_iff.mpr Tl.nd, fun l => hp1.mem_iff.trans (Tl.mem l)⟩
  have s6 : Same H4 (upd (upd H4 l1 (.lst (K.map V.int))) l2 (.lst (ks.map V.int))) := by walk_at "sm"
  have f6 : upd (upd H4 l1 (.lst (K.map V.int))) l2 (.lst (ks.map V.int)) l2 = some (.lst (ks.map V.int)) := upd_same
  generalize upd (upd H4 l1 (.lst (K.map V.int))) l2 (.lst (ks.map V.int)) = H5 at s6 f6 ⊢
  have e10 := s6 _ _ e9
  have lk : ks.length ≤ 90000 := by have := tal_len Tl; have := hp1.length_eq; omega
  refine r_lcN (ns := ks) (rowO (fun y => lb (ot y)) L) (SqL.of f6) (fun _ q => q) (size1000l (by omega)) (fun x hx H6 s7 Q q => ?_) (fun D as H6 s7 fD eD rf fr => ?_)
  · have e11 := rd_in (s7 _ _ e10)
    have hxK : x ∈ K := hp1.mem_iff.mp hx
    walk_at "go"
    refine ⟨by walk_at "sz", fun t ht => ?_⟩
    exact q t _ (same_new (Same.refl _) ht) ht upd_same
  · have s8 := s5.trans s6
    exact k1 he lb ks as D H6 Lb R (s8.trans s7) (s8.free fD) eD rf fun b hb => ⟨s8.free (fr b hb).1, (fr b hb).2⟩
/-! ### labels -/
theorem at_mod2 {l : List Int} (hne : l ≠ []) (w : Int) : ∃ (j : Nat) (x : Int), l[j]? = some x ∧ ∀ (xs : List V), xs.length = l.length → (w % (xs.length : Int)) = (j : Int) := by
  have h0 : 0 < l.length := List.length_pos_iff.mpr hne
  have h1 := Int.emod_nonneg w (show (l.length : Int) ≠ 0 by omega)
  have h2 := Int.emod_lt_of_pos w (show 0 < (l.length : Int) by omega)
  obtain ⟨j, hj⟩ := Int.eq_ofNat_of_zero_le h1
  rw [hj] at h2
  have hjl : j < l.length := by omega
  exact ⟨j, l[j], List.getElem?_eq_getElem hjl, fun xs hx => by rw [hx]; exact hj⟩
theorem lab_idem {S : List Int} {nx lb : Int → Int} (M : Map S ot nx) (L : Lab S nx lb) {x : Int} (hx : x ∈ S) : lb x ∈ S ∧ lb (lb x) = lb x := by
  obtain ⟨es, hs, rfl⟩ := L.eq
  obtain ⟨n1, n2, _⟩ := rimsG_all M.perm M.nd hs
  obtain ⟨l, hl, hxl⟩ := List.mem_flatten.mp ((n2 x).mpr hx)
  obtain ⟨e, he, rfl⟩ := rimsG_mem hl
  obtain ⟨r, hr⟩ := head_rimL M.perm (hs.perm.subset he)
  have q : lbF (rimsG (face ot nx) es []) x = e := by rw [lbF_at n1 hl hxl, hr]; rfl
  have q2 : lbF (rimsG (face ot nx) es []) e = e := by rw [lbF_at n1 hl (by rw [hr]; exact List.mem_cons_self), hr]; rfl
  rw [q, q2]
  exact ⟨hs.perm.subset he, rfl⟩
theorem rim_lab {S : List Int} {nx lb : Int → Int} (M : Map S ot nx) (L : Lab S nx lb) {x y : Int} (hx : x ∈ S) : y ∈ rimL (face ot nx) x ↔ y ∈ S ∧ lb x = lb y := by
  constructor
  · intro h
    have hy := rimL_sub M.perm hx h
    exact ⟨hy, (L.iff x hx y hy).mpr ((rimL_mem M.perm hx).mp h)⟩
  · rintro ⟨hy, h⟩
    exact (rimL_mem M.perm hx).mpr ((L.iff x hx y hy).mp h)

/-! BfsT: a breadth-first search finds the least number of steps (plain law, no program in sight). -/
/-- a walk of n steps -/
inductive Wk (nb : Int → List Int) (a : Int) : Nat → Int → Prop
  | zero : Wk nb a 0 a
  | succ {n : Nat} {b c : Int} (h : Wk nb a n b) (e : c ∈ nb b) : Wk nb a (n + 1) c
structure Dist (nb : Int → List Int) (a : Int) (d : Nat) (b : Int) : Prop where
  wk : Wk nb a d b
  le : ∀ n, Wk nb a n b → d ≤ n
theorem Dist.one {nb : Int → List Int} {a b : Int} {d d' : Nat} (h : Dist nb a d b) (h' : Dist nb a d' b) : d = d' := Nat.le_antisymm (h.le _ h'.wk) (h'.le _ h.wk)
theorem Wk.pre {nb : Int → List Int} {a b c : Int} {n : Nat} (e : b ∈ nb a) (h : Wk nb b n c) : Wk nb a (n + 1) c := by
  induction h with
  | zero => exact .succ .zero e
  | succ _ e' ih => exact .succ ih e'
/-- the other way round, where the steps go both ways -/
theorem Wk.rev {nb : Int → List Int} {P : Int → Prop} (cl : ∀ x, P x → ∀ y ∈ nb x, P y ∧ x ∈ nb y) {a b : Int} {n : Nat} (pa : P a) (h : Wk nb a n b) : P b ∧ Wk nb b n a := by
  induction h with
  | zero => exact ⟨pa, .zero⟩
  | succ _ e ih =>
    obtain ⟨p1, p2⟩ := cl _ ih.1 _ e
    exact ⟨p1, Wk.pre p2 ih.2⟩
theorem Dist.rev {nb : Int → List Int} {P : Int → Prop} (cl : ∀ x, P x → ∀ y ∈ nb x, P y ∧ x ∈ nb y) {a b : Int} {d : Nat} (pa : P a) (h : Dist nb a d b) : Dist nb b d a := by
  obtain ⟨pb, q⟩ := Wk.rev cl pa h.wk
  exact ⟨q, fun n hn => h.le n (Wk.rev cl pb hn).2⟩
/-- what both searches end with: steps counted by dp; each found thing's next ones are found, one step further at most -/
theorem dist_of {nb : Int → List Int} {a : Int} {K : List Int} {dp : Int → Nat} (h0 : a ∈ K) (d0 : dp a = 0) (hw : ∀ x ∈ K, Wk nb a (dp x) x) (hn : ∀ x ∈ K, ∀ y ∈ nb x, y ∈ K ∧ dp y ≤ dp x + 1) :
    (∀ n x, Wk nb a n x → x ∈ K) ∧ ∀ x ∈ K, Dist nb a (dp x) x := by
  have key : ∀ n x, Wk nb a n x → x ∈ K ∧ dp x ≤ n := fun n x h => by
    induction h with
    | zero => exact ⟨h0, by omega⟩
    | succ _ e ih =>
      obtain ⟨q1, q2⟩ := hn _ ih.1 _ e
      exact ⟨q1, by omega⟩
  exact ⟨fun n x h => (key n x h).1, fun x hx => ⟨hw x hx, fun n h => (key n x h).2⟩⟩
/-- the search by a queue: row in the order found, n of them done, u under way, pre of its next ones seen -/
structure Que (nb : Int → List Int) (a : Int) (row : List Int) (dp : Int → Nat) (n : Nat) : Prop where
  nd : row.Nodup
  root : a ∈ row
  zero : dp a = 0
  wk : ∀ x ∈ row, Wk nb a (dp x) x
  mono : row.Pairwise fun x y => dp x ≤ dp y
  top : ∀ u, row[n]? = some u → ∀ x ∈ row, dp x ≤ dp u + 1
  done : ∀ i x, i < n → row[i]? = some x → ∀ y ∈ nb x, y ∈ row ∧ dp y ≤ dp x + 1
theorem Que.init {nb : Int → List Int} {a : Int} : Que nb a [a] (fun _ => 0) 0 :=
  ⟨List.pairwise_singleton _ _, List.mem_singleton.mpr rfl, rfl, fun x hx => by rw [List.mem_singleton.mp hx]; exact .zero, List.pairwise_singleton _ _, fun _ _ _ _ => Nat.zero_le _, fun i x h => absurd h (Nat.not_lt_zero _)⟩
def dset (dp : Int → Nat) (y : Int) (d : Nat) : Int → Nat := fun z => if z = y then d else dp z
theorem dset_ne {dp : Int → Nat} {y z : Int} {d : Nat} (h : z ≠ y) : dset dp y d z = dp z := if_neg h
theorem dset_eq {dp : Int → Nat} {y : Int} {d : Nat} : dset dp y d y = d := if_pos rfl
/-- a new one is found -/
theorem Que.push {nb : Int → List Int} {a : Int} {row : List Int} {dp : Int → Nat} {n : Nat} {u y : Int} (q : Que nb a row dp n) (hu : row[n]? = some u) (hy : y ∈ nb u) (ny : y ∉ row) : Que nb a (row ++ [y]) (dset dp y (dp u + 1)) n := by
  have um := List.mem_of_getElem? hu
  have ne : ∀ x ∈ row, x ≠ y := fun x hx z => ny (z ▸ hx)
  have eq : ∀ x ∈ row, dset dp y (dp u + 1) x = dp x := fun x hx => dset_ne (ne x hx)
  have hlt := (List.getElem?_eq_some_iff.mp hu).1
  refine ⟨?_, List.mem_append.mpr (.inl q.root), by rw [eq _ q.root]; exact q.zero, fun x hx => ?_, ?_, fun v hv x hx => ?_, fun i x hi hx z hz => ?_⟩
  · exact List.nodup_append.mpr ⟨q.nd, List.pairwise_singleton _ _, fun x hx z hz e => ne x hx (e.trans (List.mem_singleton.mp hz))⟩
  · rcases List.mem_append.mp hx with h | h
    · rw [eq x h]; exact q.wk x h
    · rw [List.mem_singleton.mp h, dset_eq]; exact .succ (q.wk u um) hy
  · refine List.pairwise_append.mpr ⟨?_, List.pairwise_singleton _ _, fun x hx z hz => ?_⟩
    · refine List.Pairwise.imp_of_mem (fun {x z} hx hz h => ?_) q.mono
      rw [eq x hx, eq z hz]; exact h
    · rw [List.mem_singleton.mp hz, dset_eq, eq x hx]; exact q.top u hu x hx
  · rw [List.getElem?_append_left hlt, hu] at hv
    cases hv
    rw [eq u um]
    rcases List.mem_append.mp hx with h | h
    · rw [eq x h]; exact q.top u hu x h
    · rw [List.mem_singleton.mp h, dset_eq]; exact Nat.le_refl _
  · rw [List.getElem?_append_left (by omega)] at hx
    have hxm := List.mem_of_getElem? hx
    obtain ⟨q1, q2⟩ := q.done i x hi hx z hz
    exact ⟨List.mem_append.mpr (.inl q1), by rw [eq z q1, eq x hxm]; exact q2⟩
/-- one is done -/
theorem Que.next {nb : Int → List Int} {a : Int} {row : List Int} {dp : Int → Nat} {n : Nat} {u : Int} (q : Que nb a row dp n) (hu : row[n]? = some u) (h : ∀ y ∈ nb u, y ∈ row) : Que nb a row dp (n + 1) := by
  obtain ⟨hlt, hu'⟩ := List.getElem?_eq_some_iff.mp hu
  refine ⟨q.nd, q.root, q.zero, q.wk, q.mono, fun v hv x hx => ?_, fun i x hi hx z hz => ?_⟩
  · obtain ⟨hlv, hv'⟩ := List.getElem?_eq_some_iff.mp hv
    have m := List.pairwise_iff_getElem.mp q.mono n (n + 1) hlt hlv (Nat.lt_succ_self _)
    rw [hu', hv'] at m
    have := q.top u hu x hx
    omega
  · rcases Nat.lt_or_ge i n with l | l
    · exact q.done i x l hx z hz
    · have e : i = n := by omega
      rw [e, hu] at hx
      cases hx
      exact ⟨h z hz, q.top _ hu z (h z hz)⟩
theorem Que.all {nb : Int → List Int} {a : Int} {row : List Int} {dp : Int → Nat} {n : Nat} (q : Que nb a row dp n) (h : row.length ≤ n) : (∀ n x, Wk nb a n x → x ∈ row) ∧ ∀ x ∈ row, Dist nb a (dp x) x :=
  dist_of q.root q.zero q.wk fun x hx y hy => by
    obtain ⟨i, hi, e⟩ := List.mem_iff_getElem.mp hx
    exact q.done i x (by omega) (List.getElem?_eq_some_iff.mpr ⟨hi, e⟩) y hy
/-! ### the search by rounds -/
/-- all within r steps are in K, dp tells the steps; row are those of r steps -/
structure Lay (nb : Int → List Int) (a : Int) (K : List Int) (dp : Int → Nat) (r : Nat) (row : List Int) : Prop where
  root : a ∈ K
  zero : dp a = 0
  wk : ∀ x ∈ K, Wk nb a (dp x) x
  le : ∀ x ∈ K, dp x ≤ r
  row : ∀ x, x ∈ row ↔ x ∈ K ∧ dp x = r
  done : ∀ x ∈ K, dp x < r → ∀ y ∈ nb x, y ∈ K ∧ dp y ≤ dp x + 1
theorem Lay.init {nb : Int → List Int} {a : Int} : Lay nb a [a] (fun _ => 0) 0 [a] :=
  ⟨List.mem_singleton.mpr rfl, rfl, fun x hx => by rw [List.mem_singleton.mp hx]; exact .zero, fun _ _ => Nat.le_refl _, fun x => ⟨fun h => ⟨h, rfl⟩, fun h => h.1⟩, fun _ _ h => absurd h (Nat.not_lt_zero _)⟩
/-- within round r + 1: those of `seen` have had all their next ones looked at -/
structure LayIn (nb : Int → List Int) (a : Int) (K : List Int) (dp : Int → Nat) (r : Nat) (row new : List Int) : Prop where
  root : a ∈ K
  zero : dp a = 0
  wk : ∀ x ∈ K, Wk nb a (dp x) x
  le : ∀ x ∈ K, dp x ≤ r + 1
  row : ∀ x, x ∈ row ↔ x ∈ K ∧ dp x = r
  new : ∀ x, x ∈ new ↔ x ∈ K ∧ dp x = r + 1
  done : ∀ x ∈ K, dp x < r → ∀ y ∈ nb x, y ∈ K ∧ dp y ≤ dp x + 1
theorem Lay.go {nb : Int → List Int} {a : Int} {K row : List Int} {dp : Int → Nat} {r : Nat} (q : Lay nb a K dp r row) : LayIn nb a K dp r row [] :=
  ⟨q.root, q.zero, q.wk, fun x hx => Nat.le_succ_of_le (q.le x hx), q.row, fun x => ⟨fun h => absurd h List.not_mem_nil, fun ⟨h, e⟩ => by have := q.le x h; omega⟩, q.done⟩
theorem LayIn.push {nb : Int → List Int} {a : Int} {K row new : List Int} {dp : Int → Nat} {r : Nat} {u y : Int} (q : LayIn nb a K dp r row new) (hu : u ∈ row) (hy : y ∈ nb u) (ny : y ∉ K) : LayIn nb a (K ++ [y]) (dset dp y (r + 1)) r row (new ++ [y]) := by
  obtain ⟨um, ud⟩ := (q.row u).mp hu
  have ne : ∀ x ∈ K, x ≠ y := fun x hx z => ny (z ▸ hx)
  have eq : ∀ x ∈ K, dset dp y (r + 1) x = dp x := fun x hx => dset_ne (ne x hx)
  have sp : ∀ {x}, x ∈ K ++ [y] → x ∈ K ∨ x = y := fun {x} hx => (List.mem_append.mp hx).imp id fun h => List.mem_singleton.mp h
  refine ⟨List.mem_append.mpr (.inl q.root), by rw [eq _ q.root]; exact q.zero, fun x hx => ?_, fun x hx => ?_, fun x => ?_, fun x => ?_, fun x hx hd z hz => ?_⟩
  · rcases sp hx with h | rfl
    · rw [eq x h]; exact q.wk x h
    · rw [dset_eq, ← ud]; exact .succ (q.wk u um) hy
  · rcases sp hx with h | rfl
    · rw [eq x h]; exact q.le x h
    · rw [dset_eq]; exact Nat.le_refl _
  · constructor
    · intro h
      obtain ⟨h1, h2⟩ := (q.row x).mp h
      exact ⟨List.mem_append.mpr (.inl h1), by rw [eq x h1]; exact h2⟩
    · rintro ⟨h1, h2⟩
      rcases sp h1 with h | rfl
      · rw [eq x h] at h2; exact (q.row x).mpr ⟨h, h2⟩
      · rw [dset_eq] at h2; omega
  · constructor
    · intro h
      rcases List.mem_append.mp h with h | h
      · obtain ⟨h1, h2⟩ := (q.new x).mp h
        exact ⟨List.mem_append.mpr (.inl h1), by rw [eq x h1]; exact h2⟩
      · rw [List.mem_singleton.mp h]
        exact ⟨List.mem_append.mpr (.inr (List.mem_singleton.mpr rfl)), dset_eq⟩
    · rintro ⟨h1, h2⟩
      rcases sp h1 with h | rfl
      · rw [eq x h] at h2; exact List.mem_append.mpr (.inl ((q.new x).mpr ⟨h, h2⟩))
      · exact List.mem_append.mpr (.inr (List.mem_singleton.mpr rfl))
  · rcases sp hx with h | rfl
    · rw [eq x h] at hd ⊢
      obtain ⟨q1, q2⟩ := q.done x h hd z hz
      exact ⟨List.mem_append.mpr (.inl q1), by rw [eq z q1]; exact q2⟩
    · rw [dset_eq] at hd; omega
theorem LayIn.next {nb : Int → List Int} {a : Int} {K row new : List Int} {dp : Int → Nat} {r : Nat} (q : LayIn nb a K dp r row new) (h : ∀ x ∈ row, ∀ y ∈ nb x, y ∈ K) : Lay nb a K dp (r + 1) new := by
  refine ⟨q.root, q.zero, q.wk, q.le, q.new, fun x hx hd y hy => ?_⟩
  rcases Nat.lt_or_ge (dp x) r with l | l
  · exact q.done x hx l y hy
  · have e : dp x = r := by omega
    have m := h x ((q.row x).mpr ⟨hx, e⟩) y hy
    exact ⟨m, by have := q.le y m; omega⟩
theorem Lay.all {nb : Int → List Int} {a : Int} {K : List Int} {dp : Int → Nat} {r : Nat} (q : Lay nb a K dp r []) : (∀ n x, Wk nb a n x → x ∈ K) ∧ ∀ x ∈ K, Dist nb a (dp x) x :=
  dist_of q.root q.zero q.wk fun x hx y hy => q.done x hx (by
    have h1 := q.le x hx
    rcases Nat.lt_or_ge (dp x) r with l | l
    · exact l
    · exact absurd ((q.row x).mpr ⟨hx, by omega⟩) List.not_mem_nil) y hy

/-! Wv: roads from bubble to bubble. -/
noncomputable def nbL (nx lb : Int → Int) (l : Int) : List Int := (rimL (face ot nx) l).map fun y => lb (ot y)
def IsLb (S : List Int) (lb : Int → Int) (x : Int) : Prop := x ∈ S ∧ lb x = x
theorem lb_is {S : List Int} {nx lb : Int → Int} (M : Map S ot nx) (L : Lab S nx lb) {x : Int} (hx : x ∈ S) : IsLb S lb (lb x) := lab_idem M L hx
theorem nb_cl {S : List Int} {nx lb : Int → Int} (M : Map S ot nx) (L : Lab S nx lb) : ∀ x, IsLb S lb x → ∀ y ∈ nbL nx lb x, IsLb S lb y ∧ x ∈ nbL nx lb y := by
  rintro x ⟨hx, ex⟩ y hy
  obtain ⟨z, hz, rfl⟩ := List.mem_map.mp hy
  obtain ⟨zS, ze⟩ := (rim_lab M L hx).mp hz
  have oS := M.ca z zS
  obtain ⟨l1, l2⟩ := lab_idem M L oS
  refine ⟨⟨l1, l2⟩, List.mem_map.mpr ⟨ot z, (rim_lab M L l1).mpr ⟨oS, l2⟩, ?_⟩⟩
  show lb (ot (ot z)) = x
  rw [ot_ot, ← ze, ex]
theorem nb_at {S : List Int} {nx lb : Int → Int} (M : Map S ot nx) (L : Lab S nx lb) {x : Int} (hx : x ∈ S) : lb (ot x) ∈ nbL nx lb (lb x) := by
  obtain ⟨l1, l2⟩ := lab_idem M L hx
  exact List.mem_map.mpr ⟨x, (rim_lab M L l1).mpr ⟨hx, l2⟩, rfl⟩
theorem Wk.app {nb : Int → List Int} {a b c : Int} {n m : Nat} (h : Wk nb a n b) (g : Wk nb b m c) : Wk nb a (n + m) c := by
  induction g with
  | zero => exact h
  | succ _ e ih => exact .succ ih e
theorem wk_conn {S : List Int} {nx lb : Int → Int} (W : Web S nx) (L : Lab S nx lb) {x y : Int} (hx : x ∈ S) (hy : y ∈ S) : ∃ n, Wk (nbL nx lb) (lb x) n (lb y) := by
  have M := W.map
  have key : ∀ x y, Eqv (cs S ot nx) x y → (x ∈ S ↔ y ∈ S) ∧ (x ∈ S → ∃ n, Wk (nbL nx lb) (lb x) n (lb y)) := fun x y h => by
    induction h with
    | refl x => exact ⟨Iff.rfl, fun _ => ⟨0, .zero⟩⟩
    | step h =>
      obtain ⟨hx, rfl | rfl⟩ := h
      · exact ⟨⟨fun _ => M.ca _ hx, fun _ => hx⟩, fun _ => ⟨1, .succ .zero (nb_at M L hx)⟩⟩
      · rename_i x
        refine ⟨⟨fun _ => M.cn _ hx, fun _ => hx⟩, fun _ => ⟨1, .succ .zero ?_⟩⟩
        have q : lb (nx x) = lb (ot x) := by
          refine (L.iff _ (M.cn _ hx) _ (M.ca _ hx)).mpr ?_
          refine Eqv.symm (Eqv.step ⟨M.ca _ hx, ?_⟩)
          show nx x = nx (ot (ot x))
          rw [ot_ot]
        rw [q]
        exact nb_at M L hx
    | symm _ ih =>
      refine ⟨ih.1.symm, fun hy => ?_⟩
      obtain ⟨n, hn⟩ := ih.2 (ih.1.mpr hy)
      exact ⟨n, (Wk.rev (nb_cl M L) (lb_is M L (ih.1.mpr hy)) hn).2⟩
    | trans _ _ i1 i2 =>
      refine ⟨i1.1.trans i2.1, fun hx => ?_⟩
      obtain ⟨n, hn⟩ := i1.2 hx
      obtain ⟨m, hm⟩ := i2.2 (i1.1.mp hx)
      exact ⟨n + m, hn.app hm⟩
  exact (key x y (W.conn x hx y hy)).2 hx
theorem r_disp1h {H : Hp} {Q : VK} {σ : St} {k : Int} {v : V} {tk tv : TE} (hk : ∀ (H' : Hp) (Q : VK), Same H H' → Q (.int k) H' → tk σ H' Q) (hv : ∀ (H : Hp) (Q : VK), Q v H → tv σ H Q) (h : ∀ p, Free H p → Q (.ref p) (upd H p (dI [k] fun _ => v))) : tDisp [(tk, tv)] σ H Q := fun p hp => by
  refine hk _ _ (same_new (Same.refl _) hp) (hv _ _ ⟨upd_same, [(Sum.inl k, v)], rfl, Nat.le_add_left 1 14, ?_⟩)
  rw [upd_upd]
  exact h p hp
structure Came (S : List Int) (lb : Int → Int) (a : Int) (row : List Int) (dp : Int → Nat) (cf : Int → V) : Prop where
  root : cf a = .non
  sub : ∀ x ∈ row, IsLb S lb x
  par : ∀ x ∈ row, x ≠ a → ∃ e ∈ S, cf x = .int e ∧ lb (ot e) = x ∧ lb e ∈ row ∧ dp x = dp (lb e) + 1
theorem Came.push {S row : List Int} {nx lb : Int → Int} {a y u : Int} {dp : Int → Nat} {cf : Int → V} (M : Map S ot nx) (L : Lab S nx lb) (C : Came S lb a row dp cf) (ha : a ∈ row) (hu : u ∈ row) (hy : y ∈ rimL (face ot nx) u) (ny : lb (ot y) ∉ row) :
    Came S lb a (row ++ [lb (ot y)]) (dset dp (lb (ot y)) (dp u + 1)) (fun x => if x = lb (ot y) then .int y else cf x) := by
  obtain ⟨uS, ue⟩ := C.sub u hu
  obtain ⟨yS, ye⟩ := (rim_lab M L uS).mp hy
  have ne : ∀ x ∈ row, x ≠ lb (ot y) := fun x hx z => ny (z ▸ hx)
  have yu : lb y = u := by rw [← ye, ue]
  refine ⟨?_, fun x hx => ?_, fun x hx hn => ?_⟩
  · rw [if_neg (ne a ha)]; exact C.root
  · rcases List.mem_append.mp hx with h | h
    · exact C.sub x h
    · rw [List.mem_singleton.mp h]; exact lb_is M L (M.ca _ yS)
  · rcases List.mem_append.mp hx with h | h
    · obtain ⟨e, h1, h2, h3, h4, h5⟩ := C.par x h hn
      refine ⟨e, h1, ?_, h3, List.mem_append.mpr (.inl h4), ?_⟩
      · rw [if_neg (ne x h)]; exact h2
      · rw [dset_ne (ne x h), dset_ne (ne _ h4)]; exact h5
    · have h := List.mem_singleton.mp h
      subst h
      refine ⟨y, yS, ?_, rfl, ?_, ?_⟩
      · rw [if_pos rfl]
      · rw [yu]; exact List.mem_append.mpr (.inl hu)
      · rw [dset_eq, yu, dset_ne (ne u hu)]
def sp_p_ways (G : Gx) : Sp := fun vs H Q _ => ∃ (d : Addr) (S : List Int) (nx : Int → Int) (b : Int), vs = [.ref d, .int b] ∧ Rd H d (dW S nx) ∧ Map S ot nx ∧ S.length ≤ 90000 ∧ b ∈ S ∧
  ∀ (lb : Int → Int) (row : List Int) (dp : Int → Nat) (cf : Int → V) p H', Lab S nx lb → Came S lb (lb b) row dp cf → (∀ n x, Wk (nbL nx lb) (lb b) n x → x ∈ row) → (∀ x ∈ row, Dist (nbL nx lb) (lb b) (dp x) x) → Same H H' → Free H p → H' p = some (dI row cf) → Q (.ref p) H'
theorem len_p_ways {G : Gx} : ∀ vs H Q E, sp_p_ways G vs H Q E → vs.length = 2 := by rintro vs H Q E ⟨d, S, nx, e, rfl, _⟩; rfl
/-! ways: slots web, begin, least, came, row, at, end, beyond -/
def t_p_ways (G : Gx) : TS :=
  (tSeq (tAsg (tCall (sp_p_least_ends G) [] E0 (tCons (tVar 0) tNil)) (gName 2))
  (tSeq (tAsg (tDisp [((tDGet (tVar 2) (tVar 1)), (tC .non))]) (gName 3))
  (tSeq (tAsg (tLst (tCons (tDGet (tVar 2) (tVar 1)) tNil)) (gName 4))
  (tSeq (tAsg (tC (.int 0)) (gName 5))
  (tSeq (tWhile (tTest (tOp rLtI (tVar 5) (tCB (rLenSeq G.K) (tCons (tVar 4) tNil)))) (tSeq (tFor (iList G.K (tCall (sp_p_rim G) [] E0 (tCons (tVar 0) (tCons (tOp (rIxL G.K) (tVar 4) (tVar 5)) tNil)))) (gName 6)
  (tSeq (tAsg (tDGet (tVar 2) (tCall (sp_p_other G) [] E0 (tCons (tVar 6) tNil))) (gName 7))
  (tIfS (tB (tDNotIn (tVar 7) (tVar 3))) (tSeq (sDPut (tVar 3) (tVar 7) (tVar 6))
  (tDrop (tBM G.K "list" rAppend (tVar 4) (tCons (tVar 7) tNil)))) tNext)))
  (tAug 5 (tC (.int 1)) ipAdd)))
  (tRet (tVar 3)))))))
theorem pure_p_ways {G : Gx} {vs : List V} {H : Hp} {Q : VK} {E : XK} (h : sp_p_ways G vs H Q E) : Body (t_p_ways G) ["web", "begin", "least", "came", "row", "at", "end", "beyond"] vs H Q := by
  obtain ⟨d, S, nx, b, rfl, hd, M, hl, hb, k⟩ := h
  show t_p_ways G _ [some (.ref d), some (.int b), none, none, none, none, none, none] H
  unfold t_p_ways
  walk_at "go"
  refine ⟨d, S, nx, rfl, hd, M, hl, fun lb T lq H1 Lb mT s1 f1 e1 => ?_⟩
  have bT := (mT b).mpr hb
  walk_at "go"
  refine r_disp1h (k := lb b) (v := .non) (fun H' Q' s q => ?_) (fun _ _ q => q) fun cp hcp => ?_
  · have := rd_in (s _ _ e1)
    walk_at "go"
    exact q
  have e1' := rd_in (at_new (o := dI [lb b] fun _ => .non) e1 hcp)
  walk_at "go"
  refine ⟨by walk_at "sz", fun rp hrp => ?_⟩
  have ncr : cp ≠ rp := ne_fresh upd_same hrp
  have fcp : Free H cp := s1.free hcp
  have s2 : Same H (upd (upd H1 cp (dI [lb b] fun _ => .non)) rp (.lst [.int (lb b)])) := same_new (same_new s1 hcp) hrp
  have frp : Free H rp := (same_new (o := dI [lb b] fun _ => .non) s1 hcp).free hrp
  have c1 : upd (upd H1 cp (dI [lb b] fun _ => .non)) rp (.lst [.int (lb b)]) cp = some (dI [lb b] fun _ => .non) := at_ne upd_same ncr
  have c2 : upd (upd H1 cp (dI [lb b] fun _ => .non)) rp (.lst [.int (lb b)]) rp = some (.lst ([lb b].map V.int)) := upd_same
  have c3 : upd (upd H1 cp (dI [lb b] fun _ => .non)) rp (.lst [.int (lb b)]) lq = some (dW T lb) := at_new (at_new e1 hcp) hrp
  have nlc : lq ≠ cp := ne_fresh e1 hcp
  have nlr : lq ≠ rp := ne_fresh (at_new e1 hcp) hrp
  generalize upd (upd H1 cp (dI [lb b] fun _ => .non)) rp (.lst [.int (lb b)]) = H2 at s2 c1 c2 c3 ⊢
  clear hrp e1' hcp
  walk_at "go"
  refine r_whileG (α := List Int × (Int → Nat) × (Int → V) × Nat) (fun g σ H' => (∃ o6 o7, σ = [some (.ref d), some (.int b), some (.ref lq), some (.ref cp), some (.ref rp), some (.int (g.2.2.2 : Int)), o6, o7]) ∧ Same H H' ∧ H' lq = some (dW T lb) ∧ H' cp = some (dI g.1 g.2.2.1) ∧ H' rp = some (.lst (g.1.map V.int)) ∧ Que (nbL nx lb) (lb b) g.1 g.2.1 g.2.2.2 ∧ Came S lb (lb b) g.1 g.2.1 g.2.2.1)
    (fun g => S.length - g.2.2.2) ([lb b], fun _ => 0, fun _ => .non, 0) ⟨⟨_, _, rfl⟩, s2, c3, c1, c2, Que.init, ⟨rfl, fun x hx => by rw [List.mem_singleton.mp hx]; exact lb_is M Lb hb, fun x hx z => absurd (List.mem_singleton.mp hx) z⟩⟩ ?_
  clear c1 c2 c3 s2
  rintro ⟨row, dp, cf, n⟩ σ H3 ⟨⟨o6, o7, rfl⟩, s3, c3, c1, c2, q, C⟩
  dsimp only at c1 c2 q C ⊢
  have rl : row.length ≤ S.length := sub_len q.nd fun x hx => (C.sub x hx).1
  walk_at "go"
  rw [List.length_map]
  refine iteD (fun h => ?_) (fun h => ?_)
  · refine r_wG ?_
    have hn : n < row.length := by omega
    obtain ⟨u, hu⟩ : ∃ u, row[n]? = some u := ⟨_, List.getElem?_eq_getElem hn⟩
    have um := List.mem_of_getElem? hu
    obtain ⟨uS, ue⟩ := C.sub u um
    have at0 : atI (row.map V.int) (n : Int) = some (.int u) := atI_nat (by rw [List.getElem?_map, hu]; rfl)
    walk_at "go"
    refine r_ixL (SqL.of c2) at0 ?_
    walk_at "go"
    refine ⟨d, S, nx, u, rfl, same_rd s3 hd, M, by omega, fun _ r H4 s4 f4 e4 => ?_, fun z => absurd uS z⟩
    have nrc : r ≠ cp := ne_fresh' c1 f4
    have nrr : r ≠ rp := ne_fresh' c2 f4
    refine r_forI (SqL.of e4) (fun pre post σ H' => ∃ (o6 o7 : Option V) (row' : List Int) (dp' : Int → Nat) (cf' : Int → V), σ = [some (.ref d), some (.int b), some (.ref lq), some (.ref cp), some (.ref rp), some (.int (n : Int)), o6, o7] ∧ Same H H' ∧ H' r = some (.lst ((rimL (face ot nx) u).map V.int)) ∧ H' lq = some (dW T lb) ∧ H' cp = some (dI row' cf') ∧ H' rp = some (.lst (row'.map V.int)) ∧ Que (nbL nx lb) (lb b) row' dp' n ∧ Came S lb (lb b) row' dp' cf' ∧ row'[n]? = some u ∧ ∀ y ∈ pre, lb (ot y) ∈ row')
      ⟨_, _, row, dp, cf, rfl, s3.trans s4, e4, s4 _ _ c3, s4 _ _ c1, s4 _ _ c2, q, C, hu, fun y hy => absurd hy List.not_mem_nil⟩ (fun _ _ _ _ _ ⟨_, _, _, _, _, _, _, e, _⟩ => SqL.of e) ?_ ?_
    · rintro pre y post σ H5 ey ⟨o6, o7, row', dp', cf', rfl, s5, e5, c3, c1, c2, q, C, hu, al⟩
      have hy : y ∈ rimL (face ot nx) u := by rw [ey]; exact List.mem_append.mpr (.inr List.mem_cons_self)
      have um := List.mem_of_getElem? hu
      have yS := rimL_sub M.perm uS hy
      have oT : ot y ∈ T := (mT _).mpr (M.ca _ yS)
      have rl : row'.length ≤ S.length := sub_len q.nd fun x hx => (C.sub x hx).1
      have c3' := rd_in c3
      have c1' := rd_in c1
      walk_at "go"
      refine iteN (fun hn => ?_) (fun he => ?_)
      · walk_at "go"
        refine r_dput c1 (size1000l (by omega)) ?_
        rw [show putS row' (lb (ot y)) = row' ++ [lb (ot y)] from if_neg hn]
        have d1 := at_ne (o := dI (row' ++ [lb (ot y)]) fun x => if x = lb (ot y) then .int y else cf' x) c2 (Ne.symm ncr)
        have d2 := at_ne (o := dI (row' ++ [lb (ot y)]) fun x => if x = lb (ot y) then .int y else cf' x) c3 nlc
        have d3 := at_ne (o := dI (row' ++ [lb (ot y)]) fun x => if x = lb (ot y) then .int y else cf' x) e5 nrc
        have d4 := same_mut (o := dI (row' ++ [lb (ot y)]) fun x => if x = lb (ot y) then .int y else cf' x) s5 fcp
        have d5 : upd H5 cp (dI (row' ++ [lb (ot y)]) fun x => if x = lb (ot y) then .int y else cf' x) cp = some (dI (row' ++ [lb (ot y)]) fun x => if x = lb (ot y) then .int y else cf' x) := upd_same
        generalize upd H5 cp (dI (row' ++ [lb (ot y)]) fun x => if x = lb (ot y) then .int y else cf' x) = H6 at d1 d2 d3 d4 d5 ⊢
        have lr : (row'.map V.int).length < sizeLine := by rw [List.length_map]; exact size1000l (by omega)
        walk_at "go"
        refine ⟨_, _, row' ++ [lb (ot y)], _, _, rfl, same_mut d4 frp, at_ne d3 nrr, at_ne d2 nlr, at_ne d5 ncr, by rw [List.map_append]; exact upd_same, q.push hu (List.mem_map.mpr ⟨y, hy, rfl⟩) hn, C.push M Lb q.root um hy hn, by rw [List.getElem?_append_left (List.getElem?_eq_some_iff.mp hu).1]; exact hu, fun z hz => ?_⟩
        rcases List.mem_append.mp hz with z1 | z1
        · exact List.mem_append.mpr (.inl (al z z1))
        · rw [List.mem_singleton.mp z1]; exact List.mem_append.mpr (.inr List.mem_cons_self)
      · walk_at "go"
        refine ⟨_, _, row', dp', cf', rfl, s5, e5, c3, c1, c2, q, C, hu, fun z hz => ?_⟩
        rcases List.mem_append.mp hz with z1 | z1
        · exact al z z1
        · rw [List.mem_singleton.mp z1]; exact he
    · rintro σ H5 ⟨o6, o7, row', dp', cf', rfl, s5, e5, c3, c1, c2, q, C, hu, al⟩
      walk_at "go"
      refine ⟨(row', dp', cf', n + 1), ⟨⟨_, _, rfl⟩, s5, c3, c1, c2, q.next hu fun z hz => ?_, C⟩, by show S.length - (n + 1) < _; omega⟩
      obtain ⟨y, hy, rfl⟩ := List.mem_map.mp hz
      exact al y hy
  · walk_at "go"
    obtain ⟨q1, q2⟩ := q.all (by omega)
    exact k lb row dp cf cp H3 Lb C q1 q2 s3 fcp c1
/-! ### a road -/
theorem Came.short {S row : List Int} {lb : Int → Int} {a : Int} {dp : Int → Nat} {cf : Int → V} (C : Came S lb a row dp cf) (h0 : dp a = 0) : ∀ (n : Nat) (z : Int), z ∈ row → dp z = n → ∃ m : List Int, m.Nodup ∧ (∀ x ∈ m, x ∈ row ∧ dp x ≤ n) ∧ m.length = n + 1 := by
  intro n
  induction n with
  | zero => exact fun z hz e => ⟨[z], List.pairwise_singleton _ _, fun x hx => by rw [List.mem_singleton.mp hx]; exact ⟨hz, by omega⟩, rfl⟩
  | succ n ih =>
    intro z hz e
    obtain ⟨e', _, _, _, h4, h5⟩ := C.par z hz fun q => by rw [q, h0] at e; omega
    obtain ⟨m, m1, m2, m3⟩ := ih _ h4 (by omega)
    refine ⟨z :: m, List.nodup_cons.mpr ⟨fun q => by have := (m2 z q).2; omega, m1⟩, fun x hx => ?_, by rw [List.length_cons, m3]⟩
    rcases List.mem_cons.mp hx with rfl | q
    · exact ⟨hz, by omega⟩
    · exact ⟨(m2 x q).1, by have := (m2 x q).2; omega⟩
def Chn (S : List Int) (lb : Int → Int) : Int → List Int → Int → Prop
  | a, [], b => a = b
  | a, e :: l, b => e ∈ S ∧ lb e = a ∧ Chn S lb (lb (ot e)) l b
def sp_p_road (G : Gx) : Sp := fun vs H Q E => ∃ (d : Addr) (S : List Int) (nx : Int → Int) (x y : Int), vs = [.ref d, .int x, .int y] ∧ Rd H d (dW S nx) ∧ Web S nx ∧ S.length ≤ 90000 ∧
  (x ∈ S → y ∈ S → ∀ (lb : Int → Int) (l : List Int) p H', Lab S nx lb → Chn S lb (lb x) l (lb y) → Dist (nbL nx lb) (lb x) l.length (lb y) → l.length ≤ S.length → Same H H' → Free H p → H' p = some (.lst (l.map V.int)) → Q (.ref p) H') ∧
  (¬ (x ∈ S ∧ y ∈ S) → E (.ref (G.ad "NoEnd")) none H)
theorem len_p_road {G : Gx} : ∀ vs H Q E, sp_p_road G vs H Q E → vs.length = 3 := by rintro vs H Q E ⟨d, S, nx, x, y, rfl, _⟩; rfl
/-! road: slots web, one, two, least, came, found, end -/
def t_p_road (G : Gx) (E : XK) : TS :=
  (tSeq (tIfS (tOr (tB (tDNotIn (tVar 1) (tVar 0))) (tB (tDNotIn (tVar 2) (tVar 0)))) (tRaise E (G.ad "NoEnd")) tNext)
  (tSeq (tAsg (tCall (sp_p_least_ends G) [] E0 (tCons (tVar 0) tNil)) (gName 3))
  (tSeq (tAsg (tCall (sp_p_ways G) [] E0 (tCons (tVar 0) (tCons (tVar 1) tNil))) (gName 4))
  (tSeq (tAsg (tLst tNil) (gName 5))
  (tSeq (tAsg (tDGet (tVar 4) (tDGet (tVar 3) (tVar 2))) (gName 6))
  (tSeq (tWhile (tTest (tOp rNotN (tVar 6) (tC .non))) (tSeq (tDrop (tBM G.K "list" rAppend (tVar 5) (tCons (tVar 6) tNil)))
  (tAsg (tDGet (tVar 4) (tDGet (tVar 3) (tVar 6))) (gName 6))))
  (tRet (tRevL G.K (tVar 5)))))))))
theorem pure_p_road {G : Gx} {vs : List V} {H : Hp} {Q : VK} {E : XK} (h : sp_p_road G vs H Q E) : Body (t_p_road G E) ["web", "one", "two", "least", "came", "found", "end"] vs H Q := by
  obtain ⟨d, S, nx, x, y, rfl, hd, W, hl, k1, k2⟩ := h
  have M := W.map
  show t_p_road G E _ [some (.ref d), some (.int x), some (.int y), none, none, none, none] H
  unfold t_p_road
  walk_at "go"
  refine iteN (fun hn => ?_) (fun hx => ?_)
  · walk_at "go"
    exact k2 fun z => hn z.1
  walk_at "go"
  refine iteN (fun hn => ?_) (fun hy => ?_)
  · walk_at "go"
    exact k2 fun z => hn z.2
  walk_at "go"
  refine ⟨d, S, nx, rfl, hd, M, hl, fun lb T lq H1 Lb mT s1 f1 e1 => ?_⟩
  walk_at "go"
  refine ⟨d, S, nx, x, rfl, same_rd s1 hd, M, hl, hx, fun lb' row dp cf cp H2 Lb' C q1 q2 s2 f2 e2 => ?_⟩
  cases Lb'.one Lb (List.Perm.refl _)
  obtain ⟨n0, hn0⟩ := wk_conn W Lb hx hy
  have hyr := q1 _ _ hn0
  have yT := (mT y).mpr hy
  have e3 := s2 _ _ e1
  have s3 := s1.trans s2
  walk_at "go"
  refine ⟨by walk_at "sz", fun fp hfp => ?_⟩
  have e4 := at_new (o := .lst []) e3 hfp
  have e5 := at_new (o := .lst []) e2 hfp
  have s4 := same_new (o := .lst []) s3 hfp
  have e6 : upd H2 fp (.lst []) fp = some (.lst []) := upd_same
  have ffp : Free H fp := s3.free hfp
  have nlf : lq ≠ fp := ne_fresh e3 hfp
  have ncf : cp ≠ fp := ne_fresh e2 hfp
  generalize upd H2 fp (.lst []) = H3 at e4 e5 s4 e6 ⊢
  refine r_seq (r_asg (r_dgetS (r_var rfl (r_dgetS (r_var rfl (r_var rfl (r_dget (rd_in e4) yT (r_dget (rd_in e5) hyr ?_))))))))
  refine r_seq ?_
  have a0 : dp (lb x) = 0 := by
    have := (q2 _ (q1 0 _ .zero)).le 0 .zero
    omega
  have dle : dp (lb y) < S.length := by
    obtain ⟨m, m1, m2, m3⟩ := C.short a0 _ _ hyr rfl
    have := sub_len m1 fun z hz => (C.sub z (m2 z hz).1).1
    omega
  refine r_whileG (α := Int × List Int) (fun g σ H' => σ = [some (.ref d), some (.int x), some (.int y), some (.ref lq), some (.ref cp), some (.ref fp), some (cf g.1)] ∧ Same H H' ∧ H' lq = some (dW T lb) ∧ H' cp = some (dI row cf) ∧ H' fp = some (.lst (g.2.reverse.map V.int)) ∧ g.1 ∈ row ∧ Chn S lb g.1 g.2 (lb y) ∧ dp g.1 + g.2.length = dp (lb y))
    (fun g => dp g.1) (lb y, []) ⟨rfl, s4, e4, e5, e6, hyr, rfl, rfl⟩ ?_
  clear e4 e5 s4 e6 hfp
  rintro ⟨z, l⟩ σ H4 ⟨rfl, s4, e4, e5, e6, hz, ch, ln⟩
  dsimp only at e6 hz ch ln ⊢
  by_cases hza : z = lb x
  · subst hza
    rw [C.root]
    walk_at "go"
    rw [List.reverse_reverse]
    intro p hp
    have le : l.length = dp (lb y) := by omega
    exact k1 hx hy lb l p _ Lb ch (by rw [le]; exact q2 _ hyr) (by omega) (same_new s4 hp) (s4.free hp) upd_same
  · obtain ⟨e, eS, ce, oe, er, de⟩ := C.par z hz hza
    rw [ce]
    walk_at "go"
    rw [if_pos (show (!decide (V.int e = V.non)) = true by rw [decide_eq_false (fun z => by cases z)]; rfl)]
    refine r_wG ?_
    have ll : (l.reverse.map V.int).length < sizeLine := by rw [List.length_map, List.length_reverse]; exact size1000l (by omega)
    have eT := (mT e).mpr eS
    have g1 := at_ne (o := .lst (l.reverse.map V.int ++ [.int e])) e4 nlf
    have g2 := at_ne (o := .lst (l.reverse.map V.int ++ [.int e])) e5 ncf
    have g1' := rd_in g1
    have g2' := rd_in g2
    walk_at "go"
    refine r_app e6 ll ?_
    refine r_asg (r_dgetS (r_var rfl (r_dgetS (r_var rfl (r_var rfl (r_dget g1' eT (r_dget g2' er ?_)))))))
    refine ⟨(lb e, e :: l), ⟨rfl, same_mut s4 ffp, g1, g2, ?_, er, ⟨eS, rfl, by rw [oe]; exact ch⟩, ?_⟩, ?_⟩
    · rw [List.reverse_cons, List.map_append]; exact upd_same
    · show dp (lb e) + (l.length + 1) = _
      omega
    · show dp (lb e) < dp z
      omega
def sp_p_far (G : Gx) : Sp := fun vs H Q E => ∃ (d : Addr) (S : List Int) (nx : Int → Int) (x y : Int), vs = [.ref d, .int x, .int y] ∧ Rd H d (dW S nx) ∧ Web S nx ∧ S.length ≤ 90000 ∧
  (x ∈ S → y ∈ S → ∀ (lb : Int → Int) (n : Nat) H', Lab S nx lb → Dist (nbL nx lb) (lb x) n (lb y) → Same H H' → Q (.int (n : Int)) H') ∧
  (¬ (x ∈ S ∧ y ∈ S) → E (.ref (G.ad "NoEnd")) none H)
theorem len_p_far {G : Gx} : ∀ vs H Q E, sp_p_far G vs H Q E → vs.length = 3 := by rintro vs H Q E ⟨d, S, nx, x, y, rfl, _⟩; rfl
/-! far: slots web, one, two -/
def t_p_far (G : Gx) (E : XK) : TS :=
  (tRet (tCB (rLenSeq G.K) (tCons (tCall (sp_p_road G) [] E (tCons (tVar 0) (tCons (tVar 1) (tCons (tVar 2) tNil)))) tNil)))
theorem pure_p_far {G : Gx} {vs : List V} {H : Hp} {Q : VK} {E : XK} (h : sp_p_far G vs H Q E) : Body (t_p_far G E) ["web", "one", "two"] vs H Q := by
  obtain ⟨d, S, nx, x, y, rfl, hd, W, hl, k1, k2⟩ := h
  show t_p_far G E _ [some (.ref d), some (.int x), some (.int y)] H
  unfold t_p_far
  walk_at "go"
  refine ⟨d, S, nx, x, y, rfl, hd, W, hl, fun hx hy lb l p H' Lb ch di le s f e => ?_, k2⟩
  walk_at "go"
  rw [List.length_map]
  exact k1 hx hy lb _ H' Lb di s
def sp_l_refusals (G : Gx) : Sp := fun vs H Q _ => ∃ (d : Addr) (S : List Int) (nx : Int → Int) (x y : Int), vs = [.ref d, .int x, .int y] ∧ Rd H d (dW S nx) ∧ Web S nx ∧ S.length ≤ 90000 ∧ ¬ (x ∈ S ∧ y ∈ S) ∧ Q (.int 2) H
theorem len_l_refusals {G : Gx} : ∀ vs H Q E, sp_l_refusals G vs H Q E → vs.length = 3 := by rintro vs H Q E ⟨d, S, nx, x, y, rfl, _⟩; rfl
/-! _law_refusals: slots _law_web_here, _law_one, _law_two, _law_found -/
def t_l_refusals (G : Gx) : TS :=
  (tSeq (tAsg (tC (.int 0)) (gName 3))
  (tSeq (tTryM G [("NoEnd", (tAug 3 (tC (.int 1)) ipAdd))] fun W => (tDrop (tCallS (sp_p_road G) (WE W) (tCons (tVar 0) (tCons (tVar 1) (tCons (tVar 2) tNil))))))
  (tSeq (tTryM G [("NoEnd", (tAug 3 (tC (.int 1)) ipAdd))] fun W => (tDrop (tCallS (sp_p_far G) (WE W) (tCons (tVar 0) (tCons (tVar 1) (tCons (tVar 2) tNil))))))
  (tRet (tVar 3)))))
theorem pure_l_refusals {G : Gx} {vs : List V} {H : Hp} {Q : VK} {E : XK} (X : Exm G ["NoEnd"]) (h : sp_l_refusals G vs H Q E) : Body (t_l_refusals G) ["_law_web_here", "_law_one", "_law_two", "_law_found"] vs H Q := by
  obtain ⟨d, S, nx, x, y, rfl, hd, W, hl, hn, k⟩ := h
  show t_l_refusals G _ [some (.ref d), some (.int x), some (.int y), none] H
  unfold t_l_refusals
  walk_at "go"
  unfold tTryM
  walk_at "go"
  refine ⟨d, S, nx, x, y, rfl, hd, W, hl, fun hx hy => absurd ⟨hx, hy⟩ hn, fun _ => ?_⟩
  refine hit X 0 rfl rfl ?_
  walk_at "go"
  refine ⟨d, S, nx, x, y, rfl, hd, W, hl, fun hx hy => absurd ⟨hx, hy⟩ hn, fun _ => ?_⟩
  refine hit X 0 rfl rfl ?_
  walk_at "go"
  exact k
def sp_l_distances (G : Gx) : Sp := fun vs H Q _ => ∃ (d lq : Addr) (S T : List Int) (nx lb : Int → Int) (x : Int), vs = [.ref d, .ref lq, .int x] ∧ Rd H d (dW S nx) ∧ H lq = some (dW T lb) ∧ Map S ot nx ∧ Lab S nx lb ∧ (∀ z, z ∈ T ↔ z ∈ S) ∧ S.length ≤ 90000 ∧ x ∈ S ∧
  ∀ (K : List Int) (dp : Int → Nat) p H', (∀ n z, Wk (nbL nx lb) (lb x) n z → z ∈ K) → (∀ z ∈ K, Dist (nbL nx lb) (lb x) (dp z) z) → Same H H' → Free H p → H' p = some (dW K fun z => (dp z : Int)) → Q (.ref p) H'
theorem len_l_distances {G : Gx} : ∀ vs H Q E, sp_l_distances G vs H Q E → vs.length = 3 := by rintro vs H Q E ⟨d, lq, S, T, nx, lb, x, rfl, _⟩; rfl
theorem fset_dset {dp : Int → Nat} {y : Int} {r : Nat} : fset (fun z => (dp z : Int)) y ((r : Int) + 1) = fun z => ((dset dp y (r + 1) z : Nat) : Int) := funext fun z => by
  unfold fset dset
  by_cases h : z = y
  · rw [if_pos h, if_pos h]; rfl
  · rw [if_neg h, if_neg h]
/-! _law_distances: slots _law_web_here, _law_label_here, _law_end, _law_found, _law_row, _law_rounds, _law_newer, _law_one, _law_at, _law_goal -/
def t_l_distances (G : Gx) : TS :=
  (tSeq (tAsg (tDisp [((tDGet (tVar 1) (tVar 2)), (tC (.int 0)))]) (gName 3))
  (tSeq (tAsg (tLst (tCons (tDGet (tVar 1) (tVar 2)) tNil)) (gName 4))
  (tSeq (tAsg (tC (.int 0)) (gName 5))
  (tSeq (tWhile (tTest (tOp rGtI (tCB (rLenSeq G.K) (tCons (tVar 4) tNil)) (tC (.int 0)))) (tSeq (tAug 5 (tC (.int 1)) ipAdd)
  (tSeq (tAsg (tLst tNil) (gName 6))
  (tSeq (tFor (iList G.K (tVar 4)) (gName 7)
  (tFor (iList G.K (tCall (sp_l_rim G) [] E0 (tCons (tVar 0) (tCons (tVar 7) tNil)))) (gName 8)
  (tSeq (tAsg (tDGet (tVar 1) (tCall (sp_l_other G) [] E0 (tCons (tVar 8) tNil))) (gName 9))
  (tIfS (tB (tDNotIn (tVar 9) (tVar 3))) (tSeq (sDPut (tVar 3) (tVar 9) (tVar 5))
  (tDrop (tBM G.K "list" rAppend (tVar 6) (tCons (tVar 9) tNil)))) tNext))))
  (tAsg (tVar 6) (gName 4))))))
  (tRet (tVar 3))))))
theorem pure_l_distances {G : Gx} {vs : List V} {H : Hp} {Q : VK} {E : XK} (h : sp_l_distances G vs H Q E) : Body (t_l_distances G) ["_law_web_here", "_law_label_here", "_law_end", "_law_found", "_law_row", "_law_rounds", "_law_newer", "_law_one", "_law_at", "_law_goal"] vs H Q := by
  obtain ⟨d, lq, S, T, nx, lb, x, rfl, hd, e1, M, Lb, mT, hl, hx, k⟩ := h
  show t_l_distances G _ [some (.ref d), some (.ref lq), some (.int x), none, none, none, none, none, none, none] H
  unfold t_l_distances
  have xT := (mT x).mpr hx
  walk_at "go"
  refine r_disp1h (k := lb x) (v := .int 0) (fun H' Q' s q => ?_) (fun _ _ q => q) fun fp hfp => ?_
  · have := rd_in (s _ _ e1)
    walk_at "go"
    exact q
  have e2 := at_new (o := dI [lb x] fun _ => .int 0) e1 hfp
  have e2' := rd_in e2
  walk_at "go"
  refine ⟨by walk_at "sz", fun rp0 hrp => ?_⟩
  have nfr : fp ≠ rp0 := ne_fresh upd_same hrp
  have s2 : Same H (upd (upd H fp (dI [lb x] fun _ => .int 0)) rp0 (.lst [.int (lb x)])) := same_new (same_new (Same.refl _) hfp) hrp
  have fr0 : Free H rp0 := (same_new (o := dI [lb x] fun _ => .int 0) (Same.refl H) hfp).free hrp
  have c1 : upd (upd H fp (dI [lb x] fun _ => .int 0)) rp0 (.lst [.int (lb x)]) fp = some (dW [lb x] fun z => ((fun _ => 0 : Int → Nat) z : Int)) := at_ne upd_same nfr
  have c2 : upd (upd H fp (dI [lb x] fun _ => .int 0)) rp0 (.lst [.int (lb x)]) rp0 = some (.lst ([lb x].map V.int)) := upd_same
  generalize upd (upd H fp (dI [lb x] fun _ => .int 0)) rp0 (.lst [.int (lb x)]) = H2 at s2 c1 c2 ⊢
  clear hrp e2 e2'
  have nlf : lq ≠ fp := ne_fresh e1 hfp
  walk_at "go"
  refine r_whileG (α := List Int × (Int → Nat) × Nat × List Int) (fun g σ H' => (∃ rp o6 o7 o8 o9, σ = [some (.ref d), some (.ref lq), some (.int x), some (.ref fp), some (.ref rp), some (.int (g.2.2.1 : Int)), o6, o7, o8, o9] ∧ rp ≠ fp ∧ H' rp = some (.lst (g.2.2.2.map V.int))) ∧ Same H H' ∧ H' fp = some (dW g.1 fun z => (g.2.1 z : Int)) ∧ Lay (nbL nx lb) (lb x) g.1 g.2.1 g.2.2.1 g.2.2.2 ∧ (∀ z ∈ g.1, IsLb S lb z) ∧ g.1.Nodup)
    (fun g => 2 * (S.length - g.1.length) + if g.2.2.2 = [] then 0 else 1) ([lb x], fun _ => 0, 0, [lb x]) ⟨⟨_, _, _, _, _, rfl, Ne.symm nfr, c2⟩, s2, c1, Lay.init, fun z hz => by rw [List.mem_singleton.mp hz]; exact lb_is M Lb hx, List.pairwise_singleton _ _⟩ ?_
  clear c1 c2 s2
  rintro ⟨K, dp, r, row⟩ σ H3 ⟨⟨rp, o6, o7, o8, o9, rfl, nrf, c2⟩, s3, c1, L, isl, nd⟩
  dsimp only at c1 c2 L isl nd ⊢
  walk_at "go"
  rw [List.length_map]
  have Kl : K.length ≤ S.length := sub_len nd fun z hz => (isl z hz).1
  refine iteD (fun h => ?_) (fun h => ?_)
  · refine r_wG ?_
    have rne : row ≠ [] := fun z => by rw [z] at h; exact absurd h (by decide)
    walk_at "go"
    refine ⟨by walk_at "sz", fun np hnp => ?_⟩
    have nnf : np ≠ fp := ne_fresh' c1 hnp
    have nnr : np ≠ rp := ne_fresh' c2 hnp
    have fnp : Free H np := s3.free hnp
    have c1' := at_new (o := .lst []) c1 hnp
    have c2' := at_new (o := .lst []) c2 hnp
    have s3' := same_new (o := .lst []) s3 hnp
    have c4 : upd H3 np (.lst []) np = some (.lst (([] : List Int).map V.int)) := upd_same
    generalize upd H3 np (.lst []) = H4 at c1' c2' s3' c4 ⊢
    clear c1 c2 s3 hnp
    walk_at "go"
    refine r_forI (SqL.of c2') (fun pre post σ H' => ∃ (o7 o8 o9 : Option V) (K' : List Int) (dp' : Int → Nat) (new : List Int), σ = [some (.ref d), some (.ref lq), some (.int x), some (.ref fp), some (.ref rp), some (.int ((r : Int) + 1)), some (.ref np), o7, o8, o9] ∧ Same H H' ∧ H' fp = some (dW K' fun z => (dp' z : Int)) ∧ H' rp = some (.lst (row.map V.int)) ∧ H' np = some (.lst (new.map V.int)) ∧ LayIn (nbL nx lb) (lb x) K' dp' r row new ∧ (∀ z ∈ K', IsLb S lb z) ∧ K'.Nodup ∧ K'.length = K.length + new.length ∧ ∀ u ∈ pre, ∀ y ∈ nbL nx lb u, y ∈ K')
      ⟨_, _, _, K, dp, [], rfl, s3', c1', c2', c4, L.go, isl, nd, rfl, fun u hu => absurd hu List.not_mem_nil⟩ (fun _ _ _ _ _ ⟨_, _, _, _, _, _, _, _, _, e, _⟩ => SqL.of e) ?_ ?_
    · rintro pre u post σ H5 eu ⟨o7, o8, o9, K', dp', new, rfl, s5, d1, d2, d3, LI, isl', nd', kl, al⟩
      have hu : u ∈ row := by rw [eu]; exact List.mem_append.mpr (.inr List.mem_cons_self)
      obtain ⟨uK, _⟩ := (LI.row u).mp hu
      obtain ⟨uS, ue⟩ := isl' u uK
      walk_at "go"
      refine ⟨d, S, nx, u, rfl, same_rd s5 hd, M, uS, by omega, fun n q H6 per s6 f6 e6 => ?_⟩
      rw [← rimL_eq per] at e6
      have nqf : q ≠ fp := ne_fresh' d1 f6
      have nqn : q ≠ np := ne_fresh' d3 f6
      refine r_forI (SqL.of e6) (fun pre2 post2 σ H' => ∃ (o8 o9 : Option V) (K' : List Int) (dp' : Int → Nat) (new : List Int), σ = [some (.ref d), some (.ref lq), some (.int x), some (.ref fp), some (.ref rp), some (.int ((r : Int) + 1)), some (.ref np), some (.int u), o8, o9] ∧ Same H H' ∧ H' q = some (.lst ((rimL (face ot nx) u).map V.int)) ∧ H' fp = some (dW K' fun z => (dp' z : Int)) ∧ H' rp = some (.lst (row.map V.int)) ∧ H' np = some (.lst (new.map V.int)) ∧ LayIn (nbL nx lb) (lb x) K' dp' r row new ∧ (∀ z ∈ K', IsLb S lb z) ∧ K'.Nodup ∧ K'.length = K.length + new.length ∧ (∀ u ∈ pre, ∀ y ∈ nbL nx lb u, y ∈ K') ∧ ∀ y ∈ pre2, lb (ot y) ∈ K')
        ⟨_, _, K', dp', new, rfl, s5.trans s6, e6, s6 _ _ d1, s6 _ _ d2, s6 _ _ d3, LI, isl', nd', kl, al, fun y hy => absurd hy List.not_mem_nil⟩ (fun _ _ _ _ _ ⟨_, _, _, _, _, _, _, e, _⟩ => SqL.of e) ?_ ?_
      · clear d1 d2 d3 LI isl' nd' kl al uK
        rintro pre2 y post2 σ H7 ey ⟨o8, o9, K', dp', new, rfl, s7, e7, d1, d2, d3, LI, isl', nd', kl, al, al2⟩
        have hy : y ∈ rimL (face ot nx) u := by rw [ey]; exact List.mem_append.mpr (.inr List.mem_cons_self)
        have yS := rimL_sub M.perm uS hy
        have oT : ot y ∈ T := (mT _).mpr (M.ca _ yS)
        have Kl' : K'.length ≤ S.length := sub_len nd' fun z hz => (isl' z hz).1
        have c3' := rd_in (s7 _ _ e1)
        have d1' := rd_in d1
        walk_at "go"
        refine iteN (fun hn => ?_) (fun he => ?_)
        · have lr : (new.map V.int).length < sizeLine := by rw [List.length_map]; exact size1000l (by omega)
          walk_at "go"
          rw [show putS K' (lb (ot y)) = K' ++ [lb (ot y)] from if_neg hn, fset_dset]
          have g1 := at_ne (o := dW (K' ++ [lb (ot y)]) fun z => ((dset dp' (lb (ot y)) (r + 1) z : Nat) : Int)) e7 nqf
          have g2 := at_ne (o := dW (K' ++ [lb (ot y)]) fun z => ((dset dp' (lb (ot y)) (r + 1) z : Nat) : Int)) d2 nrf
          have g4 := same_mut (o := dW (K' ++ [lb (ot y)]) fun z => ((dset dp' (lb (ot y)) (r + 1) z : Nat) : Int)) s7 hfp
          have g5 : upd H7 fp (dW (K' ++ [lb (ot y)]) fun z => ((dset dp' (lb (ot y)) (r + 1) z : Nat) : Int)) fp = some (dW (K' ++ [lb (ot y)]) fun z => ((dset dp' (lb (ot y)) (r + 1) z : Nat) : Int)) := upd_same
          refine ⟨_, _, K' ++ [lb (ot y)], _, new ++ [lb (ot y)], rfl, same_mut g4 fnp, at_ne g1 nqn, at_ne g5 (Ne.symm nnf), at_ne g2 (Ne.symm nnr), by rw [List.map_append]; exact upd_same, LI.push hu (List.mem_map.mpr ⟨y, hy, rfl⟩) hn, fun z hz => ?_, List.nodup_append.mpr ⟨nd', List.pairwise_singleton _ _, fun z hz w hw e => hn (by rw [← List.mem_singleton.mp hw, ← e]; exact hz)⟩, by rw [List.length_append, List.length_append, kl, List.length_singleton]; omega, fun v hv w hw => List.mem_append.mpr (.inl (al v hv w hw)), fun z hz => ?_⟩
          · rcases List.mem_append.mp hz with z1 | z1
            · exact isl' z z1
            · rw [List.mem_singleton.mp z1]; exact lb_is M Lb (M.ca _ yS)
          · rcases List.mem_append.mp hz with z1 | z1
            · exact List.mem_append.mpr (.inl (al2 z z1))
            · rw [List.mem_singleton.mp z1]; exact List.mem_append.mpr (.inr List.mem_cons_self)
        · walk_at "go"
          refine ⟨_, _, K', dp', new, rfl, s7, e7, d1, d2, d3, LI, isl', nd', kl, al, fun z hz => ?_⟩
          rcases List.mem_append.mp hz with z1 | z1
          · exact al2 z z1
          · rw [List.mem_singleton.mp z1]; exact he
      · clear d1 d2 d3 LI isl' nd' kl al uK
        rintro σ H7 ⟨o8, o9, K', dp', new, rfl, s7, e7, d1, d2, d3, LI, isl', nd', kl, al, al2⟩
        refine ⟨_, _, _, K', dp', new, rfl, s7, d1, d2, d3, LI, isl', nd', kl, fun v hv w hw => ?_⟩
        rcases List.mem_append.mp hv with z1 | z1
        · exact al v z1 w hw
        · rw [List.mem_singleton.mp z1] at hw
          obtain ⟨y, hy, rfl⟩ := List.mem_map.mp hw
          exact al2 y hy
    · rintro σ H5 ⟨o7, o8, o9, K', dp', new, rfl, s5, d1, d2, d3, LI, isl', nd', kl, al⟩
      have Kl' : K'.length ≤ S.length := sub_len nd' fun z hz => (isl' z hz).1
      walk_at "go"
      refine ⟨(K', dp', r + 1, new), ⟨⟨_, _, _, _, _, rfl, nnf, d3⟩, s5, d1, LI.next al, isl', nd'⟩, ?_⟩
      show 2 * (S.length - K'.length) + (if new = [] then 0 else 1) < 2 * (S.length - K.length) + if row = [] then 0 else 1
      rw [if_neg rne]
      by_cases z : new = []
      · rw [if_pos z]
        rw [z, List.length_nil] at kl
        omega
      · rw [if_neg z]
        have := List.length_pos_iff.mpr z
        omega
  · have re : row = [] := by
      cases row with
      | nil => rfl
      | cons a t => exact absurd (by rw [List.length_cons]; omega) h
    subst re
    walk_at "go"
    obtain ⟨q1, q2⟩ := L.all
    exact k K dp fp H3 q1 q2 s3 hfp c1

/-! K56 -/
theorem iteNS {b : Bool} {A B : Prop} {x : V} (hb : b = true) (h : B) : if (!decide (V.bl b = V.bl true)) = true then A else B := by subst hb; exact iteN (fun z => absurd rfl z) (fun _ => h)
theorem iteNIe {a b : Int} {A B : Prop} (e : a = b) (h : B) : if (!decide (V.int a = V.int b)) = true then A else B := iteNI (fun z => absurd e z) (fun _ => h)
theorem iteNDe {c : Prop} [Decidable c] {A B : Prop} (e : c) (h : B) : if (!decide c) = true then A else B := iteN (fun z => absurd e z) (fun _ => h)
/-! law: slots _law_script, _law_web_here, _law_label_here, _law_ends, _law_handed, _law_k, _law_pick, _law_spot, _law_same, _law_one, _law_two, _law_due, _law_found, _law_at, _law_end, _law_told, _law_back, _law_gone -/
def t_p_law (G : Gx) : TS :=
  (tSeq (tAsg (tCall (sp_l_drawn_web G) [] E0 (tCons (tVar 0) (tCons (tC (.int 24)) tNil))) (gName 1))
  (tSeq (tAsg (tCall (sp_l_label G) [] E0 (tCons (tVar 1) tNil)) (gName 2))
  (tSeq (tAsg (tCB (rSortedI G.K) (tCons (tCB rListRd (tCons (tVar 1) tNil)) tNil)) (gName 3))
  (tSeq (tAsg (tCB rDictRd (tCons (tVar 1) tNil)) (gName 4))
  (tSeq (tFor (iRng1 (tCons (tC (.int 6)) tNil)) (gName 5)
  (tSeq (tAsg (tCall (sp_l_digits G) [] E0 (tCons (tCall (sp_l_cell G) [] E0 (tCons (tVar 0) (tCons (tOp rAddI (tC (.int 26)) (tVar 5)) tNil))) (tCons (tLst (tCons (tC (.int 4001)) (tCons (tC (.int 4003)) (tCons (tC (.int 5)) tNil)))) tNil))) (gUnl G.K 3 (gCons (gName 6) (gCons (gName 7) (gCons (gName 8) gNil)))))
  (tSeq (tPar 9 10 (tCons (tOp (rIxL G.K) (tVar 3) (tOp rModI (tVar 6) (tCB (rLenSeq G.K) (tCons (tVar 3) tNil)))) (tCons (tOp (rIxL G.K) (tVar 3) (tOp rModI (tVar 7) (tCB (rLenSeq G.K) (tCons (tVar 3) tNil)))) tNil)))
  (tCut (tIfS (tTest (tOp rEq (tVar 8) (tC (.int 0)))) (tAsg (tOp (rIxL G.K) (tCall (sp_l_rim G) [] E0 (tCons (tVar 1) (tCons (tVar 9) tNil))) (tOp rModI (tVar 7) (tCB (rLenSeq G.K) (tCons (tCall (sp_l_rim G) [] E0 (tCons (tVar 1) (tCons (tVar 9) tNil))) tNil)))) (gName 10)) tNext)
  (tSeq (tAsg (tDGet2 (tCall (sp_l_distances G) [] E0 (tCons (tVar 1) (tCons (tVar 2) (tCons (tVar 9) tNil)))) (tDGet (tVar 2) (tVar 10)) (tUn rNegI (tC (.int 1)))) (gName 11))
  (tSeq (tAsg (tCall (sp_p_road G) [] E0 (tCons (tVar 4) (tCons (tVar 9) (tCons (tVar 10) tNil)))) (gName 12))
  (tSeq (tIfS (tOr (tNot (tB (tCB (rIsi G.K) (tCons (tVar 12) (tCons (tC (.ty "list")) tNil))))) (tTest (tOp rNe (tCB (rLenSeq G.K) (tCons (tVar 12) tNil)) (tVar 11)))) (tRet (tC (.bl false))) tNext)
  (tSeq (tAsg (tDGet (tVar 2) (tVar 9)) (gName 13))
  (tSeq (tFor (iList G.K (tVar 12)) (gName 14)
  (tSeq (tIfS (tOr (tNot (tB (tCall (sp_l_whole G) [] E0 (tCons (tVar 14) tNil)))) (tOr (tB (tDNotIn (tVar 14) (tVar 1))) (tTest (tOp rNe (tDGet (tVar 2) (tVar 14)) (tVar 13))))) (tRet (tC (.bl false))) tNext)
  (tAsg (tDGet (tVar 2) (tCall (sp_l_other G) [] E0 (tCons (tVar 14) tNil))) (gName 13))))
  (tSeq (tDrop (tBM G.K "list" rAppend (tVar 12) (tCons (tVar 13) tNil)))
  (tSeq (tPar 15 16 (tCons (tCall (sp_p_far G) [] E0 (tCons (tVar 4) (tCons (tVar 9) (tCons (tVar 10) tNil)))) (tCons (tCall (sp_p_far G) [] E0 (tCons (tVar 4) (tCons (tVar 10) (tCons (tVar 9) tNil)))) tNil)))
  (tIfS (tOr (tTest (tOp rNe (tVar 13) (tDGet (tVar 2) (tVar 10)))) (tOr (tNot (tB (tCall (sp_l_whole G) [] E0 (tCons (tVar 15) tNil)))) (tOr (tTest (tOp rNe (tVar 15) (tVar 11))) (tTest (tOp rNe (tVar 16) (tVar 11)))))) (tRet (tC (.bl false))) tNext))))))))))))
  (tSeq (tAsg (tOp rMulI (tC (.int 2)) (tCall (sp_l_free G) [] E0 (tCons (tVar 1) tNil))) (gName 17))
  (tSeq (tIfS (tOr (tTest (tOp rNe (tCall (sp_l_refusals G) [] E0 (tCons (tVar 4) (tCons (tVar 17) (tCons (tOp (rIxL G.K) (tVar 3) (tC (.int 0))) tNil)))) (tC (.int 2)))) (tTest (tOp rNe (tCall (sp_l_refusals G) [] E0 (tCons (tVar 4) (tCons (tOp (rIxL G.K) (tVar 3) (tC (.int 0))) (tCons (tUn rNegI (tC (.int 1))) tNil)))) (tC (.int 2))))) (tRet (tC (.bl false))) tNext)
  (tRet (tAndV (tOp rEq (tCall (sp_l_refusals G) [] E0 (tCons (tVar 4) (tCons (tVar 17) (tCons (tVar 17) tNil)))) (tC (.int 2))) (tCall (sp_l_is_web G) [] E0 (tCons (tVar 4) (tCons (tVar 1) tNil))))))))))))
theorem pure_p_law {G : Gx} {vs : List V} {H : Hp} {Q : VK} {E : XK} (h : spLaw G vs H Q E) : Body (t_p_law G) ["_law_script", "_law_web_here", "_law_label_here", "_law_ends", "_law_handed", "_law_k", "_law_pick", "_law_spot", "_law_same", "_law_one", "_law_two", "_law_due", "_law_found", "_law_at", "_law_end", "_law_told", "_law_back", "_law_gone"] vs H Q := by
  obtain ⟨a, ns, rfl, hS, hl, k⟩ := h
  show t_p_law G _ [some (.ref a), none, none, none, none, none, none, none, none, none, none, none, none, none, none, none, none, none] H
  unfold t_p_law
  walk_at "go"
  refine ⟨a, ns, 24, rfl, by decide, hS, hl, fun p S nx H1 s1 e1 W lt sl => ?_⟩
  have M := W.map
  have Pm := M.perm
  have sl9 : S.length ≤ 90000 := by omega
  walk_at "go"
  refine ⟨p, S, nx, rfl, rd_in e1, M, sl9, fun lb T lq H2 Lb mT s2 f2 e2 => ?_⟩
  have e3 := s2 _ _ e1
  have s3 := s1.trans s2
  walk_at "go"
  intro l hl0
  walk_at "go"
  refine r_sorted (SqL.of upd_same) fun es lr hp1 hp2 hlr => ?_
  have nes : es ≠ [] := fun z => W.ne (by rw [z] at hp1; exact List.nil_perm.mp hp1)
  have s4 : Same H2 (upd (upd H2 l (.lst (S.map V.int))) lr (.lst (es.map V.int))) := by walk_at "sm"
  have e4 : (upd (upd H2 l (.lst (S.map V.int))) lr (.lst (es.map V.int))) lr = some (.lst (es.map V.int)) := upd_same
  generalize upd (upd H2 l (.lst (S.map V.int))) lr (.lst (es.map V.int)) = H3 at s4 e4 ⊢
  clear hl0 hlr
  have e5 := s4 _ _ e3
  have e6 := s4 _ _ e2
  have e5' := rd_in e5
  have s5 := s3.trans s4
  walk_at "go"
  intro hd hhd
  have s6 := same_new (o := dW S nx) s5 hhd
  have e7 := at_new (o := dW S nx) e5 hhd
  have e8 := at_new (o := dW S nx) e6 hhd
  have e9 := at_new (o := dW S nx) e4 hhd
  have e10 : upd H3 hd (dW S nx) hd = some (dW S nx) := upd_same
  have nph : p ≠ hd := ne_fresh e5 hhd
  generalize upd H3 hd (dW S nx) = H4 at s6 e7 e8 e9 e10 ⊢
  have hS4 := lst_same s6 hS
  clear s6 hhd e5' e5 e6 s5 s4 e4 s3 e3 s2 s1 f2 e2 e1 hS
  obtain ⟨e0, he0⟩ : ∃ e, es[0]? = some e := by
    cases es with
    | nil => exact absurd rfl nes
    | cons a t => exact ⟨a, rfl⟩
  have e0S : e0 ∈ S := hp1.subset (List.mem_of_getElem? he0)
  walk_at "go"
  refine r_rng (by decide) (by decide) ?_
  refine r_it walk_range (fun i σ H' => (∃ o5 o6 o7 o8 o9 o10 o11 o12 o13 o14 o15 o16, σ = [some (.ref a), some (.ref p), some (.ref lq), some (.ref lr), some (.ref hd), o5, o6, o7, o8, o9, o10, o11, o12, o13, o14, o15, o16, none]) ∧ Same H4 H') ⟨⟨_, _, _, _, _, _, _, _, _, _, _, _, rfl⟩, Same.refl _⟩ (fun _ _ _ _ _ => trivial) (fun i v σ H5 H6 hi ⟨⟨o5, o6, o7, o8, o9, o10, o11, o12, o13, o14, o15, o16, es1⟩, s1⟩ ⟨q2, q3⟩ => ?_) (fun σ H5 ⟨⟨o5, o6, o7, o8, o9, o10, o11, o12, o13, o14, o15, o16, es1⟩, s1⟩ => ?_)
  · subst es1 q2 q3
    walk_at "go"
    refine ⟨by walk_at "sz", fun t1 h1 => ?_⟩
    walk_at "go"
    refine c_digits3 (by walk_at "sq") (by decide) (by decide) (by decide) (fun d0 d1 d2 q H7 ed a0 b0 a1 b1 a2 b2 s2 hq e2 => ?_)
    refine g_unl (SqL.of e2) rfl ?_
    have s3 : Same H4 H7 := s1.trans (same_tr s2 (same_new (Same.refl _) h1))
    clear s1 s2 h1 hq e2 ed
    have g3 := s3 _ _ e9
    obtain ⟨x, hx, at0⟩ := at_mod nes d0
    obtain ⟨y, hy, at1⟩ := at_mod nes d1
    have xS : x ∈ S := hp1.subset hx
    have yS : y ∈ S := hp1.subset hy
    walk_at "go"
    refine r_I (by show (0 : Int) < _; rw [List.length_map]; have := List.length_pos_iff.mpr nes; omega) ?_
    refine r_ixL (SqL.of g3) at0 ?_
    walk_at "go"
    refine r_I (by show (0 : Int) < _; rw [List.length_map]; have := List.length_pos_iff.mpr nes; omega) ?_
    refine r_ixL (SqL.of g3) at1 ?_
    walk_at "go"
    refine r_cut (fun σ H' => ∃ y ∈ S, σ = [some (.ref a), some (.ref p), some (.ref lq), some (.ref lr), some (.ref hd), some (.int (0 + (i : Int))), some (.int d0), some (.int d1), some (.int d2), some (.int x), some (.int y), o11, o12, o13, o14, o15, o16, none] ∧ Same H4 H') ?_ ?_
    · walk_at "go"
      refine iteI (fun h => ?_) (fun h => ?_)
      · walk_at "go"
        refine ⟨p, S, nx, x, rfl, rd_in (s3 _ _ e7), M, xS, by omega, fun n q H8 per s4 f4 e4 => ?_⟩
        rw [← rimL_eq per] at e4
        have ne4 := rimL_ne Pm xS
        obtain ⟨z, hz, at2⟩ := at_mod ne4 d1
        walk_at "go"
        refine ⟨p, S, nx, x, rfl, rd_in (s4 _ _ (s3 _ _ e7)), M, xS, by omega, fun n2 q2 H9 per2 s5 f5 e5 => ?_⟩
        rw [← rimL_eq per2] at e5
        walk_at "go"
        refine r_I (by show (0 : Int) < _; rw [List.length_map]; have := List.length_pos_iff.mpr ne4; omega) ?_
        refine r_ixL (SqL.of (s5 _ _ e4)) at2 ?_
        exact ⟨z, rimL_sub Pm xS hz, rfl, (s3.trans s4).trans s5⟩
      · walk_at "go"
        exact ⟨y, yS, rfl, s3⟩
    clear s3 g3 at1 hy yS y at0 hx
    rintro σ H8 ⟨y, yS, rfl, s1⟩
    have g1 := s1 _ _ e7
    have g2 := s1 _ _ e8
    have g4 := s1 _ _ e10
    refine r_seq (r_asg (r_dget2 ?_))
    walk_at "go"
    refine ⟨p, lq, S, T, nx, lb, x, rfl, rd_in g1, g2, M, Lb, mT, sl9, xS, fun K dp fp H9 q1 q2 s2 f2 e2 => ?_⟩
    obtain ⟨n0, hn0⟩ := wk_conn W Lb xS yS
    have yK := q1 _ _ hn0
    have dd := q2 _ yK
    have g2' := rd_in (s2 _ _ g2)
    have yT := (mT y).mpr yS
    have xT := (mT x).mpr xS
    refine ⟨fp, rfl, isD_I (rd_in e2), ?_⟩
    walk_at "go"
    refine ⟨some (.int (dp (lb y) : Int)), .inl ⟨_, Sum.inl (lb y), rd_in e2, rfl, (valV_in (f := fun z => .int (dp z : Int)) yK).symm⟩, ?_⟩
    have s3 := s1.trans s2
    clear g2' g2 g1 g4 s1 s2
    have g1 := s3 _ _ e7
    have g2 := s3 _ _ e8
    have g4 := s3 _ _ e10
    generalize hD : dp (lb y) = D at dd ⊢
    clear q1 q2 hn0 yK e2 f2 hD
    dsimp only [Option.getD]
    walk_at "go"
    refine ⟨hd, S, nx, x, y, rfl, rd_in g4, W, sl9, fun _ _ lb' l fo H10 Lb' ch di ll s4 f4 e4 => ?_, fun z => absurd ⟨xS, yS⟩ z⟩
    rw [Lb'.one Lb (List.Perm.refl _)] at ch di
    clear Lb' lb'
    have el : l.length = D := di.one dd
    have s5 := s3.trans s4
    have ffo : Free H4 fo := s3.free f4
    walk_at "go"
    rw [List.length_map]
    refine iteNIe (by rw [el]) ?_
    have g2' := rd_in (s5 _ _ e8)
    walk_at "go"
    have chS : ∀ (l : List Int) (u v : Int), Chn S lb u l v → ∀ e ∈ l, e ∈ S := fun l => by
      induction l with
      | nil => exact fun _ _ _ e he => absurd he List.not_mem_nil
      | cons a t ih =>
        intro u v ⟨h1, h2, h3⟩ e he
        rcases List.mem_cons.mp he with rfl | he
        · exact h1
        · exact ih _ _ h3 e he
    refine r_forI (SqL.of e4) (fun pre post σ H' => ∃ (o14 : Option V) (u : Int), σ = [some (.ref a), some (.ref p), some (.ref lq), some (.ref lr), some (.ref hd), some (.int (0 + (i : Int))), some (.int d0), some (.int d1), some (.int d2), some (.int x), some (.int y), some (.int (D : Int)), some (.ref fo), some (.int u), o14, o15, o16, none] ∧ H' = H10 ∧ Chn S lb u post (lb y))
      ⟨_, lb x, rfl, rfl, ch⟩ (fun _ _ _ _ _ ⟨_, _, _, e, _⟩ => by rw [e]; exact SqL.of e4) ?_ ?_
    · rintro pre e post σ H11 ee ⟨o14', u, rfl, rfl, eS, eu, cr⟩
      have eT := (mT e).mpr eS
      have oT := (mT _).mpr (M.ca _ eS)
      have g1' := rd_in (s5 _ _ e7)
      walk_at "go"
      refine iteNDe eS ?_
      walk_at "go"
      refine iteNIe eu ?_
      walk_at "go"
      exact ⟨_, _, rfl, rfl, cr⟩
    rintro σ H11 ⟨o14', u, rfl, rfl, cu⟩
    cases cu
    have ls : (l.map V.int).length < sizeLine := by rw [List.length_map]; exact size1000l (by omega)
    walk_at "go"
    have s6 := same_mut (o := .lst (l.map V.int ++ [.int (lb y)])) s5 ffo
    generalize upd H11 fo (.lst (l.map V.int ++ [.int (lb y)])) = H12 at s6 ⊢
    refine ⟨hd, S, nx, x, y, rfl, rd_in (s6 _ _ e10), W, sl9, fun _ _ lb' m H13 Lb' dm s7 => ?_, fun z => absurd ⟨xS, yS⟩ z⟩
    rw [Lb'.one Lb (List.Perm.refl _)] at dm
    cases dm.one dd
    clear Lb' lb'
    have s8 := s6.trans s7
    walk_at "go"
    refine ⟨hd, S, nx, y, x, rfl, rd_in (s8 _ _ e10), W, sl9, fun _ _ lb' m2 H14 Lb' dm2 s9 => ?_, fun z => absurd ⟨yS, xS⟩ z⟩
    rw [Lb'.one Lb (List.Perm.refl _)] at dm2
    cases dm2.one (dd.rev (nb_cl M Lb) (lb_is M Lb xS))
    have s10 := s8.trans s9
    have g2' := rd_in (s10 _ _ e8)
    walk_at "go"
    exact ⟨⟨_, _, _, _, _, _, _, _, _, _, _, _, rfl⟩, s10⟩
  · subst es1
    have g1 := s1 _ _ e7
    have g4 := s1 _ _ e10
    have g3 := s1 _ _ e9
    walk_at "go"
    refine ⟨p, S, nx, rfl, rd_in g1, W.ne, fun m H8 hm hm2 s3 => ?_⟩
    have n2 : 2 * (1 + m / 2) ∉ S := fun z => by have := hm2 _ z; omega
    have n1 : (-1 : Int) ∉ S := fun z => by have := W.pos _ z; omega
    have at0 : atI (es.map V.int) 0 = some (.int e0) := atI_nat (j := 0) (by rw [List.getElem?_map, he0]; rfl)
    have g3' := s3 _ _ g3
    have g4' := s3 _ _ g4
    walk_at "go"
    refine r_ixL (SqL.of g3') at0 ?_
    walk_at "go"
    refine ⟨hd, S, nx, _, _, rfl, rd_in g4', W, sl9, fun z => n2 z.1, ?_⟩
    walk_at "go"
    refine r_ixL (SqL.of g3') at0 ?_
    walk_at "go"
    refine ⟨hd, S, nx, _, _, rfl, rd_in g4', W, sl9, fun z => n1 z.2, ?_⟩
    walk_at "go"
    refine ⟨hd, S, nx, _, _, rfl, rd_in g4', W, sl9, fun z => n2 z.1, ?_⟩
    walk_at "go"
    refine ⟨hd, p, S, S, nx, nx, rfl, g4', s3 _ _ g1, Ne.symm nph, rfl, by omega, fun x hx => ⟨hx, rfl⟩, fun H10 s5 => ?_⟩
    exact k _

def topS (i : Nat) : Stmt := PySem.Challenge.pw_frothwane_k56_whole_the_fewest_films.main.body.getD i (.Pass ⟨0, 0, 0, 0⟩)
abbrev s_l_seed : Stmt := topS 13
abbrev s_l_digits : Stmt := topS 14
abbrev s_l_renumbered : Stmt := topS 15
abbrev s_l_cell : Stmt := topS 16
abbrev s_l_seat : Stmt := topS 17
abbrev s_l_comb : Stmt := topS 18
abbrev s_l_other : Stmt := topS 19
abbrev s_l_rim : Stmt := topS 20
abbrev s_l_rims : Stmt := topS 21
abbrev s_l_corner : Stmt := topS 22
abbrev s_l_loop : Stmt := topS 23
abbrev s_l_push : Stmt := topS 24
abbrev s_l_one_bubble : Stmt := topS 25
abbrev s_l_mended : Stmt := topS 26
abbrev s_l_without : Stmt := topS 27
abbrev s_l_blow : Stmt := topS 28
abbrev s_l_part : Stmt := topS 29
abbrev s_l_step : Stmt := topS 30
abbrev s_l_web : Stmt := topS 31
abbrev s_l_drawn_web : Stmt := topS 32
abbrev s_l_label : Stmt := topS 33
abbrev s_l_distances : Stmt := topS 34
abbrev s_p_other : Stmt := topS 4
abbrev s_p_rim : Stmt := topS 5
abbrev s_p_rims : Stmt := topS 6
abbrev s_p_least_ends : Stmt := topS 8
abbrev s_p_ways : Stmt := topS 9
abbrev s_p_road : Stmt := topS 10
abbrev s_l_whole : Stmt := topS 35
abbrev s_p_far : Stmt := topS 11
abbrev s_l_free : Stmt := topS 36
abbrev s_l_refusals : Stmt := topS 37
abbrev s_l_is_web : Stmt := topS 38
abbrev s_p_law : Stmt := topS 39
theorem sc_l_seed : FnScope ["_law_cell_here", "_law_one", "_law_two"] ["_law_cell_here"] (defScope s_l_seed) := ⟨rfl, rfl, rfl, by decide +kernel, rfl, by decide +kernel, by decide +kernel⟩
theorem sc_l_digits : FnScope ["_law_cell_here", "_law_sizes", "_law_rest", "_law_found", "_law_k", "_law_size"] ["_law_cell_here", "_law_sizes"] (defScope s_l_digits) := ⟨rfl, rfl, rfl, by decide +kernel, rfl, by decide +kernel, by decide +kernel⟩
theorem sc_l_renumbered : FnScope ["_law_web_here", "_law_cell_here", "_law_kind", "_law_by", "_law_turn", "_law_goal", "_law_end", "_law_new", "_law_made"] ["_law_web_here", "_law_cell_here"] (defScope s_l_renumbered) := ⟨rfl, rfl, rfl, by decide +kernel, rfl, by decide +kernel, by decide +kernel⟩
theorem sc_l_cell : FnScope ["_law_script", "_law_place"] ["_law_script", "_law_place"] (defScope s_l_cell) := ⟨rfl, rfl, rfl, by decide +kernel, rfl, by decide +kernel, by decide +kernel⟩
theorem sc_l_seat : FnScope ["_law_web_here", "_law_ends", "_law_k"] ["_law_web_here", "_law_ends"] (defScope s_l_seat) := ⟨rfl, rfl, rfl, by decide +kernel, rfl, by decide +kernel, by decide +kernel⟩
theorem sc_l_comb : FnScope ["_law_rows", "_law_cols", "_law_web_here", "_law_k", "_law_row", "_law_col", "_law_left", "_law_above"] ["_law_rows", "_law_cols"] (defScope s_l_comb) := ⟨rfl, rfl, rfl, by decide +kernel, rfl, by decide +kernel, by decide +kernel⟩
theorem sc_l_other : FnScope ["_law_end"] ["_law_end"] (defScope s_l_other) := ⟨rfl, rfl, rfl, by decide +kernel, rfl, by decide +kernel, by decide +kernel⟩
theorem sc_l_rim : FnScope ["_law_web_here", "_law_end", "_law_found", "_law_k", "_law_at"] ["_law_web_here", "_law_end"] (defScope s_l_rim) := ⟨rfl, rfl, rfl, by decide +kernel, rfl, by decide +kernel, by decide +kernel⟩
theorem sc_l_rims : FnScope ["_law_web_here", "_law_found", "_law_passed", "_law_end", "_law_at"] ["_law_web_here"] (defScope s_l_rims) := ⟨rfl, rfl, rfl, by decide +kernel, rfl, by decide +kernel, by decide +kernel⟩
theorem sc_l_corner : FnScope ["_law_web_here", "_law_end"] ["_law_web_here", "_law_end"] (defScope s_l_corner) := ⟨rfl, rfl, rfl, by decide +kernel, rfl, by decide +kernel, by decide +kernel⟩
theorem sc_l_loop : FnScope ["_law_web_here", "_law_film"] ["_law_web_here", "_law_film"] (defScope s_l_loop) := ⟨rfl, rfl, rfl, by decide +kernel, rfl, by decide +kernel, by decide +kernel⟩
theorem sc_l_push : FnScope ["_law_web_here", "_law_film", "_law_back", "_law_e", "_law_a", "_law_b", "_law_o", "_law_c", "_law_d", "_law_made"] ["_law_web_here", "_law_film", "_law_back"] (defScope s_l_push) := ⟨rfl, rfl, rfl, by decide +kernel, rfl, by decide +kernel, by decide +kernel⟩
theorem sc_l_one_bubble : FnScope ["_law_web_here", "_law_film"] ["_law_web_here", "_law_film"] (defScope s_l_one_bubble) := ⟨rfl, rfl, rfl, by decide +kernel, rfl, by decide +kernel, by decide +kernel⟩
theorem sc_l_mended : FnScope ["_law_web_here", "_law_end", "_law_left", "_law_x", "_law_y", "_law_gone", "_law_made", "_law_at", "_law_goal"] ["_law_web_here", "_law_end"] (defScope s_l_mended) := ⟨rfl, rfl, rfl, by decide +kernel, rfl, by decide +kernel, by decide +kernel⟩
theorem sc_l_without : FnScope ["_law_web_here", "_law_film", "_law_left", "_law_made", "_law_at", "_law_third"] ["_law_web_here", "_law_film"] (defScope s_l_without) := ⟨rfl, rfl, rfl, by decide +kernel, rfl, by decide +kernel, by decide +kernel⟩
theorem sc_l_blow : FnScope ["_law_web_here", "_law_end", "_law_first", "_law_e", "_law_a", "_law_b", "_law_made", "_law_new"] ["_law_web_here", "_law_end", "_law_first"] (defScope s_l_blow) := ⟨rfl, rfl, rfl, by decide +kernel, rfl, by decide +kernel, by decide +kernel⟩
theorem sc_l_part : FnScope ["_law_web_here", "_law_one", "_law_two", "_law_first", "_law_made", "_law_new", "_law_p", "_law_half", "_law_away", "_law_x", "_law_y"] ["_law_web_here", "_law_one", "_law_two", "_law_first"] (defScope s_l_part) := ⟨rfl, rfl, rfl, by decide +kernel, rfl, by decide +kernel, by decide +kernel⟩
theorem sc_l_step : FnScope ["_law_web_here", "_law_first", "_law_cell_here", "_law_what", "_law_pick", "_law_walk", "_law_ends", "_law_end", "_law_one", "_law_film", "_law_two"] ["_law_web_here", "_law_first", "_law_cell_here"] (defScope s_l_step) := ⟨rfl, rfl, rfl, by decide +kernel, rfl, by decide +kernel, by decide +kernel⟩
theorem sc_l_web : FnScope ["_law_script", "_law_most", "_law_rows", "_law_cols", "_law_big", "_law_web_here", "_law_first", "_law_cell_here"] ["_law_script", "_law_most"] (defScope s_l_web) := ⟨rfl, rfl, rfl, by decide +kernel, rfl, by decide +kernel, by decide +kernel⟩
theorem sc_l_drawn_web : FnScope ["_law_script", "_law_most"] ["_law_script", "_law_most"] (defScope s_l_drawn_web) := ⟨rfl, rfl, rfl, by decide +kernel, rfl, by decide +kernel, by decide +kernel⟩
theorem sc_l_label : FnScope ["_law_web_here", "_law_found", "_law_one", "_law_end"] ["_law_web_here"] (defScope s_l_label) := ⟨rfl, rfl, rfl, by decide +kernel, rfl, by decide +kernel, by decide +kernel⟩
theorem sc_l_distances : FnScope ["_law_web_here", "_law_label_here", "_law_end", "_law_found", "_law_row", "_law_rounds", "_law_newer", "_law_one", "_law_at", "_law_goal"] ["_law_web_here", "_law_label_here", "_law_end"] (defScope s_l_distances) := ⟨rfl, rfl, rfl, by decide +kernel, rfl, by decide +kernel, by decide +kernel⟩
theorem sc_p_other : FnScope ["end"] ["end"] (defScope s_p_other) := ⟨rfl, rfl, rfl, by decide +kernel, rfl, by decide +kernel, by decide +kernel⟩
theorem sc_p_rim : FnScope ["web", "end", "found", "at"] ["web", "end"] (defScope s_p_rim) := ⟨rfl, rfl, rfl, by decide +kernel, rfl, by decide +kernel, by decide +kernel⟩
theorem sc_p_rims : FnScope ["web", "found", "passed", "end", "one", "at"] ["web"] (defScope s_p_rims) := ⟨rfl, rfl, rfl, by decide +kernel, rfl, by decide +kernel, by decide +kernel⟩
theorem sc_p_least_ends : FnScope ["web", "found", "one", "end"] ["web"] (defScope s_p_least_ends) := ⟨rfl, rfl, rfl, by decide +kernel, rfl, by decide +kernel, by decide +kernel⟩
theorem sc_p_ways : FnScope ["web", "begin", "least", "came", "row", "at", "end", "beyond"] ["web", "begin"] (defScope s_p_ways) := ⟨rfl, rfl, rfl, by decide +kernel, rfl, by decide +kernel, by decide +kernel⟩
theorem sc_p_road : FnScope ["web", "one", "two", "least", "came", "found", "end"] ["web", "one", "two"] (defScope s_p_road) := ⟨rfl, rfl, rfl, by decide +kernel, rfl, by decide +kernel, by decide +kernel⟩
theorem sc_l_whole : FnScope ["_law_thing"] ["_law_thing"] (defScope s_l_whole) := ⟨rfl, rfl, rfl, by decide +kernel, rfl, by decide +kernel, by decide +kernel⟩
theorem sc_p_far : FnScope ["web", "one", "two"] ["web", "one", "two"] (defScope s_p_far) := ⟨rfl, rfl, rfl, by decide +kernel, rfl, by decide +kernel, by decide +kernel⟩
theorem sc_l_free : FnScope ["_law_web_here"] ["_law_web_here"] (defScope s_l_free) := ⟨rfl, rfl, rfl, by decide +kernel, rfl, by decide +kernel, by decide +kernel⟩
theorem sc_l_refusals : FnScope ["_law_web_here", "_law_one", "_law_two", "_law_found"] ["_law_web_here", "_law_one", "_law_two"] (defScope s_l_refusals) := ⟨rfl, rfl, rfl, by decide +kernel, rfl, by decide +kernel, by decide +kernel⟩
theorem sc_l_is_web : FnScope ["_law_found", "_law_due", "_law_end"] ["_law_found", "_law_due"] (defScope s_l_is_web) := ⟨rfl, rfl, rfl, by decide +kernel, rfl, by decide +kernel, by decide +kernel⟩
theorem sc_p_law : FnScope ["_law_script", "_law_web_here", "_law_label_here", "_law_ends", "_law_handed", "_law_k", "_law_pick", "_law_spot", "_law_same", "_law_one", "_law_two", "_law_due", "_law_found", "_law_at", "_law_end", "_law_told", "_law_back", "_law_gone"] ["_law_script"] (defScope s_p_law) := ⟨rfl, rfl, rfl, by decide +kernel, rfl, by decide +kernel, by decide +kernel⟩
section
variable {P : Program} {w : World} {K : PySem.W.Frag} {mg : Str → Option Value} {base : Heap} {ad : Str → Addr}
theorem ok_l_seed (F : FnIs K mg "_law_seed" s_l_seed ["_law_cell_here"]) : Df P w K mg base CX0 "_law_seed" 1 ["_law_cell_here"] (sp_l_seed ⟨K, ad⟩) :=
  Df.of F sc_l_seed len_l_seed fun f cdv A outer s H vs Q E hr h => ⟨t_l_seed ⟨K, ad⟩, (pss_cons (ps_if (pt_cmpR op_ge (pv 0) (pe_op op_pow pe_int pe_int) (nomark _)) (pss_one (ps_ret (pv 0))) pss_nil)
      (pss_cons (ps_set (i := 1) sc_l_seed.nd rfl (by first | exact Or.inl rfl | exact Or.inr rfl) (pe_op op_mod (pe_op op_mul (pe_op op_mod (pe_op op_add (pe_op op_mul (pv 0) pe_int) pe_int) pe_int) pe_int) pe_int))
      (pss_cons (ps_set (i := 2) sc_l_seed.nd rfl (by first | exact Or.inl rfl | exact Or.inr rfl) (pe_op op_mod (pe_op op_mul (pe_op op_mod (pe_op op_add (pe_op op_mul (pv 0) pe_int) pe_int) pe_int) pe_int) pe_int))
      (pss_one (ps_ret (pe_op op_add (pe_op op_mul (pv 1) pe_int) (pv 2))))))), pure_l_seed h⟩
theorem ok_l_digits (F : FnIs K mg "_law_digits" s_l_digits ["_law_cell_here", "_law_sizes"]) (T_enumerate : mg "enumerate" = none) (D_l_seed : Df P w K mg base CX0 "_law_seed" 1 ["_law_cell_here"] (sp_l_seed ⟨K, ad⟩)) : Df P w K mg base CX0 "_law_digits" 2 ["_law_cell_here", "_law_sizes"] (sp_l_digits ⟨K, ad⟩) :=
  Df.of F sc_l_digits len_l_digits fun f cdv A outer s H vs Q E hr h => ⟨t_l_digits ⟨K, ad⟩, (pss_cons (ps_set (i := 2) sc_l_digits.nd rfl (by first | exact Or.inl rfl | exact Or.inr rfl) (pe_df D_l_seed hr (by decide) pass0 (pa_cons (pv 0) pa_nil)))
      (pss_cons (ps_set (i := 3) sc_l_digits.nd rfl (by first | exact Or.inl rfl | exact Or.inr rfl) (pe_lst pa_nil))
      (pss_cons (ps_for PassesOwn.never rfl (pi_enum (by rfl) T_enumerate (pa_cons (pv 1) pa_nil)) (pg_tup rfl (pgs_cons (pg_name (i := 4) sc_l_digits.nd rfl (by first | exact Or.inl rfl | exact Or.inr rfl)) (pgs_cons (pg_name (i := 5) sc_l_digits.nd rfl (by first | exact Or.inl rfl | exact Or.inr rfl)) pgs_nil)))
      (pss_cons (ps_if (pt_cmpR op_lt (pv 2) (pv 5) (nomark _)) (pss_one (ps_set (i := 2) sc_l_digits.nd rfl (by first | exact Or.inl rfl | exact Or.inr rfl) (pe_df D_l_seed hr (by decide) pass0 (pa_cons (pe_op op_add (pe_op op_add (pv 2) (pe_op op_mul pe_int (pv 4))) (pe_op op_mod (pv 0) pe_int)) pa_nil)))) pss_nil)
      (pss_cons (ps_expr (pe_bm PySem.F.plainAttrs_list PySem.F.slot_list_append PySem.F.type_list_append mt_append (pv 3) (pa_cons (pe_op op_mod (pv 2) (pv 5)) pa_nil)))
      (pss_one (ps_set (i := 2) sc_l_digits.nd rfl (by first | exact Or.inl rfl | exact Or.inr rfl) (pe_op op_fdivW (pv 2) (pv 5)))))))
      (pss_one (ps_ret (pv 3)))))), pure_l_digits h⟩
theorem ok_l_renumbered (F : FnIs K mg "_law_renumbered" s_l_renumbered ["_law_web_here", "_law_cell_here"]) (D_l_digits : Df P w K mg base CX0 "_law_digits" 2 ["_law_cell_here", "_law_sizes"] (sp_l_digits ⟨K, ad⟩)) : Df P w K mg base CX0 "_law_renumbered" 3 ["_law_web_here", "_law_cell_here"] (sp_l_renumbered ⟨K, ad⟩) :=
  Df.of F sc_l_renumbered len_l_renumbered fun f cdv A outer s H vs Q E hr h => ⟨t_l_renumbered ⟨K, ad⟩, (pss_cons (ps_asg (pe_df D_l_digits hr (by decide) pass0 (pa_cons (pv 1) (pa_cons (pe_lst (pa_cons pe_int (pa_cons pe_int (pa_cons pe_int pa_nil)))) pa_nil))) (pg_unl rfl (pgs_cons (pg_name (i := 2) sc_l_renumbered.nd rfl (by first | exact Or.inl rfl | exact Or.inr rfl)) (pgs_cons (pg_name (i := 3) sc_l_renumbered.nd rfl (by first | exact Or.inl rfl | exact Or.inr rfl)) (pgs_cons (pg_name (i := 4) sc_l_renumbered.nd rfl (by first | exact Or.inl rfl | exact Or.inr rfl)) pgs_nil)))))
      (pss_cons (ps_if (pt_cmpR op_eq (pv 2) pe_int (nomark _)) (pss_one (ps_ret (pv 0))) pss_nil)
      (pss_cons (ps_set (i := 5) sc_l_renumbered.nd rfl (by first | exact Or.inl rfl | exact Or.inr rfl) pe_dnewK)
      (pss_cons (ps_lock (ps_for PassesOwn.never rfl (pi_keys (pv 0)) (pg_name (i := 6) sc_l_renumbered.nd rfl (by first | exact Or.inl rfl | exact Or.inr rfl))
      (pss_cons (ps_set (i := 7) sc_l_renumbered.nd rfl (by first | exact Or.inl rfl | exact Or.inr rfl) (pe_op op_mod (pe_op op_mul (pe_op op_fdivW (pv 6) pe_int) (pe_op op_add (pv 3) pe_int)) pe_int))
      (pss_one (ps_dput (hu_of hr) (pv 5) (pv 6) (pe_op op_add (pe_op op_mul pe_int (pv 7)) (pe_op op_mod (pe_op op_add (pv 6) (pe_op op_mod (pe_op op_fdivW (pe_op op_add (pv 7) (pv 4)) pe_int) pe_int)) pe_int)) rfl)))))
      (pss_cons (ps_set (i := 8) sc_l_renumbered.nd rfl (by first | exact Or.inl rfl | exact Or.inr rfl) pe_dnewK)
      (pss_cons (ps_lock (ps_for PassesOwn.never rfl (pi_keys (pv 0)) (pg_name (i := 6) sc_l_renumbered.nd rfl (by first | exact Or.inl rfl | exact Or.inr rfl))
      (pss_one (ps_dput (hu_of hr) (pv 8) (pe_dget (hu_of hr) (pv 5) (pv 6) (fun _ _ => rfl)) (pe_dget (hu_of hr) (pv 5) (pe_dget (hu_of hr) (pv 0) (pv 6) (fun _ _ => rfl)) (fun _ _ => rfl)) rfl))))
      (pss_one (ps_ret (pv 8))))))))), pure_l_renumbered h⟩
theorem ok_l_cell (F : FnIs K mg "_law_cell" s_l_cell ["_law_script", "_law_place"]) (T_len : mg "len" = none) : Df P w K mg base CX0 "_law_cell" 1 ["_law_script", "_law_place"] (sp_l_cell ⟨K, ad⟩) :=
  Df.of F sc_l_cell len_l_cell fun f cdv A outer s H vs Q E hr h => ⟨t_l_cell ⟨K, ad⟩, (pss_cons (ps_if (pt_cmpR op_lt (pv 1) (pe_callB call_len_seq (by rfl) T_len (by decide +kernel) (pa_cons (pv 0) pa_nil)) (nomark _)) (pss_one (ps_ret (pe_ix ix_list (pv 0) (pv 1) (fun _ _ => rfl)))) pss_nil)
      (pss_one (ps_ret pe_int))), pure_l_cell h⟩
theorem ok_l_seat (F : FnIs K mg "_law_seat" s_l_seat ["_law_web_here", "_law_ends"]) (T_range : mg "range" = none) : Df P w K mg base CX0 "_law_seat" 1 ["_law_web_here", "_law_ends"] (sp_l_seat ⟨K, ad⟩) :=
  Df.of F sc_l_seat len_l_seat fun f cdv A outer s H vs Q E hr h => ⟨t_l_seat ⟨K, ad⟩, (pss_one (ps_for PassesOwn.never rfl (pi_range1 (by rfl) T_range (pa_cons pe_int pa_nil)) (pg_name (i := 2) sc_l_seat.nd rfl (by first | exact Or.inl rfl | exact Or.inr rfl))
      (pss_one (ps_dput (hu_of hr) (pv 0) (pe_ix ix_tup (pv 1) (pv 2) (fun _ _ => rfl)) (pe_ix ix_tup (pv 1) (pe_op op_mod (pe_op op_add (pv 2) pe_int) pe_int) (fun _ _ => rfl)) rfl)))), pure_l_seat h⟩
theorem ok_l_comb (F : FnIs K mg "_law_comb" s_l_comb ["_law_rows", "_law_cols"]) (T_range : mg "range" = none) (D_l_seat : Df P w K mg base CX0 "_law_seat" 1 ["_law_web_here", "_law_ends"] (sp_l_seat ⟨K, ad⟩)) : Df P w K mg base CX0 "_law_comb" 2 ["_law_rows", "_law_cols"] (sp_l_comb ⟨K, ad⟩) :=
  Df.of F sc_l_comb len_l_comb fun f cdv A outer s H vs Q E hr h => ⟨t_l_comb ⟨K, ad⟩, (pss_cons (ps_set (i := 2) sc_l_comb.nd rfl (by first | exact Or.inl rfl | exact Or.inr rfl) pe_dnewK)
      (pss_cons (ps_for PassesOwn.never rfl (pi_range1 (by rfl) T_range (pa_cons (pe_op op_mul (pv 0) (pv 1)) pa_nil)) (pg_name (i := 3) sc_l_comb.nd rfl (by first | exact Or.inl rfl | exact Or.inr rfl))
      (pss_cons (ps_par (by rfl) sc_l_comb.nd rfl rfl (by decide) rfl rfl (pa_cons (pe_op op_fdivW (pv 3) (pv 1)) (pa_cons (pe_op op_mod (pv 3) (pv 1)) pa_nil)) (by rfl))
      (pss_cons (ps_set (i := 6) sc_l_comb.nd rfl (by first | exact Or.inl rfl | exact Or.inr rfl) (pe_op op_add (pe_op op_mul (pv 4) (pv 1)) (pe_op op_mod (pe_op op_sub (pe_op op_add (pv 5) (pv 1)) pe_int) (pv 1))))
      (pss_cons (ps_set (i := 7) sc_l_comb.nd rfl (by first | exact Or.inl rfl | exact Or.inr rfl) (pe_op op_add (pe_op op_mul (pe_op op_mod (pe_op op_sub (pe_op op_add (pv 4) (pv 0)) pe_int) (pv 0)) (pv 1)) (pv 5)))
      (pss_cons (ps_expr (pe_df D_l_seat hr (by decide) pass0 (pa_cons (pv 2) (pa_cons (pe_tup (pa_cons (pe_op op_mul pe_int (pv 3)) (pa_cons (pe_op op_add (pe_op op_mul pe_int (pv 3)) pe_int) (pa_cons (pe_op op_add (pe_op op_mul pe_int (pv 3)) pe_int) pa_nil)))) pa_nil))))
      (pss_one (ps_expr (pe_df D_l_seat hr (by decide) pass0 (pa_cons (pv 2) (pa_cons (pe_tup (pa_cons (pe_op op_add (pe_op op_mul pe_int (pv 3)) pe_int) (pa_cons (pe_op op_add (pe_op op_mul pe_int (pv 6)) pe_int) (pa_cons (pe_op op_add (pe_op op_mul pe_int (pv 7)) pe_int) pa_nil)))) pa_nil))))))))))
      (pss_one (ps_ret (pv 2))))), pure_l_comb h⟩
theorem ok_l_other (F : FnIs K mg "_law_other" s_l_other ["_law_end"]) : Df P w K mg base CX0 "_law_other" 1 ["_law_end"] (sp_l_other ⟨K, ad⟩) :=
  Df.of F sc_l_other len_l_other fun f cdv A outer s H vs Q E hr h => ⟨t_l_other ⟨K, ad⟩, (pss_cons (ps_if (pt_cmpR op_eq (pe_op op_mod (pv 0) pe_int) pe_int (nomark _)) (pss_one (ps_ret (pe_op op_add (pv 0) pe_int))) pss_nil)
      (pss_one (ps_ret (pe_op op_sub (pv 0) pe_int)))), pure_l_other h⟩
theorem ok_l_rim (F : FnIs K mg "_law_rim" s_l_rim ["_law_web_here", "_law_end"]) (T_len : mg "len" = none) (T_range : mg "range" = none) (D_l_other : Df P w K mg base CX0 "_law_other" 1 ["_law_end"] (sp_l_other ⟨K, ad⟩)) : Df P w K mg base CX0 "_law_rim" 2 ["_law_web_here", "_law_end"] (sp_l_rim ⟨K, ad⟩) :=
  Df.of F sc_l_rim len_l_rim fun f cdv A outer s H vs Q E hr h => ⟨t_l_rim ⟨K, ad⟩, (pss_cons (ps_set (i := 2) sc_l_rim.nd rfl (by first | exact Or.inl rfl | exact Or.inr rfl) (pe_lst (pa_cons (pv 1) pa_nil)))
      (pss_cons (ps_for PassesOwn.never rfl (pi_range1 (by rfl) T_range (pa_cons (pe_callB call_lenRd (by rfl) T_len (by decide +kernel) (pa_cons (pv 0) pa_nil)) pa_nil)) (pg_name (i := 3) sc_l_rim.nd rfl (by first | exact Or.inl rfl | exact Or.inr rfl))
      (pss_cons (ps_set (i := 4) sc_l_rim.nd rfl (by first | exact Or.inl rfl | exact Or.inr rfl) (pe_dget (hu_of hr) (pv 0) (pe_df D_l_other hr (by decide) pass0 (pa_cons (pe_ix ix_list (pv 2) (pe_un un_neg pe_int) (fun _ _ => rfl)) pa_nil)) (fun _ _ => rfl)))
      (pss_cons (ps_if (pt_cmpR op_eq (pv 4) (pv 1) (nomark _)) (pss_one (ps_ret (pv 2))) pss_nil)
      (pss_one (ps_expr (pe_bm PySem.F.plainAttrs_list PySem.F.slot_list_append PySem.F.type_list_append mt_append (pv 2) (pa_cons (pv 4) pa_nil)))))))
      (pss_one (ps_ret (pv 2))))), pure_l_rim h⟩
theorem ok_l_rims (F : FnIs K mg "_law_rims" s_l_rims ["_law_web_here"]) (T_list : mg "list" = none) (T_sorted : mg "sorted" = none) (D_l_rim : Df P w K mg base CX0 "_law_rim" 2 ["_law_web_here", "_law_end"] (sp_l_rim ⟨K, ad⟩)) : Df P w K mg base CX0 "_law_rims" 3 ["_law_web_here"] (sp_l_rims ⟨K, ad⟩) :=
  Df.of F sc_l_rims len_l_rims fun f cdv A outer s H vs Q E hr h => ⟨t_l_rims ⟨K, ad⟩, (pss_cons (ps_set (i := 1) sc_l_rims.nd rfl (by first | exact Or.inl rfl | exact Or.inr rfl) (pe_lst pa_nil))
      (pss_cons (ps_set (i := 2) sc_l_rims.nd rfl (by first | exact Or.inl rfl | exact Or.inr rfl) pe_dnewK)
      (pss_cons (ps_for PassesOwn.never rfl (pi_list (pe_callB cr_sortedI (by rfl) T_sorted (by decide +kernel) (pa_cons (pe_callTy (call_listD rfl) (by rfl) T_list (by decide +kernel) (pa_cons (pv 0) pa_nil)) pa_nil))) (pg_name (i := 3) sc_l_rims.nd rfl (by first | exact Or.inl rfl | exact Or.inr rfl))
      (pss_one (ps_if (pt_cmp (pc_dnotin (hu_of hr) (pv 3) (pv 2))) (pss_cons (ps_expr (pe_bm PySem.F.plainAttrs_list PySem.F.slot_list_append PySem.F.type_list_append mt_append (pv 1) (pa_cons (pe_df D_l_rim hr (by decide) pass0 (pa_cons (pv 0) (pa_cons (pv 3) pa_nil))) pa_nil)))
      (pss_one (ps_for PassesOwn.never rfl (pi_list (pe_ix ix_list (pv 1) (pe_un un_neg pe_int) (fun _ _ => rfl))) (pg_name (i := 4) sc_l_rims.nd rfl (by first | exact Or.inl rfl | exact Or.inr rfl))
      (pss_one (ps_dput (hu_of hr) (pv 2) (pv 4) pe_bl rfl))))) pss_nil)))
      (pss_one (ps_ret (pv 1)))))), pure_l_rims h⟩
theorem ok_l_corner (F : FnIs K mg "_law_corner" s_l_corner ["_law_web_here", "_law_end"]) : Df P w K mg base CX0 "_law_corner" 1 ["_law_web_here", "_law_end"] (sp_l_corner ⟨K, ad⟩) :=
  Df.of F sc_l_corner len_l_corner fun f cdv A outer s H vs Q E hr h => ⟨t_l_corner ⟨K, ad⟩, (pss_one (ps_ret (pe_tup (pa_cons (pv 1) (pa_cons (pe_dget (hu_of hr) (pv 0) (pv 1) (fun _ _ => rfl)) (pa_cons (pe_dget (hu_of hr) (pv 0) (pe_dget (hu_of hr) (pv 0) (pv 1) (fun _ _ => rfl)) (fun _ _ => rfl)) pa_nil)))))), pure_l_corner h⟩
theorem ok_l_loop (F : FnIs K mg "_law_loop" s_l_loop ["_law_web_here", "_law_film"]) (D_l_corner : Df P w K mg base CX0 "_law_corner" 1 ["_law_web_here", "_law_end"] (sp_l_corner ⟨K, ad⟩)) : Df P w K mg base CX0 "_law_loop" 2 ["_law_web_here", "_law_film"] (sp_l_loop ⟨K, ad⟩) :=
  Df.of F sc_l_loop len_l_loop fun f cdv A outer s H vs Q E hr h => ⟨t_l_loop ⟨K, ad⟩, (pss_one (ps_ret (pe_cmpR op_in_seq (pe_op op_add (pe_op op_mul pe_int (pv 1)) pe_int) (pe_df D_l_corner hr (by decide) pass0 (pa_cons (pv 0) (pa_cons (pe_op op_mul pe_int (pv 1)) pa_nil))) (by rfl)))), pure_l_loop h⟩
theorem ok_l_push (F : FnIs K mg "_law_push" s_l_push ["_law_web_here", "_law_film", "_law_back"]) (T_dict : mg "dict" = none) (D_l_corner : Df P w K mg base CX0 "_law_corner" 1 ["_law_web_here", "_law_end"] (sp_l_corner ⟨K, ad⟩)) (D_l_seat : Df P w K mg base CX0 "_law_seat" 1 ["_law_web_here", "_law_ends"] (sp_l_seat ⟨K, ad⟩)) : Df P w K mg base CX0 "_law_push" 2 ["_law_web_here", "_law_film", "_law_back"] (sp_l_push ⟨K, ad⟩) :=
  Df.of F sc_l_push len_l_push fun f cdv A outer s H vs Q E hr h => ⟨t_l_push ⟨K, ad⟩, (pss_cons (ps_asg (pe_df D_l_corner hr (by decide) pass0 (pa_cons (pv 0) (pa_cons (pe_op op_mul pe_int (pv 1)) pa_nil))) (pg_tup rfl (pgs_cons (pg_name (i := 3) sc_l_push.nd rfl (by first | exact Or.inl rfl | exact Or.inr rfl)) (pgs_cons (pg_name (i := 4) sc_l_push.nd rfl (by first | exact Or.inl rfl | exact Or.inr rfl)) (pgs_cons (pg_name (i := 5) sc_l_push.nd rfl (by first | exact Or.inl rfl | exact Or.inr rfl)) pgs_nil)))))
      (pss_cons (ps_asg (pe_df D_l_corner hr (by decide) pass0 (pa_cons (pv 0) (pa_cons (pe_op op_add (pe_op op_mul pe_int (pv 1)) pe_int) pa_nil))) (pg_tup rfl (pgs_cons (pg_name (i := 6) sc_l_push.nd rfl (by first | exact Or.inl rfl | exact Or.inr rfl)) (pgs_cons (pg_name (i := 7) sc_l_push.nd rfl (by first | exact Or.inl rfl | exact Or.inr rfl)) (pgs_cons (pg_name (i := 8) sc_l_push.nd rfl (by first | exact Or.inl rfl | exact Or.inr rfl)) pgs_nil)))))
      (pss_cons (ps_set (i := 9) sc_l_push.nd rfl (by first | exact Or.inl rfl | exact Or.inr rfl) (pe_callTy call_dictD (by rfl) T_dict (by decide +kernel) (pa_cons (pv 0) pa_nil)))
      (pss_cons (ps_if (pt_val (pv 2)) (pss_cons (ps_expr (pe_df D_l_seat hr (by decide) pass0 (pa_cons (pv 9) (pa_cons (pe_tup (pa_cons (pv 3) (pa_cons (pv 8) (pa_cons (pv 4) pa_nil)))) pa_nil))))
      (pss_one (ps_expr (pe_df D_l_seat hr (by decide) pass0 (pa_cons (pv 9) (pa_cons (pe_tup (pa_cons (pv 6) (pa_cons (pv 5) (pa_cons (pv 7) pa_nil)))) pa_nil)))))) (pss_cons (ps_expr (pe_df D_l_seat hr (by decide) pass0 (pa_cons (pv 9) (pa_cons (pe_tup (pa_cons (pv 3) (pa_cons (pv 5) (pa_cons (pv 7) pa_nil)))) pa_nil))))
      (pss_one (ps_expr (pe_df D_l_seat hr (by decide) pass0 (pa_cons (pv 9) (pa_cons (pe_tup (pa_cons (pv 6) (pa_cons (pv 8) (pa_cons (pv 4) pa_nil)))) pa_nil)))))))
      (pss_one (ps_ret (pv 9))))))), pure_l_push h⟩
theorem ok_l_one_bubble (F : FnIs K mg "_law_one_bubble" s_l_one_bubble ["_law_web_here", "_law_film"]) (D_l_rim : Df P w K mg base CX0 "_law_rim" 2 ["_law_web_here", "_law_end"] (sp_l_rim ⟨K, ad⟩)) : Df P w K mg base CX0 "_law_one_bubble" 3 ["_law_web_here", "_law_film"] (sp_l_one_bubble ⟨K, ad⟩) :=
  Df.of F sc_l_one_bubble len_l_one_bubble fun f cdv A outer s H vs Q E hr h => ⟨t_l_one_bubble ⟨K, ad⟩, (pss_one (ps_ret (pe_cmpR op_in_seq (pe_op op_add (pe_op op_mul pe_int (pv 1)) pe_int) (pe_df D_l_rim hr (by decide) pass0 (pa_cons (pv 0) (pa_cons (pe_op op_mul pe_int (pv 1)) pa_nil))) (by rfl)))), pure_l_one_bubble h⟩
theorem ok_l_mended (F : FnIs K mg "_law_mended" s_l_mended ["_law_web_here", "_law_end"]) (T_min : mg "min" = none) (T_max : mg "max" = none) (D_l_corner : Df P w K mg base CX0 "_law_corner" 1 ["_law_web_here", "_law_end"] (sp_l_corner ⟨K, ad⟩)) (D_l_other : Df P w K mg base CX0 "_law_other" 1 ["_law_end"] (sp_l_other ⟨K, ad⟩)) : Df P w K mg base CX0 "_law_mended" 2 ["_law_web_here", "_law_end"] (sp_l_mended ⟨K, ad⟩) :=
  Df.of F sc_l_mended len_l_mended fun f cdv A outer s H vs Q E hr h => ⟨t_l_mended ⟨K, ad⟩, (pss_cons (ps_set (i := 2) sc_l_mended.nd rfl (by first | exact Or.inl rfl | exact Or.inr rfl) (pe_df D_l_corner hr (by decide) pass0 (pa_cons (pv 0) (pa_cons (pv 1) pa_nil))))
      (pss_cons (ps_par (by rfl) sc_l_mended.nd rfl rfl (by decide) rfl rfl (pa_cons (pe_callB (cr_minTp rfl) (by rfl) T_min (by decide +kernel) (pa_cons (pe_slice sl_tup (pv 2) (po_some pe_int) po_none) pa_nil)) (pa_cons (pe_callB (cr_maxTp rfl) (by rfl) T_max (by decide +kernel) (pa_cons (pe_slice sl_tup (pv 2) (po_some pe_int) po_none) pa_nil)) pa_nil)) (by rfl))
      (pss_cons (ps_set (i := 5) sc_l_mended.nd rfl (by first | exact Or.inl rfl | exact Or.inr rfl) (pe_df D_l_other hr (by decide) pass0 (pa_cons (pv 4) pa_nil)))
      (pss_cons (ps_set (i := 6) sc_l_mended.nd rfl (by first | exact Or.inl rfl | exact Or.inr rfl) pe_dnewK)
      (pss_cons (ps_lock (ps_for PassesOwn.never rfl (pi_keys (pv 0)) (pg_name (i := 7) sc_l_mended.nd rfl (by first | exact Or.inl rfl | exact Or.inr rfl))
      (pss_one (ps_if (pt_cmpR op_notIn_seq (pv 7) (pv 2) (by rfl)) (pss_cons (ps_set (i := 8) sc_l_mended.nd rfl (by first | exact Or.inl rfl | exact Or.inr rfl) (pe_dget (hu_of hr) (pv 0) (pv 7) (fun _ _ => rfl)))
      (pss_cons (ps_if (pt_cmpR op_eq (pv 8) (pv 5) (nomark _)) (pss_one (ps_set (i := 8) sc_l_mended.nd rfl (by first | exact Or.inl rfl | exact Or.inr rfl) (pv 3))) pss_nil)
      (pss_one (ps_if (pt_cmpR op_eq (pv 7) (pv 5) (nomark _)) (pss_one (ps_dput (hu_of hr) (pv 6) (pv 3) (pv 8) rfl)) (pss_one (ps_dput (hu_of hr) (pv 6) (pv 7) (pv 8) rfl)))))) pss_nil))))
      (pss_one (ps_ret (pv 6)))))))), pure_l_mended h⟩
theorem ok_l_without (F : FnIs K mg "_law_without" s_l_without ["_law_web_here", "_law_film"]) (D_l_corner : Df P w K mg base CX0 "_law_corner" 1 ["_law_web_here", "_law_end"] (sp_l_corner ⟨K, ad⟩)) (D_l_mended : Df P w K mg base CX0 "_law_mended" 2 ["_law_web_here", "_law_end"] (sp_l_mended ⟨K, ad⟩)) (D_l_other : Df P w K mg base CX0 "_law_other" 1 ["_law_end"] (sp_l_other ⟨K, ad⟩)) : Df P w K mg base CX0 "_law_without" 3 ["_law_web_here", "_law_film"] (sp_l_without ⟨K, ad⟩) :=
  Df.of F sc_l_without len_l_without fun f cdv A outer s H vs Q E hr h => ⟨t_l_without ⟨K, ad⟩, (pss_cons (ps_set (i := 2) sc_l_without.nd rfl (by first | exact Or.inl rfl | exact Or.inr rfl) (pe_df D_l_corner hr (by decide) pass0 (pa_cons (pv 0) (pa_cons (pe_op op_mul pe_int (pv 1)) pa_nil))))
      (pss_cons (ps_if (pt_cmpR op_notIn_seq (pe_op op_add (pe_op op_mul pe_int (pv 1)) pe_int) (pv 2) (by rfl)) (pss_one (ps_ret (pe_df D_l_mended hr (by decide) pass0 (pa_cons (pe_df D_l_mended hr (by decide) pass0 (pa_cons (pv 0) (pa_cons (pe_op op_mul pe_int (pv 1)) pa_nil))) (pa_cons (pe_op op_add (pe_op op_mul pe_int (pv 1)) pe_int) pa_nil))))) pss_nil)
      (pss_cons (ps_set (i := 3) sc_l_without.nd rfl (by first | exact Or.inl rfl | exact Or.inr rfl) pe_dnewK)
      (pss_cons (ps_lock (ps_for PassesOwn.never rfl (pi_keys (pv 0)) (pg_name (i := 4) sc_l_without.nd rfl (by first | exact Or.inl rfl | exact Or.inr rfl))
      (pss_one (ps_if (pt_cmpR op_notIn_seq (pv 4) (pv 2) (by rfl)) (pss_one (ps_dput (hu_of hr) (pv 3) (pv 4) (pe_dget (hu_of hr) (pv 0) (pv 4) (fun _ _ => rfl)) rfl)) pss_nil))))
      (pss_cons (ps_set (i := 5) sc_l_without.nd rfl (by first | exact Or.inl rfl | exact Or.inr rfl) (pe_ix ix_list (pe_lc (own := [("_law_at", 4)]) (g := (gName 4)) rfl sc_l_without.nd (pi_tup (pv 2)) (blkOk_by (N := ["_law_web_here", "_law_film", "_law_left", "_law_made", "_law_at", "_law_third"]) (sc := defScope s_l_without) (by decide +kernel)) (fun _ _ _ _ _ => (pg_name (i := 4) sc_l_without.nd rfl (by first | exact Or.inl rfl | exact Or.inr rfl))) (fun _ _ _ _ _ => (pts_one (pt_cmpR op_ne (pe_op op_fdivW (pv 4) pe_int) (pv 1) (nomark _)))) (fun _ _ _ _ _ => (pv 4))) pe_int (fun _ _ => rfl)))
      (pss_one (ps_ret (pe_df D_l_mended hr (by decide) pass0 (pa_cons (pv 3) (pa_cons (pe_df D_l_other hr (by decide) pass0 (pa_cons (pv 5) pa_nil)) pa_nil)))))))))), pure_l_without h⟩
theorem ok_l_blow (F : FnIs K mg "_law_blow" s_l_blow ["_law_web_here", "_law_end", "_law_first"]) (T_dict : mg "dict" = none) (D_l_corner : Df P w K mg base CX0 "_law_corner" 1 ["_law_web_here", "_law_end"] (sp_l_corner ⟨K, ad⟩)) (D_l_seat : Df P w K mg base CX0 "_law_seat" 1 ["_law_web_here", "_law_ends"] (sp_l_seat ⟨K, ad⟩)) : Df P w K mg base CX0 "_law_blow" 2 ["_law_web_here", "_law_end", "_law_first"] (sp_l_blow ⟨K, ad⟩) :=
  Df.of F sc_l_blow len_l_blow fun f cdv A outer s H vs Q E hr h => ⟨t_l_blow ⟨K, ad⟩, (pss_cons (ps_asg (pe_df D_l_corner hr (by decide) pass0 (pa_cons (pv 0) (pa_cons (pv 1) pa_nil))) (pg_tup rfl (pgs_cons (pg_name (i := 3) sc_l_blow.nd rfl (by first | exact Or.inl rfl | exact Or.inr rfl)) (pgs_cons (pg_name (i := 4) sc_l_blow.nd rfl (by first | exact Or.inl rfl | exact Or.inr rfl)) (pgs_cons (pg_name (i := 5) sc_l_blow.nd rfl (by first | exact Or.inl rfl | exact Or.inr rfl)) pgs_nil)))))
      (pss_cons (ps_set (i := 6) sc_l_blow.nd rfl (by first | exact Or.inl rfl | exact Or.inr rfl) (pe_callTy call_dictD (by rfl) T_dict (by decide +kernel) (pa_cons (pv 0) pa_nil)))
      (pss_cons (ps_set (i := 7) sc_l_blow.nd rfl (by first | exact Or.inl rfl | exact Or.inr rfl) (pe_op op_mul pe_int (pv 2)))
      (pss_cons (ps_expr (pe_df D_l_seat hr (by decide) pass0 (pa_cons (pv 6) (pa_cons (pe_tup (pa_cons (pv 3) (pa_cons (pv 7) (pa_cons (pe_op op_add (pv 7) pe_int) pa_nil)))) pa_nil))))
      (pss_cons (ps_expr (pe_df D_l_seat hr (by decide) pass0 (pa_cons (pv 6) (pa_cons (pe_tup (pa_cons (pv 4) (pa_cons (pe_op op_add (pv 7) pe_int) (pa_cons (pe_op op_add (pv 7) pe_int) pa_nil)))) pa_nil))))
      (pss_cons (ps_expr (pe_df D_l_seat hr (by decide) pass0 (pa_cons (pv 6) (pa_cons (pe_tup (pa_cons (pv 5) (pa_cons (pe_op op_add (pv 7) pe_int) (pa_cons (pe_op op_add (pv 7) pe_int) pa_nil)))) pa_nil))))
      (pss_one (ps_ret (pv 6))))))))), pure_l_blow h⟩
theorem ok_l_part (F : FnIs K mg "_law_part" s_l_part ["_law_web_here", "_law_one", "_law_two", "_law_first"]) (T_dict : mg "dict" = none) (D_l_other : Df P w K mg base CX0 "_law_other" 1 ["_law_end"] (sp_l_other ⟨K, ad⟩)) (D_l_corner : Df P w K mg base CX0 "_law_corner" 1 ["_law_web_here", "_law_end"] (sp_l_corner ⟨K, ad⟩)) (D_l_seat : Df P w K mg base CX0 "_law_seat" 1 ["_law_web_here", "_law_ends"] (sp_l_seat ⟨K, ad⟩)) : Df P w K mg base CX0 "_law_part" 2 ["_law_web_here", "_law_one", "_law_two", "_law_first"] (sp_l_part ⟨K, ad⟩) :=
  Df.of F sc_l_part len_l_part fun f cdv A outer s H vs Q E hr h => ⟨t_l_part ⟨K, ad⟩, (pss_cons (ps_set (i := 4) sc_l_part.nd rfl (by first | exact Or.inl rfl | exact Or.inr rfl) (pe_callTy call_dictD (by rfl) T_dict (by decide +kernel) (pa_cons (pv 0) pa_nil)))
      (pss_cons (ps_set (i := 5) sc_l_part.nd rfl (by first | exact Or.inl rfl | exact Or.inr rfl) (pe_op op_mul pe_int (pv 3)))
      (pss_cons (ps_for PassesOwn.never rfl (pi_tup (pe_tup (pa_cons (pe_tup (pa_cons (pe_df D_l_other hr (by decide) pass0 (pa_cons (pv 1) pa_nil)) (pa_cons (pe_op op_add (pv 5) pe_int) pa_nil))) (pa_cons (pe_tup (pa_cons (pe_df D_l_other hr (by decide) pass0 (pa_cons (pv 2) pa_nil)) (pa_cons (pe_op op_add (pv 5) pe_int) pa_nil))) pa_nil)))) (pg_tup rfl (pgs_cons (pg_name (i := 6) sc_l_part.nd rfl (by first | exact Or.inl rfl | exact Or.inr rfl)) (pgs_cons (pg_name (i := 7) sc_l_part.nd rfl (by first | exact Or.inl rfl | exact Or.inr rfl)) pgs_nil)))
      (pss_cons (ps_asg (pe_df D_l_corner hr (by decide) pass0 (pa_cons (pv 4) (pa_cons (pv 6) pa_nil))) (pg_tup rfl (pgs_cons (pg_name (i := 8) sc_l_part.nd rfl (by first | exact Or.inl rfl | exact Or.inr rfl)) (pgs_cons (pg_name (i := 9) sc_l_part.nd rfl (by first | exact Or.inl rfl | exact Or.inr rfl)) (pgs_cons (pg_name (i := 10) sc_l_part.nd rfl (by first | exact Or.inl rfl | exact Or.inr rfl)) pgs_nil)))))
      (pss_cons (ps_expr (pe_df D_l_seat hr (by decide) pass0 (pa_cons (pv 4) (pa_cons (pe_tup (pa_cons (pv 7) (pa_cons (pv 9) (pa_cons (pv 10) pa_nil)))) pa_nil))))
      (pss_one (ps_expr (pe_df D_l_seat hr (by decide) pass0 (pa_cons (pv 4) (pa_cons (pe_tup (pa_cons (pv 6) (pa_cons (pe_op op_add (pe_op op_add (pv 5) pe_int) (pe_op op_fdivW (pe_op op_sub (pv 7) (pv 5)) pe_int)) (pa_cons (pe_op op_sub (pv 7) pe_int) pa_nil)))) pa_nil))))))))
      (pss_one (ps_ret (pv 4)))))), pure_l_part h⟩
theorem ok_l_step (F : FnIs K mg "_law_step" s_l_step ["_law_web_here", "_law_first", "_law_cell_here"]) (T_list : mg "list" = none) (T_sorted : mg "sorted" = none) (T_len : mg "len" = none) (T_min : mg "min" = none) (D_l_digits : Df P w K mg base CX0 "_law_digits" 2 ["_law_cell_here", "_law_sizes"] (sp_l_digits ⟨K, ad⟩)) (D_l_rims : Df P w K mg base CX0 "_law_rims" 3 ["_law_web_here"] (sp_l_rims ⟨K, ad⟩)) (D_l_loop : Df P w K mg base CX0 "_law_loop" 2 ["_law_web_here", "_law_film"] (sp_l_loop ⟨K, ad⟩)) (D_l_push : Df P w K mg base CX0 "_law_push" 2 ["_law_web_here", "_law_film", "_law_back"] (sp_l_push ⟨K, ad⟩)) (D_l_one_bubble : Df P w K mg base CX0 "_law_one_bubble" 3 ["_law_web_here", "_law_film"] (sp_l_one_bubble ⟨K, ad⟩)) (D_l_without : Df P w K mg base CX0 "_law_without" 3 ["_law_web_here", "_law_film"] (sp_l_without ⟨K, ad⟩)) (D_l_blow : Df P w K mg base CX0 "_law_blow" 2 ["_law_web_here", "_law_end", "_law_first"] (sp_l_blow ⟨K, ad⟩)) (D_l_rim : Df P w K mg base CX0 "_law_rim" 2 ["_law_web_here", "_law_end"] (sp_l_rim ⟨K, ad⟩)) (D_l_part : Df P w K mg base CX0 "_law_part" 2 ["_law_web_here", "_law_one", "_law_two", "_law_first"] (sp_l_part ⟨K, ad⟩)) : Df P w K mg base CX0 "_law_step" 4 ["_law_web_here", "_law_first", "_law_cell_here"] (sp_l_step ⟨K, ad⟩) :=
  Df.of F sc_l_step len_l_step fun f cdv A outer s H vs Q E hr h => ⟨t_l_step ⟨K, ad⟩, (pss_cons (ps_asg (pe_df D_l_digits hr (by decide) pass0 (pa_cons (pv 2) (pa_cons (pe_lst (pa_cons pe_int (pa_cons pe_int (pa_cons pe_int pa_nil)))) pa_nil))) (pg_unl rfl (pgs_cons (pg_name (i := 3) sc_l_step.nd rfl (by first | exact Or.inl rfl | exact Or.inr rfl)) (pgs_cons (pg_name (i := 4) sc_l_step.nd rfl (by first | exact Or.inl rfl | exact Or.inr rfl)) (pgs_cons (pg_name (i := 5) sc_l_step.nd rfl (by first | exact Or.inl rfl | exact Or.inr rfl)) pgs_nil)))))
      (pss_cons (ps_set (i := 6) sc_l_step.nd rfl (by first | exact Or.inl rfl | exact Or.inr rfl) (pe_callB cr_sortedI (by rfl) T_sorted (by decide +kernel) (pa_cons (pe_callTy (call_listD rfl) (by rfl) T_list (by decide +kernel) (pa_cons (pv 0) pa_nil)) pa_nil)))
      (pss_cons (ps_set (i := 7) sc_l_step.nd rfl (by first | exact Or.inl rfl | exact Or.inr rfl) (pe_ix ix_list (pv 6) (pe_op op_mod (pv 4) (pe_callB call_len_seq (by rfl) T_len (by decide +kernel) (pa_cons (pv 6) pa_nil))) (fun _ _ => rfl)))
      (pss_cut (ps_if (pt_cmpR op_eq (pv 3) pe_int (nomark _)) (pss_cons (ps_set (i := 8) sc_l_step.nd rfl (by first | exact Or.inl rfl | exact Or.inr rfl) (pe_minLen rfl (by rfl) T_min (by rfl) T_len (pa_cons (pe_df D_l_rims hr (by decide) pass0 (pa_cons (pv 0) pa_nil)) pa_nil)))
      (pss_one (ps_set (i := 7) sc_l_step.nd rfl (by first | exact Or.inl rfl | exact Or.inr rfl) (pe_ix ix_list (pv 8) (pe_op op_mod (pv 5) (pe_callB call_len_seq (by rfl) T_len (by decide +kernel) (pa_cons (pv 8) pa_nil))) (fun _ _ => rfl))))) pss_nil)
      (pss_cons (ps_set (i := 9) sc_l_step.nd rfl (by first | exact Or.inl rfl | exact Or.inr rfl) (pe_op op_fdivW (pv 7) pe_int))
      (pss_cut (ps_if (PW.pt (pw_and (pt_cmpR op_in_seq (pv 3) (pe_tup (pa_cons pe_int (pa_cons pe_int (pa_cons pe_int (pa_cons pe_int pa_nil))))) (by rfl)) (pw_and1 (pt_not (pt_val (pe_df D_l_loop hr (by decide) pass0 (pa_cons (pv 0) (pa_cons (pv 9) pa_nil)))))))) (pss_one (ps_ret (pe_tup (pa_cons (pe_df D_l_push hr (by decide) pass0 (pa_cons (pv 0) (pa_cons (pv 9) (pa_cons (pe_cmpR op_eq (pv 3) pe_int (nomark _)) pa_nil)))) (pa_cons (pv 1) pa_nil))))) pss_nil)
      (pss_cut (ps_if (PW.pt (pw_and (pt_cmpR op_in_seq (pv 3) (pe_tup (pa_cons pe_int (pa_cons pe_int pa_nil))) (by rfl)) (pw_and1 (pt_not (pt_val (pe_df D_l_one_bubble hr (by decide) pass0 (pa_cons (pv 0) (pa_cons (pv 9) pa_nil)))))))) (pss_one (ps_ret (pe_tup (pa_cons (pe_df D_l_without hr (by decide) pass0 (pa_cons (pv 0) (pa_cons (pv 9) pa_nil))) (pa_cons (pv 1) pa_nil))))) pss_nil)
      (pss_cut (ps_if (PW.pt (pw_and (pt_cmpR op_eq (pv 3) pe_int (nomark _)) (pw_and1 (pt_cmpR op_lt (pe_callB call_lenRd (by rfl) T_len (by decide +kernel) (pa_cons (pv 0) pa_nil)) pe_int (nomark _))))) (pss_one (ps_ret (pe_tup (pa_cons (pe_df D_l_blow hr (by decide) pass0 (pa_cons (pv 0) (pa_cons (pv 7) (pa_cons (pv 1) pa_nil)))) (pa_cons (pe_op op_add (pv 1) pe_int) pa_nil))))) pss_nil)
      (pss_cut (ps_if (PW.pt (pw_and (pt_cmpR op_eq (pv 3) pe_int (nomark _)) (pw_and1 (pt_cmpR op_lt (pe_callB call_lenRd (by rfl) T_len (by decide +kernel) (pa_cons (pv 0) pa_nil)) pe_int (nomark _))))) (pss_cons (ps_set (i := 8) sc_l_step.nd rfl (by first | exact Or.inl rfl | exact Or.inr rfl) (pe_df D_l_rim hr (by decide) pass0 (pa_cons (pv 0) (pa_cons (pv 7) pa_nil))))
      (pss_cons (ps_set (i := 10) sc_l_step.nd rfl (by first | exact Or.inl rfl | exact Or.inr rfl) (pe_ix ix_list (pv 8) (pe_op op_mod (pv 5) (pe_callB call_len_seq (by rfl) T_len (by decide +kernel) (pa_cons (pv 8) pa_nil))) (fun _ _ => rfl)))
      (pss_one (ps_if (pt_cmpR op_ne (pe_op op_fdivW (pv 10) pe_int) (pv 9) (nomark _)) (pss_one (ps_ret (pe_tup (pa_cons (pe_df D_l_part hr (by decide) pass0 (pa_cons (pv 0) (pa_cons (pv 7) (pa_cons (pv 10) (pa_cons (pv 1) pa_nil))))) (pa_cons (pe_op op_add (pv 1) pe_int) pa_nil))))) pss_nil)))) pss_nil)
      (pss_one (ps_ret (pe_tup (pa_cons (pv 0) (pa_cons (pv 1) pa_nil)))))))))))))), pure_l_step h⟩
theorem ok_l_web (F : FnIs K mg "_law_web" s_l_web ["_law_script", "_law_most"]) (D_l_digits : Df P w K mg base CX0 "_law_digits" 2 ["_law_cell_here", "_law_sizes"] (sp_l_digits ⟨K, ad⟩)) (D_l_cell : Df P w K mg base CX0 "_law_cell" 1 ["_law_script", "_law_place"] (sp_l_cell ⟨K, ad⟩)) (D_l_comb : Df P w K mg base CX0 "_law_comb" 2 ["_law_rows", "_law_cols"] (sp_l_comb ⟨K, ad⟩)) (D_l_step : Df P w K mg base CX0 "_law_step" 4 ["_law_web_here", "_law_first", "_law_cell_here"] (sp_l_step ⟨K, ad⟩)) : Df P w K mg base CX0 "_law_web" 5 ["_law_script", "_law_most"] (sp_l_web ⟨K, ad⟩) :=
  Df.of F sc_l_web len_l_web fun f cdv A outer s H vs Q E hr h => ⟨t_l_web ⟨K, ad⟩, (pss_cons (ps_asg (pe_df D_l_digits hr (by decide) pass0 (pa_cons (pe_df D_l_cell hr (by decide) pass0 (pa_cons (pv 0) (pa_cons pe_int pa_nil))) (pa_cons (pe_lst (pa_cons pe_int (pa_cons pe_int (pa_cons pe_int pa_nil)))) pa_nil))) (pg_unl rfl (pgs_cons (pg_name (i := 2) sc_l_web.nd rfl (by first | exact Or.inl rfl | exact Or.inr rfl)) (pgs_cons (pg_name (i := 3) sc_l_web.nd rfl (by first | exact Or.inl rfl | exact Or.inr rfl)) (pgs_cons (pg_name (i := 4) sc_l_web.nd rfl (by first | exact Or.inl rfl | exact Or.inr rfl)) pgs_nil)))))
      (pss_cons (ps_par (by rfl) sc_l_web.nd rfl rfl (by decide) rfl rfl (pa_cons (pe_op op_add (pv 2) pe_int) (pa_cons (pe_op op_add (pv 3) pe_int) pa_nil)) (by rfl))
      (pss_cut (ps_if (pt_cmpR op_eq (pv 4) pe_int (nomark _)) (pss_one (ps_asg (pe_tup (pa_cons pe_int (pa_cons pe_int pa_nil))) (pg_tup rfl (pgs_cons (pg_name (i := 2) sc_l_web.nd rfl (by first | exact Or.inl rfl | exact Or.inr rfl)) (pgs_cons (pg_name (i := 3) sc_l_web.nd rfl (by first | exact Or.inl rfl | exact Or.inr rfl)) pgs_nil))))) pss_nil)
      (pss_cons (ps_set (i := 5) sc_l_web.nd rfl (by first | exact Or.inl rfl | exact Or.inr rfl) (pe_df D_l_comb hr (by decide) pass0 (pa_cons (pv 2) (pa_cons (pv 3) pa_nil))))
      (pss_cons (ps_set (i := 6) sc_l_web.nd rfl (by first | exact Or.inl rfl | exact Or.inr rfl) (pe_op op_mul (pe_op op_mul pe_int (pv 2)) (pv 3)))
      (pss_cons (ps_for PassesOwn.never rfl (pi_list (pe_slice sl_list (pv 0) (po_some pe_int) (po_some (pe_op op_add pe_int (pv 1))))) (pg_name (i := 7) sc_l_web.nd rfl (by first | exact Or.inl rfl | exact Or.inr rfl))
      (pss_one (ps_asg (pe_df D_l_step hr (by decide) pass0 (pa_cons (pv 5) (pa_cons (pv 6) (pa_cons (pv 7) pa_nil)))) (pg_tup rfl (pgs_cons (pg_name (i := 5) sc_l_web.nd rfl (by first | exact Or.inl rfl | exact Or.inr rfl)) (pgs_cons (pg_name (i := 6) sc_l_web.nd rfl (by first | exact Or.inl rfl | exact Or.inr rfl)) pgs_nil))))))
      (pss_one (ps_ret (pv 5))))))))), pure_l_web h⟩
theorem ok_l_drawn_web (F : FnIs K mg "_law_drawn_web" s_l_drawn_web ["_law_script", "_law_most"]) (D_l_renumbered : Df P w K mg base CX0 "_law_renumbered" 3 ["_law_web_here", "_law_cell_here"] (sp_l_renumbered ⟨K, ad⟩)) (D_l_web : Df P w K mg base CX0 "_law_web" 5 ["_law_script", "_law_most"] (sp_l_web ⟨K, ad⟩)) (D_l_cell : Df P w K mg base CX0 "_law_cell" 1 ["_law_script", "_law_place"] (sp_l_cell ⟨K, ad⟩)) : Df P w K mg base CX0 "_law_drawn_web" 6 ["_law_script", "_law_most"] (sp_l_drawn_web ⟨K, ad⟩) :=
  Df.of F sc_l_drawn_web len_l_drawn_web fun f cdv A outer s H vs Q E hr h => ⟨t_l_drawn_web ⟨K, ad⟩, (pss_one (ps_ret (pe_df D_l_renumbered hr (by decide) pass0 (pa_cons (pe_df D_l_web hr (by decide) pass0 (pa_cons (pv 0) (pa_cons (pv 1) pa_nil))) (pa_cons (pe_df D_l_cell hr (by decide) pass0 (pa_cons (pv 0) (pa_cons (pe_op op_add (pv 1) pe_int) pa_nil))) pa_nil))))), pure_l_drawn_web h⟩
theorem ok_l_label (F : FnIs K mg "_law_label" s_l_label ["_law_web_here"]) (D_l_rims : Df P w K mg base CX0 "_law_rims" 3 ["_law_web_here"] (sp_l_rims ⟨K, ad⟩)) : Df P w K mg base CX0 "_law_label" 4 ["_law_web_here"] (sp_l_label ⟨K, ad⟩) :=
  Df.of F sc_l_label len_l_label fun f cdv A outer s H vs Q E hr h => ⟨t_l_label ⟨K, ad⟩, (pss_cons (ps_set (i := 1) sc_l_label.nd rfl (by first | exact Or.inl rfl | exact Or.inr rfl) pe_dnewK)
      (pss_cons (ps_for PassesOwn.never rfl (pi_list (pe_df D_l_rims hr (by decide) pass0 (pa_cons (pv 0) pa_nil))) (pg_name (i := 2) sc_l_label.nd rfl (by first | exact Or.inl rfl | exact Or.inr rfl))
      (pss_one (ps_for PassesOwn.never rfl (pi_list (pv 2)) (pg_name (i := 3) sc_l_label.nd rfl (by first | exact Or.inl rfl | exact Or.inr rfl))
      (pss_one (ps_dput (hu_of hr) (pv 1) (pv 3) (pe_ix ix_list (pv 2) pe_int (fun _ _ => rfl)) rfl)))))
      (pss_one (ps_ret (pv 1))))), pure_l_label h⟩
theorem ok_l_distances (F : FnIs K mg "_law_distances" s_l_distances ["_law_web_here", "_law_label_here", "_law_end"]) (T_len : mg "len" = none) (D_l_rim : Df P w K mg base CX0 "_law_rim" 2 ["_law_web_here", "_law_end"] (sp_l_rim ⟨K, ad⟩)) (D_l_other : Df P w K mg base CX0 "_law_other" 1 ["_law_end"] (sp_l_other ⟨K, ad⟩)) : Df P w K mg base CX0 "_law_distances" 3 ["_law_web_here", "_law_label_here", "_law_end"] (sp_l_distances ⟨K, ad⟩) :=
  Df.of F sc_l_distances len_l_distances fun f cdv A outer s H vs Q E hr h => ⟨t_l_distances ⟨K, ad⟩, (pss_cons (ps_set (i := 3) sc_l_distances.nd rfl (by first | exact Or.inl rfl | exact Or.inr rfl) (pe_disp (pps_cons (pe_dget (hu_of hr) (pv 1) (pv 2) (fun _ _ => rfl)) pe_int pps_nil) rfl rfl (by simp) (by decide)))
      (pss_cons (ps_set (i := 4) sc_l_distances.nd rfl (by first | exact Or.inl rfl | exact Or.inr rfl) (pe_lst (pa_cons (pe_dget (hu_of hr) (pv 1) (pv 2) (fun _ _ => rfl)) pa_nil)))
      (pss_cons (ps_set (i := 5) sc_l_distances.nd rfl (by first | exact Or.inl rfl | exact Or.inr rfl) pe_int)
      (pss_cons (ps_while PassesOwn.never (pt_cmpR op_gt (pe_callB call_len_seq (by rfl) T_len (by decide +kernel) (pa_cons (pv 4) pa_nil)) pe_int (nomark _)) (pss_cons (ps_aug (i := 5) sc_l_distances.nd rfl (by first | exact Or.inl rfl | exact Or.inr rfl) pe_int ip_add)
      (pss_cons (ps_set (i := 6) sc_l_distances.nd rfl (by first | exact Or.inl rfl | exact Or.inr rfl) (pe_lst pa_nil))
      (pss_cons (ps_for PassesOwn.never rfl (pi_list (pv 4)) (pg_name (i := 7) sc_l_distances.nd rfl (by first | exact Or.inl rfl | exact Or.inr rfl))
      (pss_one (ps_for PassesOwn.never rfl (pi_list (pe_df D_l_rim hr (by decide) pass0 (pa_cons (pv 0) (pa_cons (pv 7) pa_nil)))) (pg_name (i := 8) sc_l_distances.nd rfl (by first | exact Or.inl rfl | exact Or.inr rfl))
      (pss_cons (ps_set (i := 9) sc_l_distances.nd rfl (by first | exact Or.inl rfl | exact Or.inr rfl) (pe_dget (hu_of hr) (pv 1) (pe_df D_l_other hr (by decide) pass0 (pa_cons (pv 8) pa_nil)) (fun _ _ => rfl)))
      (pss_one (ps_if (pt_cmp (pc_dnotin (hu_of hr) (pv 9) (pv 3))) (pss_cons (ps_dput (hu_of hr) (pv 3) (pv 9) (pv 5) rfl)
      (pss_one (ps_expr (pe_bm PySem.F.plainAttrs_list PySem.F.slot_list_append PySem.F.type_list_append mt_append (pv 6) (pa_cons (pv 9) pa_nil))))) pss_nil))))))
      (pss_one (ps_set (i := 4) sc_l_distances.nd rfl (by first | exact Or.inl rfl | exact Or.inr rfl) (pv 6)))))))
      (pss_one (ps_ret (pv 3))))))), pure_l_distances h⟩
theorem ok_p_other (F : FnIs K mg "other" s_p_other ["end"]) : Df P w K mg base CX0 "other" 1 ["end"] (sp_p_other ⟨K, ad⟩) :=
  Df.of F sc_p_other len_p_other fun f cdv A outer s H vs Q E hr h => ⟨t_p_other ⟨K, ad⟩, (pss_one (ps_ret (pe_op op_sub (pe_op op_add (pv 0) pe_int) (pe_op op_mul pe_int (pe_op op_mod (pv 0) pe_int))))), pure_p_other h⟩
theorem ok_p_rim (F : FnIs K mg "rim" s_p_rim ["web", "end"]) (X_NoEnd : Exq K mg "NoEnd" (ad "NoEnd")) (D_p_other : Df P w K mg base CX0 "other" 1 ["end"] (sp_p_other ⟨K, ad⟩)) : Df P w K mg base (L2.CX P w) "rim" 2 ["web", "end"] (sp_p_rim ⟨K, ad⟩) :=
  Df.ofX F sc_p_rim len_p_rim fun f cdv A outer s H vs Q E hr h => ⟨t_p_rim ⟨K, ad⟩ E, (pss_cons (ps_if (pt_cmp (pc_dnotin (hu_of hr) (pv 1) (pv 0))) (pss_one (ps_raise rfl (takes_of rfl rfl rfl rfl) (pmk_own PySem.F.excBase_ValueError X_NoEnd.q X_NoEnd.g X_NoEnd.k (raises_own X_NoEnd.b X_NoEnd.t) (by exact rfl)))) pss_nil)
      (pss_cons (ps_set (i := 2) sc_p_rim.nd rfl (by first | exact Or.inl rfl | exact Or.inr rfl) (pe_lst (pa_cons (pv 1) pa_nil)))
      (pss_cons (ps_set (i := 3) sc_p_rim.nd rfl (by first | exact Or.inl rfl | exact Or.inr rfl) (pe_dget (hu_of hr) (pv 0) (pe_df D_p_other hr (by decide) pass0 (pa_cons (pv 1) pa_nil)) (fun _ _ => rfl)))
      (pss_cons (ps_while (passes_of rfl) (pt_cmpR op_ne (pv 3) (pv 1) (nomark _)) (pss_cons (ps_expr (pe_bm PySem.F.plainAttrs_list PySem.F.slot_list_append PySem.F.type_list_append mt_append (pv 2) (pa_cons (pv 3) pa_nil)))
      (pss_one (ps_set (i := 3) sc_p_rim.nd rfl (by first | exact Or.inl rfl | exact Or.inr rfl) (pe_dget (hu_of hr) (pv 0) (pe_df D_p_other hr (by decide) pass0 (pa_cons (pv 3) pa_nil)) (fun _ _ => rfl))))))
      (pss_one (ps_ret (pv 2))))))), pure_p_rim h⟩
theorem ok_p_rims (F : FnIs K mg "rims" s_p_rims ["web"]) (T_list : mg "list" = none) (T_sorted : mg "sorted" = none) (D_p_rim : Df P w K mg base (L2.CX P w) "rim" 2 ["web", "end"] (sp_p_rim ⟨K, ad⟩)) : Df P w K mg base CX0 "rims" 3 ["web"] (sp_p_rims ⟨K, ad⟩) :=
  Df.of F sc_p_rims len_p_rims fun f cdv A outer s H vs Q E hr h => ⟨t_p_rims ⟨K, ad⟩, (pss_cons (ps_set (i := 1) sc_p_rims.nd rfl (by first | exact Or.inl rfl | exact Or.inr rfl) (pe_lst pa_nil))
      (pss_cons (ps_set (i := 2) sc_p_rims.nd rfl (by first | exact Or.inl rfl | exact Or.inr rfl) pe_dnewK)
      (pss_cons (ps_for PassesOwn.never rfl (pi_list (pe_callB cr_sortedI (by rfl) T_sorted (by decide +kernel) (pa_cons (pe_callTy (call_listD rfl) (by rfl) T_list (by decide +kernel) (pa_cons (pv 0) pa_nil)) pa_nil))) (pg_name (i := 3) sc_p_rims.nd rfl (by first | exact Or.inl rfl | exact Or.inr rfl))
      (pss_one (ps_if (pt_cmp (pc_dnotin (hu_of hr) (pv 3) (pv 2))) (pss_cons (ps_set (i := 4) sc_p_rims.nd rfl (by first | exact Or.inl rfl | exact Or.inr rfl) (pe_df D_p_rim hr (by decide) passL (pa_cons (pv 0) (pa_cons (pv 3) pa_nil))))
      (pss_cons (ps_for PassesOwn.never rfl (pi_list (pv 4)) (pg_name (i := 5) sc_p_rims.nd rfl (by first | exact Or.inl rfl | exact Or.inr rfl))
      (pss_one (ps_dput (hu_of hr) (pv 2) (pv 5) pe_bl rfl)))
      (pss_one (ps_expr (pe_bm PySem.F.plainAttrs_list PySem.F.slot_list_append PySem.F.type_list_append mt_append (pv 1) (pa_cons (pv 4) pa_nil)))))) pss_nil)))
      (pss_one (ps_ret (pv 1)))))), pure_p_rims h⟩
theorem ok_p_least_ends (F : FnIs K mg "least_ends" s_p_least_ends ["web"]) (D_p_rims : Df P w K mg base CX0 "rims" 3 ["web"] (sp_p_rims ⟨K, ad⟩)) : Df P w K mg base CX0 "least_ends" 4 ["web"] (sp_p_least_ends ⟨K, ad⟩) :=
  Df.of F sc_p_least_ends len_p_least_ends fun f cdv A outer s H vs Q E hr h => ⟨t_p_least_ends ⟨K, ad⟩, (pss_cons (ps_set (i := 1) sc_p_least_ends.nd rfl (by first | exact Or.inl rfl | exact Or.inr rfl) pe_dnewK)
      (pss_cons (ps_for PassesOwn.never rfl (pi_list (pe_df D_p_rims hr (by decide) pass0 (pa_cons (pv 0) pa_nil))) (pg_name (i := 2) sc_p_least_ends.nd rfl (by first | exact Or.inl rfl | exact Or.inr rfl))
      (pss_one (ps_for PassesOwn.never rfl (pi_list (pv 2)) (pg_name (i := 3) sc_p_least_ends.nd rfl (by first | exact Or.inl rfl | exact Or.inr rfl))
      (pss_one (ps_dput (hu_of hr) (pv 1) (pv 3) (pe_ix ix_list (pv 2) pe_int (fun _ _ => rfl)) rfl)))))
      (pss_one (ps_ret (pv 1))))), pure_p_least_ends h⟩
theorem ok_p_ways (F : FnIs K mg "ways" s_p_ways ["web", "begin"]) (T_len : mg "len" = none) (D_p_least_ends : Df P w K mg base CX0 "least_ends" 4 ["web"] (sp_p_least_ends ⟨K, ad⟩)) (D_p_rim : Df P w K mg base (L2.CX P w) "rim" 2 ["web", "end"] (sp_p_rim ⟨K, ad⟩)) (D_p_other : Df P w K mg base CX0 "other" 1 ["end"] (sp_p_other ⟨K, ad⟩)) : Df P w K mg base CX0 "ways" 5 ["web", "begin"] (sp_p_ways ⟨K, ad⟩) :=
  Df.of F sc_p_ways len_p_ways fun f cdv A outer s H vs Q E hr h => ⟨t_p_ways ⟨K, ad⟩, (pss_cons (ps_set (i := 2) sc_p_ways.nd rfl (by first | exact Or.inl rfl | exact Or.inr rfl) (pe_df D_p_least_ends hr (by decide) pass0 (pa_cons (pv 0) pa_nil)))
      (pss_cons (ps_set (i := 3) sc_p_ways.nd rfl (by first | exact Or.inl rfl | exact Or.inr rfl) (pe_disp (pps_cons (pe_dget (hu_of hr) (pv 2) (pv 1) (fun _ _ => rfl)) pe_non pps_nil) rfl rfl (by simp) (by decide)))
      (pss_cons (ps_set (i := 4) sc_p_ways.nd rfl (by first | exact Or.inl rfl | exact Or.inr rfl) (pe_lst (pa_cons (pe_dget (hu_of hr) (pv 2) (pv 1) (fun _ _ => rfl)) pa_nil)))
      (pss_cons (ps_set (i := 5) sc_p_ways.nd rfl (by first | exact Or.inl rfl | exact Or.inr rfl) pe_int)
      (pss_cons (ps_while PassesOwn.never (pt_cmpR op_lt (pv 5) (pe_callB call_len_seq (by rfl) T_len (by decide +kernel) (pa_cons (pv 4) pa_nil)) (nomark _)) (pss_cons (ps_for PassesOwn.never rfl (pi_list (pe_df D_p_rim hr (by decide) passL (pa_cons (pv 0) (pa_cons (pe_ix ix_list (pv 4) (pv 5) (fun _ _ => rfl)) pa_nil)))) (pg_name (i := 6) sc_p_ways.nd rfl (by first | exact Or.inl rfl | exact Or.inr rfl))
      (pss_cons (ps_set (i := 7) sc_p_ways.nd rfl (by first | exact Or.inl rfl | exact Or.inr rfl) (pe_dget (hu_of hr) (pv 2) (pe_df D_p_other hr (by decide) pass0 (pa_cons (pv 6) pa_nil)) (fun _ _ => rfl)))
      (pss_one (ps_if (pt_cmp (pc_dnotin (hu_of hr) (pv 7) (pv 3))) (pss_cons (ps_dput (hu_of hr) (pv 3) (pv 7) (pv 6) rfl)
      (pss_one (ps_expr (pe_bm PySem.F.plainAttrs_list PySem.F.slot_list_append PySem.F.type_list_append mt_append (pv 4) (pa_cons (pv 7) pa_nil))))) pss_nil))))
      (pss_one (ps_aug (i := 5) sc_p_ways.nd rfl (by first | exact Or.inl rfl | exact Or.inr rfl) pe_int ip_add))))
      (pss_one (ps_ret (pv 3)))))))), pure_p_ways h⟩
theorem ok_p_road (F : FnIs K mg "road" s_p_road ["web", "one", "two"]) (X_NoEnd : Exq K mg "NoEnd" (ad "NoEnd")) (D_p_least_ends : Df P w K mg base CX0 "least_ends" 4 ["web"] (sp_p_least_ends ⟨K, ad⟩)) (D_p_ways : Df P w K mg base CX0 "ways" 5 ["web", "begin"] (sp_p_ways ⟨K, ad⟩)) : Df P w K mg base (L2.CX P w) "road" 6 ["web", "one", "two"] (sp_p_road ⟨K, ad⟩) :=
  Df.ofX F sc_p_road len_p_road fun f cdv A outer s H vs Q E hr h => ⟨t_p_road ⟨K, ad⟩ E, (pss_cons (ps_if (PW.pt (pw_or (pt_cmp (pc_dnotin (hu_of hr) (pv 1) (pv 0))) (pw_or1 (pt_cmp (pc_dnotin (hu_of hr) (pv 2) (pv 0)))))) (pss_one (ps_raise rfl (takes_of rfl rfl rfl rfl) (pmk_own PySem.F.excBase_ValueError X_NoEnd.q X_NoEnd.g X_NoEnd.k (raises_own X_NoEnd.b X_NoEnd.t) (by exact rfl)))) pss_nil)
      (pss_cons (ps_set (i := 3) sc_p_road.nd rfl (by first | exact Or.inl rfl | exact Or.inr rfl) (pe_df D_p_least_ends hr (by decide) pass0 (pa_cons (pv 0) pa_nil)))
      (pss_cons (ps_set (i := 4) sc_p_road.nd rfl (by first | exact Or.inl rfl | exact Or.inr rfl) (pe_df D_p_ways hr (by decide) pass0 (pa_cons (pv 0) (pa_cons (pv 1) pa_nil))))
      (pss_cons (ps_set (i := 5) sc_p_road.nd rfl (by first | exact Or.inl rfl | exact Or.inr rfl) (pe_lst pa_nil))
      (pss_cons (ps_set (i := 6) sc_p_road.nd rfl (by first | exact Or.inl rfl | exact Or.inr rfl) (pe_dget (hu_of hr) (pv 4) (pe_dget (hu_of hr) (pv 3) (pv 2) (fun _ _ => rfl)) (fun _ _ => rfl)))
      (pss_cons (ps_while (passes_of rfl) (pt_cmpR op_notN (pv 6) pe_non (nomark _)) (pss_cons (ps_expr (pe_bm PySem.F.plainAttrs_list PySem.F.slot_list_append PySem.F.type_list_append mt_append (pv 5) (pa_cons (pv 6) pa_nil)))
      (pss_one (ps_set (i := 6) sc_p_road.nd rfl (by first | exact Or.inl rfl | exact Or.inr rfl) (pe_dget (hu_of hr) (pv 4) (pe_dget (hu_of hr) (pv 3) (pv 6) (fun _ _ => rfl)) (fun _ _ => rfl))))))
      (pss_one (ps_ret (pe_revL (pv 5)))))))))), pure_p_road h⟩
theorem ok_l_whole (F : FnIs K mg "_law_whole" s_l_whole ["_law_thing"]) (T_isinstance : mg "isinstance" = none) (T_int : mg "int" = none) (T_bool : mg "bool" = none) : Df P w K mg base CX0 "_law_whole" 1 ["_law_thing"] (sp_l_whole ⟨K, ad⟩) :=
  Df.of F sc_l_whole len_l_whole fun f cdv A outer s H vs Q E hr h => ⟨t_l_whole ⟨K, ad⟩, (pss_one (ps_ret (pe_and (pe_callB call_isi (by rfl) T_isinstance (by decide +kernel) (pa_cons (pv 0) (pa_cons (pe_bltn (v := .ty "int") (by rfl) T_int (by decide +kernel) rfl) pa_nil))) (pe_one (pe_not (pe_callB call_isi (by rfl) T_isinstance (by decide +kernel) (pa_cons (pv 0) (pa_cons (pe_bltn (v := .ty "bool") (by rfl) T_bool (by decide +kernel) rfl) pa_nil)))))))), pure_l_whole h⟩
theorem ok_p_far (F : FnIs K mg "far" s_p_far ["web", "one", "two"]) (T_len : mg "len" = none) (D_p_road : Df P w K mg base (L2.CX P w) "road" 6 ["web", "one", "two"] (sp_p_road ⟨K, ad⟩)) : Df P w K mg base (L2.CX P w) "far" 7 ["web", "one", "two"] (sp_p_far ⟨K, ad⟩) :=
  Df.ofX F sc_p_far len_p_far fun f cdv A outer s H vs Q E hr h => ⟨t_p_far ⟨K, ad⟩ E, (pss_one (ps_ret (pe_callB call_len_seq (by rfl) T_len (by decide +kernel) (pa_cons (pe_df D_p_road hr (by decide) (passes_call (takes_of rfl rfl rfl rfl) fun _ _ _ _ h => h) (pa_cons (pv 0) (pa_cons (pv 1) (pa_cons (pv 2) pa_nil)))) pa_nil)))), pure_p_far h⟩
theorem ok_l_free (F : FnIs K mg "_law_free" s_l_free ["_law_web_here"]) (T_list : mg "list" = none) (T_max : mg "max" = none) : Df P w K mg base CX0 "_law_free" 1 ["_law_web_here"] (sp_l_free ⟨K, ad⟩) :=
  Df.of F sc_l_free len_l_free fun f cdv A outer s H vs Q E hr h => ⟨t_l_free ⟨K, ad⟩, (pss_one (ps_ret (pe_op op_add pe_int (pe_op op_fdivW (pe_callB (cr_max rfl) (by rfl) T_max (by decide +kernel) (pa_cons (pe_callTy (call_listD rfl) (by rfl) T_list (by decide +kernel) (pa_cons (pv 0) pa_nil)) pa_nil)) pe_int)))), pure_l_free h⟩
theorem ok_l_refusals (F : FnIs K mg "_law_refusals" s_l_refusals ["_law_web_here", "_law_one", "_law_two"]) (X_NoEnd : Exq K mg "NoEnd" (ad "NoEnd")) (XM : Exm ⟨K, ad⟩ ["NoEnd"]) (XM : Exm ⟨K, ad⟩ ["NoEnd"]) (D_p_road : Df P w K mg base (L2.CX P w) "road" 6 ["web", "one", "two"] (sp_p_road ⟨K, ad⟩)) (D_p_far : Df P w K mg base (L2.CX P w) "far" 7 ["web", "one", "two"] (sp_p_far ⟨K, ad⟩)) : Df P w K mg base CX0 "_law_refusals" 8 ["_law_web_here", "_law_one", "_law_two"] (sp_l_refusals ⟨K, ad⟩) :=
  Df.of F sc_l_refusals len_l_refusals fun f cdv A outer s H vs Q E hr h => ⟨t_l_refusals ⟨K, ad⟩, (pss_cons (ps_set (i := 3) sc_l_refusals.nd rfl (by first | exact Or.inl rfl | exact Or.inr rfl) pe_int)
      (pss_cons (ps_try_many rfl rfl takes0 (fun W pn xe tk po => (pss_one (ps_expr (pe_dfS D_p_road hr (by decide) (fun σ => passAt tk σ) (pa_cons (pv 0) (pa_cons (pv 1) (pa_cons (pv 2) pa_nil))))))) (.cons ⟨rfl, by decide, .inl X_NoEnd.g⟩ (fun a oe cls d pn _ _ => (pss_one (ps_aug (i := 3) sc_l_refusals.nd rfl (by first | exact Or.inl rfl | exact Or.inr rfl) pe_int ip_add))) .nil))
      (pss_cons (ps_try_many rfl rfl takes0 (fun W pn xe tk po => (pss_one (ps_expr (pe_dfS D_p_far hr (by decide) (fun σ => passAt tk σ) (pa_cons (pv 0) (pa_cons (pv 1) (pa_cons (pv 2) pa_nil))))))) (.cons ⟨rfl, by decide, .inl X_NoEnd.g⟩ (fun a oe cls d pn _ _ => (pss_one (ps_aug (i := 3) sc_l_refusals.nd rfl (by first | exact Or.inl rfl | exact Or.inr rfl) pe_int ip_add))) .nil))
      (pss_one (ps_ret (pv 3)))))), pure_l_refusals XM h⟩
theorem ok_l_is_web (F : FnIs K mg "_law_is_web" s_l_is_web ["_law_found", "_law_due"]) (T_isinstance : mg "isinstance" = none) (T_dict : mg "dict" = none) (T_len : mg "len" = none) (T_all : mg "all" = none) (D_l_whole : Df P w K mg base CX0 "_law_whole" 1 ["_law_thing"] (sp_l_whole ⟨K, ad⟩)) : Df P w K mg base CX0 "_law_is_web" 2 ["_law_found", "_law_due"] (sp_l_is_web ⟨K, ad⟩) :=
  Df.of F sc_l_is_web len_l_is_web fun f cdv A outer s H vs Q E hr h => ⟨t_l_is_web ⟨K, ad⟩, (pss_cons (ps_if (PW.pt (pw_or (pt_not (pt_val (pe_callB call_isi (by rfl) T_isinstance (by decide +kernel) (pa_cons (pv 0) (pa_cons (pe_bltn (v := .ty "dict") (by rfl) T_dict (by decide +kernel) rfl) pa_nil))))) (pw_or1 (pt_cmpR op_ne (pe_callB call_lenRd (by rfl) T_len (by decide +kernel) (pa_cons (pv 0) pa_nil)) (pe_callB call_lenRd (by rfl) T_len (by decide +kernel) (pa_cons (pv 1) pa_nil)) (nomark _))))) (pss_one (ps_ret pe_bl)) pss_nil)
      (pss_cons (ps_lock (ps_for PassesOwn.never rfl (pi_keys (pv 1)) (pg_name (i := 2) sc_l_is_web.nd rfl (by first | exact Or.inl rfl | exact Or.inr rfl))
      (pss_one (ps_if (PW.pt (pw_or (pt_cmp (pc_dnotin (hu_of hr) (pv 2) (pv 0))) (pw_or (pt_not (pt_val (pe_df D_l_whole hr (by decide) pass0 (pa_cons (pe_dget (hu_of hr) (pv 0) (pv 2) (fun _ _ => rfl)) pa_nil)))) (pw_or1 (pt_cmpR op_ne (pe_dget (hu_of hr) (pv 0) (pv 2) (fun _ _ => rfl)) (pe_dget (hu_of hr) (pv 1) (pv 2) (fun _ _ => rfl)) (nomark _)))))) (pss_one (ps_ret pe_bl)) pss_nil))))
      (pss_one (ps_ret (pe_callB (cr_all rfl) (by rfl) T_all (by decide +kernel) (pa_cons (pe_lock (pe_lc (own := [("_law_end", 2)]) (g := (gName 2)) rfl sc_l_is_web.nd (pi_keys (pv 0)) (blkOk_by (N := ["_law_found", "_law_due", "_law_end"]) (sc := defScope s_l_is_web) (by decide +kernel)) (fun _ _ _ _ _ => (pg_name (i := 2) sc_l_is_web.nd rfl (by first | exact Or.inl rfl | exact Or.inr rfl))) (fun _ _ _ _ _ => pts_nil) (fun _ _ _ _ _ => (pe_df D_l_whole hr (by decide) pass0 (pa_cons (pv 2) pa_nil))))) pa_nil)))))), pure_l_is_web h⟩
theorem ok_p_law {f : Addr} {fd : FuncData} (F : Fun K "law" "law" s_p_law f fd) (T_list : mg "list" = none) (T_sorted : mg "sorted" = none) (T_dict : mg "dict" = none) (T_range : mg "range" = none) (T_len : mg "len" = none) (T_isinstance : mg "isinstance" = none) (D_l_drawn_web : Df P w K mg base CX0 "_law_drawn_web" 6 ["_law_script", "_law_most"] (sp_l_drawn_web ⟨K, ad⟩)) (D_l_label : Df P w K mg base CX0 "_law_label" 4 ["_law_web_here"] (sp_l_label ⟨K, ad⟩)) (D_l_digits : Df P w K mg base CX0 "_law_digits" 2 ["_law_cell_here", "_law_sizes"] (sp_l_digits ⟨K, ad⟩)) (D_l_cell : Df P w K mg base CX0 "_law_cell" 1 ["_law_script", "_law_place"] (sp_l_cell ⟨K, ad⟩)) (D_l_rim : Df P w K mg base CX0 "_law_rim" 2 ["_law_web_here", "_law_end"] (sp_l_rim ⟨K, ad⟩)) (D_l_distances : Df P w K mg base CX0 "_law_distances" 3 ["_law_web_here", "_law_label_here", "_law_end"] (sp_l_distances ⟨K, ad⟩)) (D_p_road : Df P w K mg base (L2.CX P w) "road" 6 ["web", "one", "two"] (sp_p_road ⟨K, ad⟩)) (D_l_whole : Df P w K mg base CX0 "_law_whole" 1 ["_law_thing"] (sp_l_whole ⟨K, ad⟩)) (D_l_other : Df P w K mg base CX0 "_law_other" 1 ["_law_end"] (sp_l_other ⟨K, ad⟩)) (D_p_far : Df P w K mg base (L2.CX P w) "far" 7 ["web", "one", "two"] (sp_p_far ⟨K, ad⟩)) (D_l_free : Df P w K mg base CX0 "_law_free" 1 ["_law_web_here"] (sp_l_free ⟨K, ad⟩)) (D_l_refusals : Df P w K mg base CX0 "_law_refusals" 8 ["_law_web_here", "_law_one", "_law_two"] (sp_l_refusals ⟨K, ad⟩)) (D_l_is_web : Df P w K mg base CX0 "_law_is_web" 2 ["_law_found", "_law_due"] (sp_l_is_web ⟨K, ad⟩)) : FnOk P w K mg base CX0 9 f fd ["_law_script"] (spLaw ⟨K, ad⟩) :=
  F.ok sc_p_law len_p_law fun cdv A outer s H vs Q E hr h => ⟨t_p_law ⟨K, ad⟩, (pss_cons (ps_set (i := 1) sc_p_law.nd rfl (by first | exact Or.inl rfl | exact Or.inr rfl) (pe_df D_l_drawn_web hr (by decide) pass0 (pa_cons (pv 0) (pa_cons pe_int pa_nil))))
      (pss_cons (ps_set (i := 2) sc_p_law.nd rfl (by first | exact Or.inl rfl | exact Or.inr rfl) (pe_df D_l_label hr (by decide) pass0 (pa_cons (pv 1) pa_nil)))
      (pss_cons (ps_set (i := 3) sc_p_law.nd rfl (by first | exact Or.inl rfl | exact Or.inr rfl) (pe_callB cr_sortedI (by rfl) T_sorted (by decide +kernel) (pa_cons (pe_callTy (call_listD rfl) (by rfl) T_list (by decide +kernel) (pa_cons (pv 1) pa_nil)) pa_nil)))
      (pss_cons (ps_set (i := 4) sc_p_law.nd rfl (by first | exact Or.inl rfl | exact Or.inr rfl) (pe_callTy call_dictD (by rfl) T_dict (by decide +kernel) (pa_cons (pv 1) pa_nil)))
      (pss_cons (ps_for PassesOwn.never rfl (pi_range1 (by rfl) T_range (pa_cons pe_int pa_nil)) (pg_name (i := 5) sc_p_law.nd rfl (by first | exact Or.inl rfl | exact Or.inr rfl))
      (pss_cons (ps_asg (pe_df D_l_digits hr (by decide) pass0 (pa_cons (pe_df D_l_cell hr (by decide) pass0 (pa_cons (pv 0) (pa_cons (pe_op op_add pe_int (pv 5)) pa_nil))) (pa_cons (pe_lst (pa_cons pe_int (pa_cons pe_int (pa_cons pe_int pa_nil)))) pa_nil))) (pg_unl rfl (pgs_cons (pg_name (i := 6) sc_p_law.nd rfl (by first | exact Or.inl rfl | exact Or.inr rfl)) (pgs_cons (pg_name (i := 7) sc_p_law.nd rfl (by first | exact Or.inl rfl | exact Or.inr rfl)) (pgs_cons (pg_name (i := 8) sc_p_law.nd rfl (by first | exact Or.inl rfl | exact Or.inr rfl)) pgs_nil)))))
      (pss_cons (ps_par (by rfl) sc_p_law.nd rfl rfl (by decide) rfl rfl (pa_cons (pe_ix ix_list (pv 3) (pe_op op_mod (pv 6) (pe_callB call_len_seq (by rfl) T_len (by decide +kernel) (pa_cons (pv 3) pa_nil))) (fun _ _ => rfl)) (pa_cons (pe_ix ix_list (pv 3) (pe_op op_mod (pv 7) (pe_callB call_len_seq (by rfl) T_len (by decide +kernel) (pa_cons (pv 3) pa_nil))) (fun _ _ => rfl)) pa_nil)) (by rfl))
      (pss_cut (ps_if (pt_cmpR op_eq (pv 8) pe_int (nomark _)) (pss_one (ps_set (i := 10) sc_p_law.nd rfl (by first | exact Or.inl rfl | exact Or.inr rfl) (pe_ix ix_list (pe_df D_l_rim hr (by decide) pass0 (pa_cons (pv 1) (pa_cons (pv 9) pa_nil))) (pe_op op_mod (pv 7) (pe_callB call_len_seq (by rfl) T_len (by decide +kernel) (pa_cons (pe_df D_l_rim hr (by decide) pass0 (pa_cons (pv 1) (pa_cons (pv 9) pa_nil))) pa_nil))) (fun _ _ => rfl)))) pss_nil)
      (pss_cons (ps_set (i := 11) sc_p_law.nd rfl (by first | exact Or.inl rfl | exact Or.inr rfl) (pe_dget2 (hu_of hr) (pe_df D_l_distances hr (by decide) pass0 (pa_cons (pv 1) (pa_cons (pv 2) (pa_cons (pv 9) pa_nil)))) (pe_dget (hu_of hr) (pv 2) (pv 10) (fun _ _ => rfl)) (pe_un un_neg pe_int) ⟨rfl, rfl, rfl, rfl⟩))
      (pss_cons (ps_set (i := 12) sc_p_law.nd rfl (by first | exact Or.inl rfl | exact Or.inr rfl) (pe_df D_p_road hr (by decide) passL (pa_cons (pv 4) (pa_cons (pv 9) (pa_cons (pv 10) pa_nil)))))
      (pss_cons (ps_if (PW.pt (pw_or (pt_not (pt_val (pe_callB call_isi (by rfl) T_isinstance (by decide +kernel) (pa_cons (pv 12) (pa_cons (pe_bltn (v := .ty "list") (by rfl) T_list (by decide +kernel) rfl) pa_nil))))) (pw_or1 (pt_cmpR op_ne (pe_callB call_len_seq (by rfl) T_len (by decide +kernel) (pa_cons (pv 12) pa_nil)) (pv 11) (nomark _))))) (pss_one (ps_ret pe_bl)) pss_nil)
      (pss_cons (ps_set (i := 13) sc_p_law.nd rfl (by first | exact Or.inl rfl | exact Or.inr rfl) (pe_dget (hu_of hr) (pv 2) (pv 9) (fun _ _ => rfl)))
      (pss_cons (ps_for PassesOwn.never rfl (pi_list (pv 12)) (pg_name (i := 14) sc_p_law.nd rfl (by first | exact Or.inl rfl | exact Or.inr rfl))
      (pss_cons (ps_if (PW.pt (pw_or (pt_not (pt_val (pe_df D_l_whole hr (by decide) pass0 (pa_cons (pv 14) pa_nil)))) (pw_or (pt_cmp (pc_dnotin (hu_of hr) (pv 14) (pv 1))) (pw_or1 (pt_cmpR op_ne (pe_dget (hu_of hr) (pv 2) (pv 14) (fun _ _ => rfl)) (pv 13) (nomark _)))))) (pss_one (ps_ret pe_bl)) pss_nil)
      (pss_one (ps_set (i := 13) sc_p_law.nd rfl (by first | exact Or.inl rfl | exact Or.inr rfl) (pe_dget (hu_of hr) (pv 2) (pe_df D_l_other hr (by decide) pass0 (pa_cons (pv 14) pa_nil)) (fun _ _ => rfl))))))
      (pss_cons (ps_expr (pe_bm PySem.F.plainAttrs_list PySem.F.slot_list_append PySem.F.type_list_append mt_append (pv 12) (pa_cons (pv 13) pa_nil)))
      (pss_cons (ps_par (by rfl) sc_p_law.nd rfl rfl (by decide) rfl rfl (pa_cons (pe_df D_p_far hr (by decide) passL (pa_cons (pv 4) (pa_cons (pv 9) (pa_cons (pv 10) pa_nil)))) (pa_cons (pe_df D_p_far hr (by decide) passL (pa_cons (pv 4) (pa_cons (pv 10) (pa_cons (pv 9) pa_nil)))) pa_nil)) (by rfl))
      (pss_one (ps_if (PW.pt (pw_or (pt_cmpR op_ne (pv 13) (pe_dget (hu_of hr) (pv 2) (pv 10) (fun _ _ => rfl)) (nomark _)) (pw_or (pt_not (pt_val (pe_df D_l_whole hr (by decide) pass0 (pa_cons (pv 15) pa_nil)))) (pw_or (pt_cmpR op_ne (pv 15) (pv 11) (nomark _)) (pw_or1 (pt_cmpR op_ne (pv 16) (pv 11) (nomark _))))))) (pss_one (ps_ret pe_bl)) pss_nil)))))))))))))
      (pss_cons (ps_set (i := 17) sc_p_law.nd rfl (by first | exact Or.inl rfl | exact Or.inr rfl) (pe_op op_mul pe_int (pe_df D_l_free hr (by decide) pass0 (pa_cons (pv 1) pa_nil))))
      (pss_cons (ps_if (PW.pt (pw_or (pt_cmpR op_ne (pe_df D_l_refusals hr (by decide) pass0 (pa_cons (pv 4) (pa_cons (pv 17) (pa_cons (pe_ix ix_list (pv 3) pe_int (fun _ _ => rfl)) pa_nil)))) pe_int (nomark _)) (pw_or1 (pt_cmpR op_ne (pe_df D_l_refusals hr (by decide) pass0 (pa_cons (pv 4) (pa_cons (pe_ix ix_list (pv 3) pe_int (fun _ _ => rfl)) (pa_cons (pe_un un_neg pe_int) pa_nil)))) pe_int (nomark _))))) (pss_one (ps_ret pe_bl)) pss_nil)
      (pss_one (ps_ret (pe_and (pe_cmpR op_eq (pe_df D_l_refusals hr (by decide) pass0 (pa_cons (pv 4) (pa_cons (pv 17) (pa_cons (pv 17) pa_nil)))) pe_int (nomark _)) (pe_one (pe_df D_l_is_web hr (by decide) pass0 (pa_cons (pv 4) (pa_cons (pv 1) pa_nil)))))))))))))), pure_p_law h⟩
end
theorem all_mk {l : PySem.W.OpenLaw} {w : World} {K : PySem.W.Frag} {h : Heap} {mg : Str → Option Value} {fa fl : Addr} (X : K.In h) (G : h.Ns mainGlobals mg) (hfa : mg "law" = some (.ref fa))
    (F_l_seed : FnIs K mg "_law_seed" s_l_seed ["_law_cell_here"])
    (F_l_digits : FnIs K mg "_law_digits" s_l_digits ["_law_cell_here", "_law_sizes"])
    (F_l_renumbered : FnIs K mg "_law_renumbered" s_l_renumbered ["_law_web_here", "_law_cell_here"])
    (F_l_cell : FnIs K mg "_law_cell" s_l_cell ["_law_script", "_law_place"])
    (F_l_seat : FnIs K mg "_law_seat" s_l_seat ["_law_web_here", "_law_ends"])
    (F_l_comb : FnIs K mg "_law_comb" s_l_comb ["_law_rows", "_law_cols"])
    (F_l_other : FnIs K mg "_law_other" s_l_other ["_law_end"])
    (F_l_rim : FnIs K mg "_law_rim" s_l_rim ["_law_web_here", "_law_end"])
    (F_l_rims : FnIs K mg "_law_rims" s_l_rims ["_law_web_here"])
    (F_l_corner : FnIs K mg "_law_corner" s_l_corner ["_law_web_here", "_law_end"])
    (F_l_loop : FnIs K mg "_law_loop" s_l_loop ["_law_web_here", "_law_film"])
    (F_l_push : FnIs K mg "_law_push" s_l_push ["_law_web_here", "_law_film", "_law_back"])
    (F_l_one_bubble : FnIs K mg "_law_one_bubble" s_l_one_bubble ["_law_web_here", "_law_film"])
    (F_l_mended : FnIs K mg "_law_mended" s_l_mended ["_law_web_here", "_law_end"])
    (F_l_without : FnIs K mg "_law_without" s_l_without ["_law_web_here", "_law_film"])
    (F_l_blow : FnIs K mg "_law_blow" s_l_blow ["_law_web_here", "_law_end", "_law_first"])
    (F_l_part : FnIs K mg "_law_part" s_l_part ["_law_web_here", "_law_one", "_law_two", "_law_first"])
    (F_l_step : FnIs K mg "_law_step" s_l_step ["_law_web_here", "_law_first", "_law_cell_here"])
    (F_l_web : FnIs K mg "_law_web" s_l_web ["_law_script", "_law_most"])
    (F_l_drawn_web : FnIs K mg "_law_drawn_web" s_l_drawn_web ["_law_script", "_law_most"])
    (F_l_label : FnIs K mg "_law_label" s_l_label ["_law_web_here"])
    (F_l_distances : FnIs K mg "_law_distances" s_l_distances ["_law_web_here", "_law_label_here", "_law_end"])
    (F_p_other : FnIs K mg "other" s_p_other ["end"])
    (F_p_rim : FnIs K mg "rim" s_p_rim ["web", "end"])
    (F_p_rims : FnIs K mg "rims" s_p_rims ["web"])
    (F_p_least_ends : FnIs K mg "least_ends" s_p_least_ends ["web"])
    (F_p_ways : FnIs K mg "ways" s_p_ways ["web", "begin"])
    (F_p_road : FnIs K mg "road" s_p_road ["web", "one", "two"])
    (F_l_whole : FnIs K mg "_law_whole" s_l_whole ["_law_thing"])
    (F_p_far : FnIs K mg "far" s_p_far ["web", "one", "two"])
    (F_l_free : FnIs K mg "_law_free" s_l_free ["_law_web_here"])
    (F_l_refusals : FnIs K mg "_law_refusals" s_l_refusals ["_law_web_here", "_law_one", "_law_two"])
    (F_l_is_web : FnIs K mg "_law_is_web" s_l_is_web ["_law_found", "_law_due"])
    (z_enumerate : PySem.W.nsIn K mainGlobals "enumerate" = some none)
    (z_len : PySem.W.nsIn K mainGlobals "len" = some none)
    (z_range : PySem.W.nsIn K mainGlobals "range" = some none)
    (z_list : PySem.W.nsIn K mainGlobals "list" = some none)
    (z_sorted : PySem.W.nsIn K mainGlobals "sorted" = some none)
    (z_dict : PySem.W.nsIn K mainGlobals "dict" = some none)
    (z_min : PySem.W.nsIn K mainGlobals "min" = some none)
    (z_max : PySem.W.nsIn K mainGlobals "max" = some none)
    (z_isinstance : PySem.W.nsIn K mainGlobals "isinstance" = some none)
    (z_int : PySem.W.nsIn K mainGlobals "int" = some none)
    (z_bool : PySem.W.nsIn K mainGlobals "bool" = some none)
    (z_all : PySem.W.nsIn K mainGlobals "all" = some none)
    {C_NoEnd : Addr} (a_NoEnd : PySem.W.nsIn K mainGlobals "NoEnd" = some (some (.ref C_NoEnd))) (q_NoEnd : PySem.W.excIn K C_NoEnd [.type "ValueError", .type "Exception", .type "BaseException", .type "object"] "ValueError.__new__" = true) (k_NoEnd : PySem.W.keepIn K (.ref C_NoEnd) = true) (b_NoEnd : PySem.W.subIn K (.ref C_NoEnd) (.type "BaseException") = some true) (t_NoEnd : PySem.W.typeIn K (.ref C_NoEnd) = some (.type "type")) (i_NoEnd : PySem.W.isClsIn K C_NoEnd = true)
    (s_NoEnd_NoEnd : PySem.W.subIn K (.ref C_NoEnd) (.ref C_NoEnd) = some true)
    {od an : Option Addr} {sl : Array (Option Value)} {oc kV dc pm cd ct : Value} (aL : PySem.W.nsIn K mainGlobals "law" = some (some (.ref fl))) (lL : K.lookup fl = some ⟨oc, od, .func (PySem.W.fnOf "law" "law" (defArgs s_p_law) (defBody s_p_law) (defScope s_p_law) .none kV dc pm an cd ct), sl⟩) (cL : PySem.W.codeIn K cd "law" = true) (kL : PySem.W.keepIn K (.ref fl) = true) :
    ∃ fd : FuncData, (∀ (s : Shared) (v : Value), BindsTo s fd ⟨[v], []⟩ [("_law_script", v)]) ∧ ∀ base : Heap, K.In base → base.Ns mainGlobals mg → FnOk l.prog w K mg base CX0 9 fa fd ["_law_script"] (spLaw ⟨K, fun _ => 0⟩) := by
  have e := hfa.symm.trans (PySem.W.mg_of X G aL)
  cases e
  have T_enumerate := PySem.W.mg_none_of X G z_enumerate
  have T_len := PySem.W.mg_none_of X G z_len
  have T_range := PySem.W.mg_none_of X G z_range
  have T_list := PySem.W.mg_none_of X G z_list
  have T_sorted := PySem.W.mg_none_of X G z_sorted
  have T_dict := PySem.W.mg_none_of X G z_dict
  have T_min := PySem.W.mg_none_of X G z_min
  have T_max := PySem.W.mg_none_of X G z_max
  have T_isinstance := PySem.W.mg_none_of X G z_isinstance
  have T_int := PySem.W.mg_none_of X G z_int
  have T_bool := PySem.W.mg_none_of X G z_bool
  have T_all := PySem.W.mg_none_of X G z_all
  obtain ⟨X_NoEnd, w_NoEnd⟩ := exq_mk X G a_NoEnd q_NoEnd k_NoEnd b_NoEnd t_NoEnd i_NoEnd
  have m_NoEnd_NoEnd := exm_pair b_NoEnd i_NoEnd t_NoEnd s_NoEnd_NoEnd
  rw [← w_NoEnd] at m_NoEnd_NoEnd
  refine ⟨PySem.W.fnOf "law" "law" (defArgs s_p_law) (defBody s_p_law) (defScope s_p_law) .none kV dc pm an cd ct, fun s v => .of_eq rfl, fun base _ _ => ?_⟩
  have D_l_seed := ok_l_seed (P := l.prog) (w := w) (base := base) (ad := adOf mg) F_l_seed
  have D_l_digits := ok_l_digits (P := l.prog) (w := w) (base := base) (ad := adOf mg) F_l_digits T_enumerate D_l_seed
  have D_l_renumbered := ok_l_renumbered (P := l.prog) (w := w) (base := base) (ad := adOf mg) F_l_renumbered D_l_digits
  have D_l_cell := ok_l_cell (P := l.prog) (w := w) (base := base) (ad := adOf mg) F_l_cell T_len
  have D_l_seat := ok_l_seat (P := l.prog) (w := w) (base := base) (ad := adOf mg) F_l_seat T_range
  have D_l_comb := ok_l_comb (P := l.prog) (w := w) (base := base) (ad := adOf mg) F_l_comb T_range D_l_seat
  have D_l_other := ok_l_other (P := l.prog) (w := w) (base := base) (ad := adOf mg) F_l_other
  have D_l_rim := ok_l_rim (P := l.prog) (w := w) (base := base) (ad := adOf mg) F_l_rim T_len T_range D_l_other
  have D_l_rims := ok_l_rims (P := l.prog) (w := w) (base := base) (ad := adOf mg) F_l_rims T_list T_sorted D_l_rim
  have D_l_corner := ok_l_corner (P := l.prog) (w := w) (base := base) (ad := adOf mg) F_l_corner
  have D_l_loop := ok_l_loop (P := l.prog) (w := w) (base := base) (ad := adOf mg) F_l_loop D_l_corner
  have D_l_push := ok_l_push (P := l.prog) (w := w) (base := base) (ad := adOf mg) F_l_push T_dict D_l_corner D_l_seat
  have D_l_one_bubble := ok_l_one_bubble (P := l.prog) (w := w) (base := base) (ad := adOf mg) F_l_one_bubble D_l_rim
  have D_l_mended := ok_l_mended (P := l.prog) (w := w) (base := base) (ad := adOf mg) F_l_mended T_min T_max D_l_corner D_l_other
  have D_l_without := ok_l_without (P := l.prog) (w := w) (base := base) (ad := adOf mg) F_l_without D_l_corner D_l_mended D_l_other
  have D_l_blow := ok_l_blow (P := l.prog) (w := w) (base := base) (ad := adOf mg) F_l_blow T_dict D_l_corner D_l_seat
  have D_l_part := ok_l_part (P := l.prog) (w := w) (base := base) (ad := adOf mg) F_l_part T_dict D_l_other D_l_corner D_l_seat
  have D_l_step := ok_l_step (P := l.prog) (w := w) (base := base) (ad := adOf mg) F_l_step T_list T_sorted T_len T_min D_l_digits D_l_rims D_l_loop D_l_push D_l_one_bubble D_l_without D_l_blow D_l_rim D_l_part
  have D_l_web := ok_l_web (P := l.prog) (w := w) (base := base) (ad := adOf mg) F_l_web D_l_digits D_l_cell D_l_comb D_l_step
  have D_l_drawn_web := ok_l_drawn_web (P := l.prog) (w := w) (base := base) (ad := adOf mg) F_l_drawn_web D_l_renumbered D_l_web D_l_cell
  have D_l_label := ok_l_label (P := l.prog) (w := w) (base := base) (ad := adOf mg) F_l_label D_l_rims
  have D_l_distances := ok_l_distances (P := l.prog) (w := w) (base := base) (ad := adOf mg) F_l_distances T_len D_l_rim D_l_other
  have D_p_other := ok_p_other (P := l.prog) (w := w) (base := base) (ad := adOf mg) F_p_other
  have D_p_rim := ok_p_rim (P := l.prog) (w := w) (base := base) (ad := adOf mg) F_p_rim X_NoEnd D_p_other
  have D_p_rims := ok_p_rims (P := l.prog) (w := w) (base := base) (ad := adOf mg) F_p_rims T_list T_sorted D_p_rim
  have D_p_least_ends := ok_p_least_ends (P := l.prog) (w := w) (base := base) (ad := adOf mg) F_p_least_ends D_p_rims
  have D_p_ways := ok_p_ways (P := l.prog) (w := w) (base := base) (ad := adOf mg) F_p_ways T_len D_p_least_ends D_p_rim D_p_other
  have D_p_road := ok_p_road (P := l.prog) (w := w) (base := base) (ad := adOf mg) F_p_road X_NoEnd D_p_least_ends D_p_ways
  have D_l_whole := ok_l_whole (P := l.prog) (w := w) (base := base) (ad := adOf mg) F_l_whole T_isinstance T_int T_bool
  have D_p_far := ok_p_far (P := l.prog) (w := w) (base := base) (ad := adOf mg) F_p_far T_len D_p_road
  have D_l_free := ok_l_free (P := l.prog) (w := w) (base := base) (ad := adOf mg) F_l_free T_list T_max
  have XM_l_refusals : Exm ⟨K, adOf mg⟩ ["NoEnd"] := by
    intro i j x y hi hj
    match i, hi with
    | 0, hi =>
      cases hi
      match j, hj with
      | 0, hj => cases hj; exact m_NoEnd_NoEnd
      | j + 1, hj => cases hj
    | i + 1, hi => cases hi
  have XM_l_refusals : Exm ⟨K, adOf mg⟩ ["NoEnd"] := by
    intro i j x y hi hj
    match i, hi with
    | 0, hi =>
      cases hi
      match j, hj with
      | 0, hj => cases hj; exact m_NoEnd_NoEnd
      | j + 1, hj => cases hj
    | i + 1, hi => cases hi
  have D_l_refusals := ok_l_refusals (P := l.prog) (w := w) (base := base) (ad := adOf mg) F_l_refusals X_NoEnd (XM_l_refusals) (XM_l_refusals) D_p_road D_p_far
  have D_l_is_web := ok_l_is_web (P := l.prog) (w := w) (base := base) (ad := adOf mg) F_l_is_web T_isinstance T_dict T_len T_all D_l_whole
  exact ok_p_law (ad := adOf mg) (fun_mk (st := s_p_law) lL cL kL) T_list T_sorted T_dict T_range T_len T_isinstance D_l_drawn_web D_l_label D_l_digits D_l_cell D_l_rim D_l_distances D_p_road D_l_whole D_l_other D_p_far D_l_free D_l_refusals D_l_is_web
theorem walk {l : PySem.W.OpenLaw} {q : Program} {loose : List Str} {XP : (Str → Option Value) → Heap → Prop} {YP : World → Heap → Prop} {d : DefRec} {K : Params → PySem.W.Frag} (hn : l.most = some 63) (hdf : d.params.defaults = [])
    (hY : ∀ (w : World) (h : Heap), YP w h → (K w.params).In h)
    (F : ∀ (w : World) (mg : Str → Option Value) (fa : Addr) (h : Heap), (K w.params).In h → h.Ns mainGlobals mg → mg d.name = some (.ref fa) →
      ∃ fd : FuncData, (∀ (s : Shared) (u : Value), BindsTo s fd ⟨[u], []⟩ [("_law_script", u)]) ∧ ∀ base : Heap, (K w.params).In base → base.Ns mainGlobals mg → FnOk l.prog w (K w.params) mg base CX0 9 fa fd ["_law_script"] (spLaw ⟨K w.params, fun _ => 0⟩)) :
    PySem.W.WalkO q loose XP YP l.row.toRowW d [] (fun f vs => PySem.call f vs) :=
  L2.walk_of (n := 63) (k := 9) (x := "_law_script") (CX := fun _ => CX0) (sp := fun w => spLaw ⟨K w.params, fun _ => 0⟩) hn (by decide) hdf ⟨rfl, by decide, by decide⟩ hY F (fun _ _ a ns hl _ hS => ⟨a, ns, rfl, hS, hl, fun _ => rfl⟩) fun _ _ _ _ _ z => z
end Fw
open PySem PySem.W PyProof.Rows
set_option maxRecDepth 100000 in
set_option maxHeartbeats 0 in
theorem PySem.Challenge.cw_frothwane_k56_whole_the_fewest_films_holds : PySem.Challenge.rw_frothwane_k56_whole_the_fewest_films.Holds := by
  w_on; o_law; k_head; (case hw => w_witness2)
  k_fill
  refine Fw.walk (l := PySem.Challenge.rw_frothwane_k56_whole_the_fewest_films) rfl rfl (fun w h Y => PySem.W.kIn_of Y) ?F
  case F =>
    intro w mg fa h KX G hmg
    refine' Fw.all_mk KX G hmg (Fw.fnis_mk KX G ?a0 ?l0 ?c0 ?k0 (fun _ _ _ _ _ _ us hl => match us, hl with | [_], _ => rfl)) (Fw.fnis_mk KX G ?a1 ?l1 ?c1 ?k1 (fun _ _ _ _ _ _ us hl => match us, hl with | [_, _], _ => rfl)) (Fw.fnis_mk KX G ?a2 ?l2 ?c2 ?k2 (fun _ _ _ _ _ _ us hl => match us, hl with | [_, _], _ => rfl)) (Fw.fnis_mk KX G ?a3 ?l3 ?c3 ?k3 (fun _ _ _ _ _ _ us hl => match us, hl with | [_, _], _ => rfl)) (Fw.fnis_mk KX G ?a4 ?l4 ?c4 ?k4 (fun _ _ _ _ _ _ us hl => match us, hl with | [_, _], _ => rfl)) (Fw.fnis_mk KX G ?a5 ?l5 ?c5 ?k5 (fun _ _ _ _ _ _ us hl => match us, hl with | [_, _], _ => rfl)) (Fw.fnis_mk KX G ?a6 ?l6 ?c6 ?k6 (fun _ _ _ _ _ _ us hl => match us, hl with | [_], _ => rfl)) (Fw.fnis_mk KX G ?a7 ?l7 ?c7 ?k7 (fun _ _ _ _ _ _ us hl => match us, hl with | [_, _], _ => rfl)) (Fw.fnis_mk KX G ?a8 ?l8 ?c8 ?k8 (fun _ _ _ _ _ _ us hl => match us, hl with | [_], _ => rfl)) (Fw.fnis_mk KX G ?a9 ?l9 ?c9 ?k9 (fun _ _ _ _ _ _ us hl => match us, hl with | [_, _], _ => rfl)) (Fw.fnis_mk KX G ?a10 ?l10 ?c10 ?k10 (fun _ _ _ _ _ _ us hl => match us, hl with | [_, _], _ => rfl)) (Fw.fnis_mk KX G ?a11 ?l11 ?c11 ?k11 (fun _ _ _ _ _ _ us hl => match us, hl with | [_, _, _], _ => rfl)) (Fw.fnis_mk KX G ?a12 ?l12 ?c12 ?k12 (fun _ _ _ _ _ _ us hl => match us, hl with | [_, _], _ => rfl)) (Fw.fnis_mk KX G ?a13 ?l13 ?c13 ?k13 (fun _ _ _ _ _ _ us hl => match us, hl with | [_, _], _ => rfl)) (Fw.fnis_mk KX G ?a14 ?l14 ?c14 ?k14 (fun _ _ _ _ _ _ us hl => match us, hl with | [_, _], _ => rfl)) (Fw.fnis_mk KX G ?a15 ?l15 ?c15 ?k15 (fun _ _ _ _ _ _ us hl => match us, hl with | [_, _, _], _ => rfl)) (Fw.fnis_mk KX G ?a16 ?l16 ?c16 ?k16 (fun _ _ _ _ _ _ us hl => match us, hl with | [_, _, _, _], _ => rfl)) (Fw.fnis_mk KX G ?a17 ?l17 ?c17 ?k17 (fun _ _ _ _ _ _ us hl => match us, hl with | [_, _, _], _ => rfl)) (Fw.fnis_mk KX G ?a18 ?l18 ?c18 ?k18 (fun _ _ _ _ _ _ us hl => match us, hl with | [_, _], _ => rfl)) (Fw.fnis_mk KX G ?a19 ?l19 ?c19 ?k19 (fun _ _ _ _ _ _ us hl => match us, hl with | [_, _], _ => rfl)) (Fw.fnis_mk KX G ?a20 ?l20 ?c20 ?k20 (fun _ _ _ _ _ _ us hl => match us, hl with | [_], _ => rfl)) (Fw.fnis_mk KX G ?a21 ?l21 ?c21 ?k21 (fun _ _ _ _ _ _ us hl => match us, hl with | [_, _, _], _ => rfl)) (Fw.fnis_mk KX G ?a22 ?l22 ?c22 ?k22 (fun _ _ _ _ _ _ us hl => match us, hl with | [_], _ => rfl)) (Fw.fnis_mk KX G ?a23 ?l23 ?c23 ?k23 (fun _ _ _ _ _ _ us hl => match us, hl with | [_, _], _ => rfl)) (Fw.fnis_mk KX G ?a24 ?l24 ?c24 ?k24 (fun _ _ _ _ _ _ us hl => match us, hl with | [_], _ => rfl)) (Fw.fnis_mk KX G ?a25 ?l25 ?c25 ?k25 (fun _ _ _ _ _ _ us hl => match us, hl with | [_], _ => rfl)) (Fw.fnis_mk KX G ?a26 ?l26 ?c26 ?k26 (fun _ _ _ _ _ _ us hl => match us, hl with | [_, _], _ => rfl)) (Fw.fnis_mk KX G ?a27 ?l27 ?c27 ?k27 (fun _ _ _ _ _ _ us hl => match us, hl with | [_, _, _], _ => rfl)) (Fw.fnis_mk KX G ?a28 ?l28 ?c28 ?k28 (fun _ _ _ _ _ _ us hl => match us, hl with | [_], _ => rfl)) (Fw.fnis_mk KX G ?a29 ?l29 ?c29 ?k29 (fun _ _ _ _ _ _ us hl => match us, hl with | [_, _, _], _ => rfl)) (Fw.fnis_mk KX G ?a30 ?l30 ?c30 ?k30 (fun _ _ _ _ _ _ us hl => match us, hl with | [_], _ => rfl)) (Fw.fnis_mk KX G ?a31 ?l31 ?c31 ?k31 (fun _ _ _ _ _ _ us hl => match us, hl with | [_, _, _], _ => rfl)) (Fw.fnis_mk KX G ?a32 ?l32 ?c32 ?k32 (fun _ _ _ _ _ _ us hl => match us, hl with | [_, _], _ => rfl)) ?z_enumerate ?z_len ?z_range ?z_list ?z_sorted ?z_dict ?z_min ?z_max ?z_isinstance ?z_int ?z_bool ?z_all ?a_NoEnd ?q_NoEnd ?k_NoEnd ?b_NoEnd ?t_NoEnd ?i_NoEnd ?s_NoEnd_NoEnd ?aL ?lL ?cL ?kL
    (case a0 => k_is)
    (case l0 => k_is)
    (case c0 => k_is)
    (case k0 => k_is)
    (case a1 => k_is)
    (case l1 => k_is)
    (case c1 => k_is)
    (case k1 => k_is)
    (case a2 => k_is)
    (case l2 => k_is)
    (case c2 => k_is)
    (case k2 => k_is)
    (case a3 => k_is)
    (case l3 => k_is)
    (case c3 => k_is)
    (case k3 => k_is)
    (case a4 => k_is)
    (case l4 => k_is)
    (case c4 => k_is)
    (case k4 => k_is)
    (case a5 => k_is)
    (case l5 => k_is)
    (case c5 => k_is)
    (case k5 => k_is)
    (case a6 => k_is)
    (case l6 => k_is)
    (case c6 => k_is)
    (case k6 => k_is)
    (case a7 => k_is)
    (case l7 => k_is)
    (case c7 => k_is)
    (case k7 => k_is)
    (case a8 => k_is)
    (case l8 => k_is)
    (case c8 => k_is)
    (case k8 => k_is)
    (case a9 => k_is)
    (case l9 => k_is)
    (case c9 => k_is)
    (case k9 => k_is)
    (case a10 => k_is)
    (case l10 => k_is)
    (case c10 => k_is)
    (case k10 => k_is)
    (case a11 => k_is)
    (case l11 => k_is)
    (case c11 => k_is)
    (case k11 => k_is)
    (case a12 => k_is)
    (case l12 => k_is)
    (case c12 => k_is)
    (case k12 => k_is)
    (case a13 => k_is)
    (case l13 => k_is)
    (case c13 => k_is)
    (case k13 => k_is)
    (case a14 => k_is)
    (case l14 => k_is)
    (case c14 => k_is)
    (case k14 => k_is)
    (case a15 => k_is)
    (case l15 => k_is)
    (case c15 => k_is)
    (case k15 => k_is)
    (case a16 => k_is)
    (case l16 => k_is)
    (case c16 => k_is)
    (case k16 => k_is)
    (case a17 => k_is)
    (case l17 => k_is)
    (case c17 => k_is)
    (case k17 => k_is)
    (case a18 => k_is)
    (case l18 => k_is)
    (case c18 => k_is)
    (case k18 => k_is)
    (case a19 => k_is)
    (case l19 => k_is)
    (case c19 => k_is)
    (case k19 => k_is)
    (case a20 => k_is)
    (case l20 => k_is)
    (case c20 => k_is)
    (case k20 => k_is)
    (case a21 => k_is)
    (case l21 => k_is)
    (case c21 => k_is)
    (case k21 => k_is)
    (case a22 => k_is)
    (case l22 => k_is)
    (case c22 => k_is)
    (case k22 => k_is)
    (case a23 => k_is)
    (case l23 => k_is)
    (case c23 => k_is)
    (case k23 => k_is)
    (case a24 => k_is)
    (case l24 => k_is)
    (case c24 => k_is)
    (case k24 => k_is)
    (case a25 => k_is)
    (case l25 => k_is)
    (case c25 => k_is)
    (case k25 => k_is)
    (case a26 => k_is)
    (case l26 => k_is)
    (case c26 => k_is)
    (case k26 => k_is)
    (case a27 => k_is)
    (case l27 => k_is)
    (case c27 => k_is)
    (case k27 => k_is)
    (case a28 => k_is)
    (case l28 => k_is)
    (case c28 => k_is)
    (case k28 => k_is)
    (case a29 => k_is)
    (case l29 => k_is)
    (case c29 => k_is)
    (case k29 => k_is)
    (case a30 => k_is)
    (case l30 => k_is)
    (case c30 => k_is)
    (case k30 => k_is)
    (case a31 => k_is)
    (case l31 => k_is)
    (case c31 => k_is)
    (case k31 => k_is)
    (case a32 => k_is)
    (case l32 => k_is)
    (case c32 => k_is)
    (case k32 => k_is)
    (case z_enumerate => k_is)
    (case z_len => k_is)
    (case z_range => k_is)
    (case z_list => k_is)
    (case z_sorted => k_is)
    (case z_dict => k_is)
    (case z_min => k_is)
    (case z_max => k_is)
    (case z_isinstance => k_is)
    (case z_int => k_is)
    (case z_bool => k_is)
    (case z_all => k_is)
    (case a_NoEnd => k_is)
    (case q_NoEnd => k_exc)
    (case k_NoEnd => k_is)
    (case b_NoEnd => k_is)
    (case t_NoEnd => k_is)
    (case i_NoEnd => k_is)
    (case s_NoEnd_NoEnd => first | rfl | k_is)
    (case aL => k_is)
    (case lL => k_is)
    (case cL => k_is)
    (case kL => k_is)
#print axioms PySem.Challenge.cw_frothwane_k56_whole_the_fewest_films_holds
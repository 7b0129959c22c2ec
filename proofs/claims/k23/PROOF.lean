import PyProof.Rows.All
import Wide.All
import OpenK.AllK
import Wide.FinOn
import HandS.ForMost
import HandS.Exc
import HandS.ExcOwn
import HandS.Wide
import HandS.WideBits
import HandS.IsInst
import HandS.NoneIn
import HandS.Walk
import HandS.SortInts
import HandS.Style
import HandS.Flow
import HandS.FStr
import PySem.Challenge.RW_frothwane_k23_the_first_to_go
set_option Elab.async false
set_option linter.all false
set_option maxRecDepth 100000
set_option maxHeartbeats 4000000
namespace Fw
open PySem L2
/-! Fw: short words over the hand layer: readings by steps. -/
/-- nothing tracked stands there -/
def Free (H : Hp) (p : Addr) : Prop := H p = none
section
variable {σ : St} {H : Hp} {Q : VK} {nx bk ct : St → Hp → Prop} {rt : VK}
/-! ### statements -/
theorem r_seq {t u : TS} (h : t ⟨u ⟨nx, rt, bk, ct⟩, rt, bk, ct⟩ σ H) : tSeq t u ⟨nx, rt, bk, ct⟩ σ H := h
theorem r_asg {te : TE} {i : Nat} (h : te σ H (fun x H1 => nx (σ.set i (some x)) H1)) : tAsg te (gName i) ⟨nx, rt, bk, ct⟩ σ H := h
theorem r_asgG {te : TE} {g : TG} (h : te σ H (fun x H1 => g x σ H1 nx)) : tAsg te g ⟨nx, rt, bk, ct⟩ σ H := h
theorem r_ret {te : TE} (h : te σ H rt) : tRet te ⟨nx, rt, bk, ct⟩ σ H := h
theorem r_retN (h : rt .non H) : tRetN ⟨nx, rt, bk, ct⟩ σ H := h
theorem r_if {c : TT} {t u : TS} {D : Ends} (h : c σ H (fun b H1 => if b = true then t D σ H1 else u D σ H1)) : tIfS c t u D σ H := h
theorem r_next (h : nx σ H) : tNext ⟨nx, rt, bk, ct⟩ σ H := h
theorem r_drop {te : TE} (h : te σ H (fun _ H1 => nx σ H1)) : tDrop te ⟨nx, rt, bk, ct⟩ σ H := h
theorem r_break (h : bk σ H) : tBreak ⟨nx, rt, bk, ct⟩ σ H := h
theorem r_cont (h : ct σ H) : tCont ⟨nx, rt, bk, ct⟩ σ H := h
theorem r_par {ta : TA} {i j : Nat} (h : ta σ H (fun vs H1 => ∃ v w, vs = [v, w] ∧ nx ((σ.set i (some v)).set j (some w)) H1)) : tPar i j ta ⟨nx, rt, bk, ct⟩ σ H := h
theorem r_par2 {v w : V} {P : V → V → Prop} (h : P v w) : ∃ v' w', [v, w] = [v', w'] ∧ P v' w' := ⟨v, w, rfl, h⟩
theorem r_aug {te : TE} {ti : TIp} {i : Nat} {x : V} (hx : σ[i]? = some (some x)) (h : te σ H fun y H1 => ti x y H1 fun z H2 => nx (σ.set i (some z)) H2) : tAug i te ti ⟨nx, rt, bk, ct⟩ σ H := ⟨x, hx, h⟩
/-! ### expressions -/
theorem r_var {i : Nat} {v : V} (e : σ[i]? = some (some v)) (h : Q v H) : tVar i σ H Q := ⟨v, e, h⟩
theorem r_c {v : V} (h : Q v H) : tC v σ H Q := h
theorem r_op {r : R2} {ta tb : TE} (h : ta σ H fun x H1 => tb σ H1 fun y H2 => r x y H2 Q) : tOp r ta tb σ H Q := h
theorem r_un {r : V → Hp → VK → Prop} {ta : TE} (h : ta σ H fun x H1 => r x H1 Q) : tUn r ta σ H Q := h
theorem r_U {g : Int → V} {i : Int} (h : Q (g i) H) : rU g (.int i) H Q := ⟨i, rfl, h⟩
theorem r_I0 {g : Int → Int → V} {i j : Int} (h : Q (g i j) H) : rI0 g (.int i) (.int j) H Q := ⟨i, j, rfl, rfl, h⟩
theorem r_I {C : Int → Int → Prop} {g : Int → Int → V} {i j : Int} (hc : C i j) (h : Q (g i j) H) : rI C g (.int i) (.int j) H Q := ⟨i, j, rfl, rfl, hc, h⟩
theorem r_eq {x y : V} (hs : scal x y = true) (h : Q (.bl (decide (x = y))) H) : rEq x y H Q := ⟨hs, h⟩
theorem r_ne {x y : V} (hs : scal x y = true) (h : Q (.bl (!decide (x = y))) H) : rNe x y H Q := ⟨hs, h⟩
theorem r_nil {R : List V → Hp → Prop} (h : R [] H) : tNil σ H R := h
theorem r_cons {R : List V → Hp → Prop} {ta : TE} {tr : TA} (h : ta σ H fun x H1 => tr σ H1 fun xs H2 => R (x :: xs) H2) : tCons ta tr σ H R := h
theorem r_tup {t : TA} (h : t σ H fun xs H1 => xs.length ≤ sizeLine ∧ ∀ p, Free H1 p → Q (.ref p) (upd H1 p (.tup xs))) : tTup t σ H Q := h
theorem r_lst {t : TA} (h : t σ H fun xs H1 => xs.length ≤ sizeLine ∧ ∀ p, Free H1 p → Q (.ref p) (upd H1 p (.lst xs))) : tLst t σ H Q := h
theorem r_call {sp : Sp} {E : XK} {t : TA} (h : t σ H fun vs H1 => sp vs H1 Q E) : tCall sp [] E t σ H Q := by
  unfold tCall
  have e : (fun (vs : List V) (H1 : Hp) => sp (vs ++ []) H1 Q E) = fun vs H1 => sp vs H1 Q E := by
    funext vs H1
    rw [List.append_nil]
  rw [e]
  exact h
theorem r_cb {r : List V → Hp → VK → Prop} {t : TA} (h : t σ H fun vs H1 => r vs H1 Q) : tCB r t σ H Q := h
/-! ### tests -/
variable {R : Bool → Hp → Prop}
theorem r_test {t : TE} (h : t σ H fun x H1 => ∃ k, x = .bl k ∧ R k H1) : tTest t σ H R := h
theorem r_B {t : TE} (h : t σ H fun x H1 => ∃ k, x = .bl k ∧ R k H1) : tB t σ H R := h
theorem r_bl {b : Bool} {P : Bool → Prop} (h : P b) : ∃ k, V.bl b = .bl k ∧ P k := ⟨b, rfl, h⟩
theorem r_and {t u : TT} (h : t σ H fun c H1 => if c = true then u σ H1 R else R false H1) : tAnd t u σ H R := h
theorem r_or {t u : TT} (h : t σ H fun c H1 => if c = true then R true H1 else u σ H1 R) : tOr t u σ H R := h
theorem r_not {t : TT} (h : t σ H fun c H1 => R (!c) H1) : tNot t σ H R := h
theorem r_andV {ta tb : TE} (h : ta σ H fun x H1 => ∃ c, x = .bl c ∧ if c = true then tb σ H1 Q else Q (.bl false) H1) : tAndV ta tb σ H Q := h
theorem r_orV {ta tb : TE} (h : ta σ H fun x H1 => ∃ c, x = .bl c ∧ if c = true then Q (.bl true) H1 else tb σ H1 Q) : tOrV ta tb σ H Q := h
theorem r_notV {ta : TE} (h : ta σ H fun x H1 => ∃ c, x = .bl c ∧ Q (.bl (!c)) H1) : tNotV ta σ H Q := h
theorem r_ifE {t : TT} {ta tb : TE} (h : t σ H fun c H1 => if c = true then ta σ H1 Q else tb σ H1 Q) : tIf t ta tb σ H Q := h
theorem r_or2 {t u : TT} (b1 b2 : Bool) (h1 : ∀ R : Bool → Hp → Prop, R b1 H → t σ H R) (h2 : b1 = false → ∀ R : Bool → Hp → Prop, R b2 H → u σ H R) (h : R (b1 || b2) H) : tOr t u σ H R := by
  refine h1 _ ?_
  cases b1 with
  | true => rw [if_pos rfl]; exact h
  | false => rw [if_neg Bool.false_ne_true]; exact h2 rfl _ h
theorem r_and2 {t u : TT} (b1 b2 : Bool) (h1 : ∀ R : Bool → Hp → Prop, R b1 H → t σ H R) (h2 : b1 = true → ∀ R : Bool → Hp → Prop, R b2 H → u σ H R) (h : R (b1 && b2) H) : tAnd t u σ H R := by
  refine h1 _ ?_
  cases b1 with
  | true => rw [if_pos rfl]; exact h2 rfl _ h
  | false => rw [if_neg Bool.false_ne_true]; exact h
/-! ### branches -/
theorem iteD {c A B : Prop} [Decidable c] (h1 : c → A) (h2 : ¬ c → B) : if decide c = true then A else B := by
  by_cases h : c
  · rw [decide_eq_true h, if_pos rfl]; exact h1 h
  · rw [decide_eq_false h, if_neg Bool.false_ne_true]; exact h2 h
theorem iteN {c A B : Prop} [Decidable c] (h1 : ¬ c → A) (h2 : c → B) : if (!decide c) = true then A else B := by
  by_cases h : c
  · rw [decide_eq_true h, Bool.not_true, if_neg Bool.false_ne_true]; exact h2 h
  · rw [decide_eq_false h, Bool.not_false, if_pos rfl]; exact h1 h
theorem iteI {a b : Int} {A B : Prop} (h1 : a = b → A) (h2 : a ≠ b → B) : if decide (V.int a = V.int b) = true then A else B :=
  iteD (fun h => h1 (by injection h)) (fun h => h2 fun e => h (by rw [e]))
theorem iteNI {a b : Int} {A B : Prop} (h1 : a ≠ b → A) (h2 : a = b → B) : if (!decide (V.int a = V.int b)) = true then A else B :=
  iteN (fun h => h1 fun e => h (by rw [e])) (fun h => h2 (by injection h))
theorem iteNt {A B : Prop} (h : B) : if (!true) = true then A else B := iteF h
theorem iteNf {A B : Prop} (h : A) : if (!false) = true then A else B := iteT h
theorem iteNN {A B : Prop} (h : A) : if decide (V.non = V.non) = true then A else B := iteD (fun _ => h) (fun z => absurd rfl z)
theorem iteRN {a : Addr} {A B : Prop} (h : B) : if decide (V.ref a = V.non) = true then A else B := iteD (fun z => nomatch z) (fun _ => h)
theorem iteNNn {A B : Prop} (h : B) : if (!decide (V.non = V.non)) = true then A else B := iteN (fun z => absurd rfl z) (fun _ => h)
theorem iteRNn {a : Addr} {A B : Prop} (h : A) : if (!decide (V.ref a = V.non)) = true then A else B := iteN (fun _ => h) (fun z => nomatch z)
theorem iteB {b : Bool} {A B : Prop} (h1 : b = true → A) (h2 : b = false → B) : if b = true then A else B := by
  cases b with
  | true => rw [if_pos rfl]; exact h1 rfl
  | false => rw [if_neg Bool.false_ne_true]; exact h2 rfl
theorem iteNB {b : Bool} {A B : Prop} (h1 : b = false → A) (h2 : b = true → B) : if (!b) = true then A else B := by
  cases b with
  | true => exact iteF (h2 rfl)
  | false => exact iteT (h1 rfl)
/-! ### loops -/
theorem r_while {c : TT} {tb : TS} (Pv : St → Hp → Prop) (μ : St → Hp → Nat) (h0 : Pv σ H)
    (hs : ∀ σ H, Pv σ H → c σ H fun b H1 => if b = true then ∃ N : St → Hp → Prop, (∀ σ' H', N σ' H' → Pv σ' H' ∧ μ σ' H' < μ σ H) ∧ tb ⟨N, rt, nx, N⟩ σ H1 else nx σ H1)
    (mono : ∀ σ H R R', (∀ b H1, R b H1 → R' b H1) → c σ H R → c σ H R') : tWhile c tb ⟨nx, rt, bk, ct⟩ σ H := by
  refine ⟨fun m σ H => m = μ σ H ∧ Pv σ H, ⟨_, rfl, h0⟩, ?_⟩
  rintro m σ H ⟨rfl, p⟩
  refine mono σ H _ _ (fun b H1 q => ?_) (hs σ H p)
  cases b with
  | true =>
    obtain ⟨N, hN, q⟩ := q
    exact ⟨N, fun σ' H' n => ⟨_, (hN σ' H' n).2, rfl, (hN σ' H' n).1⟩, q⟩
  | false => exact q
theorem r_wT {tb : TS} {P : St → Hp → Prop} {m : Nat} {μ : St → Hp → Nat} (h : tb ⟨fun σ' H' => P σ' H' ∧ μ σ' H' < m, rt, nx, fun σ' H' => P σ' H' ∧ μ σ' H' < m⟩ σ H) :
    ∃ N : St → Hp → Prop, (∀ σ' H', N σ' H' → P σ' H' ∧ μ σ' H' < m) ∧ tb ⟨N, rt, nx, N⟩ σ H := ⟨_, fun _ _ q => q, h⟩
/-- a test that changes nothing, for while -/
def MonoT (c : TT) : Prop := ∀ σ H R R', (∀ b H1, R b H1 → R' b H1) → c σ H R → c σ H R'
def MonoE (t : TE) : Prop := ∀ σ H (Q Q' : VK), (∀ v H1, Q v H1 → Q' v H1) → t σ H Q → t σ H Q'
def MonoR (r : R2) : Prop := ∀ x y H (Q Q' : VK), (∀ v H1, Q v H1 → Q' v H1) → r x y H Q → r x y H Q'
theorem mono_test {t : TE} (h : MonoE t) : MonoT (tTest t) := fun σ H R R' k q => h σ H _ _ (fun v H1 ⟨b, e, z⟩ => ⟨b, e, k _ _ z⟩) q
theorem mono_op {r : R2} {ta tb : TE} (hr : MonoR r) (ha : MonoE ta) (hb : MonoE tb) : MonoE (tOp r ta tb) := fun σ H Q Q' k q => ha σ H _ _ (fun v H1 z => hb σ H1 _ _ (fun w H2 z => hr v w H2 Q Q' k z) z) q
theorem mono_var {i : Nat} : MonoE (tVar i) := fun σ H Q Q' k ⟨v, e, z⟩ => ⟨v, e, k _ _ z⟩
theorem mono_c {v : V} : MonoE (tC v) := fun σ H Q Q' k z => k _ _ z
theorem mono_I0 {g : Int → Int → V} : MonoR (rI0 g) := fun x y H Q Q' k ⟨i, j, e1, e2, z⟩ => ⟨i, j, e1, e2, k _ _ z⟩
theorem mono_ne : MonoR rNe := fun x y H Q Q' k ⟨e1, z⟩ => ⟨e1, k _ _ z⟩
theorem mono_eq : MonoR rEq := fun x y H Q Q' k ⟨e1, z⟩ => ⟨e1, k _ _ z⟩
/-- a for over whatever walks -/
theorem r_for {wi : TI} {g : TG} {tb : TS} (h : wi σ H fun J H1 => ∃ W : Nat → Nat → St → Hp → Prop, (∃ m, W 0 m σ H1) ∧ ∀ i m σ H, W i m σ H →
    (J.stop i H ∧ nx σ H) ∨ (J.go i H ∧ ∃ N : St → Hp → Prop, (∀ σ' H', N σ' H' → ∃ m', m' < m ∧ W (i + 1) m' σ' H') ∧ ∀ x H', J.yld i H x H' → g x σ H' fun σ2 H2 => tb ⟨N, rt, nx, N⟩ σ2 H2)) :
    tFor wi g tb ⟨nx, rt, bk, ct⟩ σ H := h
/-- .. by an invariant -/
theorem r_it {J : It} {n : Nat} {G : Hp → Prop} {Y : Nat → Hp → V → Hp → Prop} (w : Walk J n G Y) {g : TG} {tb : TS} (Pv : Nat → St → Hp → Prop) (h0 : Pv 0 σ H) (hG : ∀ i σ H, i ≤ n → Pv i σ H → G H)
    (hs : ∀ i x σ H H', i < n → Pv i σ H → Y i H x H' → g x σ H' fun σ2 H2 => tb ⟨Pv (i + 1), rt, nx, Pv (i + 1)⟩ σ2 H2) (hd : ∀ σ H, Pv n σ H → nx σ H) :
    ∃ W : Nat → Nat → St → Hp → Prop, (∃ m, W 0 m σ H) ∧ ∀ i m σ H, W i m σ H →
      (J.stop i H ∧ nx σ H) ∨ (J.go i H ∧ ∃ N : St → Hp → Prop, (∀ σ' H', N σ' H' → ∃ m', m' < m ∧ W (i + 1) m' σ' H') ∧ ∀ x H', J.yld i H x H' → g x σ H' fun σ2 H2 => tb ⟨N, rt, nx, N⟩ σ2 H2) :=
  for_it (D := ⟨nx, rt, fun _ _ => False, fun _ _ => False⟩) w Pv h0 hG hs hd
/-! ### targets -/
theorem g_name {i : Nat} {v : V} {R : St → Hp → Prop} (h : R (σ.set i (some v)) H) : gName i v σ H R := h
theorem g_nil {R : St → Hp → Prop} (h : R σ H) : gNil [] σ H R := ⟨rfl, h⟩
theorem g_cons {t : TG} {u : TGs} {v : V} {r : List V} {R : St → Hp → Prop} (h : t v σ H fun σ' H' => u r σ' H' R) : gCons t u (v :: r) σ H R := ⟨v, r, rfl, h⟩
theorem g_tup {K : PySem.W.Frag} {n : Nat} {t : TGs} {a : Addr} {xs : List V} {R : St → Hp → Prop} (ha : SqT K H a xs) (hl : xs.length = n) (h : t xs σ H R) : gTup K n t (.ref a) σ H R := ⟨a, xs, rfl, ha, hl, h⟩
theorem g_unl {K : PySem.W.Frag} {n : Nat} {t : TGs} {a : Addr} {xs : List V} {R : St → Hp → Prop} (ha : SqL K H a xs) (hl : xs.length = n) (h : t xs σ H R) : gUnl K n t (.ref a) σ H R := ⟨a, xs, rfl, ha, hl, h⟩
end
/-! ### a statement, then the rest, with a word between them -/
def tCut (t u : TS) : TS := fun D σ H => ∃ Mid : St → Hp → Prop, t { D with nx := Mid } σ H ∧ ∀ σ' H', Mid σ' H' → u D σ' H'
theorem pss_cut {X : Cx} {st : Stmt} {rest : List Stmt} {t u : TS} (h1 : PS X st t) (h2 : PSs X rest u) : PSs X (st :: rest) (tCut t u) := by
  refine ⟨fun pins s σ H D I h => ?_⟩
  obtain ⟨Mid, h, k⟩ := h
  refine wpAny_execs_cons (thn (h1.run pins s σ H { D with nx := Mid } I h) fun f s1 q => ?_)
  cases f with
  | next =>
    obtain ⟨σ', H', I', q⟩ := q
    exact h2.run pins s1 σ' H' D I' (k σ' H' q)
  | ret v => exact q
  | brk => exact q
  | cont => exact q
theorem r_cut {σ : St} {H : Hp} {nx bk ct : St → Hp → Prop} {rt : VK} {t u : TS} (Mid : St → Hp → Prop) (h1 : t ⟨Mid, rt, bk, ct⟩ σ H) (h2 : ∀ σ' H', Mid σ' H' → u ⟨nx, rt, bk, ct⟩ σ' H') : tCut t u ⟨nx, rt, bk, ct⟩ σ H := ⟨Mid, h1, h2⟩
/-! ### readings by name -/
abbrev rAddI : R2 := rI0 fun i j => .int (i + j)
abbrev rSubI : R2 := rI0 fun i j => .int (i - j)
abbrev rMulI : R2 := rI CMul fun i j => .int (i * j)
abbrev rMulX : R2 := rI CMulX fun i j => .int (i * j)
abbrev rDivW : R2 := rI CDivW fun i j => .int (i / j)
abbrev rModI : R2 := rI (fun _ j => 0 < j) fun i j => .int (i % j)
abbrev rPowI : R2 := rI CPow fun i j => .int (i ^ j.toNat)
abbrev rLtI : R2 := rI0 fun i j => .bl (decide (i < j))
abbrev rLeI : R2 := rI0 fun i j => .bl (decide (i ≤ j))
abbrev rGtI : R2 := rI0 fun i j => .bl (decide (j < i))
abbrev rGeI : R2 := rI0 fun i j => .bl (decide (j ≤ i))
abbrev rNegI : V → Hp → VK → Prop := rU fun i => .int (-i)
def rAddS : R2 := fun x y H Q => ∃ i j, x = .str i ∧ y = .str j ∧ i.length + j.length ≤ sizeLine ∧ Q (.str (i ++ j)) H
def rIsN : R2 := fun x y H Q => y = .non ∧ Q (.bl (decide (x = .non))) H
def rNotN : R2 := fun x y H Q => y = .non ∧ Q (.bl (!decide (x = .non))) H
def rAbs : List V → Hp → VK → Prop := fun xs H Q => ∃ i, xs = [.int i] ∧ Q (.int (if i < 0 then -i else i)) H
def rMax2 : List V → Hp → VK → Prop := fun xs H Q => ∃ i j, xs = [.int i, .int j] ∧ Q (.int (if j > i then j else i)) H
def rMin2 : List V → Hp → VK → Prop := fun xs H Q => ∃ i j, xs = [.int i, .int j] ∧ Q (.int (if j < i then j else i)) H
def rLenSeq (K : PySem.W.Frag) : List V → Hp → VK → Prop := fun xs H Q => ∃ p ys, xs = [.ref p] ∧ (SqL K H p ys ∨ SqT K H p ys) ∧ Q (.int ys.length) H
def rLenStr : List V → Hp → VK → Prop := fun xs H Q => ∃ z, xs = [.str z] ∧ z.length ≤ sizeLine ∧ Q (.int z.length) H
def rStrInt : List V → Hp → VK → Prop := fun xs H Q => ∃ i, xs = [.int i] ∧ i.natAbs.log2 < 1920 ∧ Q (.str (toString i)) H
def rListOf (K : PySem.W.Frag) : List V → Hp → VK → Prop := fun xs H Q => ∃ p ys, xs = [.ref p] ∧ (SqL K H p ys ∨ SqT K H p ys) ∧ ∀ l, H l = none → Q (.ref l) (upd H l (.lst ys))
def rTupleOf (K : PySem.W.Frag) : List V → Hp → VK → Prop := fun xs H Q => ∃ p ys, xs = [.ref p] ∧ ((SqL K H p ys ∧ ∀ l, H l = none → Q (.ref l) (upd H l (.tup ys))) ∨ (SqT K H p ys ∧ Q (.ref p) H))
section
variable {σ : St} {H : Hp} {Q : VK} {K : PySem.W.Frag}
theorem r_addS {a b : Str} (hl : a.length + b.length ≤ sizeLine) (h : Q (.str (a ++ b)) H) : rAddS (.str a) (.str b) H Q := ⟨a, b, rfl, rfl, hl, h⟩
theorem r_isN {x : V} (h : Q (.bl (decide (x = .non))) H) : rIsN x .non H Q := ⟨rfl, h⟩
theorem r_notN {x : V} (h : Q (.bl (!decide (x = .non))) H) : rNotN x .non H Q := ⟨rfl, h⟩
theorem r_abs {i : Int} (h : Q (.int (if i < 0 then -i else i)) H) : rAbs [.int i] H Q := ⟨i, rfl, h⟩
theorem r_max2 {i j : Int} (h : Q (.int (if j > i then j else i)) H) : rMax2 [.int i, .int j] H Q := ⟨i, j, rfl, h⟩
theorem r_min2 {i j : Int} (h : Q (.int (if j < i then j else i)) H) : rMin2 [.int i, .int j] H Q := ⟨i, j, rfl, h⟩
theorem r_lenL {p : Addr} {ys : List V} (hs : SqL K H p ys) (h : Q (.int ys.length) H) : rLenSeq K [.ref p] H Q := ⟨p, ys, rfl, .inl hs, h⟩
theorem r_lenT {p : Addr} {ys : List V} (hs : SqT K H p ys) (h : Q (.int ys.length) H) : rLenSeq K [.ref p] H Q := ⟨p, ys, rfl, .inr hs, h⟩
theorem r_lenStr {z : Str} (hl : z.length ≤ sizeLine) (h : Q (.int z.length) H) : rLenStr [.str z] H Q := ⟨z, rfl, hl, h⟩
theorem r_strInt {i : Int} (hl : i.natAbs.log2 < 1920) (h : Q (.str (toString i)) H) : rStrInt [.int i] H Q := ⟨i, rfl, hl, h⟩
theorem r_listL {p : Addr} {ys : List V} (hs : SqL K H p ys) (h : ∀ l, Free H l → Q (.ref l) (upd H l (.lst ys))) : rListOf K [.ref p] H Q := ⟨p, ys, rfl, .inl hs, h⟩
theorem r_listT {p : Addr} {ys : List V} (hs : SqT K H p ys) (h : ∀ l, Free H l → Q (.ref l) (upd H l (.lst ys))) : rListOf K [.ref p] H Q := ⟨p, ys, rfl, .inr hs, h⟩
theorem r_tupleL {p : Addr} {ys : List V} (hs : SqL K H p ys) (h : ∀ l, Free H l → Q (.ref l) (upd H l (.tup ys))) : rTupleOf K [.ref p] H Q := ⟨p, ys, rfl, .inl ⟨hs, h⟩⟩
theorem r_ixL {p : Addr} {xs : List V} {i : Int} {v : V} (hs : SqL K H p xs) (ha : atI xs i = some v) (h : Q v H) : rIxL K (.ref p) (.int i) H Q := ⟨p, xs, i, v, rfl, rfl, hs, ha, h⟩
theorem r_ixT {p : Addr} {xs : List V} {i : Int} {v : V} (hs : SqT K H p xs) (ha : atI xs i = some v) (h : Q v H) : rIxT K (.ref p) (.int i) H Q := ⟨p, xs, i, v, rfl, rfl, hs, ha, h⟩
theorem r_isi {x c : V} {t u : Value} {b : Bool} (hc : ClsV c u) (ht : TyX K H x t) (hk : PySem.W.kitOne K t u = some b) (h : Q (.bl b) H) : rIsi K [x, c] H Q := ⟨x, c, t, u, b, rfl, hc, ht, hk, h⟩
theorem r_lenOk {xs : List V} {P : Prop} (hl : xs.length ≤ sizeLine) (h : P) : xs.length ≤ sizeLine ∧ P := ⟨hl, h⟩
end
/-! ### heaps -/
section
variable {H H1 : Hp} {p q : Addr} {o u : HO}
theorem same_new (s : Same H H1) (h : Free H1 p) : Same H (upd H1 p o) := fun b x e => by
  have z := s b x e
  rw [upd_ne (ne_of_none z h)]
  exact z
theorem same_mut (s : Same H H1) (h : Free H p) : Same H (upd H1 p o) := fun b x e => by
  rw [upd_ne (ne_of_none e h)]
  exact s b x e
theorem at_new (h : H q = some u) (hp : Free H p) : upd H p o q = some u := by
  rw [upd_ne (ne_of_none h hp)]
  exact h
theorem at_ne (h : H q = some u) (hp : q ≠ p) : upd H p o q = some u := by
  rw [upd_ne hp]
  exact h
theorem same_free (s : Same H H1) (h : Free H1 p) : Free H p := s.free h
theorem same_tup {K : PySem.W.Frag} {a : Addr} {xs : List V} (e : Same H H1) (h : SqT K H a xs) : SqT K H1 a xs := by
  rcases h with (h | ⟨o, h⟩) | h
  · exact .inl (.inl (e _ _ h))
  · exact .inl (.inr ⟨o, e _ _ h⟩)
  · exact .inr h
theorem same_rd {a : Addr} (e : Same H H1) (h : Rd H a u) : Rd H1 a u := by
  rcases h with h | ⟨o, h⟩
  · exact .inl (e _ _ h)
  · exact .inr ⟨o, e _ _ h⟩
end
/-! ### facts of a heap, looked for: the fact first, then that it is kept -/
section
variable {H H' H0 : Hp} {a p q : Addr} {o u u0 : HO} {K : PySem.W.Frag} {xs ys : List V}
def Keep (H0 H : Hp) (a : Addr) : Prop := ∀ u, H0 a = some u → H a = some u
theorem keep_refl : Keep H H a := fun _ h => h
theorem keep_new (hp : Free H p) (k : Keep H0 H a) : Keep H0 (upd H p o) a := fun u h => at_new (k u h) hp
theorem keep_ne (hn : a ≠ p) (k : Keep H0 H a) : Keep H0 (upd H p o) a := fun u h => at_ne (k u h) hn
theorem keep_same (s : Same H H') (k : Keep H0 H a) : Keep H0 H' a := fun u h => s a u (k u h)
theorem back_new (hp : Free H p) (h : H a = some u) : upd H p o a = some u := at_new h hp
theorem back_ne (hn : a ≠ p) (h : H a = some u) : upd H p o a = some u := at_ne h hn
theorem back_same (s : Same H H') (h : H a = some u) : H' a = some u := s a u h
theorem at_keep (h : H0 a = some u) (k : Keep H0 H a) : H a = some u := k u h
theorem ne_fresh (h : H a = some u) (h0 : Free H p) : a ≠ p := ne_of_none h h0
theorem ne_fresh' (h : H p = some u) (h0 : Free H a) : a ≠ p := (ne_of_none h h0).symm
theorem lst_same (s : Same H H') (h : SqL K H a xs) : SqL K H' a xs := s.seq h
def KeepT (K : PySem.W.Frag) (H0 H : Hp) (a : Addr) (xs : List V) : Prop := SqT K H0 a xs → SqT K H a xs
theorem keepT_refl : KeepT K H H a xs := fun h => h
theorem keepT_new (hp : Free H p) (k : KeepT K H0 H a xs) : KeepT K H0 (upd H p o) a xs := fun h => same_tup (same_new (Same.refl H) hp) (k h)
theorem keepT_same (s : Same H H') (k : KeepT K H0 H a xs) : KeepT K H0 H' a xs := fun h => same_tup s (k h)
theorem keepT_mut (hp : H p = some u) (hm : Mut (some u)) (k : KeepT K H0 H a xs) : KeepT K H0 (upd H p o) a xs := fun h => by
  rcases k h with (h | ⟨ob, h⟩) | h
  · exact .inl (.inl (at_ne h fun e => by subst e; rw [hp] at h; cases h; exact hm))
  · exact .inl (.inr ⟨ob, at_ne h fun e => by subst e; rw [hp] at h; cases h; exact hm⟩)
  · exact .inr h
theorem tup_keep (h : SqT K H0 a xs) (k : KeepT K H0 H a xs) : SqT K H a xs := k h
theorem free_of (s : Same H0 H) (h : Free H p) : Free H0 p := s.free h
theorem same_tr {H1 : Hp} (t : Same H1 H') (s : Same H H1) : Same H H' := s.trans t
end
theorem size1000 {n : Nat} (h : n ≤ 1000000) : n ≤ sizeLine := Nat.le_trans h (by decide)
theorem size1000l {n : Nat} (h : n < 1000000) : n < sizeLine := Nat.lt_of_lt_of_le h (by decide)
theorem log2_mono {a b : Nat} (h : a ≤ b) : a.log2 ≤ b.log2 := by
  by_cases ha : a = 0
  · subst ha; rw [Nat.log2_zero]; exact Nat.zero_le _
  · have hb : b ≠ 0 := by omega
    have h1 := Nat.log2_self_le ha
    have h2 := (Nat.log2_lt hb (k := b.log2 + 1)).mp (Nat.lt_succ_self _)
    exact Nat.lt_succ_iff.mp ((Nat.log2_lt ha).mpr (Nat.lt_of_le_of_lt h h2))
theorem divW_le {i z : Int} (B : Nat) (h0 : 0 < z) (h1 : z ≤ (B : Int)) (hB : B.log2 < 9000) : CDivW i z :=
  ⟨h0, Nat.lt_of_le_of_lt (log2_mono (show z.natAbs ≤ B by omega)) hB⟩
theorem map_get {α β : Type} {f : α → β} {l : List α} {i : Nat} {y : β} (h : (l.map f)[i]? = some y) : ∃ x, l[i]? = some x ∧ y = f x := by
  rw [List.getElem?_map] at h
  cases e : l[i]? with
  | none => rw [e] at h; cases h
  | some x => rw [e] at h; exact ⟨x, rfl, (Option.some.inj h).symm⟩
/-- a list just grown -/
theorem r_append {K : PySem.W.Frag} {σ : St} {H : Hp} {Q : VK} {l : Addr} {xs : List V} {tr : TA} (hl : H l = some (.lst xs)) (h : tr σ H fun vs H2 => rAppend (.ref l) vs H2 Q) :
    tyV K "list" (.ref l) H ∧ tr σ H fun vs H2 => rAppend (.ref l) vs H2 Q := ⟨Or.inl ⟨rfl, xs, SqL.of hl⟩, h⟩
theorem r_bm {K : PySem.W.Frag} {T : String} {r : V → List V → Hp → VK → Prop} {to : TE} {t : TA} {σ : St} {H : Hp} {Q : VK} (h : to σ H fun x H1 => tyV K T x H1 ∧ t σ H1 fun xs H2 => r x xs H2 Q) : tBM K T r to t σ H Q := h
theorem r_app {H : Hp} {Q : VK} {l : Addr} {xs : List V} {y : V} (hl : H l = some (.lst xs)) (hz : xs.length < sizeLine) (h : Q .non (upd H l (.lst (xs ++ [y])))) : rAppend (.ref l) [y] H Q := ⟨l, xs, y, rfl, rfl, hl, hz, h⟩
theorem dp_ints {K : PySem.W.Frag} {H : Hp} : ∀ ns : List Int, DpAll K H (ns.map V.int) (ns.map PyData.int)
  | [] => .nil
  | n :: r => .cons (.int n) (dp_ints r)
theorem r_eqD {K : PySem.W.Frag} {H : Hp} {Q : VK} {x y : V} {d e : PyData} (hd : Dp K H x d) (he : Dp K H y e) (sd : SeqAt.shaped d = true) (se : SeqAt.shaped e = true) (h : Q (.bl (PyData.eqv d e)) H) : rEqD K x y H Q := ⟨d, e, hd, he, sd, se, h⟩
theorem r_neD {K : PySem.W.Frag} {H : Hp} {Q : VK} {x y : V} {d e : PyData} (hd : Dp K H x d) (he : Dp K H y e) (sd : SeqAt.shaped d = true) (se : SeqAt.shaped e = true) (h : Q (.bl (!PyData.eqv d e)) H) : rNeD K x y H Q := ⟨d, e, hd, he, sd, se, h⟩
/-! ### f-strings -/
def tJoin (ts : List TE) : TE := fun σ H Q => tJs ts Str.empty σ H fun out H1 => Q (.str out) H1
section
variable {σ : St} {H : Hp} {Q : VK}
theorem r_join {ts : List TE} (h : tJs ts Str.empty σ H fun out H1 => Q (.str out) H1) : tJoin ts σ H Q := h
theorem r_jsNil {acc : Str} {R : Str → Hp → Prop} (h : R acc H) : tJs [] acc σ H R := h
theorem r_jsCons {t : TE} {ts : List TE} {acc : Str} {R : Str → Hp → Prop} (h : t σ H fun x H1 => ∃ y : Str, x = .str y ∧ (acc ++ y).length ≤ sizeLine ∧ tJs ts (acc ++ y) σ H1 R) : tJs (t :: ts) acc σ H R := h
theorem r_jsStr {z acc : Str} {P : Str → Prop} (hl : (acc ++ z).length ≤ sizeLine) (h : P z) : ∃ y : Str, V.str z = .str y ∧ (acc ++ y).length ≤ sizeLine ∧ P y := ⟨z, rfl, hl, h⟩
theorem r_fmt {te : TE} (h : te σ H fun x H1 => (∃ y : Str, x = .str y ∧ y.length ≤ sizeLine ∧ Q (.str y) H1) ∨ ∃ i : Int, x = .int i ∧ i.natAbs.log2 < 1920 ∧ Q (.str (toString i)) H1) : tFmt te σ H Q := h
theorem r_fmtI {i : Int} {P : Str → Prop} (hl : i.natAbs.log2 < 1920) (h : P (toString i)) : (∃ y : Str, V.int i = .str y ∧ y.length ≤ sizeLine ∧ P y) ∨ ∃ j : Int, V.int i = .int j ∧ j.natAbs.log2 < 1920 ∧ P (toString j) := .inr ⟨i, rfl, hl, h⟩
theorem r_fmtS {z : Str} {P : Str → Prop} (hl : z.length ≤ sizeLine) (h : P z) : (∃ y : Str, V.str z = .str y ∧ y.length ≤ sizeLine ∧ P y) ∨ ∃ j : Int, V.str z = .int j ∧ j.natAbs.log2 < 1920 ∧ P (toString j) := .inl ⟨z, rfl, hl, h⟩
end
/-! ### in, ranges, op= -/
abbrev ipAdd : TIp := ipI fun i j => i + j
abbrev ipSub : TIp := ipI fun i j => i - j
section
variable {H : Hp} {Q : VK} {K : PySem.W.Frag}
theorem r_ipI {f : Int → Int → Int} {i j : Int} (h : Q (.int (f i j)) H) : ipI f (.int i) (.int j) H Q := ⟨i, j, rfl, rfl, h⟩
theorem r_inT {neg : Bool} {x : V} {p : Addr} {xs : List V} (hs : SqT K H p xs) (hx : flatV x = true) (hf : xs.all flatV = true) (h : Q (.bl (if neg then !inV x xs else inV x xs)) H) : rIn K neg x (.ref p) H Q := ⟨p, xs, rfl, .inr hs, hx, hf, h⟩
theorem r_inL {neg : Bool} {x : V} {p : Addr} {xs : List V} (hs : SqL K H p xs) (hx : flatV x = true) (hf : xs.all flatV = true) (h : Q (.bl (if neg then !inV x xs else inV x xs)) H) : rIn K neg x (.ref p) H Q := ⟨p, xs, rfl, .inl hs, hx, hf, h⟩
theorem r_rng {j : Int} {R : Int → Prop} (h1 : -4611686018427387904 ≤ j) (h2 : j < 4611686018427387904) (h : R j) : ∃ j' : Int, [V.int j] = [.int j'] ∧ -4611686018427387904 ≤ j' ∧ j' < 4611686018427387904 ∧ R j' := ⟨j, rfl, h1, h2, h⟩
end
theorem inV_ints (k : Int) (ks : List Int) : inV (.int k) (ks.map V.int) = ks.any (fun y => y == k) := by
  unfold inV
  induction ks with
  | nil => rfl
  | cons a r ih => rw [List.map_cons, List.any_cons, List.any_cons, ih]; rfl
theorem canAll : ∀ {ds : List PyData}, (∀ d ∈ ds, d.canLay0 = true ∧ d.depth ≤ 60) → PyData.canLayAll0 ds = true ∧ PyData.depthAll ds ≤ 60
  | [], _ => ⟨by simp only [PyData.canLayAll0], by simp only [PyData.depthAll]; omega⟩
  | d :: r, h => by
    have h1 := h d List.mem_cons_self
    have h2 := canAll (ds := r) fun x hx => h x (List.mem_cons_of_mem _ hx)
    simp only [PyData.canLayAll0, PyData.depthAll, h1.1, h2.1]
    exact ⟨rfl, by have := h1.2; have := h2.2; omega⟩
theorem shaped_list {ds : List PyData} (h : ∀ d ∈ ds, d.canLay0 = true ∧ d.depth ≤ 60) : SeqAt.shaped (.list ds) = true := by
  obtain ⟨h1, h2⟩ := canAll h
  show (PyData.canLay0 (.list ds) && decide (PyData.depth (.list ds) ≤ 64)) = true
  rw [Bool.and_eq_true]
  exact ⟨by simp only [PyData.canLay0]; exact h1, decide_eq_true (by simp only [PyData.depth]; omega)⟩
theorem shaped_tup {ds : List PyData} (h : ∀ d ∈ ds, d.canLay0 = true ∧ d.depth ≤ 60) : SeqAt.shaped (.tuple ds) = true := by
  obtain ⟨h1, h2⟩ := canAll h
  show (PyData.canLay0 (.tuple ds) && decide (PyData.depth (.tuple ds) ≤ 64)) = true
  rw [Bool.and_eq_true]
  exact ⟨by simp only [PyData.canLay0]; exact h1, decide_eq_true (by simp only [PyData.depth]; omega)⟩
theorem eqv_same {d : PyData} (h : SeqAt.shaped d = true) : PyData.eqv d d = true := SeqAt.eqv_refl d (SeqAt.canLay_of_shaped h)
/-! ### what is walked -/
section
variable {σ : St} {H : Hp} {K : PySem.W.Frag} {R : It → Hp → Prop}
theorem r_iEnum {ta : TA} (h : ta σ H fun vs H1 => ∃ a xs, vs = [.ref a] ∧ SqL K H1 a xs ∧ R (Ite K a) H1) : iEnum K ta σ H R := h
theorem r_iList {tl : TE} (h : tl σ H fun x H1 => ∃ a, x = .ref a ∧ (∃ xs, SqL K H1 a xs) ∧ R (Itl K a) H1) : iList K tl σ H R := h
theorem r_iTup {tl : TE} (h : tl σ H fun x H1 => ∃ a, x = .ref a ∧ (∃ xs, SqT K H1 a xs) ∧ R (Itt K a) H1) : iTup K tl σ H R := h
theorem r_iRng1 {ta : TA} (h : ta σ H fun vs H1 => ∃ j : Int, vs = [.int j] ∧ -(2 ^ 62) ≤ j ∧ j < 2 ^ 62 ∧ R (Itr 0 j.toNat) H1) : iRng1 ta σ H R := h
theorem r_iZip {ta : TA} (h : ta σ H fun vs H1 => ∃ a b xs ys, vs = [.ref a, .ref b] ∧ SqL K H1 a xs ∧ SqL K H1 b ys ∧ R (Itz K a b) H1) : iZip K ta σ H R := h
end
/-! ### isinstance -/
section
variable {H : Hp} {Q : VK} {K : PySem.W.Frag}
theorem isi_int {i : Int} (h : Q (.bl true) H) : rIsi K [.int i, .ty "int"] H Q := ⟨_, _, _, _, true, rfl, .ty _, .base (.int i), kit_ty (by decide +kernel), h⟩
theorem isi_intb {i : Int} (h : Q (.bl false) H) : rIsi K [.int i, .ty "bool"] H Q := ⟨_, _, _, _, false, rfl, .ty _, .base (.int i), kit_ty (by decide +kernel), h⟩
theorem isi_bool {b : Bool} (h : Q (.bl true) H) : rIsi K [.bl b, .ty "bool"] H Q := ⟨_, _, _, _, true, rfl, .ty _, .base (.bl b), kit_ty (by decide +kernel), h⟩
theorem isi_str {z : Str} (h : Q (.bl true) H) : rIsi K [.str z, .ty "str"] H Q := ⟨_, _, _, _, true, rfl, .ty _, .base (.str z), kit_ty (by decide +kernel), h⟩
theorem isi_tup {a : Addr} {xs : List V} (e : H a = some (.tup xs)) (h : Q (.bl true) H) : rIsi K [.ref a, .ty "tuple"] H Q := ⟨_, _, _, _, true, rfl, .ty _, .base (.tup e), kit_ty (by decide +kernel), h⟩
theorem isi_lst {a : Addr} {xs : List V} (e : H a = some (.lst xs)) (h : Q (.bl true) H) : rIsi K [.ref a, .ty "list"] H Q := ⟨_, _, _, _, true, rfl, .ty _, .base (.lst e), kit_ty (by decide +kernel), h⟩
theorem isi_dict {a : Addr} {xs : List (Key × V)} (e : H a = some (.dK xs)) (h : Q (.bl true) H) : rIsi K [.ref a, .ty "dict"] H Q := ⟨_, _, _, _, true, rfl, .ty _, .base (.dK e), kit_ty (by decide +kernel), h⟩
end
/-! ### defs -/
structure Gx where
  K : PySem.W.Frag
  ad : Str → Addr
/-- a def of the top as it stands -/
def FnIs (K : PySem.W.Frag) (mg : Str → Option Value) (x : Str) (st : Stmt) (ps : List Str) : Prop := ∃ (f : Addr) (fd : FuncData), mg x = some (.ref f) ∧ Fun K x x st f fd ∧ Binds K fd ps []
/-- a def with its promise -/
def Df (P : Program) (w : World) (K : PySem.W.Frag) (mg : Str → Option Value) (base : Heap) (CX : CXT) (x : Str) (k : Nat) (ps : List Str) (sp : Sp) : Prop :=
  ∃ (f : Addr) (fd : FuncData), mg x = some (.ref f) ∧ PySem.W.keepIn K (.ref f) = true ∧ Binds K fd ps [] ∧ FnOk P w K mg base CX k f fd ps sp
section
variable {P : Program} {w : World} {K : PySem.W.Frag} {mg : Str → Option Value} {base : Heap}
theorem Df.of {x : Str} {st : Stmt} {N ps : List Str} {k : Nat} {sp : Sp} (F : FnIs K mg x st ps) (S : FnScope N ps (defScope st)) (len : ∀ vs H Q E, sp vs H Q E → vs.length = ps.length)
    (hbody : ∀ (f : Addr) (cdv : Value) (A : Around) (outer : List Env) (s : Shared) (H : Hp) (vs : List V) (Q : VK) (E : XK), Room k (A.deeper (PyProof.Rows.envOfC x (defScope st) s.heap.objs.size f cdv)) → sp vs H Q E →
      ∃ t, PSs (cxOf CX0 P w K mg base N x (defScope st) f cdv A outer s H E).nox (defBody st) t ∧ t ⟨fun _ H' => Q .non H', Q, fun _ _ => False, fun _ _ => False⟩ (start N vs) H) : Df P w K mg base CX0 x (k + 1) ps sp := by
  obtain ⟨f, fd, hm, hf, hb⟩ := F
  exact ⟨f, fd, hm, hf.kp, hb, hf.ok S len fun cdv A outer s H vs Q E hr h => hbody f cdv A outer s H vs Q E hr h⟩
theorem fnis_mk {h : Heap} {x : Str} {st : Stmt} {ps : List Str} {f : Addr} {oc : Value} {od an : Option Addr} {osl : Array (Option Value)} {kV doc pm cdv ct : Value} (X : K.In h) (G : h.Ns mainGlobals mg) (a : PySem.W.nsIn K mainGlobals x = some (some (.ref f)))
    (l : K.lookup f = some ⟨oc, od, .func (PySem.W.fnOf x x (defArgs st) (defBody st) (defScope st) .none kV doc pm an cdv ct), osl⟩) (c : PySem.W.codeIn K cdv x = true) (k : PySem.W.keepIn K (.ref f) = true)
    (hb : ∀ (kV doc pm : Value) (an : Option Addr) (cdv ct : Value) (us : List Value), us.length = ps.length → bindArgs (PySem.W.fnOf x x (defArgs st) (defBody st) (defScope st) .none kV doc pm an cdv ct) ⟨us, []⟩ = pure (ps.zip us)) : FnIs K mg x st ps :=
  ⟨f, _, PySem.W.mg_of X G a, fun_mk l c k, (fun_mk (st := st) l c k).binds hb⟩
theorem Df.up {CX : CXT} {x : Str} {j k : Nat} {ps : List Str} {sp : Sp} (D : Df P w K mg base CX x j ps sp) (h : j ≤ k) : Df P w K mg base CX x k ps sp := by
  obtain ⟨f, fd, hm, hk, hb, ok⟩ := D
  exact ⟨f, fd, hm, hk, hb, ok.mono h⟩
end
section
variable {X : Cx} {CX : CXT} {j k : Nat} {ps : List Str} {sp : Sp} {E : XK} {x : Str} {p pos : Pos} {e : Expr} {es : List Expr} {t : TA}
theorem pe_df (D : Df X.prog X.w X.K X.mg X.base CX x k ps sp) (hr : Room j X.A) (hk : k ≤ j) (hx : Passes CX X E) (ha : PA X (e :: es) t) (hg : Gl X x := by rfl) (hdb : (x == ("__debug__" : Str)) = false := by decide)
    (he : starEach (e :: es) X.env = (false, eval e X.env) :: starEach es X.env := by rfl) (hpl : (backTo pos (starEach es X.env)).any (·.1) = false := by rfl) : PE X (.Call (.Name x p) (e :: es) [] pos) (tCall sp [] E t) := by
  obtain ⟨f, fd, hm, hkp, hb, ok⟩ := D
  exact pe_call (ok.mono hk) hr hg hm hkp hb .nil hx ha hdb he hpl
end

local macro_rules | `(tactic| walk_at "sd") => `(tactic| first
  | assumption
  | (show (0 : Int) < _; first | decide | omega)
  | exact Or.inr ⟨by decide, by decide⟩
  | exact Or.inl ⟨by decide, by decide⟩
  | exact ⟨by decide, by decide, by decide⟩
  | exact ⟨by decide, by decide +kernel⟩
  | exact Or.inl ⟨by omega, by omega⟩
  | exact Or.inr ⟨by omega, by omega⟩)
local macro_rules | `(tactic| walk_at "hp1") => `(tactic| first
  | with_reducible assumption
  | with_reducible exact upd_same
  | ((with_reducible refine back_new ?hn ?_); (case hn => with_reducible assumption))
  | ((with_reducible refine back_ne ?hn ?_); (case hn => walk_at "ne"))
  | ((with_reducible refine back_same (H := ?Hb) ?hn ?_); (case hn => with_reducible assumption)))
local macro_rules | `(tactic| walk_at "hp") => `(tactic| ((repeat walk_at "hp1"); done))
local macro_rules | `(tactic| walk_at "ne") => `(tactic| first
  | with_reducible assumption
  | (with_reducible apply Ne.symm; with_reducible assumption)
  | ((with_reducible refine ne_fresh (H := ?Hb) (u := ?ub) ?h1 ?h0); (case h0 => with_reducible assumption); (case h1 => walk_at "hp"))
  | ((with_reducible refine ne_fresh' (H := ?Hb) (u := ?ub) ?h1 ?h0); (case h0 => with_reducible assumption); (case h1 => walk_at "hp")))
local macro_rules | `(tactic| walk_at "fr") => `(tactic| first
  | with_reducible assumption
  | ((with_reducible refine free_of (H := ?Hb) ?hs ?hn); (case hn => with_reducible assumption); (case hs => walk_at "sm")))
local macro_rules | `(tactic| walk_at "sm1") => `(tactic| first
  | with_reducible exact Same.refl _
  | with_reducible assumption
  | ((with_reducible refine same_new ?_ ?hn); (case hn => with_reducible assumption))
  | ((with_reducible refine same_mut ?_ ?hn); (case hn => walk_at "fr"))
  | ((with_reducible refine same_tr (H1 := ?Hb) ?hn ?_); (case hn => with_reducible assumption)))
local macro_rules | `(tactic| walk_at "sm") => `(tactic| ((repeat walk_at "sm1"); done))
local macro_rules | `(tactic| walk_at "kt1") => `(tactic| first
  | with_reducible exact keepT_refl
  | ((with_reducible refine keepT_new ?hn ?_); (case hn => with_reducible assumption))
  | ((with_reducible refine keepT_mut (u := ?ub) ?hn ?hm ?_); (case hn => walk_at "hp"); (case hm => exact True.intro))
  | ((with_reducible refine keepT_same (H := ?Hb) ?hn ?_); (case hn => with_reducible assumption)))
local macro_rules | `(tactic| walk_at "kt") => `(tactic| ((repeat walk_at "kt1"); done))
local macro_rules | `(tactic| walk_at "sq") => `(tactic| first
  | with_reducible assumption
  | ((with_reducible refine SqT.of ?ho); (case ho => walk_at "hp"))
  | ((with_reducible refine SqL.of ?ho); (case ho => walk_at "hp"))
  | ((with_reducible refine tup_keep (H0 := ?Hb) ?hb ?hk); (case hb => with_reducible assumption); (case hk => walk_at "kt"))
  | ((with_reducible refine lst_same (H := ?Hb) ?hs ?hb); (case hb => with_reducible assumption); (case hs => walk_at "sm")))
local macro_rules | `(tactic| walk_at "dp") => `(tactic| first
  | with_reducible exact Dp.int _
  | with_reducible exact Dp.bl _
  | with_reducible exact Dp.str _
  | with_reducible exact Dp.non
  | with_reducible exact DpAll.nil
  | with_reducible exact dp_ints _
  | ((with_reducible refine DpAll.cons (d := ?dd) (ds := ?de) ?d1 ?d2); (case d1 => walk_at "dp"); (case d2 => walk_at "dp"))
  | ((with_reducible refine Dp.tup (xs := ?dx) (ds := ?de) ?ds ?da); (case ds => walk_at "sq"); (case da => walk_at "dp"))
  | ((with_reducible refine Dp.lst (xs := ?dx) (ds := ?de) ?ds ?da); (case ds => walk_at "sq"); (case da => walk_at "dp")))
local macro_rules | `(tactic| walk_at "st") => `(tactic| first
  | with_reducible refine r_seq ?_
  | (with_reducible refine r_asg ?_)
  | ((with_reducible refine r_var (v := ?v) ?hv ?_); (case hv => exact rfl))
  | with_reducible refine r_op ?_
  | with_reducible refine r_c ?_
  | with_reducible refine r_I0 ?_
  | ((with_reducible refine r_I ?hc ?_); (case hc => walk_at "sd"))
  | with_reducible refine r_test ?_
  | with_reducible refine r_bl ?_
  | with_reducible refine r_if ?_
  | with_reducible refine r_next ?_
  | with_reducible refine r_ret ?_
  | with_reducible refine r_cons ?_
  | with_reducible refine r_nil ?_
  | with_reducible refine r_call ?_
  | with_reducible refine r_cb ?_
  | with_reducible refine r_abs ?_
  | with_reducible refine r_max2 ?_
  | with_reducible refine r_min2 ?_
  | with_reducible refine r_un ?_
  | with_reducible refine r_U ?_
  | with_reducible refine r_par ?_
  | with_reducible refine r_par2 ?_
  | with_reducible refine r_B ?_
  | with_reducible refine r_and ?_
  | with_reducible refine r_or ?_
  | with_reducible refine r_not ?_
  | with_reducible refine r_andV ?_
  | with_reducible refine r_orV ?_
  | with_reducible refine r_notV ?_
  | with_reducible refine r_ifE ?_
  | with_reducible refine r_drop ?_
  | with_reducible refine r_tup ?_
  | with_reducible refine r_lst ?_
  | with_reducible refine r_for ?_
  | with_reducible refine g_name ?_
  | with_reducible refine g_nil ?_
  | with_reducible refine g_cons ?_
  | with_reducible refine iteT ?_
  | with_reducible refine iteF ?_
  | with_reducible refine iteNt ?_
  | with_reducible refine iteNf ?_
  | with_reducible refine iteNN ?_
  | with_reducible refine iteRN ?_
  | with_reducible refine iteNNn ?_
  | with_reducible refine iteRNn ?_
  | ((with_reducible refine r_eq ?hs ?_); (case hs => rfl))
  | ((with_reducible refine r_ne ?hs ?_); (case hs => rfl))
  | with_reducible refine r_asgG ?_
  | with_reducible refine r_isN ?_
  | ((with_reducible refine r_ixT (v := ?v) (xs := ?xs) ?hs ?ha ?_); (case hs => walk_at "sq"); (case ha => exact rfl))
  | ((with_reducible refine r_ixL (v := ?v) (xs := ?xs) ?hs ?ha ?_); (case hs => walk_at "sq"); (case ha => exact rfl))
  | with_reducible refine r_bm ?_
  | ((with_reducible refine r_lenL (ys := ?ys) ?hs ?_); (case hs => walk_at "sq"))
  | ((with_reducible refine r_lenT (ys := ?ys) ?hs ?_); (case hs => walk_at "sq"))
  | with_reducible refine isi_int ?_
  | with_reducible refine isi_intb ?_
  | with_reducible refine isi_bool ?_
  | with_reducible refine isi_str ?_
  | ((with_reducible refine isi_tup (xs := ?xs) ?he ?_); (case he => walk_at "hp"))
  | ((with_reducible refine isi_lst (xs := ?xs) ?he ?_); (case he => walk_at "hp"))
  | ((with_reducible refine isi_dict (xs := ?xs) ?he ?_); (case he => walk_at "hp"))
  | ((with_reducible refine r_eqD (d := ?d) (e := ?e) ?h1 ?h2 ?h3 ?h4 ?_); (case h1 => walk_at "dp"); (case h2 => walk_at "dp"); (case h3 => exact rfl); (case h4 => exact rfl))
  | ((with_reducible refine r_neD (d := ?d) (e := ?e) ?h1 ?h2 ?h3 ?h4 ?_); (case h1 => walk_at "dp"); (case h2 => walk_at "dp"); (case h3 => exact rfl); (case h4 => exact rfl))
  | ((with_reducible refine r_inT (xs := ?xs) ?hs ?hx ?hf ?_); (case hs => walk_at "sq"); (case hx => exact rfl); (case hf => exact rfl))
  | ((with_reducible refine r_inL (xs := ?xs) ?hs ?hx ?hf ?_); (case hs => walk_at "sq"); (case hx => exact rfl); (case hf => exact rfl))
  | ((with_reducible refine r_aug (x := ?x) ?hx ?_); (case hx => exact rfl))
  | with_reducible refine r_ipI ?_
  | with_reducible refine r_join ?_
  | with_reducible refine r_jsNil ?_
  | with_reducible refine r_jsCons ?_
  | with_reducible refine r_fmt ?_
  | with_reducible refine r_iEnum ?_
  | with_reducible refine r_iList ?_
  | with_reducible refine r_iTup ?_
  | with_reducible refine r_iRng1 ?_
  | with_reducible refine r_iZip ?_
  | ((with_reducible refine r_append (xs := ?xs) ?hl ?_); (case hl => walk_at "hp"))
  | ((with_reducible refine r_app (xs := ?xs) ?hl ?hz ?_); (case hl => walk_at "hp"); (case hz => walk_at "sz"))
  | with_reducible refine r_notN ?_)
local macro_rules | `(tactic| walk_at "go") => `(tactic| ((repeat walk_at "st"); try dsimp only [List.set, Int.reduceToNat, Int.reducePow]))
local macro_rules | `(tactic| walk_at "sz") => `(tactic| first
  | (refine size1000l ?_; omega)
  | (refine size1000 ?_; omega)
  | (refine size1000 ?_; simp only [List.length_cons, List.length_nil]; decide)
  | (refine size1000l ?_; simp only [List.length_cons, List.length_nil]; decide)
  | (refine size1000 ?_; simp only [List.length_cons, List.length_nil, List.length_map, List.length_append]; omega)
  | (refine size1000l ?_; simp only [List.length_cons, List.length_nil, List.length_map, List.length_append]; omega))
abbrev Body (t : TS) (N : List Str) (vs : List V) (H : Hp) (Q : VK) : Prop := t ⟨fun _ H' => Q .non H', Q, fun _ _ => False, fun _ _ => False⟩ (start N vs) H
/-! ### seed -/
def seed (c : Int) : Int :=
  if 1000000000000000000 ≤ c then c else (c * 48271 + 7919) % 2147483647 * 16807 % 2147483629 * 2147483399 + (c * 69621 + 104729) % 2147483587 * 40692 % 2147483399
def sp_l_seed (G : Gx) : Sp := fun vs H Q _ => ∃ c : Int, vs = [.int c] ∧ Q (.int (seed c)) H
theorem len_l_seed {G : Gx} : ∀ vs H Q E, sp_l_seed G vs H Q E → vs.length = 1 := by rintro vs H Q E ⟨c, rfl, _⟩; rfl
/-! _law_seed: slots _law_cell_here, _law_one, _law_two -/
def t_l_seed (G : Gx) : TS :=
  (tSeq (tIfS (tTest (tOp rGeI (tVar 0) (tOp rPowI (tC (.int 10)) (tC (.int 18))))) (tRet (tVar 0)) tNext)
  (tSeq (tAsg (tOp rModI (tOp rMulI (tOp rModI (tOp rAddI (tOp rMulI (tVar 0) (tC (.int 48271))) (tC (.int 7919))) (tC (.int 2147483647))) (tC (.int 16807))) (tC (.int 2147483629))) (gName 1))
  (tSeq (tAsg (tOp rModI (tOp rMulI (tOp rModI (tOp rAddI (tOp rMulI (tVar 0) (tC (.int 69621))) (tC (.int 104729))) (tC (.int 2147483587))) (tC (.int 40692))) (tC (.int 2147483399))) (gName 2))
  (tRet (tOp rAddI (tOp rMulI (tVar 1) (tC (.int 2147483399))) (tVar 2))))))
theorem pow18 : (10 : Int) ^ Int.toNat 18 = 10 ^ 18 := rfl
theorem pure_l_seed {G : Gx} {vs : List V} {H : Hp} {Q : VK} {E : XK} (h : sp_l_seed G vs H Q E) : Body (t_l_seed G) ["_law_cell_here", "_law_one", "_law_two"] vs H Q := by
  obtain ⟨c, rfl, k⟩ := h
  show t_l_seed G _ [some (.int c), none, none] H
  unfold t_l_seed
  walk_at "go"
  refine iteD (fun h => ?_) (fun h => ?_)
  · walk_at "go"
    unfold seed at k
    rw [if_pos h] at k
    exact k
  · have e1 : (0 : Int) ≤ (c * 48271 + 7919) % 2147483647 := Int.emod_nonneg _ (by decide)
    have e2 : (c * 48271 + 7919) % 2147483647 < 2147483647 := Int.emod_lt_of_pos _ (by decide)
    walk_at "go"
    unfold seed at k
    rw [if_neg h] at k
    exact k

/-! ### digits -/
def digSt (c : Int) (zs : List Int) : Nat → Int × List Int
  | 0 => (seed c, [])
  | i + 1 =>
    let s := digSt c zs i
    let z := zs.getD i 1
    let r := if s.1 < z then seed (s.1 + 131 * (i : Int) + c % 1009) else s.1
    (r / z, s.2 ++ [r % z])
def digits (c : Int) (zs : List Int) : List Int := (digSt c zs zs.length).2
theorem digSt_len (c : Int) (zs : List Int) : ∀ i, (digSt c zs i).2.length = i
  | 0 => rfl
  | i + 1 => by
    show ((digSt c zs i).2 ++ [_]).length = i + 1
    rw [List.length_append, digSt_len c zs i]
    rfl
theorem digits_len (c : Int) (zs : List Int) : (digits c zs).length = zs.length := digSt_len c zs _
theorem digSt_get (c : Int) (zs : List Int) : ∀ n j, j < n → ∃ r, (digSt c zs n).2[j]? = some (r % zs.getD j 1)
  | 0, j, h => absurd h (Nat.not_lt_zero _)
  | n + 1, j, h => by
    have hl := digSt_len c zs n
    show ∃ r, ((digSt c zs n).2 ++ [_])[j]? = some (r % zs.getD j 1)
    by_cases e : j = n
    · subst e
      refine ⟨if (digSt c zs j).1 < zs.getD j 1 then seed ((digSt c zs j).1 + 131 * (j : Int) + c % 1009) else (digSt c zs j).1, ?_⟩
      rw [List.getElem?_append_right (by omega), hl, Nat.sub_self]
      rfl
    · rw [List.getElem?_append_left (by omega)]
      exact digSt_get c zs n j (by omega)
theorem digits_get (c : Int) (zs : List Int) (j : Nat) (z : Int) (h : zs[j]? = some z) (hz : 0 < z) : ∃ d, (digits c zs)[j]? = some d ∧ 0 ≤ d ∧ d < z := by
  have hj : j < zs.length := (List.getElem?_eq_some_iff.mp h).1
  obtain ⟨r, e⟩ := digSt_get c zs zs.length j hj
  have ez : zs.getD j 1 = z := by rw [List.getD_eq_getElem?_getD, h]; rfl
  rw [ez] at e
  exact ⟨r % z, e, Int.emod_nonneg _ (by omega), Int.emod_lt_of_pos _ hz⟩
def sp_l_digits (G : Gx) : Sp := fun vs H Q _ => ∃ (c : Int) (a : Addr) (zs : List Int), vs = [.int c, .ref a] ∧ SqL G.K H a (zs.map V.int) ∧ (∀ z ∈ zs, 0 < z ∧ z ≤ (10 : Int) ^ 60) ∧ zs.length ≤ 1000 ∧
  ∀ p H', Same H H' → Free H p → H' p = some (.lst ((digits c zs).map V.int)) → Q (.ref p) H'
theorem len_l_digits {G : Gx} : ∀ vs H Q E, sp_l_digits G vs H Q E → vs.length = 2 := by rintro vs H Q E ⟨c, a, zs, rfl, _⟩; rfl
/-! _law_digits: slots _law_cell_here, _law_sizes, _law_rest, _law_found, _law_k, _law_size -/
def t_l_digits (G : Gx) : TS :=
  (tSeq (tAsg (tCall (sp_l_seed G) [] E0 (tCons (tVar 0) tNil)) (gName 2))
  (tSeq (tAsg (tLst tNil) (gName 3))
  (tSeq (tFor (iEnum G.K (tCons (tVar 1) tNil)) (gTup G.K 2 (gCons (gName 4) (gCons (gName 5) gNil)))
  (tSeq (tIfS (tTest (tOp rLtI (tVar 2) (tVar 5))) (tAsg (tCall (sp_l_seed G) [] E0 (tCons (tOp rAddI (tOp rAddI (tVar 2) (tOp rMulI (tC (.int 131)) (tVar 4))) (tOp rModI (tVar 0) (tC (.int 1009)))) tNil)) (gName 2)) tNext)
  (tSeq (tDrop (tBM G.K "list" rAppend (tVar 3) (tCons (tOp rModI (tVar 2) (tVar 5)) tNil)))
  (tAsg (tOp rDivW (tVar 2) (tVar 5)) (gName 2)))))
  (tRet (tVar 3)))))
theorem div60 {i z : Int} (h0 : 0 < z) (h1 : z ≤ (10 : Int) ^ 60) : CDivW i z := divW_le (10 ^ 60) h0 h1 (by decide +kernel)
theorem pure_l_digits {G : Gx} {vs : List V} {H : Hp} {Q : VK} {E : XK} (h : sp_l_digits G vs H Q E) : Body (t_l_digits G) ["_law_cell_here", "_law_sizes", "_law_rest", "_law_found", "_law_k", "_law_size"] vs H Q := by
  obtain ⟨c, a, zs, rfl, hS, hz, hl, k⟩ := h
  show t_l_digits G _ [some (.int c), some (.ref a), none, none, none, none] H
  unfold t_l_digits
  walk_at "go"
  refine ⟨_, rfl, ?_⟩
  walk_at "go"
  refine ⟨by decide, fun p hp => ?_⟩
  walk_at "go"
  refine ⟨a, zs.map V.int, rfl, (same_new (Same.refl H) hp).seq hS, ?_⟩
  refine r_it walk_enum (fun i σ H' => ∃ u v, σ = [some (.int c), some (.ref a), some (.int (digSt c zs i).1), some (.ref p), u, v] ∧ Same H H' ∧ H' p = some (.lst ((digSt c zs i).2.map V.int)))
    ⟨none, none, rfl, same_new (Same.refl H) hp, upd_same⟩ (fun i σ H' _ ⟨_, _, _, s, _⟩ => s.seq hS) ?_ ?_
  · rintro i x σ H1 H2 hi ⟨u, v, rfl, s, hpl⟩ ⟨T, x1, y1, rfl, hT, rfl, e1, e2⟩
    cases e1
    obtain ⟨z, ez, rfl⟩ := map_get e2
    obtain ⟨hz0, hz1⟩ := hz z (List.mem_of_getElem? ez)
    have eg : zs.getD i 1 = z := by rw [List.getD_eq_getElem?_getD, ez]; rfl
    have hpl2 : upd H1 T (.tup [.int (i : Nat), .int z]) p = some (.lst ((digSt c zs i).2.map V.int)) := at_new hpl hT
    have s2 : Same H (upd H1 T (.tup [.int (i : Nat), .int z])) := same_new s hT
    have hpn : ∀ r : Int, (digSt c zs (i + 1)) = ((if (digSt c zs i).1 < z then seed ((digSt c zs i).1 + 131 * (i : Int) + c % 1009) else (digSt c zs i).1) / z, (digSt c zs i).2 ++ [(if (digSt c zs i).1 < z then seed ((digSt c zs i).1 + 131 * (i : Int) + c % 1009) else (digSt c zs i).1) % z]) := fun _ => by
      show (_, _) = _
      rw [eg]
    refine g_tup (SqT.of upd_same) rfl ?_
    have hln : (digSt c zs i).2.length < 1000000 := by
      rw [digSt_len]
      rw [List.length_map] at hi
      omega
    have fin : ∀ r : Int, r = (if (digSt c zs i).1 < z then seed ((digSt c zs i).1 + 131 * (i : Int) + c % 1009) else (digSt c zs i).1) →
        ∃ u v, [some (V.int c), some (V.ref a), some (V.int (r / z)), some (V.ref p), some (V.int (i : Nat)), some (V.int z)] = [some (.int c), some (.ref a), some (.int (digSt c zs (i + 1)).1), some (.ref p), u, v] ∧
          Same H (upd (upd H1 T (.tup [.int (i : Nat), .int z])) p (.lst ((digSt c zs i).2.map V.int ++ [.int (r % z)]))) ∧ upd (upd H1 T (.tup [.int (i : Nat), .int z])) p (.lst ((digSt c zs i).2.map V.int ++ [.int (r % z)])) p = some (.lst ((digSt c zs (i + 1)).2.map V.int)) := by
      rintro r rfl
      rw [hpn 0]
      refine ⟨_, _, rfl, same_mut s2 hp, ?_⟩
      rw [upd_same, List.map_append]
      rfl
    walk_at "go"
    refine iteD (fun hc => ?_) (fun hc => ?_)
    · walk_at "go"
      refine ⟨_, rfl, ?_⟩
      walk_at "go"
      refine r_I (div60 hz0 hz1) ?_
      exact fin _ (by rw [if_pos hc])
    · walk_at "go"
      refine r_I (div60 hz0 hz1) ?_
      exact fin _ (by rw [if_neg hc])
  · rintro σ H1 ⟨u, v, rfl, s, hpl⟩
    walk_at "go"
    rw [List.length_map] at hpl
    exact k p H1 s hp hpl

/-! ### cell -/
def sp_l_cell (G : Gx) : Sp := fun vs H Q _ => ∃ (a : Addr) (ns : List Int) (j : Nat), vs = [.ref a, .int (j : Int)] ∧ SqL G.K H a (ns.map V.int) ∧ Q (.int (ns.getD j 0)) H
theorem len_l_cell {G : Gx} : ∀ vs H Q E, sp_l_cell G vs H Q E → vs.length = 2 := by rintro vs H Q E ⟨a, ns, j, rfl, _⟩; rfl
/-! _law_cell: slots _law_script, _law_place -/
def t_l_cell (G : Gx) : TS :=
  (tSeq (tIfS (tTest (tOp rLtI (tVar 1) (tCB (rLenSeq G.K) (tCons (tVar 0) tNil)))) (tRet (tOp (rIxL G.K) (tVar 0) (tVar 1))) tNext)
  (tRet (tC (.int 0))))
theorem pure_l_cell {G : Gx} {vs : List V} {H : Hp} {Q : VK} {E : XK} (h : sp_l_cell G vs H Q E) : Body (t_l_cell G) ["_law_script", "_law_place"] vs H Q := by
  obtain ⟨a, ns, j, rfl, hS, k⟩ := h
  show t_l_cell G _ [some (.ref a), some (.int j)] H
  unfold t_l_cell
  walk_at "go"
  rw [List.length_map]
  refine iteD (fun h => ?_) (fun h => ?_)
  · have hj : j < ns.length := by omega
    walk_at "go"
    refine r_ixL hS (atI_nat (v := .int (ns.getD j 0)) ?_) k
    rw [List.getElem?_map, List.getElem?_eq_getElem hj, List.getD_eq_getElem?_getD, List.getElem?_eq_getElem hj]
    rfl
  · walk_at "go"
    have e : ns.getD j 0 = 0 := by rw [List.getD_eq_getElem?_getD, List.getElem?_eq_none (by omega)]; rfl
    rw [e] at k
    exact k
/-! ### whole -/
def sp_l_whole (G : Gx) : Sp := fun vs H Q _ => ∃ (i : Int), vs = [.int i] ∧ Q (.bl true) H
theorem len_l_whole {G : Gx} : ∀ vs H Q E, sp_l_whole G vs H Q E → vs.length = 1 := by rintro vs H Q E ⟨a, rfl, _⟩; rfl
/-! _law_whole: slots _law_thing -/
def t_l_whole (G : Gx) : TS :=
  (tRet (tAndV (tCB (rIsi G.K) (tCons (tVar 0) (tCons (tC (.ty "int")) tNil))) (tNotV (tCB (rIsi G.K) (tCons (tVar 0) (tCons (tC (.ty "bool")) tNil))))))
theorem pure_l_whole {G : Gx} {vs : List V} {H : Hp} {Q : VK} {E : XK} (h : sp_l_whole G vs H Q E) : Body (t_l_whole G) ["_law_thing"] vs H Q := by
  obtain ⟨i, rfl, k⟩ := h
  show t_l_whole G _ [some (.int i)] H
  unfold t_l_whole
  walk_at "go"
  exact k
/-! ### gcd -/
def sp_l_gcd (G : Gx) : Sp := fun vs H Q _ => ∃ (m n : Nat), vs = [.int (m : Int), .int (n : Int)] ∧ Q (.int (Nat.gcd m n : Nat)) H
theorem len_l_gcd {G : Gx} : ∀ vs H Q E, sp_l_gcd G vs H Q E → vs.length = 2 := by rintro vs H Q E ⟨m, n, rfl, _⟩; rfl
/-! _law_gcd: slots _law_one, _law_two -/
def t_l_gcd (G : Gx) : TS :=
  (tSeq (tWhile (tTest (tOp rGtI (tVar 1) (tC (.int 0)))) (tPar 0 1 (tCons (tVar 1) (tCons (tOp rModI (tVar 0) (tVar 1)) tNil))))
  (tRet (tVar 0)))
theorem pure_l_gcd {G : Gx} {vs : List V} {H : Hp} {Q : VK} {E : XK} (h : sp_l_gcd G vs H Q E) : Body (t_l_gcd G) ["_law_one", "_law_two"] vs H Q := by
  obtain ⟨m, n, rfl, k⟩ := h
  show t_l_gcd G _ [some (.int m), some (.int n)] H
  unfold t_l_gcd
  walk_at "go"
  refine r_while (fun σ H' => H' = H ∧ ∃ x y : Nat, σ = [some (.int x), some (.int y)] ∧ Nat.gcd x y = Nat.gcd m n) (fun σ _ => match σ with | [_, some (.int y)] => y.toNat | _ => 0) ⟨rfl, m, n, rfl, rfl⟩ ?_
    (mono_test (mono_op mono_I0 mono_var mono_c))
  rintro σ H' ⟨rfl, x, y, rfl, e⟩
  walk_at "go"
  refine iteD (fun h => ?_) (fun h => ?_)
  · refine r_wT (P := fun σ H1 => H1 = H' ∧ ∃ x y : Nat, σ = [some (.int x), some (.int y)] ∧ Nat.gcd x y = Nat.gcd m n) (μ := fun σ _ => match σ with | [_, some (.int y)] => y.toNat | _ => 0) ?_
    walk_at "go"
    have hy : 0 < y := by omega
    refine ⟨⟨rfl, y, x % y, rfl, ?_⟩, ?_⟩
    · rw [← e, Nat.gcd_comm x y, Nat.gcd_rec y x, Nat.gcd_comm]
    · show ((x : Int) % (y : Int)).toNat < ((y : Nat) : Int).toNat
      have := Nat.mod_lt x hy
      omega
  · walk_at "go"
    have hy : y = 0 := by omega
    subst hy
    rw [Nat.gcd_zero_right] at e
    rw [← e] at k
    exact k
/-! ### common -/
def sp_p_common (G : Gx) : Sp := sp_l_gcd G
theorem len_p_common {G : Gx} : ∀ vs H Q E, sp_p_common G vs H Q E → vs.length = 2 := len_l_gcd
/-! common: slots one, two -/
def t_p_common (G : Gx) : TS :=
  (tSeq (tWhile (tTest (tOp rGtI (tVar 0) (tC (.int 0)))) (tPar 0 1 (tCons (tOp rModI (tVar 1) (tVar 0)) (tCons (tVar 0) tNil))))
  (tRet (tVar 1)))
theorem pure_p_common {G : Gx} {vs : List V} {H : Hp} {Q : VK} {E : XK} (h : sp_p_common G vs H Q E) : Body (t_p_common G) ["one", "two"] vs H Q := by
  obtain ⟨m, n, rfl, k⟩ := h
  show t_p_common G _ [some (.int m), some (.int n)] H
  unfold t_p_common
  walk_at "go"
  refine r_while (fun σ H' => H' = H ∧ ∃ x y : Nat, σ = [some (.int x), some (.int y)] ∧ Nat.gcd x y = Nat.gcd m n) (fun σ _ => match σ with | [some (.int x), _] => x.toNat | _ => 0) ⟨rfl, m, n, rfl, rfl⟩ ?_
    (mono_test (mono_op mono_I0 mono_var mono_c))
  rintro σ H' ⟨rfl, x, y, rfl, e⟩
  walk_at "go"
  refine iteD (fun h => ?_) (fun h => ?_)
  · refine r_wT (P := fun σ H1 => H1 = H' ∧ ∃ x y : Nat, σ = [some (.int x), some (.int y)] ∧ Nat.gcd x y = Nat.gcd m n) (μ := fun σ _ => match σ with | [some (.int x), _] => x.toNat | _ => 0) ?_
    walk_at "go"
    have hy : 0 < x := by omega
    refine ⟨⟨rfl, y % x, x, rfl, ?_⟩, ?_⟩
    · rw [← e, Nat.gcd_rec x y]
    · show ((y : Int) % (x : Int)).toNat < ((x : Nat) : Int).toNat
      have := Nat.mod_lt y hy
      omega
  · walk_at "go"
    have hy : x = 0 := by omega
    subst hy
    rw [Nat.gcd_zero_left] at e
    rw [← e] at k
    exact k
/-! ### amounts in lowest terms -/
def amt (num den : Int) : Int × Int :=
  if den < 0 then (-num / (Nat.gcd num.natAbs den.natAbs : Nat), -den / (Nat.gcd num.natAbs den.natAbs : Nat)) else (num / (Nat.gcd num.natAbs den.natAbs : Nat), den / (Nat.gcd num.natAbs den.natAbs : Nat))
def sp_p_amount (G : Gx) : Sp := fun vs H Q _ => ∃ (num den : Int), vs = [.int num, .int den] ∧ den ≠ 0 ∧ den.natAbs.log2 < 9000 ∧
  ∀ p H', Same H H' → Free H p → H' p = some (.tup [.int (amt num den).1, .int (amt num den).2]) → Q (.ref p) H'
theorem len_p_amount {G : Gx} : ∀ vs H Q E, sp_p_amount G vs H Q E → vs.length = 2 := by rintro vs H Q E ⟨m, n, rfl, _⟩; rfl
theorem abs_if (i : Int) : (if i < 0 then -i else i) = (i.natAbs : Int) := by
  split <;> omega
theorem gcd_divW {i : Int} {m n : Nat} (h0 : n ≠ 0) (h : n.log2 < 9000) : CDivW i ((Nat.gcd m n : Nat) : Int) := by
  have h1 : 0 < Nat.gcd m n := Nat.gcd_pos_of_pos_right _ (by omega)
  have h2 : Nat.gcd m n ≤ n := Nat.gcd_le_right _ (by omega)
  exact ⟨by omega, Nat.lt_of_le_of_lt (log2_mono (by simpa using h2)) h⟩
/-! amount: slots num, den, by -/
def t_p_amount (G : Gx) : TS :=
  (tSeq (tIfS (tTest (tOp rLtI (tVar 1) (tC (.int 0)))) (tPar 0 1 (tCons (tUn rNegI (tVar 0)) (tCons (tUn rNegI (tVar 1)) tNil))) tNext)
  (tSeq (tAsg (tCall (sp_p_common G) [] E0 (tCons (tCB rAbs (tCons (tVar 0) tNil)) (tCons (tVar 1) tNil))) (gName 2))
  (tRet (tTup (tCons (tOp rDivW (tVar 0) (tVar 2)) (tCons (tOp rDivW (tVar 1) (tVar 2)) tNil))))))
theorem pure_p_amount {G : Gx} {vs : List V} {H : Hp} {Q : VK} {E : XK} (h : sp_p_amount G vs H Q E) : Body (t_p_amount G) ["num", "den", "by"] vs H Q := by
  obtain ⟨num, den, rfl, h0, hs, k⟩ := h
  show t_p_amount G _ [some (.int num), some (.int den), none] H
  unfold t_p_amount
  walk_at "go"
  unfold amt at k
  refine iteD (fun h => ?_) (fun h => ?_)
  · rw [if_pos h] at k
    walk_at "go"
    rw [abs_if]
    refine ⟨num.natAbs, den.natAbs, by rw [Int.natAbs_neg, Int.ofNat_natAbs_of_nonpos (by omega : den ≤ 0)], ?_⟩
    walk_at "go"
    refine r_I (gcd_divW (by omega) hs) ?_
    walk_at "go"
    refine r_I (gcd_divW (by omega) hs) ?_
    walk_at "go"
    exact ⟨by walk_at "sz", fun p hp => k p _ (same_new (Same.refl H) hp) hp upd_same⟩
  · rw [if_neg h] at k
    walk_at "go"
    rw [abs_if]
    refine ⟨num.natAbs, den.natAbs, by rw [Int.natAbs_of_nonneg (by omega : 0 ≤ den)], ?_⟩
    walk_at "go"
    refine r_I (gcd_divW (by omega) hs) ?_
    walk_at "go"
    refine r_I (gcd_divW (by omega) hs) ?_
    walk_at "go"
    exact ⟨by walk_at "sz", fun p hp => k p _ (same_new (Same.refl H) hp) hp upd_same⟩

/-! ### what holds of amt -/
theorem amt_spec {num den : Int} (h : den ≠ 0) : 1 ≤ (amt num den).2 ∧ Nat.gcd (amt num den).1.natAbs (amt num den).2.natAbs = 1 ∧ (amt num den).1 * den = num * (amt num den).2 := by
  have key : ∀ n d : Int, 0 < d → 1 ≤ d / (Nat.gcd n.natAbs d.natAbs : Nat) ∧ Nat.gcd (n / (Nat.gcd n.natAbs d.natAbs : Nat)).natAbs (d / (Nat.gcd n.natAbs d.natAbs : Nat)).natAbs = 1 ∧
      n / (Nat.gcd n.natAbs d.natAbs : Nat) * d = n * (d / (Nat.gcd n.natAbs d.natAbs : Nat)) := by
    intro n d hd
    have hg : 0 < Int.gcd n d := Int.gcd_pos_of_ne_zero_right _ (by omega)
    have e : (Nat.gcd n.natAbs d.natAbs) = Int.gcd n d := rfl
    rw [e]
    have d1 : (Int.gcd n d : Int) ∣ n := Int.gcd_dvd_left ..
    have d2 : (Int.gcd n d : Int) ∣ d := Int.gcd_dvd_right ..
    obtain ⟨a, ha⟩ := d1
    obtain ⟨b, hb⟩ := d2
    have g0 : (Int.gcd n d : Int) ≠ 0 := by omega
    have ea : n / (Int.gcd n d : Int) = a := by
      conv => lhs; arg 1; rw [ha]
      exact Int.mul_ediv_cancel_left _ g0
    have eb : d / (Int.gcd n d : Int) = b := by
      conv => lhs; arg 1; rw [hb]
      exact Int.mul_ediv_cancel_left _ g0
    have hz := Int.gcd_ediv_gcd_ediv_gcd hg
    rw [ea, eb] at hz ⊢
    refine ⟨?_, hz, ?_⟩
    · rcases Int.lt_or_le 0 b with q | q
      · omega
      · have : d ≤ 0 := by
          rw [hb]
          exact Int.mul_nonpos_of_nonneg_of_nonpos (by omega) q
        omega
    · generalize (Int.gcd n d : Int) = g at ha hb
      subst ha hb
      rw [Int.mul_comm g a, Int.mul_assoc]
  unfold amt
  by_cases c : den < 0
  · rw [if_pos c]
    have k := key (-num) (-den) (by omega)
    rw [Int.natAbs_neg, Int.natAbs_neg] at k
    refine ⟨k.1, k.2.1, ?_⟩
    have k3 := k.2.2
    rw [Int.mul_neg, Int.neg_mul] at k3
    exact Int.neg_inj.mp k3
  · rw [if_neg c]
    exact key num den (by omega)
theorem amt_zero {den : Int} (h : den ≠ 0) : amt 0 den = (0, 1) := by
  unfold amt
  have e : Nat.gcd (0 : Int).natAbs den.natAbs = den.natAbs := Nat.gcd_zero_left _
  rw [e]
  by_cases c : den < 0
  · rw [if_pos c]
    have e2 : ((den.natAbs : Nat) : Int) = -den := by omega
    rw [e2, Int.neg_zero, Int.zero_ediv, Int.ediv_self (by omega)]
  · rw [if_neg c]
    have e2 : ((den.natAbs : Nat) : Int) = den := by omega
    rw [e2, Int.zero_ediv, Int.ediv_self (by omega)]
theorem div_abs_le (a : Int) (g : Nat) : (a / (g : Int)).natAbs ≤ a.natAbs := by
  by_cases h : g = 0
  · subst h
    rw [Int.natCast_zero, Int.ediv_zero]
    exact Nat.zero_le _
  · rcases Int.le_total 0 a with q | q
    · have := Int.ediv_le_self (g : Int) q
      have := Int.ediv_nonneg q (Int.natCast_nonneg g)
      omega
    · have h1 : a ≤ a / (g : Int) := by
        rw [Int.le_ediv_iff_mul_le (by omega)]
        have : a * (g : Int) ≤ a * 1 := Int.mul_le_mul_of_nonpos_left q (by omega)
        omega
      have h2 : a / (g : Int) ≤ 0 := by
        have := Int.ediv_le_ediv (c := (g : Int)) (by omega) q
        rw [Int.zero_ediv] at this
        exact this
      omega
theorem amt_le (num den : Int) : (amt num den).1.natAbs ≤ num.natAbs ∧ (amt num den).2.natAbs ≤ den.natAbs := by
  unfold amt
  by_cases c : den < 0
  · rw [if_pos c]
    have h1 := div_abs_le (-num) (Nat.gcd num.natAbs den.natAbs)
    have h2 := div_abs_le (-den) (Nat.gcd num.natAbs den.natAbs)
    rw [Int.natAbs_neg] at h1 h2
    exact ⟨h1, h2⟩
  · rw [if_neg c]
    exact ⟨div_abs_le _ _, div_abs_le _ _⟩

/-! ### call words -/
theorem c_seed {G : Gx} {c : Int} {H : Hp} {Q : VK} {E : XK} (h : Q (.int (seed c)) H) : sp_l_seed G [.int c] H Q E := ⟨c, rfl, h⟩
theorem c_cell {G : Gx} {a : Addr} {ns : List Int} {i : Int} {H : Hp} {Q : VK} {E : XK} (hs : SqL G.K H a (ns.map V.int)) (h0 : 0 ≤ i) (h : Q (.int (ns.getD i.toNat 0)) H) : sp_l_cell G [.ref a, .int i] H Q E :=
  ⟨a, ns, i.toNat, by rw [Int.toNat_of_nonneg h0], hs, h⟩
theorem c_whole {G : Gx} {i : Int} {H : Hp} {Q : VK} {E : XK} (h : Q (.bl true) H) : sp_l_whole G [.int i] H Q E := ⟨i, rfl, h⟩
theorem c_digits1 {G : Gx} {c z0 : Int} {a : Addr} {H : Hp} {Q : VK} {E : XK} (hs : SqL G.K H a [.int z0]) (hz0 : 0 < z0 ∧ z0 ≤ (10 : Int) ^ 60)
    (h : ∀ (d0 : Int) (q : Addr) (H' : Hp), digits c [z0] = [d0] → 0 ≤ d0 → d0 < z0 → Same H H' → Free H q → H' q = some (.lst [.int d0]) → Q (.ref q) H') : sp_l_digits G [.int c, .ref a] H Q E := by
  refine ⟨c, a, [z0], rfl, hs, ?_, by show 1 ≤ 1000; decide, fun q H1 s hq e => ?_⟩
  · intro z hz
    simp only [List.mem_cons, List.not_mem_nil, or_false] at hz
    rcases hz with rfl
    · exact hz0
  · have hl := digits_len c [z0]
    obtain ⟨y0, e0, a0, b0⟩ := digits_get c [z0] 0 z0 rfl hz0.1
    have ed : digits c [z0] = [y0] := by
      generalize digits c [z0] = l at *
      match l, hl with
      | [x0], _ =>
        obtain rfl : x0 = y0 := Option.some.inj e0
        rfl
    rw [ed] at e
    exact h y0 q H1 ed a0 b0 s hq e
theorem c_digits2 {G : Gx} {c z0 z1 : Int} {a : Addr} {H : Hp} {Q : VK} {E : XK} (hs : SqL G.K H a [.int z0, .int z1]) (hz0 : 0 < z0 ∧ z0 ≤ (10 : Int) ^ 60) (hz1 : 0 < z1 ∧ z1 ≤ (10 : Int) ^ 60)
    (h : ∀ (d0 d1 : Int) (q : Addr) (H' : Hp), digits c [z0, z1] = [d0, d1] → 0 ≤ d0 → d0 < z0 → 0 ≤ d1 → d1 < z1 → Same H H' → Free H q → H' q = some (.lst [.int d0, .int d1]) → Q (.ref q) H') : sp_l_digits G [.int c, .ref a] H Q E := by
  refine ⟨c, a, [z0, z1], rfl, hs, ?_, by show 2 ≤ 1000; decide, fun q H1 s hq e => ?_⟩
  · intro z hz
    simp only [List.mem_cons, List.not_mem_nil, or_false] at hz
    rcases hz with rfl | rfl
    · exact hz0
    · exact hz1
  · have hl := digits_len c [z0, z1]
    obtain ⟨y0, e0, a0, b0⟩ := digits_get c [z0, z1] 0 z0 rfl hz0.1
    obtain ⟨y1, e1, a1, b1⟩ := digits_get c [z0, z1] 1 z1 rfl hz1.1
    have ed : digits c [z0, z1] = [y0, y1] := by
      generalize digits c [z0, z1] = l at *
      match l, hl with
      | [x0, x1], _ =>
        obtain rfl : x0 = y0 := Option.some.inj e0
        obtain rfl : x1 = y1 := Option.some.inj e1
        rfl
    rw [ed] at e
    exact h y0 y1 q H1 ed a0 b0 a1 b1 s hq e
theorem c_digits3 {G : Gx} {c z0 z1 z2 : Int} {a : Addr} {H : Hp} {Q : VK} {E : XK} (hs : SqL G.K H a [.int z0, .int z1, .int z2]) (hz0 : 0 < z0 ∧ z0 ≤ (10 : Int) ^ 60) (hz1 : 0 < z1 ∧ z1 ≤ (10 : Int) ^ 60) (hz2 : 0 < z2 ∧ z2 ≤ (10 : Int) ^ 60)
    (h : ∀ (d0 d1 d2 : Int) (q : Addr) (H' : Hp), digits c [z0, z1, z2] = [d0, d1, d2] → 0 ≤ d0 → d0 < z0 → 0 ≤ d1 → d1 < z1 → 0 ≤ d2 → d2 < z2 → Same H H' → Free H q → H' q = some (.lst [.int d0, .int d1, .int d2]) → Q (.ref q) H') : sp_l_digits G [.int c, .ref a] H Q E := by
  refine ⟨c, a, [z0, z1, z2], rfl, hs, ?_, by show 3 ≤ 1000; decide, fun q H1 s hq e => ?_⟩
  · intro z hz
    simp only [List.mem_cons, List.not_mem_nil, or_false] at hz
    rcases hz with rfl | rfl | rfl
    · exact hz0
    · exact hz1
    · exact hz2
  · have hl := digits_len c [z0, z1, z2]
    obtain ⟨y0, e0, a0, b0⟩ := digits_get c [z0, z1, z2] 0 z0 rfl hz0.1
    obtain ⟨y1, e1, a1, b1⟩ := digits_get c [z0, z1, z2] 1 z1 rfl hz1.1
    obtain ⟨y2, e2, a2, b2⟩ := digits_get c [z0, z1, z2] 2 z2 rfl hz2.1
    have ed : digits c [z0, z1, z2] = [y0, y1, y2] := by
      generalize digits c [z0, z1, z2] = l at *
      match l, hl with
      | [x0, x1, x2], _ =>
        obtain rfl : x0 = y0 := Option.some.inj e0
        obtain rfl : x1 = y1 := Option.some.inj e1
        obtain rfl : x2 = y2 := Option.some.inj e2
        rfl
    rw [ed] at e
    exact h y0 y1 y2 q H1 ed a0 b0 a1 b1 a2 b2 s hq e
theorem c_digits4 {G : Gx} {c z0 z1 z2 z3 : Int} {a : Addr} {H : Hp} {Q : VK} {E : XK} (hs : SqL G.K H a [.int z0, .int z1, .int z2, .int z3]) (hz0 : 0 < z0 ∧ z0 ≤ (10 : Int) ^ 60) (hz1 : 0 < z1 ∧ z1 ≤ (10 : Int) ^ 60) (hz2 : 0 < z2 ∧ z2 ≤ (10 : Int) ^ 60) (hz3 : 0 < z3 ∧ z3 ≤ (10 : Int) ^ 60)
    (h : ∀ (d0 d1 d2 d3 : Int) (q : Addr) (H' : Hp), digits c [z0, z1, z2, z3] = [d0, d1, d2, d3] → 0 ≤ d0 → d0 < z0 → 0 ≤ d1 → d1 < z1 → 0 ≤ d2 → d2 < z2 → 0 ≤ d3 → d3 < z3 → Same H H' → Free H q → H' q = some (.lst [.int d0, .int d1, .int d2, .int d3]) → Q (.ref q) H') : sp_l_digits G [.int c, .ref a] H Q E := by
  refine ⟨c, a, [z0, z1, z2, z3], rfl, hs, ?_, by show 4 ≤ 1000; decide, fun q H1 s hq e => ?_⟩
  · intro z hz
    simp only [List.mem_cons, List.not_mem_nil, or_false] at hz
    rcases hz with rfl | rfl | rfl | rfl
    · exact hz0
    · exact hz1
    · exact hz2
    · exact hz3
  · have hl := digits_len c [z0, z1, z2, z3]
    obtain ⟨y0, e0, a0, b0⟩ := digits_get c [z0, z1, z2, z3] 0 z0 rfl hz0.1
    obtain ⟨y1, e1, a1, b1⟩ := digits_get c [z0, z1, z2, z3] 1 z1 rfl hz1.1
    obtain ⟨y2, e2, a2, b2⟩ := digits_get c [z0, z1, z2, z3] 2 z2 rfl hz2.1
    obtain ⟨y3, e3, a3, b3⟩ := digits_get c [z0, z1, z2, z3] 3 z3 rfl hz3.1
    have ed : digits c [z0, z1, z2, z3] = [y0, y1, y2, y3] := by
      generalize digits c [z0, z1, z2, z3] = l at *
      match l, hl with
      | [x0, x1, x2, x3], _ =>
        obtain rfl : x0 = y0 := Option.some.inj e0
        obtain rfl : x1 = y1 := Option.some.inj e1
        obtain rfl : x2 = y2 := Option.some.inj e2
        obtain rfl : x3 = y3 := Option.some.inj e3
        rfl
    rw [ed] at e
    exact h y0 y1 y2 y3 q H1 ed a0 b0 a1 b1 a2 b2 a3 b3 s hq e
theorem c_digits5 {G : Gx} {c z0 z1 z2 z3 z4 : Int} {a : Addr} {H : Hp} {Q : VK} {E : XK} (hs : SqL G.K H a [.int z0, .int z1, .int z2, .int z3, .int z4]) (hz0 : 0 < z0 ∧ z0 ≤ (10 : Int) ^ 60) (hz1 : 0 < z1 ∧ z1 ≤ (10 : Int) ^ 60) (hz2 : 0 < z2 ∧ z2 ≤ (10 : Int) ^ 60) (hz3 : 0 < z3 ∧ z3 ≤ (10 : Int) ^ 60) (hz4 : 0 < z4 ∧ z4 ≤ (10 : Int) ^ 60)
    (h : ∀ (d0 d1 d2 d3 d4 : Int) (q : Addr) (H' : Hp), digits c [z0, z1, z2, z3, z4] = [d0, d1, d2, d3, d4] → 0 ≤ d0 → d0 < z0 → 0 ≤ d1 → d1 < z1 → 0 ≤ d2 → d2 < z2 → 0 ≤ d3 → d3 < z3 → 0 ≤ d4 → d4 < z4 → Same H H' → Free H q → H' q = some (.lst [.int d0, .int d1, .int d2, .int d3, .int d4]) → Q (.ref q) H') : sp_l_digits G [.int c, .ref a] H Q E := by
  refine ⟨c, a, [z0, z1, z2, z3, z4], rfl, hs, ?_, by show 5 ≤ 1000; decide, fun q H1 s hq e => ?_⟩
  · intro z hz
    simp only [List.mem_cons, List.not_mem_nil, or_false] at hz
    rcases hz with rfl | rfl | rfl | rfl | rfl
    · exact hz0
    · exact hz1
    · exact hz2
    · exact hz3
    · exact hz4
  · have hl := digits_len c [z0, z1, z2, z3, z4]
    obtain ⟨y0, e0, a0, b0⟩ := digits_get c [z0, z1, z2, z3, z4] 0 z0 rfl hz0.1
    obtain ⟨y1, e1, a1, b1⟩ := digits_get c [z0, z1, z2, z3, z4] 1 z1 rfl hz1.1
    obtain ⟨y2, e2, a2, b2⟩ := digits_get c [z0, z1, z2, z3, z4] 2 z2 rfl hz2.1
    obtain ⟨y3, e3, a3, b3⟩ := digits_get c [z0, z1, z2, z3, z4] 3 z3 rfl hz3.1
    obtain ⟨y4, e4, a4, b4⟩ := digits_get c [z0, z1, z2, z3, z4] 4 z4 rfl hz4.1
    have ed : digits c [z0, z1, z2, z3, z4] = [y0, y1, y2, y3, y4] := by
      generalize digits c [z0, z1, z2, z3, z4] = l at *
      match l, hl with
      | [x0, x1, x2, x3, x4], _ =>
        obtain rfl : x0 = y0 := Option.some.inj e0
        obtain rfl : x1 = y1 := Option.some.inj e1
        obtain rfl : x2 = y2 := Option.some.inj e2
        obtain rfl : x3 = y3 := Option.some.inj e3
        obtain rfl : x4 = y4 := Option.some.inj e4
        rfl
    rw [ed] at e
    exact h y0 y1 y2 y3 y4 q H1 ed a0 b0 a1 b1 a2 b2 a3 b3 a4 b4 s hq e
theorem c_digits6 {G : Gx} {c z0 z1 z2 z3 z4 z5 : Int} {a : Addr} {H : Hp} {Q : VK} {E : XK} (hs : SqL G.K H a [.int z0, .int z1, .int z2, .int z3, .int z4, .int z5]) (hz0 : 0 < z0 ∧ z0 ≤ (10 : Int) ^ 60) (hz1 : 0 < z1 ∧ z1 ≤ (10 : Int) ^ 60) (hz2 : 0 < z2 ∧ z2 ≤ (10 : Int) ^ 60) (hz3 : 0 < z3 ∧ z3 ≤ (10 : Int) ^ 60) (hz4 : 0 < z4 ∧ z4 ≤ (10 : Int) ^ 60) (hz5 : 0 < z5 ∧ z5 ≤ (10 : Int) ^ 60)
    (h : ∀ (d0 d1 d2 d3 d4 d5 : Int) (q : Addr) (H' : Hp), digits c [z0, z1, z2, z3, z4, z5] = [d0, d1, d2, d3, d4, d5] → 0 ≤ d0 → d0 < z0 → 0 ≤ d1 → d1 < z1 → 0 ≤ d2 → d2 < z2 → 0 ≤ d3 → d3 < z3 → 0 ≤ d4 → d4 < z4 → 0 ≤ d5 → d5 < z5 → Same H H' → Free H q → H' q = some (.lst [.int d0, .int d1, .int d2, .int d3, .int d4, .int d5]) → Q (.ref q) H') : sp_l_digits G [.int c, .ref a] H Q E := by
  refine ⟨c, a, [z0, z1, z2, z3, z4, z5], rfl, hs, ?_, by show 6 ≤ 1000; decide, fun q H1 s hq e => ?_⟩
  · intro z hz
    simp only [List.mem_cons, List.not_mem_nil, or_false] at hz
    rcases hz with rfl | rfl | rfl | rfl | rfl | rfl
    · exact hz0
    · exact hz1
    · exact hz2
    · exact hz3
    · exact hz4
    · exact hz5
  · have hl := digits_len c [z0, z1, z2, z3, z4, z5]
    obtain ⟨y0, e0, a0, b0⟩ := digits_get c [z0, z1, z2, z3, z4, z5] 0 z0 rfl hz0.1
    obtain ⟨y1, e1, a1, b1⟩ := digits_get c [z0, z1, z2, z3, z4, z5] 1 z1 rfl hz1.1
    obtain ⟨y2, e2, a2, b2⟩ := digits_get c [z0, z1, z2, z3, z4, z5] 2 z2 rfl hz2.1
    obtain ⟨y3, e3, a3, b3⟩ := digits_get c [z0, z1, z2, z3, z4, z5] 3 z3 rfl hz3.1
    obtain ⟨y4, e4, a4, b4⟩ := digits_get c [z0, z1, z2, z3, z4, z5] 4 z4 rfl hz4.1
    obtain ⟨y5, e5, a5, b5⟩ := digits_get c [z0, z1, z2, z3, z4, z5] 5 z5 rfl hz5.1
    have ed : digits c [z0, z1, z2, z3, z4, z5] = [y0, y1, y2, y3, y4, y5] := by
      generalize digits c [z0, z1, z2, z3, z4, z5] = l at *
      match l, hl with
      | [x0, x1, x2, x3, x4, x5], _ =>
        obtain rfl : x0 = y0 := Option.some.inj e0
        obtain rfl : x1 = y1 := Option.some.inj e1
        obtain rfl : x2 = y2 := Option.some.inj e2
        obtain rfl : x3 = y3 := Option.some.inj e3
        obtain rfl : x4 = y4 := Option.some.inj e4
        obtain rfl : x5 = y5 := Option.some.inj e5
        rfl
    rw [ed] at e
    exact h y0 y1 y2 y3 y4 y5 q H1 ed a0 b0 a1 b1 a2 b2 a3 b3 a4 b4 a5 b5 s hq e
theorem c_digits7 {G : Gx} {c z0 z1 z2 z3 z4 z5 z6 : Int} {a : Addr} {H : Hp} {Q : VK} {E : XK} (hs : SqL G.K H a [.int z0, .int z1, .int z2, .int z3, .int z4, .int z5, .int z6]) (hz0 : 0 < z0 ∧ z0 ≤ (10 : Int) ^ 60) (hz1 : 0 < z1 ∧ z1 ≤ (10 : Int) ^ 60) (hz2 : 0 < z2 ∧ z2 ≤ (10 : Int) ^ 60) (hz3 : 0 < z3 ∧ z3 ≤ (10 : Int) ^ 60) (hz4 : 0 < z4 ∧ z4 ≤ (10 : Int) ^ 60) (hz5 : 0 < z5 ∧ z5 ≤ (10 : Int) ^ 60) (hz6 : 0 < z6 ∧ z6 ≤ (10 : Int) ^ 60)
    (h : ∀ (d0 d1 d2 d3 d4 d5 d6 : Int) (q : Addr) (H' : Hp), digits c [z0, z1, z2, z3, z4, z5, z6] = [d0, d1, d2, d3, d4, d5, d6] → 0 ≤ d0 → d0 < z0 → 0 ≤ d1 → d1 < z1 → 0 ≤ d2 → d2 < z2 → 0 ≤ d3 → d3 < z3 → 0 ≤ d4 → d4 < z4 → 0 ≤ d5 → d5 < z5 → 0 ≤ d6 → d6 < z6 → Same H H' → Free H q → H' q = some (.lst [.int d0, .int d1, .int d2, .int d3, .int d4, .int d5, .int d6]) → Q (.ref q) H') : sp_l_digits G [.int c, .ref a] H Q E := by
  refine ⟨c, a, [z0, z1, z2, z3, z4, z5, z6], rfl, hs, ?_, by show 7 ≤ 1000; decide, fun q H1 s hq e => ?_⟩
  · intro z hz
    simp only [List.mem_cons, List.not_mem_nil, or_false] at hz
    rcases hz with rfl | rfl | rfl | rfl | rfl | rfl | rfl
    · exact hz0
    · exact hz1
    · exact hz2
    · exact hz3
    · exact hz4
    · exact hz5
    · exact hz6
  · have hl := digits_len c [z0, z1, z2, z3, z4, z5, z6]
    obtain ⟨y0, e0, a0, b0⟩ := digits_get c [z0, z1, z2, z3, z4, z5, z6] 0 z0 rfl hz0.1
    obtain ⟨y1, e1, a1, b1⟩ := digits_get c [z0, z1, z2, z3, z4, z5, z6] 1 z1 rfl hz1.1
    obtain ⟨y2, e2, a2, b2⟩ := digits_get c [z0, z1, z2, z3, z4, z5, z6] 2 z2 rfl hz2.1
    obtain ⟨y3, e3, a3, b3⟩ := digits_get c [z0, z1, z2, z3, z4, z5, z6] 3 z3 rfl hz3.1
    obtain ⟨y4, e4, a4, b4⟩ := digits_get c [z0, z1, z2, z3, z4, z5, z6] 4 z4 rfl hz4.1
    obtain ⟨y5, e5, a5, b5⟩ := digits_get c [z0, z1, z2, z3, z4, z5, z6] 5 z5 rfl hz5.1
    obtain ⟨y6, e6, a6, b6⟩ := digits_get c [z0, z1, z2, z3, z4, z5, z6] 6 z6 rfl hz6.1
    have ed : digits c [z0, z1, z2, z3, z4, z5, z6] = [y0, y1, y2, y3, y4, y5, y6] := by
      generalize digits c [z0, z1, z2, z3, z4, z5, z6] = l at *
      match l, hl with
      | [x0, x1, x2, x3, x4, x5, x6], _ =>
        obtain rfl : x0 = y0 := Option.some.inj e0
        obtain rfl : x1 = y1 := Option.some.inj e1
        obtain rfl : x2 = y2 := Option.some.inj e2
        obtain rfl : x3 = y3 := Option.some.inj e3
        obtain rfl : x4 = y4 := Option.some.inj e4
        obtain rfl : x5 = y5 := Option.some.inj e5
        obtain rfl : x6 = y6 := Option.some.inj e6
        rfl
    rw [ed] at e
    exact h y0 y1 y2 y3 y4 y5 y6 q H1 ed a0 b0 a1 b1 a2 b2 a3 b3 a4 b4 a5 b5 a6 b6 s hq e
theorem c_digits8 {G : Gx} {c z0 z1 z2 z3 z4 z5 z6 z7 : Int} {a : Addr} {H : Hp} {Q : VK} {E : XK} (hs : SqL G.K H a [.int z0, .int z1, .int z2, .int z3, .int z4, .int z5, .int z6, .int z7]) (hz0 : 0 < z0 ∧ z0 ≤ (10 : Int) ^ 60) (hz1 : 0 < z1 ∧ z1 ≤ (10 : Int) ^ 60) (hz2 : 0 < z2 ∧ z2 ≤ (10 : Int) ^ 60) (hz3 : 0 < z3 ∧ z3 ≤ (10 : Int) ^ 60) (hz4 : 0 < z4 ∧ z4 ≤ (10 : Int) ^ 60) (hz5 : 0 < z5 ∧ z5 ≤ (10 : Int) ^ 60) (hz6 : 0 < z6 ∧ z6 ≤ (10 : Int) ^ 60) (hz7 : 0 < z7 ∧ z7 ≤ (10 : Int) ^ 60)
    (h : ∀ (d0 d1 d2 d3 d4 d5 d6 d7 : Int) (q : Addr) (H' : Hp), digits c [z0, z1, z2, z3, z4, z5, z6, z7] = [d0, d1, d2, d3, d4, d5, d6, d7] → 0 ≤ d0 → d0 < z0 → 0 ≤ d1 → d1 < z1 → 0 ≤ d2 → d2 < z2 → 0 ≤ d3 → d3 < z3 → 0 ≤ d4 → d4 < z4 → 0 ≤ d5 → d5 < z5 → 0 ≤ d6 → d6 < z6 → 0 ≤ d7 → d7 < z7 → Same H H' → Free H q → H' q = some (.lst [.int d0, .int d1, .int d2, .int d3, .int d4, .int d5, .int d6, .int d7]) → Q (.ref q) H') : sp_l_digits G [.int c, .ref a] H Q E := by
  refine ⟨c, a, [z0, z1, z2, z3, z4, z5, z6, z7], rfl, hs, ?_, by show 8 ≤ 1000; decide, fun q H1 s hq e => ?_⟩
  · intro z hz
    simp only [List.mem_cons, List.not_mem_nil, or_false] at hz
    rcases hz with rfl | rfl | rfl | rfl | rfl | rfl | rfl | rfl
    · exact hz0
    · exact hz1
    · exact hz2
    · exact hz3
    · exact hz4
    · exact hz5
    · exact hz6
    · exact hz7
  · have hl := digits_len c [z0, z1, z2, z3, z4, z5, z6, z7]
    obtain ⟨y0, e0, a0, b0⟩ := digits_get c [z0, z1, z2, z3, z4, z5, z6, z7] 0 z0 rfl hz0.1
    obtain ⟨y1, e1, a1, b1⟩ := digits_get c [z0, z1, z2, z3, z4, z5, z6, z7] 1 z1 rfl hz1.1
    obtain ⟨y2, e2, a2, b2⟩ := digits_get c [z0, z1, z2, z3, z4, z5, z6, z7] 2 z2 rfl hz2.1
    obtain ⟨y3, e3, a3, b3⟩ := digits_get c [z0, z1, z2, z3, z4, z5, z6, z7] 3 z3 rfl hz3.1
    obtain ⟨y4, e4, a4, b4⟩ := digits_get c [z0, z1, z2, z3, z4, z5, z6, z7] 4 z4 rfl hz4.1
    obtain ⟨y5, e5, a5, b5⟩ := digits_get c [z0, z1, z2, z3, z4, z5, z6, z7] 5 z5 rfl hz5.1
    obtain ⟨y6, e6, a6, b6⟩ := digits_get c [z0, z1, z2, z3, z4, z5, z6, z7] 6 z6 rfl hz6.1
    obtain ⟨y7, e7, a7, b7⟩ := digits_get c [z0, z1, z2, z3, z4, z5, z6, z7] 7 z7 rfl hz7.1
    have ed : digits c [z0, z1, z2, z3, z4, z5, z6, z7] = [y0, y1, y2, y3, y4, y5, y6, y7] := by
      generalize digits c [z0, z1, z2, z3, z4, z5, z6, z7] = l at *
      match l, hl with
      | [x0, x1, x2, x3, x4, x5, x6, x7], _ =>
        obtain rfl : x0 = y0 := Option.some.inj e0
        obtain rfl : x1 = y1 := Option.some.inj e1
        obtain rfl : x2 = y2 := Option.some.inj e2
        obtain rfl : x3 = y3 := Option.some.inj e3
        obtain rfl : x4 = y4 := Option.some.inj e4
        obtain rfl : x5 = y5 := Option.some.inj e5
        obtain rfl : x6 = y6 := Option.some.inj e6
        obtain rfl : x7 = y7 := Option.some.inj e7
        rfl
    rw [ed] at e
    exact h y0 y1 y2 y3 y4 y5 y6 y7 q H1 ed a0 b0 a1 b1 a2 b2 a3 b3 a4 b4 a5 b5 a6 b6 a7 b7 s hq e
local macro_rules | `(tactic| walk_at "st") => `(tactic| first
  | with_reducible refine c_seed ?_
  | ((with_reducible refine c_cell (ns := ?ns) ?hs ?h0 ?_); (case hs => walk_at "sq"); (case h0 => first | decide | omega))
  | with_reducible refine c_whole ?_)
/-! ### number: something below 10 ** 60 -/
def sp_l_number (G : Gx) : Sp := fun vs H Q _ => ∃ (c : Int), vs = [.int c] ∧ ∀ (n : Int) H', Same H H' → n.natAbs < 10 ^ 60 → Q (.int n) H'
theorem len_l_number {G : Gx} : ∀ vs H Q E, sp_l_number G vs H Q E → vs.length = 1 := by rintro vs H Q E ⟨m, rfl, _⟩; rfl
/-! _law_number: slots _law_cell_here, _law_low, _law_high, _law_size, _law_sign, _law_number_here -/
def t_l_number (G : Gx) : TS :=
  (tSeq (tAsg (tCall (sp_l_digits G) [] E0 (tCons (tVar 0) (tCons (tLst (tCons (tOp rPowI (tC (.int 10)) (tC (.int 9))) (tCons (tOp rPowI (tC (.int 10)) (tC (.int 50))) (tCons (tC (.int 5)) (tCons (tC (.int 2)) tNil))))) tNil))) (gUnl G.K 4 (gCons (gName 1) (gCons (gName 2) (gCons (gName 3) (gCons (gName 4) gNil))))))
  (tSeq (tAsg (tOp (rIxL G.K) (tLst (tCons (tOp rModI (tVar 1) (tC (.int 10))) (tCons (tOp rModI (tVar 1) (tC (.int 1000))) (tCons (tVar 1) (tCons (tVar 2) (tCons (tOp rSubI (tOp rSubI (tOp rPowI (tC (.int 10)) (tC (.int 60))) (tC (.int 1))) (tOp rModI (tVar 1) (tC (.int 4)))) tNil)))))) (tVar 3)) (gName 5))
  (tSeq (tIfS (tTest (tOp rEq (tVar 4) (tC (.int 1)))) (tRet (tOp rSubI (tC (.int 0)) (tVar 5))) tNext)
  (tRet (tVar 5)))))
theorem four {l : List Int} (h : l.length = 4) : ∃ a b c d, l = [a, b, c, d] := by
  match l, h with
  | [a, b, c, d], _ => exact ⟨a, b, c, d, rfl⟩
theorem pure_l_number {G : Gx} {vs : List V} {H : Hp} {Q : VK} {E : XK} (h : sp_l_number G vs H Q E) : Body (t_l_number G) ["_law_cell_here", "_law_low", "_law_high", "_law_size", "_law_sign", "_law_number_here"] vs H Q := by
  obtain ⟨c, rfl, k⟩ := h
  show t_l_number G _ [some (.int c), none, none, none, none, none] H
  unfold t_l_number
  walk_at "go"
  refine ⟨by walk_at "sz", fun p hp => ?_⟩
  walk_at "go"
  refine ⟨c, p, [1000000000, 100000000000000000000000000000000000000000000000000, 5, 2], rfl, SqL.of upd_same, by decide, by decide, fun q H1 s1 hq e1 => ?_⟩
  have hl := digits_len c [1000000000, 100000000000000000000000000000000000000000000000000, 5, 2]
  have g0 := digits_get c [1000000000, 100000000000000000000000000000000000000000000000000, 5, 2] 0 _ rfl (by decide)
  have g1 := digits_get c [1000000000, 100000000000000000000000000000000000000000000000000, 5, 2] 1 _ rfl (by decide)
  have g2 := digits_get c [1000000000, 100000000000000000000000000000000000000000000000000, 5, 2] 2 _ rfl (by decide)
  generalize digits c [1000000000, 100000000000000000000000000000000000000000000000000, 5, 2] = ds at *
  obtain ⟨x0, x1, x2, x3, rfl⟩ := four hl
  obtain ⟨y0, e0, a0, b0⟩ := g0
  obtain ⟨y1, e1', a1, b1⟩ := g1
  obtain ⟨y2, e2, a2, b2⟩ := g2
  obtain rfl : x0 = y0 := Option.some.inj e0
  obtain rfl : x1 = y1 := Option.some.inj e1'
  obtain rfl : x2 = y2 := Option.some.inj e2
  refine g_unl (SqL.of e1) rfl ?_
  dsimp only [List.map]
  walk_at "go"
  refine ⟨by walk_at "sz", fun r hr => ?_⟩
  walk_at "go"
  have s2 : Same H (upd H1 r (.lst [.int (x0 % 10), .int (x0 % 1000), .int x0, .int x1, .int (1000000000000000000000000000000000000000000000000000000000000 - 1 - x0 % 4)])) :=
    same_new (Same.trans (same_new (Same.refl H) hp) s1) hr
  have fin : ∀ n : Int, n.natAbs < 10 ^ 60 → atI [V.int (x0 % 10), .int (x0 % 1000), .int x0, .int x1, .int (1000000000000000000000000000000000000000000000000000000000000 - 1 - x0 % 4)] x2 = some (.int n) → ∃ n, n.natAbs < 10 ^ 60 ∧ atI [V.int (x0 % 10), .int (x0 % 1000), .int x0, .int x1, .int (1000000000000000000000000000000000000000000000000000000000000 - 1 - x0 % 4)] x2 = some (.int n) := fun n h1 h2 => ⟨n, h1, h2⟩
  obtain ⟨n, hn, hat⟩ : ∃ n : Int, n.natAbs < 10 ^ 60 ∧ atI [V.int (x0 % 10), .int (x0 % 1000), .int x0, .int x1, .int (1000000000000000000000000000000000000000000000000000000000000 - 1 - x0 % 4)] x2 = some (.int n) := by
    rcases (show x2 = 0 ∨ x2 = 1 ∨ x2 = 2 ∨ x2 = 3 ∨ x2 = 4 by omega) with rfl | rfl | rfl | rfl | rfl
    · exact ⟨_, by omega, rfl⟩
    · exact ⟨_, by omega, rfl⟩
    · exact ⟨_, by omega, rfl⟩
    · exact ⟨_, by omega, rfl⟩
    · exact ⟨_, by omega, rfl⟩
  refine r_ixL (SqL.of upd_same) hat ?_
  walk_at "go"
  refine iteI (fun h => ?_) (fun h => ?_)
  · walk_at "go"
    exact k _ _ s2 (by rw [Int.zero_sub, Int.natAbs_neg]; exact hn)
  · walk_at "go"
    exact k _ _ s2 hn
/-! ### is_amount -/
def sp_l_is_amount (G : Gx) : Sp := fun vs H Q _ => ∃ (p : Addr) (a b : Int), vs = [.ref p] ∧ H p = some (.tup [.int a, .int b]) ∧ 1 ≤ b ∧ Nat.gcd a.natAbs b.natAbs = 1 ∧ Q (.bl true) H
theorem len_l_is_amount {G : Gx} : ∀ vs H Q E, sp_l_is_amount G vs H Q E → vs.length = 1 := by rintro vs H Q E ⟨m, a, b, rfl, _⟩; rfl
/-! _law_is_amount: slots _law_found -/
def t_l_is_amount (G : Gx) : TS :=
  (tSeq (tIfS (tOr (tNot (tB (tCB (rIsi G.K) (tCons (tVar 0) (tCons (tC (.ty "tuple")) tNil))))) (tTest (tOp rNe (tCB (rLenSeq G.K) (tCons (tVar 0) tNil)) (tC (.int 2))))) (tRet (tC (.bl false))) tNext)
  (tSeq (tIfS (tOr (tNot (tB (tCall (sp_l_whole G) [] E0 (tCons (tOp (rIxT G.K) (tVar 0) (tC (.int 0))) tNil)))) (tOr (tNot (tB (tCall (sp_l_whole G) [] E0 (tCons (tOp (rIxT G.K) (tVar 0) (tC (.int 1))) tNil)))) (tTest (tOp rLtI (tOp (rIxT G.K) (tVar 0) (tC (.int 1))) (tC (.int 1)))))) (tRet (tC (.bl false))) tNext)
  (tRet (tOp rEq (tCall (sp_l_gcd G) [] E0 (tCons (tCB rAbs (tCons (tOp (rIxT G.K) (tVar 0) (tC (.int 0))) tNil)) (tCons (tOp (rIxT G.K) (tVar 0) (tC (.int 1))) tNil))) (tC (.int 1))))))
theorem pure_l_is_amount {G : Gx} {vs : List V} {H : Hp} {Q : VK} {E : XK} (h : sp_l_is_amount G vs H Q E) : Body (t_l_is_amount G) ["_law_found"] vs H Q := by
  obtain ⟨p, a, b, rfl, hp, hb, hg, k⟩ := h
  show t_l_is_amount G _ [some (.ref p)] H
  unfold t_l_is_amount
  walk_at "go"
  refine iteNS rfl ?_
  walk_at "go"
  refine iteD (fun h => absurd h (by omega)) (fun h => ?_)
  walk_at "go"
  rw [abs_if]
  refine ⟨a.natAbs, b.natAbs, by rw [Int.natAbs_of_nonneg (by omega : 0 ≤ b)], ?_⟩
  walk_at "go"
  rw [hg]
  exact k
theorem c_isamt {G : Gx} {p : Addr} {a b : Int} {H : Hp} {Q : VK} {E : XK} (hp : H p = some (.tup [.int a, .int b])) (h1 : 1 ≤ b) (h2 : Nat.gcd a.natAbs b.natAbs = 1) (h : Q (.bl true) H) : sp_l_is_amount G [.ref p] H Q E := ⟨p, a, b, rfl, hp, h1, h2, h⟩

theorem mulX60 {i j : Int} (h1 : i.natAbs < 10 ^ 60) (h2 : j.natAbs < 10 ^ 60) : CMulX i j :=
  mulx_ok (a := 200) (b := 200) (Nat.lt_of_lt_of_le h1 (by decide)) (Nat.lt_of_lt_of_le h2 (by decide)) (by decide)
theorem log60 {i : Int} (h1 : i.natAbs < 10 ^ 60) : i.natAbs.log2 < 9000 := Nat.lt_of_le_of_lt (log2_mono (Nat.le_of_lt h1)) (by decide +kernel)
def spLaw (G : Gx) : Sp := fun vs H Q _ => ∃ (a : Addr) (ns : List Int), vs = [.ref a] ∧ SqL G.K H a (ns.map V.int) ∧ ns.length ≤ 63 ∧ ∀ H', Q (.bl true) H'
theorem len_p_law {G : Gx} : ∀ vs H Q E, spLaw G vs H Q E → vs.length = 1 := by rintro vs H Q E ⟨m, a, rfl, _⟩; rfl
/-! ### lowest -/
def sp_l_lowest (G : Gx) : Sp := sp_p_amount G
theorem len_l_lowest {G : Gx} : ∀ vs H Q E, sp_l_lowest G vs H Q E → vs.length = 2 := len_p_amount
/-! _law_lowest: slots _law_num, _law_den, _law_by -/
def t_l_lowest (G : Gx) : TS :=
  (tSeq (tIfS (tTest (tOp rLtI (tVar 1) (tC (.int 0)))) (tPar 0 1 (tCons (tOp rSubI (tC (.int 0)) (tVar 0)) (tCons (tOp rSubI (tC (.int 0)) (tVar 1)) tNil))) tNext)
  (tSeq (tAsg (tCall (sp_l_gcd G) [] E0 (tCons (tCB rAbs (tCons (tVar 0) tNil)) (tCons (tVar 1) tNil))) (gName 2))
  (tRet (tTup (tCons (tOp rDivW (tVar 0) (tVar 2)) (tCons (tOp rDivW (tVar 1) (tVar 2)) tNil))))))
theorem pure_l_lowest {G : Gx} {vs : List V} {H : Hp} {Q : VK} {E : XK} (h : sp_l_lowest G vs H Q E) : Body (t_l_lowest G) ["_law_num", "_law_den", "_law_by"] vs H Q := by
  obtain ⟨num, den, rfl, h0, hs, k⟩ := h
  show t_l_lowest G _ [some (.int num), some (.int den), none] H
  unfold t_l_lowest
  walk_at "go"
  unfold amt at k
  refine iteD (fun h => ?_) (fun h => ?_)
  · rw [if_pos h] at k
    walk_at "go"
    rw [abs_if]
    refine ⟨num.natAbs, den.natAbs, by rw [Int.zero_sub, Int.zero_sub, Int.natAbs_neg, Int.ofNat_natAbs_of_nonpos (by omega : den ≤ 0)], ?_⟩
    rw [Int.zero_sub, Int.zero_sub]
    walk_at "go"
    refine r_I (gcd_divW (by omega) hs) ?_
    walk_at "go"
    refine r_I (gcd_divW (by omega) hs) ?_
    walk_at "go"
    exact ⟨by walk_at "sz", fun p hp => k p _ (same_new (Same.refl H) hp) hp upd_same⟩
  · rw [if_neg h] at k
    walk_at "go"
    rw [abs_if]
    refine ⟨num.natAbs, den.natAbs, by rw [Int.natAbs_of_nonneg (by omega : 0 ≤ den)], ?_⟩
    walk_at "go"
    refine r_I (gcd_divW (by omega) hs) ?_
    walk_at "go"
    refine r_I (gcd_divW (by omega) hs) ?_
    walk_at "go"
    exact ⟨by walk_at "sz", fun p hp => k p _ (same_new (Same.refl H) hp) hp upd_same⟩
/-! ### drawn_amount -/
structure Low (x y : Int) : Prop where
  one : 1 ≤ y
  gcd : Nat.gcd x.natAbs y.natAbs = 1
theorem amt_low {num den : Int} (h : den ≠ 0) : Low (amt num den).1 (amt num den).2 := ⟨(amt_spec h).1, (amt_spec h).2.1⟩
def sp_l_drawn_amount (G : Gx) : Sp := fun vs H Q _ => ∃ (c d : Int), vs = [.int c, .int d] ∧ ∀ (x y : Int) p H', Low x y → x.natAbs < 10 ^ 60 → y.natAbs < 10 ^ 60 → Same H H' → Free H p → H' p = some (.tup [.int x, .int y]) → Q (.ref p) H'
theorem len_l_drawn_amount {G : Gx} : ∀ vs H Q E, sp_l_drawn_amount G vs H Q E → vs.length = 2 := by rintro vs H Q E ⟨c, d, rfl, _⟩; rfl
/-! _law_drawn_amount: slots _law_one, _law_two, _law_den -/
def t_l_drawn_amount (G : Gx) : TS :=
  (tSeq (tAsg (tCall (sp_l_number G) [] E0 (tCons (tVar 1) tNil)) (gName 2))
  (tCut (tIfS (tTest (tOp rEq (tVar 2) (tC (.int 0)))) (tAsg (tC (.int 1)) (gName 2)) tNext)
  (tRet (tCall (sp_l_lowest G) [] E0 (tCons (tCall (sp_l_number G) [] E0 (tCons (tVar 0) tNil)) (tCons (tVar 2) tNil))))))
theorem pure_l_drawn_amount {G : Gx} {vs : List V} {H : Hp} {Q : VK} {E : XK} (h : sp_l_drawn_amount G vs H Q E) : Body (t_l_drawn_amount G) ["_law_one", "_law_two", "_law_den"] vs H Q := by
  obtain ⟨c, d, rfl, k⟩ := h
  show t_l_drawn_amount G _ [some (.int c), some (.int d), none] H
  unfold t_l_drawn_amount
  walk_at "go"
  refine ⟨_, rfl, fun den H1 s1 hd => ?_⟩
  refine r_cut (fun σ H' => ∃ den : Int, σ = [some (.int c), some (.int d), some (.int den)] ∧ den ≠ 0 ∧ den.natAbs < 10 ^ 60 ∧ Same H H') ?_ ?_
  · walk_at "go"
    refine iteI (fun h => ?_) (fun h => ?_)
    · walk_at "go"
      exact ⟨1, rfl, by decide, by decide, s1⟩
    · walk_at "go"
      exact ⟨den, rfl, h, hd, s1⟩
  clear hd s1 den H1
  rintro σ H1 ⟨den, rfl, hd0, hd, s1⟩
  walk_at "go"
  refine ⟨_, rfl, fun num H2 s2 hn => ?_⟩
  walk_at "go"
  obtain ⟨l1, l2⟩ := amt_le num den
  refine ⟨num, den, rfl, hd0, log60 hd, fun p H3 s3 hp e => ?_⟩
  have s := s1.trans s2
  exact k _ _ p H3 (amt_low hd0) (Nat.lt_of_le_of_lt l1 hn) (Nat.lt_of_le_of_lt l2 hd) (s.trans s3) (s.free hp) e
/-! ### plus, minus, times -/
theorem mulX_n {i j : Int} {n : Nat} (h1 : i.natAbs < 2 ^ n) (h2 : j.natAbs < 2 ^ n) (hn : n ≤ 4000) : CMulX i j := mulx_ok h1 h2 (by omega)
theorem log_mul {i j : Int} {n : Nat} (h1 : i.natAbs < 2 ^ n) (h2 : j.natAbs < 2 ^ n) (hn : n ≤ 4000) : (i * j).natAbs.log2 < 9000 := by
  have h := wide_lt h1 h2
  by_cases z : (i * j).natAbs = 0
  · rw [z]
    decide
  · have := (Nat.log2_lt z).mpr h
    omega
/-- an amount that is read: b is not nought -/
structure AmtAt (K : PySem.W.Frag) (H : Hp) (n : Nat) (p : Addr) (a b : Int) : Prop where
  at_ : SqT K H p [.int a, .int b]
  ne : b ≠ 0
  la : a.natAbs < 2 ^ n
  lb : b.natAbs < 2 ^ n
def sp_2 (G : Gx) (f : Int → Int → Int → Int → Int × Int) : Sp := fun vs H Q _ => ∃ (p q : Addr) (a b c d : Int) (n : Nat), vs = [.ref p, .ref q] ∧ n ≤ 4000 ∧ AmtAt G.K H n p a b ∧ AmtAt G.K H n q c d ∧
  ∀ r H', Same H H' → Free H r → H' r = some (.tup [.int (f a b c d).1, .int (f a b c d).2]) → Q (.ref r) H'
def amtPlus (a b c d : Int) : Int × Int := amt (a * d + c * b) (b * d)
def amtMinus (a b c d : Int) : Int × Int := amt (a * d - c * b) (b * d)
def amtTimes (a b m : Int) : Int × Int := amt (a * m) b
def sp_p_plus (G : Gx) : Sp := sp_2 G amtPlus
def sp_p_minus (G : Gx) : Sp := sp_2 G amtMinus
theorem len_p_plus {G : Gx} : ∀ vs H Q E, sp_p_plus G vs H Q E → vs.length = 2 := by rintro vs H Q E ⟨p, q, a, b, c, d, n, rfl, _⟩; rfl
theorem len_p_minus {G : Gx} : ∀ vs H Q E, sp_p_minus G vs H Q E → vs.length = 2 := by rintro vs H Q E ⟨p, q, a, b, c, d, n, rfl, _⟩; rfl
def sp_p_times (G : Gx) : Sp := fun vs H Q _ => ∃ (p : Addr) (a b m : Int) (n : Nat), vs = [.ref p, .int m] ∧ n ≤ 4000 ∧ AmtAt G.K H n p a b ∧ m.natAbs < 2 ^ n ∧
  ∀ r H', Same H H' → Free H r → H' r = some (.tup [.int (amtTimes a b m).1, .int (amtTimes a b m).2]) → Q (.ref r) H'
theorem len_p_times {G : Gx} : ∀ vs H Q E, sp_p_times G vs H Q E → vs.length = 2 := by rintro vs H Q E ⟨p, a, b, m, n, rfl, _⟩; rfl
/-! plus: slots one, other -/
def t_p_plus (G : Gx) : TS :=
  (tRet (tCall (sp_p_amount G) [] E0 (tCons (tOp rAddI (tOp rMulX (tOp (rIxT G.K) (tVar 0) (tC (.int 0))) (tOp (rIxT G.K) (tVar 1) (tC (.int 1)))) (tOp rMulX (tOp (rIxT G.K) (tVar 1) (tC (.int 0))) (tOp (rIxT G.K) (tVar 0) (tC (.int 1))))) (tCons (tOp rMulX (tOp (rIxT G.K) (tVar 0) (tC (.int 1))) (tOp (rIxT G.K) (tVar 1) (tC (.int 1)))) tNil))))
/-! minus: slots one, other -/
def t_p_minus (G : Gx) : TS :=
  (tRet (tCall (sp_p_amount G) [] E0 (tCons (tOp rSubI (tOp rMulX (tOp (rIxT G.K) (tVar 0) (tC (.int 0))) (tOp (rIxT G.K) (tVar 1) (tC (.int 1)))) (tOp rMulX (tOp (rIxT G.K) (tVar 1) (tC (.int 0))) (tOp (rIxT G.K) (tVar 0) (tC (.int 1))))) (tCons (tOp rMulX (tOp (rIxT G.K) (tVar 0) (tC (.int 1))) (tOp (rIxT G.K) (tVar 1) (tC (.int 1)))) tNil))))
/-! times: slots one, many -/
def t_p_times (G : Gx) : TS :=
  (tRet (tCall (sp_p_amount G) [] E0 (tCons (tOp rMulX (tOp (rIxT G.K) (tVar 0) (tC (.int 0))) (tVar 1)) (tCons (tOp (rIxT G.K) (tVar 0) (tC (.int 1))) tNil))))
theorem pure_p_plus {G : Gx} {vs : List V} {H : Hp} {Q : VK} {E : XK} (h : sp_p_plus G vs H Q E) : Body (t_p_plus G) ["one", "other"] vs H Q := by
  obtain ⟨p, q, a, b, c, d, n, rfl, hn, ⟨hp, b0, la, lb⟩, ⟨hq, d0, lc, ld⟩, k⟩ := h
  show t_p_plus G _ [some (.ref p), some (.ref q)] H
  unfold t_p_plus
  walk_at "go"
  refine r_I (mulX_n la ld hn) ?_
  walk_at "go"
  refine r_I (mulX_n lc lb hn) ?_
  walk_at "go"
  refine r_I (mulX_n lb ld hn) ?_
  walk_at "go"
  exact ⟨_, _, rfl, Int.mul_ne_zero b0 d0, log_mul lb ld hn, fun r H' s hr e => k r H' s hr e⟩
theorem pure_p_minus {G : Gx} {vs : List V} {H : Hp} {Q : VK} {E : XK} (h : sp_p_minus G vs H Q E) : Body (t_p_minus G) ["one", "other"] vs H Q := by
  obtain ⟨p, q, a, b, c, d, n, rfl, hn, ⟨hp, b0, la, lb⟩, ⟨hq, d0, lc, ld⟩, k⟩ := h
  show t_p_minus G _ [some (.ref p), some (.ref q)] H
  unfold t_p_minus
  walk_at "go"
  refine r_I (mulX_n la ld hn) ?_
  walk_at "go"
  refine r_I (mulX_n lc lb hn) ?_
  walk_at "go"
  refine r_I (mulX_n lb ld hn) ?_
  walk_at "go"
  exact ⟨_, _, rfl, Int.mul_ne_zero b0 d0, log_mul lb ld hn, fun r H' s hr e => k r H' s hr e⟩
theorem log_lt {i : Int} {n : Nat} (h1 : i.natAbs < 2 ^ n) (hn : n ≤ 8000) : i.natAbs.log2 < 9000 := by
  by_cases z : i.natAbs = 0
  · rw [z]
    decide
  · have := (Nat.log2_lt z).mpr h1
    omega
theorem pure_p_times {G : Gx} {vs : List V} {H : Hp} {Q : VK} {E : XK} (h : sp_p_times G vs H Q E) : Body (t_p_times G) ["one", "many"] vs H Q := by
  obtain ⟨p, a, b, m, n, rfl, hn, ⟨hp, b0, la, lb⟩, hm, k⟩ := h
  show t_p_times G _ [some (.ref p), some (.int m)] H
  unfold t_p_times
  walk_at "go"
  refine r_I (mulX_n la hm hn) ?_
  walk_at "go"
  exact ⟨_, _, rfl, b0, log_lt lb (by omega), fun r H' s hr e => k r H' s hr e⟩
/-! ### below -/
def sp_p_below (G : Gx) : Sp := fun vs H Q _ => ∃ (p q : Addr) (a b c d : Int) (n : Nat), vs = [.ref p, .ref q] ∧ n ≤ 4000 ∧ AmtAt G.K H n p a b ∧ AmtAt G.K H n q c d ∧ Q (.bl (decide (a * d < c * b))) H
theorem len_p_below {G : Gx} : ∀ vs H Q E, sp_p_below G vs H Q E → vs.length = 2 := by rintro vs H Q E ⟨p, q, a, b, c, d, n, rfl, _⟩; rfl
/-! below: slots one, other -/
def t_p_below (G : Gx) : TS :=
  (tRet (tOp rLtI (tOp rMulX (tOp (rIxT G.K) (tVar 0) (tC (.int 0))) (tOp (rIxT G.K) (tVar 1) (tC (.int 1)))) (tOp rMulX (tOp (rIxT G.K) (tVar 1) (tC (.int 0))) (tOp (rIxT G.K) (tVar 0) (tC (.int 1))))))
theorem pure_p_below {G : Gx} {vs : List V} {H : Hp} {Q : VK} {E : XK} (h : sp_p_below G vs H Q E) : Body (t_p_below G) ["one", "other"] vs H Q := by
  obtain ⟨p, q, a, b, c, d, n, rfl, hn, ⟨hp, b0, la, lb⟩, ⟨hq, d0, lc, ld⟩, k⟩ := h
  show t_p_below G _ [some (.ref p), some (.ref q)] H
  unfold t_p_below
  walk_at "go"
  refine r_I (mulX_n la ld hn) ?_
  walk_at "go"
  refine r_I (mulX_n lc lb hn) ?_
  walk_at "go"
  exact k

/-! ### hours_left -/
def hl (a b s : Int) : Int × Int := if a = 0 then (0, 1) else amt a (b * (6 - s))
def sp_p_hours_left (G : Gx) : Sp := fun vs H Q _ => ∃ (g : Addr) (a b s : Int), vs = [.ref g, .int s] ∧ SqT G.K H g [.int a, .int b] ∧ b ≠ 0 ∧ b.natAbs < 2 ^ 4000 ∧ (a ≠ 0 → s < 6) ∧ -1000000 ≤ s ∧ s ≤ 1000000 ∧
  ∀ r H', Same H H' → Free H r → H' r = some (.tup [.int (hl a b s).1, .int (hl a b s).2]) → Q (.ref r) H'
theorem len_p_hours_left {G : Gx} : ∀ vs H Q E, sp_p_hours_left G vs H Q E → vs.length = 2 := by rintro vs H Q E ⟨g, a, b, s, rfl, _⟩; rfl
/-! hours_left: slots gas, sides -/
def t_p_hours_left (G : Gx) : TS :=
  (tSeq (tIfS (tTest (tOp rEq (tOp (rIxT G.K) (tVar 0) (tC (.int 0))) (tC (.int 0)))) (tRet (tTup (tCons (tC (.int 0)) (tCons (tC (.int 1)) tNil)))) tNext)
  (tRet (tCall (sp_p_amount G) [] E0 (tCons (tOp (rIxT G.K) (tVar 0) (tC (.int 0))) (tCons (tOp rMulI (tOp (rIxT G.K) (tVar 0) (tC (.int 1))) (tOp rSubI (tC (.int 6)) (tVar 1))) tNil)))))
theorem lt_n {i : Int} {n m : Nat} (h : i.natAbs < 2 ^ n) (hn : n ≤ m) : i.natAbs < 2 ^ m := Nat.lt_of_lt_of_le h (Nat.pow_le_pow_right (by decide) hn)
theorem lt_20 {i : Int} (h1 : -1000100 ≤ i) (h2 : i ≤ 1000100) : i.natAbs < 2 ^ 20 := by
  have : (2 : Nat) ^ 20 = 1048576 := by decide
  omega
theorem pure_p_hours_left {G : Gx} {vs : List V} {H : Hp} {Q : VK} {E : XK} (h : sp_p_hours_left G vs H Q E) : Body (t_p_hours_left G) ["gas", "sides"] vs H Q := by
  obtain ⟨g, a, b, s, rfl, hg, b0, hb, hs, s1, s2, k⟩ := h
  show t_p_hours_left G _ [some (.ref g), some (.int s)] H
  unfold t_p_hours_left
  unfold hl at k
  walk_at "go"
  refine iteI (fun h => ?_) (fun h => ?_)
  · rw [if_pos h] at k
    walk_at "go"
    exact ⟨by walk_at "sz", fun p hp => k p _ (by walk_at "sm") hp upd_same⟩
  · rw [if_neg h] at k
    walk_at "go"
    refine ⟨a, b * (6 - s), rfl, Int.mul_ne_zero b0 (by have := hs h; omega), log_mul (n := 4000) hb (lt_n (n := 20) (lt_20 (by omega) (by omega)) (by decide)) (by decide), fun r H' sm hr e => k r H' sm hr e⟩
/-! ### ahead: a pair of hours and a name -/
structure PairAt (K : PySem.W.Frag) (H : Hp) (n : Nat) (t : Addr) (x y m : Int) : Prop where
  ex : ∃ h, SqT K H t [.ref h, .int m] ∧ AmtAt K H n h x y
def aheadB (x y n z w m : Int) : Bool := decide (x * w < z * y) || (decide (x = z ∧ y = w) && decide (n < m))
def sp_p_ahead (G : Gx) : Sp := fun vs H Q _ => ∃ (t1 t2 : Addr) (x y n z w m : Int) (j : Nat), vs = [.ref t1, .ref t2] ∧ j ≤ 4000 ∧ PairAt G.K H j t1 x y n ∧ PairAt G.K H j t2 z w m ∧ Q (.bl (aheadB x y n z w m)) H
theorem len_p_ahead {G : Gx} : ∀ vs H Q E, sp_p_ahead G vs H Q E → vs.length = 2 := by rintro vs H Q E ⟨t1, t2, x, y, n, z, w, m, j, rfl, _⟩; rfl
/-! ahead: slots one, two -/
def t_p_ahead (G : Gx) : TS :=
  (tSeq (tIfS (tB (tCall (sp_p_below G) [] E0 (tCons (tOp (rIxT G.K) (tVar 0) (tC (.int 0))) (tCons (tOp (rIxT G.K) (tVar 1) (tC (.int 0))) tNil)))) (tRet (tC (.bl true))) tNext)
  (tRet (tAndV (tOp (rEqD G.K) (tOp (rIxT G.K) (tVar 0) (tC (.int 0))) (tOp (rIxT G.K) (tVar 1) (tC (.int 0)))) (tOp rLtI (tOp (rIxT G.K) (tVar 0) (tC (.int 1))) (tOp (rIxT G.K) (tVar 1) (tC (.int 1)))))))
theorem eqv2 (x y z w : Int) : PyData.eqv (.tuple [.int x, .int y]) (.tuple [.int z, .int w]) = decide (x = z ∧ y = w) := by
  simp only [PyData.eqv, PyData.eqvAll, Bool.and_true]
  by_cases h1 : x = z <;> by_cases h2 : y = w <;> simp [h1, h2]
theorem pure_p_ahead {G : Gx} {vs : List V} {H : Hp} {Q : VK} {E : XK} (h : sp_p_ahead G vs H Q E) : Body (t_p_ahead G) ["one", "two"] vs H Q := by
  obtain ⟨t1, t2, x, y, n, z, w, m, j, rfl, hj, ⟨h1, e1, A1⟩, ⟨h2, e2, A2⟩, k⟩ := h
  show t_p_ahead G _ [some (.ref t1), some (.ref t2)] H
  unfold t_p_ahead
  unfold aheadB at k
  have B1 := A1.at_
  have B2 := A2.at_
  walk_at "go"
  refine ⟨h1, h2, x, y, z, w, j, rfl, hj, A1, A2, ?_⟩
  walk_at "go"
  refine iteD (fun h => ?_) (fun h => ?_)
  · walk_at "go"
    rw [decide_eq_true h, Bool.true_or] at k
    exact k
  · rw [decide_eq_false h, Bool.false_or] at k
    walk_at "go"
    rw [eqv2]
    refine iteD (fun h => ?_) (fun h => ?_)
    · rw [decide_eq_true h, Bool.true_and] at k
      walk_at "go"
      exact k
    · rw [decide_eq_false h, Bool.false_and] at k
      exact k
theorem decide_int (a b : Int) : decide (V.int a = V.int b) = decide (a = b) := by
  by_cases h : a = b
  · subst h; simp
  · rw [decide_eq_false h, decide_eq_false (fun e => h (by injection e))]
/-! ### first_to_go -/
structure Rw where
  name : Int
  a : Int
  b : Int
  sides : Int
structure RowAt (K : PySem.W.Frag) (H : Hp) (v : V) (r : Rw) : Prop where
  ex : ∃ t g, v = .ref t ∧ SqT K H t [.int r.name, .ref g, .int r.sides] ∧ SqT K H g [.int r.a, .int r.b]
theorem RowAt.up {K : PySem.W.Frag} {H H' : Hp} {v : V} {r : Rw} (s : Same H H') (h : RowAt K H v r) : RowAt K H' v r := by
  obtain ⟨t, g, e, h1, h2⟩ := h.ex
  exact ⟨t, g, e, same_tup s h1, same_tup s h2⟩
structure RwOk (r : Rw) : Prop where
  low : Low r.a r.b
  a0 : 0 ≤ r.a
  la : r.a.natAbs < 2 ^ 3900
  lb : r.b.natAbs < 2 ^ 3900
  s0 : 1 ≤ r.sides
  s1 : r.sides ≤ 100000
abbrev Go := Option (Int × Int × Int)
def goes (r : Rw) : Bool := decide (r.a = 0) || decide (r.sides < 6)
def goPick (x y n : Int) : Go → Go
  | none => some (x, y, n)
  | some (z, w, m) => if aheadB x y n z w m = true then some (x, y, n) else some (z, w, m)
theorem goPick_yes {x y n z w m : Int} (h : aheadB x y n z w m = true) : goPick x y n (some (z, w, m)) = some (x, y, n) := if_pos h
theorem goPick_no {x y n z w m : Int} (h : aheadB x y n z w m = false) : goPick x y n (some (z, w, m)) = some (z, w, m) := if_neg (by rw [h]; exact Bool.false_ne_true)
def goStep (f : Go) (r : Rw) : Go := if goes r = true then goPick (hl r.a r.b r.sides).1 (hl r.a r.b r.sides).2 r.name f else f
def firstGo (rs : List Rw) : Go := rs.foldl goStep none
/-- what stands for such a pair or None; the tuples are tracked -/
def GoAt (K : PySem.W.Frag) (H : Hp) (v : V) : Go → Prop
  | none => v = .non
  | some (x, y, n) => ∃ t h, v = .ref t ∧ H t = some (.tup [.ref h, .int n]) ∧ H h = some (.tup [.int x, .int y]) ∧ Low x y ∧ x.natAbs < 2 ^ 3950 ∧ y.natAbs < 2 ^ 3950
theorem GoAt.up {K : PySem.W.Frag} {H H' : Hp} {v : V} (s : Same H H') : ∀ {f : Go}, GoAt K H v f → GoAt K H' v f
  | none, h => h
  | some (x, y, n), h => by
    obtain ⟨t, a, e, h1, h2, r⟩ := h
    exact ⟨t, a, e, s _ _ h1, s _ _ h2, r⟩
def sp_p_first_to_go (G : Gx) : Sp := fun vs H Q _ => ∃ (l : Addr) (xs : List V) (rs : List Rw), vs = [.ref l] ∧ SqL G.K H l xs ∧ xs.length = rs.length ∧ (∀ (i : Nat) v r, xs[i]? = some v → rs[i]? = some r → RowAt G.K H v r) ∧ (∀ r ∈ rs, RwOk r) ∧
  ∀ v H', Same H H' → GoAt G.K H' v (firstGo rs) → Q v H'
theorem len_p_first_to_go {G : Gx} : ∀ vs H Q E, sp_p_first_to_go G vs H Q E → vs.length = 1 := by rintro vs H Q E ⟨l, xs, rs, rfl, _⟩; rfl
theorem hl_ok {r : Rw} (h : RwOk r) (hg : goes r = true) : Low (hl r.a r.b r.sides).1 (hl r.a r.b r.sides).2 ∧ (hl r.a r.b r.sides).1.natAbs < 2 ^ 3950 ∧ (hl r.a r.b r.sides).2.natAbs < 2 ^ 3950 := by
  unfold hl
  have hb := h.low.one
  by_cases c : r.a = 0
  · rw [if_pos c]
    exact ⟨⟨by decide, by decide⟩, Nat.two_pow_pos _, Nat.one_lt_two_pow (by decide)⟩
  · rw [if_neg c]
    have hs : r.sides < 6 := by
      unfold goes at hg
      rw [decide_eq_false c, Bool.false_or] at hg
      exact of_decide_eq_true hg
    have h0 : r.b * (6 - r.sides) ≠ 0 := Int.mul_ne_zero (by omega) (by omega)
    obtain ⟨l1, l2⟩ := amt_le r.a (r.b * (6 - r.sides))
    have l3 : (r.b * (6 - r.sides)).natAbs < 2 ^ (3900 + 20) := wide_lt h.lb (lt_20 (by have := h.s1; omega) (by have := h.s0; omega))
    exact ⟨amt_low h0, Nat.lt_of_le_of_lt l1 (lt_n h.la (by decide)), Nat.lt_of_le_of_lt l2 (lt_n l3 (by decide))⟩
theorem fold_snoc {α β : Type} {f : β → α → β} {b : β} {l : List α} {i : Nat} {x : α} (h : l[i]? = some x) : (l.take (i + 1)).foldl f b = f ((l.take i).foldl f b) x := by
  have e : l.take (i + 1) = l.take i ++ [x] := by
    rw [List.take_add_one, h]
    rfl
  rw [e, List.foldl_append]
  rfl
/-! first_to_go: slots rows, found, name, gas, sides, going -/
def t_p_first_to_go (G : Gx) : TS :=
  (tSeq (tAsg (tC .non) (gName 1))
  (tSeq (tFor (iList G.K (tVar 0)) (gTup G.K 3 (gCons (gName 2) (gCons (gName 3) (gCons (gName 4) gNil))))
  (tIfS (tOr (tTest (tOp rEq (tOp (rIxT G.K) (tVar 3) (tC (.int 0))) (tC (.int 0)))) (tTest (tOp rLtI (tVar 4) (tC (.int 6))))) (tSeq (tAsg (tTup (tCons (tCall (sp_p_hours_left G) [] E0 (tCons (tVar 3) (tCons (tVar 4) tNil))) (tCons (tVar 2) tNil))) (gName 5))
  (tIfS (tOr (tTest (tOp rIsN (tVar 1) (tC .non))) (tB (tCall (sp_p_ahead G) [] E0 (tCons (tVar 5) (tCons (tVar 1) tNil))))) (tAsg (tVar 5) (gName 1)) tNext)) tNext))
  (tRet (tVar 1))))
theorem pure_p_first_to_go {G : Gx} {vs : List V} {H : Hp} {Q : VK} {E : XK} (h : sp_p_first_to_go G vs H Q E) : Body (t_p_first_to_go G) ["rows", "found", "name", "gas", "sides", "going"] vs H Q := by
  obtain ⟨l, xs, rs, rfl, hS, hlen, hr, ho, k⟩ := h
  show t_p_first_to_go G _ [some (.ref l), none, none, none, none, none] H
  unfold t_p_first_to_go
  walk_at "go"
  refine ⟨l, rfl, ⟨_, hS⟩, ?_⟩
  refine r_it (walk_list (xs := xs)) (fun i σ H' => ∃ f a b c d, σ = [some (.ref l), some f, a, b, c, d] ∧ Same H H' ∧ GoAt G.K H' f ((rs.take i).foldl goStep none)) ⟨.non, _, _, _, _, rfl, Same.refl _, rfl⟩ (fun i σ H' _ ⟨_, _, _, _, _, _, s, _⟩ => by walk_at "sq") ?_ ?_
  · rintro i v σ H1 H2 hi ⟨f, _, _, _, _, rfl, s, g⟩ ⟨rfl, ev⟩
    obtain ⟨r, er⟩ : ∃ r, rs[i]? = some r := ⟨rs[i], List.getElem?_eq_getElem (by omega)⟩
    rw [fold_snoc er]
    obtain ⟨t, g0, rfl, h1, h2⟩ := ((hr i v r ev er).up s).ex
    have ok := ho r (List.mem_of_getElem? er)
    refine g_tup h1 rfl ?_
    generalize (rs.take i).foldl goStep none = F at g
    refine g_cons (g_name (g_cons (g_name (g_cons (g_name (g_nil ?_))))))
    dsimp only [List.set]
    refine r_if ?_
    refine r_or2 (decide (r.a = 0)) (decide (r.sides < 6)) (fun R q => ?_) (fun _ R q => ?_) ?_
    · walk_at "go"
      rw [show decide (V.int r.a = V.int 0) = decide (r.a = 0) from decide_int ..]
      exact q
    · walk_at "go"
      exact q
    refine iteB (fun hg => ?_) (fun hg => ?_)
    · have hg : goes r = true := hg
      obtain ⟨lo, lx, ly⟩ := hl_ok ok hg
      have hlow := ok.low.one
      walk_at "go"
      refine ⟨g0, r.a, r.b, r.sides, rfl, by walk_at "sq", by omega, lt_n ok.lb (by decide), fun ha => ?_, by have := ok.s0; omega, by have := ok.s1; omega, fun hh H3 s3 hf e3 => ?_⟩
      · unfold goes at hg
        rw [decide_eq_false ha, Bool.false_or] at hg
        exact of_decide_eq_true hg
      walk_at "go"
      refine ⟨by walk_at "sz", fun p hp => ?_⟩
      have new : GoAt G.K (upd H3 p (.tup [.ref hh, .int r.name])) (.ref p) (some ((hl r.a r.b r.sides).1, (hl r.a r.b r.sides).2, r.name)) := ⟨p, hh, rfl, upd_same, by walk_at "hp", lo, lx, ly⟩
      have s4 : Same H (upd H3 p (.tup [.ref hh, .int r.name])) := by walk_at "sm"
      have hF : goStep F r = goPick (hl r.a r.b r.sides).1 (hl r.a r.b r.sides).2 r.name F := if_pos hg
      rw [hF]
      have g4 : GoAt G.K (upd H3 p (.tup [.ref hh, .int r.name])) f F := g.up (by walk_at "sm")
      match F, g4 with
      | none, g4 =>
        cases g4
        walk_at "go"
        exact ⟨_, _, _, _, _, rfl, s4, new⟩
      | some (x, y, n), g4 =>
        obtain ⟨t2, h2', rfl, e1, e2, lo2, lx2, ly2⟩ := id g4
        have y0 := lo.one
        have y02 := lo2.one
        walk_at "go"
        refine ⟨p, t2, _, _, _, x, y, n, 3950, rfl, by decide, ⟨hh, SqT.of upd_same, by walk_at "sq", by omega, lx, ly⟩, ⟨h2', SqT.of e1, SqT.of e2, by omega, lx2, ly2⟩, ?_⟩
        walk_at "go"
        refine iteB (fun c => ?_) (fun c => ?_)
        · walk_at "go"
          refine ⟨_, _, _, _, _, rfl, s4, ?_⟩
          rw [goPick_yes c]
          exact new
        · walk_at "go"
          refine ⟨_, _, _, _, _, rfl, s4, ?_⟩
          rw [goPick_no c]
          exact g4
    · have hg : goes r = false := hg
      walk_at "go"
      refine ⟨_, _, _, _, _, rfl, s, ?_⟩
      unfold goStep
      rw [if_neg (by rw [hg]; exact Bool.false_ne_true)]
      exact g
  · rintro σ H1 ⟨f, _, _, _, _, rfl, s, g⟩
    walk_at "go"
    rw [hlen, List.take_length] at g
    exact k f H1 s g

/-! ### the law's own row -/
def sp_l_row (G : Gx) : Sp := fun vs H Q _ => ∃ (c n w : Int), vs = [.int c, .int n, .int w] ∧ ∀ (r : Rw) (t g : Addr) H', r.name = n → RwOk r → Same H H' → H' t = some (.tup [.int r.name, .ref g, .int r.sides]) → H' g = some (.tup [.int r.a, .int r.b]) → Q (.ref t) H'
theorem len_l_row {G : Gx} : ∀ vs H Q E, sp_l_row G vs H Q E → vs.length = 3 := by rintro vs H Q E ⟨c, n, w, rfl, _⟩; rfl
/-! _law_row: slots _law_cell_here, _law_name, _law_wide, _law_num, _law_den, _law_sides, _law_kind -/
def t_l_row (G : Gx) : TS :=
  (tSeq (tAsg (tCall (sp_l_digits G) [] E0 (tCons (tVar 0) (tCons (tLst (tCons (tOp rPowI (tC (.int 10)) (tC (.int 6))) (tCons (tC (.int 60)) (tCons (tC (.int 13)) (tCons (tC (.int 5)) tNil))))) tNil))) (gUnl G.K 4 (gCons (gName 3) (gCons (gName 4) (gCons (gName 5) (gCons (gName 6) gNil))))))
  (tCut (tIfS (tTest (tOp rEq (tVar 6) (tC (.int 0)))) (tAsg (tC (.int 0)) (gName 3)) tNext)
  (tCut (tIfS (tTest (tOp (rIn G.K false) (tVar 6) (tTup (tCons (tC (.int 1)) (tCons (tC (.int 2)) tNil))))) (tPar 3 4 (tCons (tOp rAddI (tC (.int 1)) (tOp rModI (tVar 3) (tC (.int 4)))) (tCons (tOp rModI (tVar 4) (tC (.int 3))) tNil))) tNext)
  (tSeq (tAsg (tOp rAddI (tC (.int 1)) (tVar 5)) (gName 5))
  (tCut (tIfS (tTest (tOp rEq (tVar 2) (tC (.int 0)))) (tSeq (tAsg (tOp rAddI (tVar 5) (tC (.int 5))) (gName 5))
  (tAug 3 (tC (.int 1)) ipAdd)) tNext)
  (tRet (tTup (tCons (tVar 1) (tCons (tCall (sp_l_lowest G) [] E0 (tCons (tVar 3) (tCons (tOp rAddI (tC (.int 1)) (tVar 4)) tNil))) (tCons (tVar 5) tNil))))))))))
theorem small_n {i : Int} (h0 : 0 ≤ i) (h1 : i ≤ 2000000) : i.natAbs < 2 ^ 3900 := by
  refine lt_n (n := 21) ?_ (by decide)
  have e : (2 : Nat) ^ 21 = 2097152 := by decide
  omega
theorem pure_l_row {G : Gx} {vs : List V} {H : Hp} {Q : VK} {E : XK} (h : sp_l_row G vs H Q E) : Body (t_l_row G) ["_law_cell_here", "_law_name", "_law_wide", "_law_num", "_law_den", "_law_sides", "_law_kind"] vs H Q := by
  obtain ⟨c, n, w, rfl, k⟩ := h
  show t_l_row G _ [some (.int c), some (.int n), some (.int w), none, none, none, none] H
  unfold t_l_row
  walk_at "go"
  refine ⟨by walk_at "sz", fun p hp => ?_⟩
  walk_at "go"
  refine c_digits4 (by walk_at "sq") (by decide) (by decide) (by decide) (by decide) (fun d0 d1 d2 d3 q H1 ed a0 b0 a1 b1 a2 b2 a3 b3 s1 hq e1 => ?_)
  refine g_unl (SqL.of e1) rfl ?_
  walk_at "go"
  refine r_cut (fun σ H' => ∃ num : Int, σ = [some (.int c), some (.int n), some (.int w), some (.int num), some (.int d1), some (.int d2), some (.int d3)] ∧ 0 ≤ num ∧ num < 1000000 ∧ Same H H') ?_ ?_
  · walk_at "go"
    refine iteI (fun h => ?_) (fun h => ?_)
    · walk_at "go"
      exact ⟨0, rfl, by decide, by decide, by walk_at "sm"⟩
    · walk_at "go"
      exact ⟨d0, rfl, a0, b0, by walk_at "sm"⟩
  clear e1 hq s1
  rintro σ H1 ⟨num, rfl, n0, n1, s1⟩
  refine r_cut (fun σ H' => ∃ num den : Int, σ = [some (.int c), some (.int n), some (.int w), some (.int num), some (.int den), some (.int d2), some (.int d3)] ∧ 0 ≤ num ∧ num < 1000000 ∧ 0 ≤ den ∧ den < 60 ∧ Same H H') ?_ ?_
  · walk_at "go"
    refine ⟨by walk_at "sz", fun p hp => ?_⟩
    walk_at "go"
    refine iteB (fun h => ?_) (fun h => ?_)
    · walk_at "go"
      exact ⟨_, _, rfl, by omega, by omega, by omega, by omega, by walk_at "sm"⟩
    · walk_at "go"
      exact ⟨_, _, rfl, n0, n1, a1, b1, by walk_at "sm"⟩
  clear s1 n0 n1 num H1
  rintro σ H1 ⟨num, den, rfl, n0, n1, e0, e1, s1⟩
  walk_at "go"
  refine r_cut (fun σ H' => ∃ num sides : Int, σ = [some (.int c), some (.int n), some (.int w), some (.int num), some (.int den), some (.int sides), some (.int d3)] ∧ 0 ≤ num ∧ num ≤ 1000000 ∧ 1 ≤ sides ∧ sides ≤ 20 ∧ Same H H') ?_ ?_
  · walk_at "go"
    refine iteI (fun h => ?_) (fun h => ?_)
    · walk_at "go"
      exact ⟨_, _, rfl, by omega, by omega, by omega, by omega, by walk_at "sm"⟩
    · walk_at "go"
      exact ⟨_, _, rfl, by omega, by omega, by omega, by omega, by walk_at "sm"⟩
  clear s1 n0 n1 num H1
  rintro σ H1 ⟨num, sides, rfl, n0, n1, s0, s20, s1⟩
  walk_at "go"
  obtain ⟨l1, l2⟩ := amt_le num (1 + den)
  have hden : 1 + den ≠ 0 := by omega
  refine ⟨_, _, rfl, hden, log_lt (n := 3900) (small_n (by omega) (by omega)) (by decide), fun g H2 s2 hg e2 => ?_⟩
  walk_at "go"
  refine ⟨by walk_at "sz", fun t ht => ?_⟩
  have f1 := (amt_low (num := num) hden)
  have f2 : 0 ≤ (amt num (1 + den)).1 := by
    unfold amt
    rw [if_neg (by omega)]
    exact Int.ediv_nonneg n0 (Int.natCast_nonneg _)
  exact k ⟨n, (amt num (1 + den)).1, (amt num (1 + den)).2, sides⟩ t g _ rfl ⟨f1, f2, Nat.lt_of_le_of_lt l1 (small_n n0 (by omega)), Nat.lt_of_le_of_lt l2 (small_n (by omega) (by omega)), s0, by show sides ≤ 100000; omega⟩ (by walk_at "sm") upd_same (by walk_at "hp")
/-! ### same, is_going -/
def sp_l_same (G : Gx) : Sp := fun vs H Q _ => ∃ (p q : Addr) (x y : Int), vs = [.ref p, .ref q] ∧ H p = some (.tup [.int x, .int y]) ∧ H q = some (.tup [.int x, .int y]) ∧ Low x y ∧ Q (.bl true) H
theorem len_l_same {G : Gx} : ∀ vs H Q E, sp_l_same G vs H Q E → vs.length = 2 := by rintro vs H Q E ⟨p, q, x, y, rfl, _⟩; rfl
/-! _law_same: slots _law_found, _law_due -/
def t_l_same (G : Gx) : TS :=
  (tRet (tAndV (tCall (sp_l_is_amount G) [] E0 (tCons (tVar 0) tNil)) (tOp (rEqD G.K) (tVar 0) (tVar 1))))
theorem pure_l_same {G : Gx} {vs : List V} {H : Hp} {Q : VK} {E : XK} (h : sp_l_same G vs H Q E) : Body (t_l_same G) ["_law_found", "_law_due"] vs H Q := by
  obtain ⟨p, q, x, y, rfl, hp, hq, lo, k⟩ := h
  show t_l_same G _ [some (.ref p), some (.ref q)] H
  unfold t_l_same
  walk_at "go"
  refine c_isamt hp lo.one lo.gcd ?_
  walk_at "go"
  rw [eqv2, decide_eq_true ⟨rfl, rfl⟩]
  exact k
def sp_l_is_going (G : Gx) : Sp := fun vs H Q _ => ∃ (u v : V) (f : Go), vs = [u, v] ∧ GoAt G.K H u f ∧ GoAt G.K H v f ∧ Q (.bl true) H
theorem len_l_is_going {G : Gx} : ∀ vs H Q E, sp_l_is_going G vs H Q E → vs.length = 2 := by rintro vs H Q E ⟨p, q, x, rfl, _⟩; rfl
/-! _law_is_going: slots _law_found, _law_due -/
def t_l_is_going (G : Gx) : TS :=
  (tSeq (tIfS (tTest (tOp rIsN (tVar 1) (tC .non))) (tRet (tOp rIsN (tVar 0) (tC .non))) tNext)
  (tSeq (tIfS (tOr (tNot (tB (tCB (rIsi G.K) (tCons (tVar 0) (tCons (tC (.ty "tuple")) tNil))))) (tTest (tOp rNe (tCB (rLenSeq G.K) (tCons (tVar 0) tNil)) (tC (.int 2))))) (tRet (tC (.bl false))) tNext)
  (tRet (tAndV (tCall (sp_l_same G) [] E0 (tCons (tOp (rIxT G.K) (tVar 0) (tC (.int 0))) (tCons (tOp (rIxT G.K) (tVar 1) (tC (.int 0))) tNil))) (tAndV (tCall (sp_l_whole G) [] E0 (tCons (tOp (rIxT G.K) (tVar 0) (tC (.int 1))) tNil)) (tOp rEq (tOp (rIxT G.K) (tVar 0) (tC (.int 1))) (tOp (rIxT G.K) (tVar 1) (tC (.int 1)))))))))
theorem pure_l_is_going {G : Gx} {vs : List V} {H : Hp} {Q : VK} {E : XK} (h : sp_l_is_going G vs H Q E) : Body (t_l_is_going G) ["_law_found", "_law_due"] vs H Q := by
  obtain ⟨u, v, f, rfl, hu, hv, k⟩ := h
  show t_l_is_going G _ [some u, some v] H
  unfold t_l_is_going
  match f, hu, hv with
  | none, hu, hv =>
    cases hu
    cases hv
    walk_at "go"
    rw [decide_eq_true rfl]
    exact k
  | some (x, y, n), hu, hv =>
    obtain ⟨t, h, rfl, e1, e2, lo, _⟩ := hu
    obtain ⟨t', h', rfl, e1', e2', _⟩ := hv
    walk_at "go"
    refine iteNS rfl ?_
    walk_at "go"
    refine ⟨h, h', x, y, rfl, e2, e2', lo, ?_⟩
    walk_at "go"
    rw [decide_eq_true rfl]
    exact k
/-! ### under -/
def sp_l_under (G : Gx) : Sp := sp_p_below G
theorem len_l_under {G : Gx} : ∀ vs H Q E, sp_l_under G vs H Q E → vs.length = 2 := len_p_below
/-! _law_under: slots _law_one, _law_two -/
def t_l_under (G : Gx) : TS :=
  (tRet (tOp rLtI (tOp rMulX (tOp (rIxT G.K) (tVar 0) (tC (.int 0))) (tOp (rIxT G.K) (tVar 1) (tC (.int 1)))) (tOp rMulX (tOp (rIxT G.K) (tVar 1) (tC (.int 0))) (tOp (rIxT G.K) (tVar 0) (tC (.int 1))))))
theorem pure_l_under {G : Gx} {vs : List V} {H : Hp} {Q : VK} {E : XK} (h : sp_l_under G vs H Q E) : Body (t_l_under G) ["_law_one", "_law_two"] vs H Q := by
  obtain ⟨p, q, a, b, c, d, n, rfl, hn, ⟨hp, b0, la, lb⟩, ⟨hq, d0, lc, ld⟩, k⟩ := h
  show t_l_under G _ [some (.ref p), some (.ref q)] H
  unfold t_l_under
  walk_at "go"
  refine r_I (mulX_n la ld hn) ?_
  walk_at "go"
  refine r_I (mulX_n lc lb hn) ?_
  walk_at "go"
  exact k
/-! ### the law's first -/
def sp_l_first (G : Gx) : Sp := fun vs H Q _ => ∃ (l : Addr) (xs : List V) (rs : List Rw), vs = [.ref l] ∧ SqL G.K H l xs ∧ xs.length = rs.length ∧ (∀ (i : Nat) v r, xs[i]? = some v → rs[i]? = some r → ∃ t g, v = .ref t ∧ H t = some (.tup [.int r.name, .ref g, .int r.sides]) ∧ H g = some (.tup [.int r.a, .int r.b])) ∧ (∀ r ∈ rs, RwOk r) ∧
  ∀ v H', Same H H' → GoAt G.K H' v (firstGo rs) → Q v H'
theorem len_l_first {G : Gx} : ∀ vs H Q E, sp_l_first G vs H Q E → vs.length = 1 := by rintro vs H Q E ⟨l, xs, rs, rfl, _⟩; rfl
/-! _law_first: slots _law_rows, _law_found, _law_name, _law_gas, _law_sides, _law_hours -/
def t_l_first (G : Gx) : TS :=
  (tSeq (tAsg (tC .non) (gName 1))
  (tSeq (tFor (iList G.K (tVar 0)) (gTup G.K 3 (gCons (gName 2) (gCons (gName 3) (gCons (gName 4) gNil))))
  (tIfS (tOr (tTest (tOp rEq (tOp (rIxT G.K) (tVar 3) (tC (.int 0))) (tC (.int 0)))) (tTest (tOp rLtI (tVar 4) (tC (.int 6))))) (tSeq (tAsg (tVar 3) (gName 5))
  (tCut (tIfS (tTest (tOp rGtI (tOp (rIxT G.K) (tVar 3) (tC (.int 0))) (tC (.int 0)))) (tAsg (tCall (sp_l_lowest G) [] E0 (tCons (tOp (rIxT G.K) (tVar 3) (tC (.int 0))) (tCons (tOp rMulI (tOp (rIxT G.K) (tVar 3) (tC (.int 1))) (tOp rSubI (tC (.int 6)) (tVar 4))) tNil))) (gName 5)) tNext)
  (tIfS (tOr (tTest (tOp rIsN (tVar 1) (tC .non))) (tB (tCall (sp_l_under G) [] E0 (tCons (tVar 5) (tCons (tOp (rIxT G.K) (tVar 1) (tC (.int 0))) tNil))))) (tAsg (tTup (tCons (tVar 5) (tCons (tVar 2) tNil))) (gName 1)) (tIfS (tAnd (tTest (tOp (rEqD G.K) (tVar 5) (tOp (rIxT G.K) (tVar 1) (tC (.int 0))))) (tTest (tOp rLtI (tVar 2) (tOp (rIxT G.K) (tVar 1) (tC (.int 1)))))) (tAsg (tTup (tCons (tVar 5) (tCons (tVar 2) tNil))) (gName 1)) tNext)))) tNext))
  (tRet (tVar 1))))
theorem hl_nought {r : Rw} (ok : RwOk r) (h : r.a = 0) : hl r.a r.b r.sides = (r.a, r.b) := by
  unfold hl
  rw [if_pos h]
  have g := ok.low.gcd
  have o := ok.low.one
  rw [h] at g ⊢
  have e : Nat.gcd (0 : Int).natAbs r.b.natAbs = r.b.natAbs := Nat.gcd_zero_left _
  rw [e] at g
  have : r.b = 1 := by omega
  rw [this]
theorem pure_l_first {G : Gx} {vs : List V} {H : Hp} {Q : VK} {E : XK} (h : sp_l_first G vs H Q E) : Body (t_l_first G) ["_law_rows", "_law_found", "_law_name", "_law_gas", "_law_sides", "_law_hours"] vs H Q := by
  obtain ⟨l, xs, rs, rfl, hS, hlen, hr, ho, k⟩ := h
  show t_l_first G _ [some (.ref l), none, none, none, none, none] H
  unfold t_l_first
  walk_at "go"
  refine ⟨l, rfl, ⟨_, hS⟩, ?_⟩
  refine r_it (walk_list (xs := xs)) (fun i σ H' => ∃ f a b c d, σ = [some (.ref l), some f, a, b, c, d] ∧ Same H H' ∧ GoAt G.K H' f ((rs.take i).foldl goStep none)) ⟨.non, _, _, _, _, rfl, Same.refl _, rfl⟩ (fun i σ H' _ ⟨_, _, _, _, _, _, s, _⟩ => by walk_at "sq") ?_ ?_
  · rintro i v σ H1 H2 hi ⟨f, _, _, _, _, rfl, s, g⟩ ⟨rfl, ev⟩
    obtain ⟨r, er⟩ : ∃ r, rs[i]? = some r := ⟨rs[i], List.getElem?_eq_getElem (by omega)⟩
    rw [fold_snoc er]
    obtain ⟨t, g0, rfl, h1, h2⟩ := hr i v r ev er
    have ok := ho r (List.mem_of_getElem? er)
    refine g_tup (xs := [.int r.name, .ref g0, .int r.sides]) (by walk_at "sq") rfl ?_
    generalize (rs.take i).foldl goStep none = F at g
    refine g_cons (g_name (g_cons (g_name (g_cons (g_name (g_nil ?_))))))
    dsimp only [List.set]
    refine r_if ?_
    refine r_or2 (decide (r.a = 0)) (decide (r.sides < 6)) (fun R q => ?_) (fun _ R q => ?_) ?_
    · walk_at "go"
      rw [show decide (V.int r.a = V.int 0) = decide (r.a = 0) from decide_int ..]
      exact q
    · walk_at "go"
      exact q
    refine iteB (fun hg => ?_) (fun hg => ?_)
    · have hg : goes r = true := hg
      obtain ⟨lo, lx, ly⟩ := hl_ok ok hg
      have hlow := ok.low.one
      have ha0 := ok.a0
      have hF : goStep F r = goPick (hl r.a r.b r.sides).1 (hl r.a r.b r.sides).2 r.name F := if_pos hg
      walk_at "go"
      refine r_cut (fun σ H' => ∃ hh : Addr, σ = [some (.ref l), some f, some (.int r.name), some (.ref g0), some (.int r.sides), some (.ref hh)] ∧ Same H2 H' ∧ H' hh = some (.tup [.int (hl r.a r.b r.sides).1, .int (hl r.a r.b r.sides).2])) ?_ ?_
      · walk_at "go"
        refine iteD (fun c => ?_) (fun c => ?_)
        · have hs : r.sides < 6 := by
            unfold goes at hg
            rw [decide_eq_false (show ¬ r.a = 0 by omega), Bool.false_or] at hg
            exact of_decide_eq_true hg
          have s0 := ok.s0
          walk_at "go"
          refine ⟨_, _, rfl, Int.mul_ne_zero (by omega) (by omega), log_mul (n := 3900) ok.lb (lt_n (n := 20) (lt_20 (by have := ok.s1; omega) (by omega)) (by decide)) (by decide), fun hh H3 s3 hf e3 => ?_⟩
          refine ⟨hh, rfl, s3, ?_⟩
          unfold hl
          rw [if_neg (by omega)]
          exact e3
        · walk_at "go"
          refine ⟨g0, rfl, Same.refl _, ?_⟩
          rw [hl_nought ok (by omega)]
          walk_at "hp"
      rintro σ H3 ⟨hh, rfl, s3, e3⟩
      rw [hF]
      have g3 : GoAt G.K H3 f F := g.up s3
      have fin : ∀ p : Addr, Free H3 p → GoAt G.K (upd H3 p (.tup [.ref hh, .int r.name])) (.ref p) (some ((hl r.a r.b r.sides).1, (hl r.a r.b r.sides).2, r.name)) := fun p hp => ⟨p, hh, rfl, upd_same, by walk_at "hp", lo, lx, ly⟩
      match F, g3 with
      | none, g3 =>
        cases g3
        walk_at "go"
        refine ⟨by walk_at "sz", fun p hp => ?_⟩
        exact ⟨_, _, _, _, _, rfl, by walk_at "sm", fin p hp⟩
      | some (x, y, n), g3 =>
        obtain ⟨t2, h2', rfl, e1, e2, lo2, lx2, ly2⟩ := id g3
        have y0 := lo.one
        have y02 := lo2.one
        walk_at "go"
        refine ⟨hh, h2', _, _, x, y, 3950, rfl, by decide, ⟨SqT.of e3, by omega, lx, ly⟩, ⟨SqT.of e2, by omega, lx2, ly2⟩, ?_⟩
        walk_at "go"
        refine iteD (fun c => ?_) (fun c => ?_)
        · walk_at "go"
          refine ⟨by walk_at "sz", fun p hp => ?_⟩
          refine ⟨_, _, _, _, _, rfl, by walk_at "sm", ?_⟩
          rw [goPick_yes (by unfold aheadB; rw [decide_eq_true c]; rfl)]
          exact fin p hp
        · walk_at "go"
          rw [eqv2]
          refine iteD (fun c2 => ?_) (fun c2 => ?_)
          · walk_at "go"
            refine iteD (fun c3 => ?_) (fun c3 => ?_)
            · walk_at "go"
              refine ⟨by walk_at "sz", fun p hp => ?_⟩
              refine ⟨_, _, _, _, _, rfl, by walk_at "sm", ?_⟩
              rw [goPick_yes (by unfold aheadB; rw [decide_eq_true c2, decide_eq_true c3, Bool.and_true, Bool.or_true])]
              exact fin p hp
            · walk_at "go"
              refine ⟨_, _, _, _, _, rfl, by walk_at "sm", ?_⟩
              rw [goPick_no (by unfold aheadB; rw [decide_eq_false c, decide_eq_false c3, Bool.and_false, Bool.or_false])]
              exact g3
          · walk_at "go"
            refine ⟨_, _, _, _, _, rfl, by walk_at "sm", ?_⟩
            rw [goPick_no (by unfold aheadB; rw [decide_eq_false c, decide_eq_false c2, Bool.false_and, Bool.or_false])]
            exact g3
    · have hg : goes r = false := hg
      walk_at "go"
      refine ⟨_, _, _, _, _, rfl, s, ?_⟩
      unfold goStep
      rw [if_neg (by rw [hg]; exact Bool.false_ne_true)]
      exact g
  · rintro σ H1 ⟨f, _, _, _, _, rfl, s, g⟩
    walk_at "go"
    rw [hlen, List.take_length] at g
    exact k f H1 s g
/-! law: slots _law_script, _law_many, _law_wide, _law_by, _law_more, _law_rows, _law_k, _law_cell_here, _law_handed, _law_found -/
def t_p_law (G : Gx) : TS :=
  (tSeq (tAsg (tCall (sp_l_digits G) [] E0 (tCons (tCall (sp_l_cell G) [] E0 (tCons (tVar 0) (tCons (tC (.int 0)) tNil))) (tCons (tLst (tCons (tC (.int 61)) (tCons (tC (.int 4)) (tCons (tC (.int 60)) (tCons (tC (.int 2)) tNil))))) tNil))) (gUnl G.K 4 (gCons (gName 1) (gCons (gName 2) (gCons (gName 3) (gCons (gName 4) gNil))))))
  (tSeq (tAsg (tLst tNil) (gName 5))
  (tSeq (tFor (iRng1 (tCons (tVar 1) tNil)) (gName 6)
  (tSeq (tAsg (tCall (sp_l_cell G) [] E0 (tCons (tVar 0) (tCons (tOp rAddI (tC (.int 1)) (tOp rModI (tVar 6) (tC (.int 61)))) tNil))) (gName 7))
  (tCut (tIfS (tOr (tTest (tOp rEq (tVar 4) (tC (.int 1)))) (tTest (tOp rGeI (tVar 6) (tCB (rLenSeq G.K) (tCons (tVar 0) tNil))))) (tAsg (tOp rAddI (tCall (sp_l_cell G) [] E0 (tCons (tVar 0) (tCons (tC (.int 1)) tNil))) (tOp rMulI (tC (.int 7919)) (tVar 6))) (gName 7)) tNext)
  (tDrop (tBM G.K "list" rAppend (tVar 5) (tCons (tCall (sp_l_row G) [] E0 (tCons (tVar 7) (tCons (tOp rModI (tOp rMulI (tOp rAddI (tVar 6) (tC (.int 1))) (tOp rAddI (tVar 3) (tC (.int 1)))) (tC (.int 61))) (tCons (tVar 2) tNil)))) tNil))))))
  (tSeq (tAsg (tCB (rListOf G.K) (tCons (tVar 5) tNil)) (gName 8))
  (tSeq (tAsg (tCall (sp_p_first_to_go G) [] E0 (tCons (tVar 8) tNil)) (gName 9))
  (tRet (tAndV (tOp (rEqD G.K) (tVar 8) (tVar 5)) (tCall (sp_l_is_going G) [] E0 (tCons (tVar 9) (tCons (tCall (sp_l_first G) [] E0 (tCons (tVar 5) tNil)) tNil))))))))))
theorem pure_p_law {G : Gx} {vs : List V} {H : Hp} {Q : VK} {E : XK} (h : spLaw G vs H Q E) : Body (t_p_law G) ["_law_script", "_law_many", "_law_wide", "_law_by", "_law_more", "_law_rows", "_law_k", "_law_cell_here", "_law_handed", "_law_found"] vs H Q := by
  obtain ⟨a, ns, rfl, hS, hl, k⟩ := h
  show t_p_law G _ [some (.ref a), none, none, none, none, none, none, none, none, none] H
  unfold t_p_law
  walk_at "go"
  refine ⟨by walk_at "sz", fun p hp => ?_⟩
  walk_at "go"
  refine c_digits4 (by walk_at "sq") (by decide) (by decide) (by decide) (by decide) (fun d0 d1 d2 d3 q H1 ed a0 b0 a1 b1 a2 b2 a3 b3 s1 hq e1 => ?_)
  refine g_unl (SqL.of e1) rfl ?_
  walk_at "go"
  refine ⟨by walk_at "sz", fun L hL => ?_⟩
  walk_at "go"
  refine r_rng (j := d0) (by omega) (by omega) ?_
  have sL : Same H (upd H1 L (.lst [])) := by walk_at "sm"
  have fL : Free H L := by walk_at "fr"
  refine r_it walk_range (fun i σ H' => ∃ u v xs rs, σ = [some (.ref a), some (.int d0), some (.int d1), some (.int d2), some (.int d3), some (.ref L), u, v, none, none] ∧ Same H H' ∧ H' L = some (.lst xs) ∧ xs.length = i ∧ xs.length = rs.length ∧ (∀ (i : Nat) v r, xs[i]? = some v → rs[i]? = some r → ∃ t g, v = .ref t ∧ H' t = some (.tup [.int r.name, .ref g, .int r.sides]) ∧ H' g = some (.tup [.int r.a, .int r.b])) ∧ (∀ r ∈ rs, RwOk r))
    ⟨_, _, [], [], rfl, sL, upd_same, rfl, rfl, (fun i v r h => by simp at h), (fun r h => by simp at h)⟩ (fun _ _ _ _ _ => True.intro) ?_ ?_
  · rintro i v σ H2 H3 hi ⟨_, _, xs, rs, rfl, s, hLx, hi2, hlen, hr, ho⟩ ⟨rfl, rfl⟩
    have hi3 : (i : Int) < 61 := by omega
    walk_at "go"
    refine r_cut (fun σ H' => ∃ c : Int, σ = [some (.ref a), some (.int d0), some (.int d1), some (.int d2), some (.int d3), some (.ref L), some (.int (0 + (i : Int))), some (.int c), none, none] ∧ H' = H3) ?_ ?_
    · walk_at "go"
      refine iteI (fun h => ?_) (fun h => ?_)
      · walk_at "go"
        exact ⟨_, rfl, rfl⟩
      · walk_at "go"
        refine iteD (fun h => ?_) (fun h => ?_)
        · walk_at "go"
          exact ⟨_, rfl, rfl⟩
        · walk_at "go"
          exact ⟨_, rfl, rfl⟩
    rintro σ H4 ⟨c, rfl, rfl⟩
    walk_at "go"
    refine ⟨_, _, _, rfl, fun r t g H5 hn ok s5 et eg => ?_⟩
    have hL5 := s5 _ _ hLx
    have hx60 : xs.length < 1000 := by omega
    walk_at "go"
    have ne1 : t ≠ L := ne_of et hL5 (by intro z; cases z)
    have ne2 : g ≠ L := ne_of eg hL5 (by intro z; cases z)
    refine ⟨_, _, xs ++ [.ref t], rs ++ [r], rfl, by walk_at "sm", upd_same, by rw [List.length_append, hi2]; rfl, by rw [List.length_append, List.length_append, hlen]; rfl, fun j v r' hv hr' => ?_, fun r' h' => ?_⟩
    · by_cases c : j < xs.length
      · rw [List.getElem?_append_left c] at hv
        rw [List.getElem?_append_left (by omega)] at hr'
        obtain ⟨t', g', e, h1, h2⟩ := hr j v r' hv hr'
        have h1' := s5 _ _ h1
        have h2' := s5 _ _ h2
        exact ⟨t', g', e, at_ne h1' (ne_of h1' hL5 (by intro z; cases z)), at_ne h2' (ne_of h2' hL5 (by intro z; cases z))⟩
      · rw [List.getElem?_append_right (by omega)] at hv hr'
        have hj : j - xs.length = 0 := by
          rcases Nat.eq_zero_or_pos (j - xs.length) with z | z
          · exact z
          · rw [List.getElem?_eq_none (by show 1 ≤ _; omega)] at hv
            cases hv
        rw [hj] at hv
        rw [show j - rs.length = 0 by omega] at hr'
        cases hv
        cases hr'
        exact ⟨t, g, rfl, at_ne et ne1, at_ne eg ne2⟩
    · rcases List.mem_append.mp h' with h' | h'
      · exact ho r' h'
      · rw [List.mem_singleton.mp h']
        exact ok
  · rintro σ H2 ⟨_, _, xs, rs, rfl, s, hLx, hi2, hlen, hr, ho⟩
    walk_at "go"
    refine r_listL (SqL.of hLx) (fun M hM => ?_)
    walk_at "go"
    refine ⟨M, xs, rs, rfl, by walk_at "sq", hlen, fun i v r h1 h2 => ?_, ho, fun v H3 s3 g3 => ?_⟩
    · obtain ⟨t, g, e, q1, q2⟩ := hr i v r h1 h2
      exact ⟨t, g, e, by walk_at "sq", by walk_at "sq"⟩
    walk_at "go"
    obtain ⟨ds, hds, hsh⟩ : ∃ ds, DpAll G.K H3 xs ds ∧ ∀ d ∈ ds, d.canLay0 = true ∧ d.depth ≤ 60 := by
      have all : ∀ (xs : List V) (rs : List Rw), xs.length = rs.length → (∀ (i : Nat) v r, xs[i]? = some v → rs[i]? = some r → ∃ t g, v = .ref t ∧ H2 t = some (.tup [.int r.name, .ref g, .int r.sides]) ∧ H2 g = some (.tup [.int r.a, .int r.b])) →
          ∃ ds, DpAll G.K H3 xs ds ∧ ∀ d ∈ ds, d.canLay0 = true ∧ d.depth ≤ 60 := by
        intro xs
        induction xs with
        | nil => exact fun _ _ _ => ⟨[], .nil, fun d h => by simp at h⟩
        | cons v xs ih =>
          intro rs hl h
          match rs, hl with
          | r :: rs, hl =>
            obtain ⟨ds, h1, h2⟩ := ih rs (by simpa using hl) (fun i => h (i + 1))
            obtain ⟨t, g, e, q1, q2⟩ := h 0 v r rfl rfl
            subst e
            refine ⟨.tuple [.int r.name, .tuple [.int r.a, .int r.b], .int r.sides] :: ds, .cons (.tup (SqT.of (by walk_at "hp")) (.cons (.int _) (.cons (.tup (SqT.of (by walk_at "hp")) (.cons (.int _) (.cons (.int _) .nil))) (.cons (.int _) .nil)))) h1, fun d hd => ?_⟩
            rcases List.mem_cons.mp hd with rfl | hd
            · exact ⟨rfl, by show 2 ≤ 60; decide⟩
            · exact h2 d hd
      exact all xs rs hlen hr
    refine r_eqD (.lst (by walk_at "sq") hds) (.lst (by walk_at "sq") hds) (shaped_list hsh) (shaped_list hsh) ?_
    rw [eqv_same (shaped_list hsh)]
    walk_at "go"
    refine ⟨L, xs, rs, rfl, by walk_at "sq", hlen, fun i v r h1 h2 => ?_, ho, fun v' H4 s4 g4 => ?_⟩
    · obtain ⟨t, g, e, q1, q2⟩ := hr i v r h1 h2
      exact ⟨t, g, e, by walk_at "hp", by walk_at "hp"⟩
    walk_at "go"
    exact ⟨v, v', firstGo rs, rfl, g3.up s4, g4, k _⟩

def topS (i : Nat) : Stmt := PySem.Challenge.pw_frothwane_k23_the_first_to_go.main.body.getD i (.Pass ⟨0, 0, 0, 0⟩)
abbrev s_l_seed : Stmt := topS 9
abbrev s_l_digits : Stmt := topS 10
abbrev s_l_cell : Stmt := topS 11
abbrev s_l_gcd : Stmt := topS 12
abbrev s_l_lowest : Stmt := topS 13
abbrev s_l_row : Stmt := topS 14
abbrev s_p_common : Stmt := topS 1
abbrev s_p_amount : Stmt := topS 2
abbrev s_p_hours_left : Stmt := topS 5
abbrev s_p_below : Stmt := topS 3
abbrev s_p_ahead : Stmt := topS 6
abbrev s_p_first_to_go : Stmt := topS 7
abbrev s_l_whole : Stmt := topS 15
abbrev s_l_is_amount : Stmt := topS 16
abbrev s_l_same : Stmt := topS 17
abbrev s_l_is_going : Stmt := topS 18
abbrev s_l_under : Stmt := topS 19
abbrev s_l_first : Stmt := topS 20
abbrev s_p_law : Stmt := topS 21
theorem sc_l_seed : FnScope ["_law_cell_here", "_law_one", "_law_two"] ["_law_cell_here"] (defScope s_l_seed) := ⟨rfl, rfl, rfl, by decide +kernel, rfl, by decide +kernel, by decide +kernel⟩
theorem sc_l_digits : FnScope ["_law_cell_here", "_law_sizes", "_law_rest", "_law_found", "_law_k", "_law_size"] ["_law_cell_here", "_law_sizes"] (defScope s_l_digits) := ⟨rfl, rfl, rfl, by decide +kernel, rfl, by decide +kernel, by decide +kernel⟩
theorem sc_l_cell : FnScope ["_law_script", "_law_place"] ["_law_script", "_law_place"] (defScope s_l_cell) := ⟨rfl, rfl, rfl, by decide +kernel, rfl, by decide +kernel, by decide +kernel⟩
theorem sc_l_gcd : FnScope ["_law_one", "_law_two"] ["_law_one", "_law_two"] (defScope s_l_gcd) := ⟨rfl, rfl, rfl, by decide +kernel, rfl, by decide +kernel, by decide +kernel⟩
theorem sc_l_lowest : FnScope ["_law_num", "_law_den", "_law_by"] ["_law_num", "_law_den"] (defScope s_l_lowest) := ⟨rfl, rfl, rfl, by decide +kernel, rfl, by decide +kernel, by decide +kernel⟩
theorem sc_l_row : FnScope ["_law_cell_here", "_law_name", "_law_wide", "_law_num", "_law_den", "_law_sides", "_law_kind"] ["_law_cell_here", "_law_name", "_law_wide"] (defScope s_l_row) := ⟨rfl, rfl, rfl, by decide +kernel, rfl, by decide +kernel, by decide +kernel⟩
theorem sc_p_common : FnScope ["one", "two"] ["one", "two"] (defScope s_p_common) := ⟨rfl, rfl, rfl, by decide +kernel, rfl, by decide +kernel, by decide +kernel⟩
theorem sc_p_amount : FnScope ["num", "den", "by"] ["num", "den"] (defScope s_p_amount) := ⟨rfl, rfl, rfl, by decide +kernel, rfl, by decide +kernel, by decide +kernel⟩
theorem sc_p_hours_left : FnScope ["gas", "sides"] ["gas", "sides"] (defScope s_p_hours_left) := ⟨rfl, rfl, rfl, by decide +kernel, rfl, by decide +kernel, by decide +kernel⟩
theorem sc_p_below : FnScope ["one", "other"] ["one", "other"] (defScope s_p_below) := ⟨rfl, rfl, rfl, by decide +kernel, rfl, by decide +kernel, by decide +kernel⟩
theorem sc_p_ahead : FnScope ["one", "two"] ["one", "two"] (defScope s_p_ahead) := ⟨rfl, rfl, rfl, by decide +kernel, rfl, by decide +kernel, by decide +kernel⟩
theorem sc_p_first_to_go : FnScope ["rows", "found", "name", "gas", "sides", "going"] ["rows"] (defScope s_p_first_to_go) := ⟨rfl, rfl, rfl, by decide +kernel, rfl, by decide +kernel, by decide +kernel⟩
theorem sc_l_whole : FnScope ["_law_thing"] ["_law_thing"] (defScope s_l_whole) := ⟨rfl, rfl, rfl, by decide +kernel, rfl, by decide +kernel, by decide +kernel⟩
theorem sc_l_is_amount : FnScope ["_law_found"] ["_law_found"] (defScope s_l_is_amount) := ⟨rfl, rfl, rfl, by decide +kernel, rfl, by decide +kernel, by decide +kernel⟩
theorem sc_l_same : FnScope ["_law_found", "_law_due"] ["_law_found", "_law_due"] (defScope s_l_same) := ⟨rfl, rfl, rfl, by decide +kernel, rfl, by decide +kernel, by decide +kernel⟩
theorem sc_l_is_going : FnScope ["_law_found", "_law_due"] ["_law_found", "_law_due"] (defScope s_l_is_going) := ⟨rfl, rfl, rfl, by decide +kernel, rfl, by decide +kernel, by decide +kernel⟩
theorem sc_l_under : FnScope ["_law_one", "_law_two"] ["_law_one", "_law_two"] (defScope s_l_under) := ⟨rfl, rfl, rfl, by decide +kernel, rfl, by decide +kernel, by decide +kernel⟩
theorem sc_l_first : FnScope ["_law_rows", "_law_found", "_law_name", "_law_gas", "_law_sides", "_law_hours"] ["_law_rows"] (defScope s_l_first) := ⟨rfl, rfl, rfl, by decide +kernel, rfl, by decide +kernel, by decide +kernel⟩
theorem sc_p_law : FnScope ["_law_script", "_law_many", "_law_wide", "_law_by", "_law_more", "_law_rows", "_law_k", "_law_cell_here", "_law_handed", "_law_found"] ["_law_script"] (defScope s_p_law) := ⟨rfl, rfl, rfl, by decide +kernel, rfl, by decide +kernel, by decide +kernel⟩
section
variable {P : Program} {w : World} {K : PySem.W.Frag} {mg : Str → Option Value} {base : Heap} {ad : Str → Addr}
theorem ok_l_seed (F : FnIs K mg "_law_seed" s_l_seed ["_law_cell_here"]) : Df P w K mg base CX0 "_law_seed" 1 ["_law_cell_here"] (sp_l_seed ⟨K, ad⟩) :=
  Df.of F sc_l_seed len_l_seed fun f cdv A outer s H vs Q E hr h => ⟨t_l_seed ⟨K, ad⟩, (pss_cons (ps_if (pt_cmpR op_ge (pv 0) (pe_op op_pow pe_int pe_int) (nomark _)) (pss_one (ps_ret (pv 0))) pss_nil)
      (pss_cons (ps_set (i := 1) sc_l_seed.nd rfl (by first | exact Or.inl rfl | exact Or.inr rfl) (pe_op op_mod (pe_op op_mul (pe_op op_mod (pe_op op_add (pe_op op_mul (pv 0) pe_int) pe_int) pe_int) pe_int) pe_int))
      (pss_cons (ps_set (i := 2) sc_l_seed.nd rfl (by first | exact Or.inl rfl | exact Or.inr rfl) (pe_op op_mod (pe_op op_mul (pe_op op_mod (pe_op op_add (pe_op op_mul (pv 0) pe_int) pe_int) pe_int) pe_int) pe_int))
      (pss_one (ps_ret (pe_op op_add (pe_op op_mul (pv 1) pe_int) (pv 2))))))), pure_l_seed h⟩
theorem ok_l_digits (F : FnIs K mg "_law_digits" s_l_digits ["_law_cell_here", "_law_sizes"]) (T_enumerate : mg "enumerate" = none) (D_l_seed : Df P w K mg base CX0 "_law_seed" 1 ["_law_cell_here"] (sp_l_seed ⟨K, ad⟩)) : Df P w K mg base CX0 "_law_digits" 2 ["_law_cell_here", "_law_sizes"] (sp_l_digits ⟨K, ad⟩) :=
  Df.of F sc_l_digits len_l_digits fun f cdv A outer s H vs Q E hr h => ⟨t_l_digits ⟨K, ad⟩, (pss_cons (ps_set (i := 2) sc_l_digits.nd rfl (by first | exact Or.inl rfl | exact Or.inr rfl) (pe_df D_l_seed hr (by decide) pass0 (pa_cons (pv 0) pa_nil)))
      (pss_cons (ps_set (i := 3) sc_l_digits.nd rfl (by first | exact Or.inl rfl | exact Or.inr rfl) (pe_lst pa_nil))
      (pss_cons (ps_for PassesOwn.never rfl (pi_enum (by rfl) T_enumerate (pa_cons (pv 1) pa_nil)) (pg_tup rfl (pgs_cons (pg_name (i := 4) sc_l_digits.nd rfl (by first | exact Or.inl rfl | exact Or.inr rfl)) (pgs_cons (pg_name (i := 5) sc_l_digits.nd rfl (by first | exact Or.inl rfl | exact Or.inr rfl)) pgs_nil)))
      (pss_cons (ps_if (pt_cmpR op_lt (pv 2) (pv 5) (nomark _)) (pss_one (ps_set (i := 2) sc_l_digits.nd rfl (by first | exact Or.inl rfl | exact Or.inr rfl) (pe_df D_l_seed hr (by decide) pass0 (pa_cons (pe_op op_add (pe_op op_add (pv 2) (pe_op op_mul pe_int (pv 4))) (pe_op op_mod (pv 0) pe_int)) pa_nil)))) pss_nil)
      (pss_cons (ps_expr (pe_bm PySem.F.plainAttrs_list PySem.F.slot_list_append PySem.F.type_list_append mt_append (pv 3) (pa_cons (pe_op op_mod (pv 2) (pv 5)) pa_nil)))
      (pss_one (ps_set (i := 2) sc_l_digits.nd rfl (by first | exact Or.inl rfl | exact Or.inr rfl) (pe_op op_fdivW (pv 2) (pv 5)))))))
      (pss_one (ps_ret (pv 3)))))), pure_l_digits h⟩
theorem ok_l_cell (F : FnIs K mg "_law_cell" s_l_cell ["_law_script", "_law_place"]) (T_len : mg "len" = none) : Df P w K mg base CX0 "_law_cell" 1 ["_law_script", "_law_place"] (sp_l_cell ⟨K, ad⟩) :=
  Df.of F sc_l_cell len_l_cell fun f cdv A outer s H vs Q E hr h => ⟨t_l_cell ⟨K, ad⟩, (pss_cons (ps_if (pt_cmpR op_lt (pv 1) (pe_callB call_len_seq (by rfl) T_len (by decide +kernel) (pa_cons (pv 0) pa_nil)) (nomark _)) (pss_one (ps_ret (pe_ix ix_list (pv 0) (pv 1) (fun _ _ => rfl)))) pss_nil)
      (pss_one (ps_ret pe_int))), pure_l_cell h⟩
theorem ok_l_gcd (F : FnIs K mg "_law_gcd" s_l_gcd ["_law_one", "_law_two"]) : Df P w K mg base CX0 "_law_gcd" 1 ["_law_one", "_law_two"] (sp_l_gcd ⟨K, ad⟩) :=
  Df.of F sc_l_gcd len_l_gcd fun f cdv A outer s H vs Q E hr h => ⟨t_l_gcd ⟨K, ad⟩, (pss_cons (ps_while PassesOwn.never (pt_cmpR op_gt (pv 1) pe_int (nomark _)) (pss_one (ps_par (by rfl) sc_l_gcd.nd rfl rfl (by decide) rfl rfl (pa_cons (pv 1) (pa_cons (pe_op op_mod (pv 0) (pv 1)) pa_nil)) (by rfl))))
      (pss_one (ps_ret (pv 0)))), pure_l_gcd h⟩
theorem ok_l_lowest (F : FnIs K mg "_law_lowest" s_l_lowest ["_law_num", "_law_den"]) (T_abs : mg "abs" = none) (D_l_gcd : Df P w K mg base CX0 "_law_gcd" 1 ["_law_one", "_law_two"] (sp_l_gcd ⟨K, ad⟩)) : Df P w K mg base CX0 "_law_lowest" 2 ["_law_num", "_law_den"] (sp_l_lowest ⟨K, ad⟩) :=
  Df.of F sc_l_lowest len_l_lowest fun f cdv A outer s H vs Q E hr h => ⟨t_l_lowest ⟨K, ad⟩, (pss_cons (ps_if (pt_cmpR op_lt (pv 1) pe_int (nomark _)) (pss_one (ps_par (by rfl) sc_l_lowest.nd rfl rfl (by decide) rfl rfl (pa_cons (pe_op op_sub pe_int (pv 0)) (pa_cons (pe_op op_sub pe_int (pv 1)) pa_nil)) (by rfl))) pss_nil)
      (pss_cons (ps_set (i := 2) sc_l_lowest.nd rfl (by first | exact Or.inl rfl | exact Or.inr rfl) (pe_df D_l_gcd hr (by decide) pass0 (pa_cons (pe_callB call_abs (by rfl) T_abs (by decide +kernel) (pa_cons (pv 0) pa_nil)) (pa_cons (pv 1) pa_nil))))
      (pss_one (ps_ret (pe_tup (pa_cons (pe_op op_fdivW (pv 0) (pv 2)) (pa_cons (pe_op op_fdivW (pv 1) (pv 2)) pa_nil))))))), pure_l_lowest h⟩
theorem ok_l_row (F : FnIs K mg "_law_row" s_l_row ["_law_cell_here", "_law_name", "_law_wide"]) (D_l_digits : Df P w K mg base CX0 "_law_digits" 2 ["_law_cell_here", "_law_sizes"] (sp_l_digits ⟨K, ad⟩)) (D_l_lowest : Df P w K mg base CX0 "_law_lowest" 2 ["_law_num", "_law_den"] (sp_l_lowest ⟨K, ad⟩)) : Df P w K mg base CX0 "_law_row" 3 ["_law_cell_here", "_law_name", "_law_wide"] (sp_l_row ⟨K, ad⟩) :=
  Df.of F sc_l_row len_l_row fun f cdv A outer s H vs Q E hr h => ⟨t_l_row ⟨K, ad⟩, (pss_cons (ps_asg (pe_df D_l_digits hr (by decide) pass0 (pa_cons (pv 0) (pa_cons (pe_lst (pa_cons (pe_op op_pow pe_int pe_int) (pa_cons pe_int (pa_cons pe_int (pa_cons pe_int pa_nil))))) pa_nil))) (pg_unl rfl (pgs_cons (pg_name (i := 3) sc_l_row.nd rfl (by first | exact Or.inl rfl | exact Or.inr rfl)) (pgs_cons (pg_name (i := 4) sc_l_row.nd rfl (by first | exact Or.inl rfl | exact Or.inr rfl)) (pgs_cons (pg_name (i := 5) sc_l_row.nd rfl (by first | exact Or.inl rfl | exact Or.inr rfl)) (pgs_cons (pg_name (i := 6) sc_l_row.nd rfl (by first | exact Or.inl rfl | exact Or.inr rfl)) pgs_nil))))))
      (pss_cut (ps_if (pt_cmpR op_eq (pv 6) pe_int (nomark _)) (pss_one (ps_set (i := 3) sc_l_row.nd rfl (by first | exact Or.inl rfl | exact Or.inr rfl) pe_int)) pss_nil)
      (pss_cut (ps_if (pt_cmpR op_in_seq (pv 6) (pe_tup (pa_cons pe_int (pa_cons pe_int pa_nil))) (by rfl)) (pss_one (ps_par (by rfl) sc_l_row.nd rfl rfl (by decide) rfl rfl (pa_cons (pe_op op_add pe_int (pe_op op_mod (pv 3) pe_int)) (pa_cons (pe_op op_mod (pv 4) pe_int) pa_nil)) (by rfl))) pss_nil)
      (pss_cons (ps_set (i := 5) sc_l_row.nd rfl (by first | exact Or.inl rfl | exact Or.inr rfl) (pe_op op_add pe_int (pv 5)))
      (pss_cut (ps_if (pt_cmpR op_eq (pv 2) pe_int (nomark _)) (pss_cons (ps_set (i := 5) sc_l_row.nd rfl (by first | exact Or.inl rfl | exact Or.inr rfl) (pe_op op_add (pv 5) pe_int))
      (pss_one (ps_aug (i := 3) sc_l_row.nd rfl (by first | exact Or.inl rfl | exact Or.inr rfl) pe_int ip_add))) pss_nil)
      (pss_one (ps_ret (pe_tup (pa_cons (pv 1) (pa_cons (pe_df D_l_lowest hr (by decide) pass0 (pa_cons (pv 3) (pa_cons (pe_op op_add pe_int (pv 4)) pa_nil))) (pa_cons (pv 5) pa_nil))))))))))), pure_l_row h⟩
theorem ok_p_common (F : FnIs K mg "common" s_p_common ["one", "two"]) : Df P w K mg base CX0 "common" 1 ["one", "two"] (sp_p_common ⟨K, ad⟩) :=
  Df.of F sc_p_common len_p_common fun f cdv A outer s H vs Q E hr h => ⟨t_p_common ⟨K, ad⟩, (pss_cons (ps_while PassesOwn.never (pt_cmpR op_gt (pv 0) pe_int (nomark _)) (pss_one (ps_par (by rfl) sc_p_common.nd rfl rfl (by decide) rfl rfl (pa_cons (pe_op op_mod (pv 1) (pv 0)) (pa_cons (pv 0) pa_nil)) (by rfl))))
      (pss_one (ps_ret (pv 1)))), pure_p_common h⟩
theorem ok_p_amount (F : FnIs K mg "amount" s_p_amount ["num", "den"]) (T_abs : mg "abs" = none) (D_p_common : Df P w K mg base CX0 "common" 1 ["one", "two"] (sp_p_common ⟨K, ad⟩)) : Df P w K mg base CX0 "amount" 2 ["num", "den"] (sp_p_amount ⟨K, ad⟩) :=
  Df.of F sc_p_amount len_p_amount fun f cdv A outer s H vs Q E hr h => ⟨t_p_amount ⟨K, ad⟩, (pss_cons (ps_if (pt_cmpR op_lt (pv 1) pe_int (nomark _)) (pss_one (ps_par (by rfl) sc_p_amount.nd rfl rfl (by decide) rfl rfl (pa_cons (pe_un un_neg (pv 0)) (pa_cons (pe_un un_neg (pv 1)) pa_nil)) (by rfl))) pss_nil)
      (pss_cons (ps_set (i := 2) sc_p_amount.nd rfl (by first | exact Or.inl rfl | exact Or.inr rfl) (pe_df D_p_common hr (by decide) pass0 (pa_cons (pe_callB call_abs (by rfl) T_abs (by decide +kernel) (pa_cons (pv 0) pa_nil)) (pa_cons (pv 1) pa_nil))))
      (pss_one (ps_ret (pe_tup (pa_cons (pe_op op_fdivW (pv 0) (pv 2)) (pa_cons (pe_op op_fdivW (pv 1) (pv 2)) pa_nil))))))), pure_p_amount h⟩
theorem ok_p_hours_left (F : FnIs K mg "hours_left" s_p_hours_left ["gas", "sides"]) (D_p_amount : Df P w K mg base CX0 "amount" 2 ["num", "den"] (sp_p_amount ⟨K, ad⟩)) : Df P w K mg base CX0 "hours_left" 3 ["gas", "sides"] (sp_p_hours_left ⟨K, ad⟩) :=
  Df.of F sc_p_hours_left len_p_hours_left fun f cdv A outer s H vs Q E hr h => ⟨t_p_hours_left ⟨K, ad⟩, (pss_cons (ps_if (pt_cmpR op_eq (pe_ix ix_tup (pv 0) pe_int (fun _ _ => rfl)) pe_int (nomark _)) (pss_one (ps_ret (pe_tup (pa_cons pe_int (pa_cons pe_int pa_nil))))) pss_nil)
      (pss_one (ps_ret (pe_df D_p_amount hr (by decide) pass0 (pa_cons (pe_ix ix_tup (pv 0) pe_int (fun _ _ => rfl)) (pa_cons (pe_op op_mul (pe_ix ix_tup (pv 0) pe_int (fun _ _ => rfl)) (pe_op op_sub pe_int (pv 1))) pa_nil)))))), pure_p_hours_left h⟩
theorem ok_p_below (F : FnIs K mg "below" s_p_below ["one", "other"]) : Df P w K mg base CX0 "below" 1 ["one", "other"] (sp_p_below ⟨K, ad⟩) :=
  Df.of F sc_p_below len_p_below fun f cdv A outer s H vs Q E hr h => ⟨t_p_below ⟨K, ad⟩, (pss_one (ps_ret (pe_cmpR op_lt (pe_op op_mulX (pe_ix ix_tup (pv 0) pe_int (fun _ _ => rfl)) (pe_ix ix_tup (pv 1) pe_int (fun _ _ => rfl))) (pe_op op_mulX (pe_ix ix_tup (pv 1) pe_int (fun _ _ => rfl)) (pe_ix ix_tup (pv 0) pe_int (fun _ _ => rfl))) (nomark _)))), pure_p_below h⟩
theorem ok_p_ahead (F : FnIs K mg "ahead" s_p_ahead ["one", "two"]) (D_p_below : Df P w K mg base CX0 "below" 1 ["one", "other"] (sp_p_below ⟨K, ad⟩)) : Df P w K mg base CX0 "ahead" 2 ["one", "two"] (sp_p_ahead ⟨K, ad⟩) :=
  Df.of F sc_p_ahead len_p_ahead fun f cdv A outer s H vs Q E hr h => ⟨t_p_ahead ⟨K, ad⟩, (pss_cons (ps_if (pt_val (pe_df D_p_below hr (by decide) pass0 (pa_cons (pe_ix ix_tup (pv 0) pe_int (fun _ _ => rfl)) (pa_cons (pe_ix ix_tup (pv 1) pe_int (fun _ _ => rfl)) pa_nil)))) (pss_one (ps_ret pe_bl)) pss_nil)
      (pss_one (ps_ret (pe_and (pe_cmpR (op_eqD hr.units) (pe_ix ix_tup (pv 0) pe_int (fun _ _ => rfl)) (pe_ix ix_tup (pv 1) pe_int (fun _ _ => rfl)) (nomark _)) (pe_one (pe_cmpR op_lt (pe_ix ix_tup (pv 0) pe_int (fun _ _ => rfl)) (pe_ix ix_tup (pv 1) pe_int (fun _ _ => rfl)) (nomark _))))))), pure_p_ahead h⟩
theorem ok_p_first_to_go (F : FnIs K mg "first_to_go" s_p_first_to_go ["rows"]) (D_p_hours_left : Df P w K mg base CX0 "hours_left" 3 ["gas", "sides"] (sp_p_hours_left ⟨K, ad⟩)) (D_p_ahead : Df P w K mg base CX0 "ahead" 2 ["one", "two"] (sp_p_ahead ⟨K, ad⟩)) : Df P w K mg base CX0 "first_to_go" 4 ["rows"] (sp_p_first_to_go ⟨K, ad⟩) :=
  Df.of F sc_p_first_to_go len_p_first_to_go fun f cdv A outer s H vs Q E hr h => ⟨t_p_first_to_go ⟨K, ad⟩, (pss_cons (ps_set (i := 1) sc_p_first_to_go.nd rfl (by first | exact Or.inl rfl | exact Or.inr rfl) pe_non)
      (pss_cons (ps_for PassesOwn.never rfl (pi_list (pv 0)) (pg_tup rfl (pgs_cons (pg_name (i := 2) sc_p_first_to_go.nd rfl (by first | exact Or.inl rfl | exact Or.inr rfl)) (pgs_cons (pg_name (i := 3) sc_p_first_to_go.nd rfl (by first | exact Or.inl rfl | exact Or.inr rfl)) (pgs_cons (pg_name (i := 4) sc_p_first_to_go.nd rfl (by first | exact Or.inl rfl | exact Or.inr rfl)) pgs_nil))))
      (pss_one (ps_if (PW.pt (pw_or (pt_cmpR op_eq (pe_ix ix_tup (pv 3) pe_int (fun _ _ => rfl)) pe_int (nomark _)) (pw_or1 (pt_cmpR op_lt (pv 4) pe_int (nomark _))))) (pss_cons (ps_set (i := 5) sc_p_first_to_go.nd rfl (by first | exact Or.inl rfl | exact Or.inr rfl) (pe_tup (pa_cons (pe_df D_p_hours_left hr (by decide) pass0 (pa_cons (pv 3) (pa_cons (pv 4) pa_nil))) (pa_cons (pv 2) pa_nil))))
      (pss_one (ps_if (PW.pt (pw_or (pt_cmpR op_isN (pv 1) pe_non (nomark _)) (pw_or1 (pt_val (pe_df D_p_ahead hr (by decide) pass0 (pa_cons (pv 5) (pa_cons (pv 1) pa_nil))))))) (pss_one (ps_set (i := 1) sc_p_first_to_go.nd rfl (by first | exact Or.inl rfl | exact Or.inr rfl) (pv 5))) pss_nil))) pss_nil)))
      (pss_one (ps_ret (pv 1))))), pure_p_first_to_go h⟩
theorem ok_l_whole (F : FnIs K mg "_law_whole" s_l_whole ["_law_thing"]) (T_isinstance : mg "isinstance" = none) (T_int : mg "int" = none) (T_bool : mg "bool" = none) : Df P w K mg base CX0 "_law_whole" 1 ["_law_thing"] (sp_l_whole ⟨K, ad⟩) :=
  Df.of F sc_l_whole len_l_whole fun f cdv A outer s H vs Q E hr h => ⟨t_l_whole ⟨K, ad⟩, (pss_one (ps_ret (pe_and (pe_callB call_isi (by rfl) T_isinstance (by decide +kernel) (pa_cons (pv 0) (pa_cons (pe_bltn (v := .ty "int") (by rfl) T_int (by decide +kernel) rfl) pa_nil))) (pe_one (pe_not (pe_callB call_isi (by rfl) T_isinstance (by decide +kernel) (pa_cons (pv 0) (pa_cons (pe_bltn (v := .ty "bool") (by rfl) T_bool (by decide +kernel) rfl) pa_nil)))))))), pure_l_whole h⟩
theorem ok_l_is_amount (F : FnIs K mg "_law_is_amount" s_l_is_amount ["_law_found"]) (T_isinstance : mg "isinstance" = none) (T_tuple : mg "tuple" = none) (T_len : mg "len" = none) (T_abs : mg "abs" = none) (D_l_whole : Df P w K mg base CX0 "_law_whole" 1 ["_law_thing"] (sp_l_whole ⟨K, ad⟩)) (D_l_gcd : Df P w K mg base CX0 "_law_gcd" 1 ["_law_one", "_law_two"] (sp_l_gcd ⟨K, ad⟩)) : Df P w K mg base CX0 "_law_is_amount" 2 ["_law_found"] (sp_l_is_amount ⟨K, ad⟩) :=
  Df.of F sc_l_is_amount len_l_is_amount fun f cdv A outer s H vs Q E hr h => ⟨t_l_is_amount ⟨K, ad⟩, (pss_cons (ps_if (PW.pt (pw_or (pt_not (pt_val (pe_callB call_isi (by rfl) T_isinstance (by decide +kernel) (pa_cons (pv 0) (pa_cons (pe_bltn (v := .ty "tuple") (by rfl) T_tuple (by decide +kernel) rfl) pa_nil))))) (pw_or1 (pt_cmpR op_ne (pe_callB call_len_seq (by rfl) T_len (by decide +kernel) (pa_cons (pv 0) pa_nil)) pe_int (nomark _))))) (pss_one (ps_ret pe_bl)) pss_nil)
      (pss_cons (ps_if (PW.pt (pw_or (pt_not (pt_val (pe_df D_l_whole hr (by decide) pass0 (pa_cons (pe_ix ix_tup (pv 0) pe_int (fun _ _ => rfl)) pa_nil)))) (pw_or (pt_not (pt_val (pe_df D_l_whole hr (by decide) pass0 (pa_cons (pe_ix ix_tup (pv 0) pe_int (fun _ _ => rfl)) pa_nil)))) (pw_or1 (pt_cmpR op_lt (pe_ix ix_tup (pv 0) pe_int (fun _ _ => rfl)) pe_int (nomark _)))))) (pss_one (ps_ret pe_bl)) pss_nil)
      (pss_one (ps_ret (pe_cmpR op_eq (pe_df D_l_gcd hr (by decide) pass0 (pa_cons (pe_callB call_abs (by rfl) T_abs (by decide +kernel) (pa_cons (pe_ix ix_tup (pv 0) pe_int (fun _ _ => rfl)) pa_nil)) (pa_cons (pe_ix ix_tup (pv 0) pe_int (fun _ _ => rfl)) pa_nil))) pe_int (nomark _)))))), pure_l_is_amount h⟩
theorem ok_l_same (F : FnIs K mg "_law_same" s_l_same ["_law_found", "_law_due"]) (D_l_is_amount : Df P w K mg base CX0 "_law_is_amount" 2 ["_law_found"] (sp_l_is_amount ⟨K, ad⟩)) : Df P w K mg base CX0 "_law_same" 3 ["_law_found", "_law_due"] (sp_l_same ⟨K, ad⟩) :=
  Df.of F sc_l_same len_l_same fun f cdv A outer s H vs Q E hr h => ⟨t_l_same ⟨K, ad⟩, (pss_one (ps_ret (pe_and (pe_df D_l_is_amount hr (by decide) pass0 (pa_cons (pv 0) pa_nil)) (pe_one (pe_cmpR (op_eqD hr.units) (pv 0) (pv 1) (nomark _)))))), pure_l_same h⟩
theorem ok_l_is_going (F : FnIs K mg "_law_is_going" s_l_is_going ["_law_found", "_law_due"]) (T_isinstance : mg "isinstance" = none) (T_tuple : mg "tuple" = none) (T_len : mg "len" = none) (D_l_same : Df P w K mg base CX0 "_law_same" 3 ["_law_found", "_law_due"] (sp_l_same ⟨K, ad⟩)) (D_l_whole : Df P w K mg base CX0 "_law_whole" 1 ["_law_thing"] (sp_l_whole ⟨K, ad⟩)) : Df P w K mg base CX0 "_law_is_going" 4 ["_law_found", "_law_due"] (sp_l_is_going ⟨K, ad⟩) :=
  Df.of F sc_l_is_going len_l_is_going fun f cdv A outer s H vs Q E hr h => ⟨t_l_is_going ⟨K, ad⟩, (pss_cons (ps_if (pt_cmpR op_isN (pv 1) pe_non (nomark _)) (pss_one (ps_ret (pe_cmpR op_isN (pv 0) pe_non (nomark _)))) pss_nil)
      (pss_cons (ps_if (PW.pt (pw_or (pt_not (pt_val (pe_callB call_isi (by rfl) T_isinstance (by decide +kernel) (pa_cons (pv 0) (pa_cons (pe_bltn (v := .ty "tuple") (by rfl) T_tuple (by decide +kernel) rfl) pa_nil))))) (pw_or1 (pt_cmpR op_ne (pe_callB call_len_seq (by rfl) T_len (by decide +kernel) (pa_cons (pv 0) pa_nil)) pe_int (nomark _))))) (pss_one (ps_ret pe_bl)) pss_nil)
      (pss_one (ps_ret (pe_and (pe_df D_l_same hr (by decide) pass0 (pa_cons (pe_ix ix_tup (pv 0) pe_int (fun _ _ => rfl)) (pa_cons (pe_ix ix_tup (pv 1) pe_int (fun _ _ => rfl)) pa_nil))) (pe_and (pe_df D_l_whole hr (by decide) pass0 (pa_cons (pe_ix ix_tup (pv 0) pe_int (fun _ _ => rfl)) pa_nil)) (pe_one (pe_cmpR op_eq (pe_ix ix_tup (pv 0) pe_int (fun _ _ => rfl)) (pe_ix ix_tup (pv 1) pe_int (fun _ _ => rfl)) (nomark _))))))))), pure_l_is_going h⟩
theorem ok_l_under (F : FnIs K mg "_law_under" s_l_under ["_law_one", "_law_two"]) : Df P w K mg base CX0 "_law_under" 1 ["_law_one", "_law_two"] (sp_l_under ⟨K, ad⟩) :=
  Df.of F sc_l_under len_l_under fun f cdv A outer s H vs Q E hr h => ⟨t_l_under ⟨K, ad⟩, (pss_one (ps_ret (pe_cmpR op_lt (pe_op op_mulX (pe_ix ix_tup (pv 0) pe_int (fun _ _ => rfl)) (pe_ix ix_tup (pv 1) pe_int (fun _ _ => rfl))) (pe_op op_mulX (pe_ix ix_tup (pv 1) pe_int (fun _ _ => rfl)) (pe_ix ix_tup (pv 0) pe_int (fun _ _ => rfl))) (nomark _)))), pure_l_under h⟩
theorem ok_l_first (F : FnIs K mg "_law_first" s_l_first ["_law_rows"]) (D_l_lowest : Df P w K mg base CX0 "_law_lowest" 2 ["_law_num", "_law_den"] (sp_l_lowest ⟨K, ad⟩)) (D_l_under : Df P w K mg base CX0 "_law_under" 1 ["_law_one", "_law_two"] (sp_l_under ⟨K, ad⟩)) : Df P w K mg base CX0 "_law_first" 3 ["_law_rows"] (sp_l_first ⟨K, ad⟩) :=
  Df.of F sc_l_first len_l_first fun f cdv A outer s H vs Q E hr h => ⟨t_l_first ⟨K, ad⟩, (pss_cons (ps_set (i := 1) sc_l_first.nd rfl (by first | exact Or.inl rfl | exact Or.inr rfl) pe_non)
      (pss_cons (ps_for PassesOwn.never rfl (pi_list (pv 0)) (pg_tup rfl (pgs_cons (pg_name (i := 2) sc_l_first.nd rfl (by first | exact Or.inl rfl | exact Or.inr rfl)) (pgs_cons (pg_name (i := 3) sc_l_first.nd rfl (by first | exact Or.inl rfl | exact Or.inr rfl)) (pgs_cons (pg_name (i := 4) sc_l_first.nd rfl (by first | exact Or.inl rfl | exact Or.inr rfl)) pgs_nil))))
      (pss_one (ps_if (PW.pt (pw_or (pt_cmpR op_eq (pe_ix ix_tup (pv 3) pe_int (fun _ _ => rfl)) pe_int (nomark _)) (pw_or1 (pt_cmpR op_lt (pv 4) pe_int (nomark _))))) (pss_cons (ps_set (i := 5) sc_l_first.nd rfl (by first | exact Or.inl rfl | exact Or.inr rfl) (pv 3))
      (pss_cut (ps_if (pt_cmpR op_gt (pe_ix ix_tup (pv 3) pe_int (fun _ _ => rfl)) pe_int (nomark _)) (pss_one (ps_set (i := 5) sc_l_first.nd rfl (by first | exact Or.inl rfl | exact Or.inr rfl) (pe_df D_l_lowest hr (by decide) pass0 (pa_cons (pe_ix ix_tup (pv 3) pe_int (fun _ _ => rfl)) (pa_cons (pe_op op_mul (pe_ix ix_tup (pv 3) pe_int (fun _ _ => rfl)) (pe_op op_sub pe_int (pv 4))) pa_nil))))) pss_nil)
      (pss_one (ps_if (PW.pt (pw_or (pt_cmpR op_isN (pv 1) pe_non (nomark _)) (pw_or1 (pt_val (pe_df D_l_under hr (by decide) pass0 (pa_cons (pv 5) (pa_cons (pe_ix ix_tup (pv 1) pe_int (fun _ _ => rfl)) pa_nil))))))) (pss_one (ps_set (i := 1) sc_l_first.nd rfl (by first | exact Or.inl rfl | exact Or.inr rfl) (pe_tup (pa_cons (pv 5) (pa_cons (pv 2) pa_nil))))) (pss_one (ps_if (PW.pt (pw_and (pt_cmpR (op_eqD hr.units) (pv 5) (pe_ix ix_tup (pv 1) pe_int (fun _ _ => rfl)) (nomark _)) (pw_and1 (pt_cmpR op_lt (pv 2) (pe_ix ix_tup (pv 1) pe_int (fun _ _ => rfl)) (nomark _))))) (pss_one (ps_set (i := 1) sc_l_first.nd rfl (by first | exact Or.inl rfl | exact Or.inr rfl) (pe_tup (pa_cons (pv 5) (pa_cons (pv 2) pa_nil))))) pss_nil)))))) pss_nil)))
      (pss_one (ps_ret (pv 1))))), pure_l_first h⟩
theorem ok_p_law {f : Addr} {fd : FuncData} (F : Fun K "law" "law" s_p_law f fd) (T_range : mg "range" = none) (T_len : mg "len" = none) (T_list : mg "list" = none) (D_l_digits : Df P w K mg base CX0 "_law_digits" 2 ["_law_cell_here", "_law_sizes"] (sp_l_digits ⟨K, ad⟩)) (D_l_cell : Df P w K mg base CX0 "_law_cell" 1 ["_law_script", "_law_place"] (sp_l_cell ⟨K, ad⟩)) (D_l_row : Df P w K mg base CX0 "_law_row" 3 ["_law_cell_here", "_law_name", "_law_wide"] (sp_l_row ⟨K, ad⟩)) (D_p_first_to_go : Df P w K mg base CX0 "first_to_go" 4 ["rows"] (sp_p_first_to_go ⟨K, ad⟩)) (D_l_is_going : Df P w K mg base CX0 "_law_is_going" 4 ["_law_found", "_law_due"] (sp_l_is_going ⟨K, ad⟩)) (D_l_first : Df P w K mg base CX0 "_law_first" 3 ["_law_rows"] (sp_l_first ⟨K, ad⟩)) : FnOk P w K mg base CX0 5 f fd ["_law_script"] (spLaw ⟨K, ad⟩) :=
  F.ok sc_p_law len_p_law fun cdv A outer s H vs Q E hr h => ⟨t_p_law ⟨K, ad⟩, (pss_cons (ps_asg (pe_df D_l_digits hr (by decide) pass0 (pa_cons (pe_df D_l_cell hr (by decide) pass0 (pa_cons (pv 0) (pa_cons pe_int pa_nil))) (pa_cons (pe_lst (pa_cons pe_int (pa_cons pe_int (pa_cons pe_int (pa_cons pe_int pa_nil))))) pa_nil))) (pg_unl rfl (pgs_cons (pg_name (i := 1) sc_p_law.nd rfl (by first | exact Or.inl rfl | exact Or.inr rfl)) (pgs_cons (pg_name (i := 2) sc_p_law.nd rfl (by first | exact Or.inl rfl | exact Or.inr rfl)) (pgs_cons (pg_name (i := 3) sc_p_law.nd rfl (by first | exact Or.inl rfl | exact Or.inr rfl)) (pgs_cons (pg_name (i := 4) sc_p_law.nd rfl (by first | exact Or.inl rfl | exact Or.inr rfl)) pgs_nil))))))
      (pss_cons (ps_set (i := 5) sc_p_law.nd rfl (by first | exact Or.inl rfl | exact Or.inr rfl) (pe_lst pa_nil))
      (pss_cons (ps_for PassesOwn.never rfl (pi_range1 (by rfl) T_range (pa_cons (pv 1) pa_nil)) (pg_name (i := 6) sc_p_law.nd rfl (by first | exact Or.inl rfl | exact Or.inr rfl))
      (pss_cons (ps_set (i := 7) sc_p_law.nd rfl (by first | exact Or.inl rfl | exact Or.inr rfl) (pe_df D_l_cell hr (by decide) pass0 (pa_cons (pv 0) (pa_cons (pe_op op_add pe_int (pe_op op_mod (pv 6) pe_int)) pa_nil))))
      (pss_cut (ps_if (PW.pt (pw_or (pt_cmpR op_eq (pv 4) pe_int (nomark _)) (pw_or1 (pt_cmpR op_ge (pv 6) (pe_callB call_len_seq (by rfl) T_len (by decide +kernel) (pa_cons (pv 0) pa_nil)) (nomark _))))) (pss_one (ps_set (i := 7) sc_p_law.nd rfl (by first | exact Or.inl rfl | exact Or.inr rfl) (pe_op op_add (pe_df D_l_cell hr (by decide) pass0 (pa_cons (pv 0) (pa_cons pe_int pa_nil))) (pe_op op_mul pe_int (pv 6))))) pss_nil)
      (pss_one (ps_expr (pe_bm PySem.F.plainAttrs_list PySem.F.slot_list_append PySem.F.type_list_append mt_append (pv 5) (pa_cons (pe_df D_l_row hr (by decide) pass0 (pa_cons (pv 7) (pa_cons (pe_op op_mod (pe_op op_mul (pe_op op_add (pv 6) pe_int) (pe_op op_add (pv 3) pe_int)) pe_int) (pa_cons (pv 2) pa_nil)))) pa_nil)))))))
      (pss_cons (ps_set (i := 8) sc_p_law.nd rfl (by first | exact Or.inl rfl | exact Or.inr rfl) (pe_callTy call_list_of (by rfl) T_list (by decide +kernel) (pa_cons (pv 5) pa_nil)))
      (pss_cons (ps_set (i := 9) sc_p_law.nd rfl (by first | exact Or.inl rfl | exact Or.inr rfl) (pe_df D_p_first_to_go hr (by decide) pass0 (pa_cons (pv 8) pa_nil)))
      (pss_one (ps_ret (pe_and (pe_cmpR (op_eqD hr.units) (pv 8) (pv 5) (nomark _)) (pe_one (pe_df D_l_is_going hr (by decide) pass0 (pa_cons (pv 9) (pa_cons (pe_df D_l_first hr (by decide) pass0 (pa_cons (pv 5) pa_nil)) pa_nil)))))))))))), pure_p_law h⟩
end
theorem all_mk {l : PySem.W.OpenLaw} {w : World} {K : PySem.W.Frag} {h : Heap} {mg : Str → Option Value} {fa fl : Addr} {ad : Str → Addr} (X : K.In h) (G : h.Ns mainGlobals mg) (hfa : mg "law" = some (.ref fa))
    (F_l_seed : FnIs K mg "_law_seed" s_l_seed ["_law_cell_here"])
    (F_l_digits : FnIs K mg "_law_digits" s_l_digits ["_law_cell_here", "_law_sizes"])
    (F_l_cell : FnIs K mg "_law_cell" s_l_cell ["_law_script", "_law_place"])
    (F_l_gcd : FnIs K mg "_law_gcd" s_l_gcd ["_law_one", "_law_two"])
    (F_l_lowest : FnIs K mg "_law_lowest" s_l_lowest ["_law_num", "_law_den"])
    (F_l_row : FnIs K mg "_law_row" s_l_row ["_law_cell_here", "_law_name", "_law_wide"])
    (F_p_common : FnIs K mg "common" s_p_common ["one", "two"])
    (F_p_amount : FnIs K mg "amount" s_p_amount ["num", "den"])
    (F_p_hours_left : FnIs K mg "hours_left" s_p_hours_left ["gas", "sides"])
    (F_p_below : FnIs K mg "below" s_p_below ["one", "other"])
    (F_p_ahead : FnIs K mg "ahead" s_p_ahead ["one", "two"])
    (F_p_first_to_go : FnIs K mg "first_to_go" s_p_first_to_go ["rows"])
    (F_l_whole : FnIs K mg "_law_whole" s_l_whole ["_law_thing"])
    (F_l_is_amount : FnIs K mg "_law_is_amount" s_l_is_amount ["_law_found"])
    (F_l_same : FnIs K mg "_law_same" s_l_same ["_law_found", "_law_due"])
    (F_l_is_going : FnIs K mg "_law_is_going" s_l_is_going ["_law_found", "_law_due"])
    (F_l_under : FnIs K mg "_law_under" s_l_under ["_law_one", "_law_two"])
    (F_l_first : FnIs K mg "_law_first" s_l_first ["_law_rows"])
    (z_enumerate : PySem.W.nsIn K mainGlobals "enumerate" = some none)
    (z_len : PySem.W.nsIn K mainGlobals "len" = some none)
    (z_abs : PySem.W.nsIn K mainGlobals "abs" = some none)
    (z_isinstance : PySem.W.nsIn K mainGlobals "isinstance" = some none)
    (z_int : PySem.W.nsIn K mainGlobals "int" = some none)
    (z_bool : PySem.W.nsIn K mainGlobals "bool" = some none)
    (z_tuple : PySem.W.nsIn K mainGlobals "tuple" = some none)
    (z_range : PySem.W.nsIn K mainGlobals "range" = some none)
    (z_list : PySem.W.nsIn K mainGlobals "list" = some none)
    {od an : Option Addr} {sl : Array (Option Value)} {oc kV dc pm cd ct : Value} (aL : PySem.W.nsIn K mainGlobals "law" = some (some (.ref fl))) (lL : K.lookup fl = some ⟨oc, od, .func (PySem.W.fnOf "law" "law" (defArgs s_p_law) (defBody s_p_law) (defScope s_p_law) .none kV dc pm an cd ct), sl⟩) (cL : PySem.W.codeIn K cd "law" = true) (kL : PySem.W.keepIn K (.ref fl) = true) :
    ∃ fd : FuncData, (∀ (s : Shared) (v : Value), BindsTo s fd ⟨[v], []⟩ [("_law_script", v)]) ∧ ∀ base : Heap, K.In base → base.Ns mainGlobals mg → FnOk l.prog w K mg base CX0 5 fa fd ["_law_script"] (spLaw ⟨K, ad⟩) := by
  have e := hfa.symm.trans (PySem.W.mg_of X G aL)
  cases e
  have T_enumerate := PySem.W.mg_none_of X G z_enumerate
  have T_len := PySem.W.mg_none_of X G z_len
  have T_abs := PySem.W.mg_none_of X G z_abs
  have T_isinstance := PySem.W.mg_none_of X G z_isinstance
  have T_int := PySem.W.mg_none_of X G z_int
  have T_bool := PySem.W.mg_none_of X G z_bool
  have T_tuple := PySem.W.mg_none_of X G z_tuple
  have T_range := PySem.W.mg_none_of X G z_range
  have T_list := PySem.W.mg_none_of X G z_list
  refine ⟨PySem.W.fnOf "law" "law" (defArgs s_p_law) (defBody s_p_law) (defScope s_p_law) .none kV dc pm an cd ct, fun s v => .of_eq rfl, fun base _ _ => ?_⟩
  have D_l_seed := ok_l_seed (P := l.prog) (w := w) (base := base) (ad := ad) F_l_seed
  have D_l_digits := ok_l_digits (P := l.prog) (w := w) (base := base) (ad := ad) F_l_digits T_enumerate D_l_seed
  have D_l_cell := ok_l_cell (P := l.prog) (w := w) (base := base) (ad := ad) F_l_cell T_len
  have D_l_gcd := ok_l_gcd (P := l.prog) (w := w) (base := base) (ad := ad) F_l_gcd
  have D_l_lowest := ok_l_lowest (P := l.prog) (w := w) (base := base) (ad := ad) F_l_lowest T_abs D_l_gcd
  have D_l_row := ok_l_row (P := l.prog) (w := w) (base := base) (ad := ad) F_l_row D_l_digits D_l_lowest
  have D_p_common := ok_p_common (P := l.prog) (w := w) (base := base) (ad := ad) F_p_common
  have D_p_amount := ok_p_amount (P := l.prog) (w := w) (base := base) (ad := ad) F_p_amount T_abs D_p_common
  have D_p_hours_left := ok_p_hours_left (P := l.prog) (w := w) (base := base) (ad := ad) F_p_hours_left D_p_amount
  have D_p_below := ok_p_below (P := l.prog) (w := w) (base := base) (ad := ad) F_p_below
  have D_p_ahead := ok_p_ahead (P := l.prog) (w := w) (base := base) (ad := ad) F_p_ahead D_p_below
  have D_p_first_to_go := ok_p_first_to_go (P := l.prog) (w := w) (base := base) (ad := ad) F_p_first_to_go D_p_hours_left D_p_ahead
  have D_l_whole := ok_l_whole (P := l.prog) (w := w) (base := base) (ad := ad) F_l_whole T_isinstance T_int T_bool
  have D_l_is_amount := ok_l_is_amount (P := l.prog) (w := w) (base := base) (ad := ad) F_l_is_amount T_isinstance T_tuple T_len T_abs D_l_whole D_l_gcd
  have D_l_same := ok_l_same (P := l.prog) (w := w) (base := base) (ad := ad) F_l_same D_l_is_amount
  have D_l_is_going := ok_l_is_going (P := l.prog) (w := w) (base := base) (ad := ad) F_l_is_going T_isinstance T_tuple T_len D_l_same D_l_whole
  have D_l_under := ok_l_under (P := l.prog) (w := w) (base := base) (ad := ad) F_l_under
  have D_l_first := ok_l_first (P := l.prog) (w := w) (base := base) (ad := ad) F_l_first D_l_lowest D_l_under
  exact ok_p_law (fun_mk (st := s_p_law) lL cL kL) T_range T_len T_list D_l_digits D_l_cell D_l_row D_p_first_to_go D_l_is_going D_l_first
theorem walk {l : PySem.W.OpenLaw} {q : Program} {loose : List Str} {XP : (Str → Option Value) → Heap → Prop} {YP : World → Heap → Prop} {d : DefRec} {K : Params → PySem.W.Frag} (hn : l.most = some 63) (hdf : d.params.defaults = [])
    (hY : ∀ (w : World) (h : Heap), YP w h → (K w.params).In h)
    (F : ∀ (w : World) (mg : Str → Option Value) (fa : Addr) (h : Heap), (K w.params).In h → h.Ns mainGlobals mg → mg d.name = some (.ref fa) →
      ∃ fd : FuncData, (∀ (s : Shared) (u : Value), BindsTo s fd ⟨[u], []⟩ [("_law_script", u)]) ∧ ∀ base : Heap, (K w.params).In base → base.Ns mainGlobals mg → FnOk l.prog w (K w.params) mg base CX0 5 fa fd ["_law_script"] (spLaw ⟨K w.params, fun _ => 0⟩)) :
    PySem.W.WalkO q loose XP YP l.row.toRowW d [] (fun f vs => PySem.call f vs) :=
  L2.walk_of (n := 63) (k := 5) (x := "_law_script") (CX := fun _ => CX0) (sp := fun w => spLaw ⟨K w.params, fun _ => 0⟩) hn (by decide) hdf ⟨rfl, by decide, by decide⟩ hY F (fun _ _ a ns hl _ hS => ⟨a, ns, rfl, hS, hl, fun _ => rfl⟩) fun _ _ _ _ _ z => z
end Fw
open PySem PySem.W PyProof.Rows
set_option maxRecDepth 100000 in
set_option maxHeartbeats 0 in
theorem PySem.Challenge.cw_frothwane_k23_the_first_to_go_holds : PySem.Challenge.rw_frothwane_k23_the_first_to_go.Holds := by
  w_on; o_law; k_head; (case hw => w_witness2)
  k_fill
  refine Fw.walk (l := PySem.Challenge.rw_frothwane_k23_the_first_to_go) rfl rfl (fun w h Y => PySem.W.kIn_of Y) ?F
  case F =>
    intro w mg fa h KX G hmg
    refine' Fw.all_mk KX G hmg (Fw.fnis_mk KX G ?a0 ?l0 ?c0 ?k0 (fun _ _ _ _ _ _ us hl => match us, hl with | [_], _ => rfl)) (Fw.fnis_mk KX G ?a1 ?l1 ?c1 ?k1 (fun _ _ _ _ _ _ us hl => match us, hl with | [_, _], _ => rfl)) (Fw.fnis_mk KX G ?a2 ?l2 ?c2 ?k2 (fun _ _ _ _ _ _ us hl => match us, hl with | [_, _], _ => rfl)) (Fw.fnis_mk KX G ?a3 ?l3 ?c3 ?k3 (fun _ _ _ _ _ _ us hl => match us, hl with | [_, _], _ => rfl)) (Fw.fnis_mk KX G ?a4 ?l4 ?c4 ?k4 (fun _ _ _ _ _ _ us hl => match us, hl with | [_, _], _ => rfl)) (Fw.fnis_mk KX G ?a5 ?l5 ?c5 ?k5 (fun _ _ _ _ _ _ us hl => match us, hl with | [_, _, _], _ => rfl)) (Fw.fnis_mk KX G ?a6 ?l6 ?c6 ?k6 (fun _ _ _ _ _ _ us hl => match us, hl with | [_, _], _ => rfl)) (Fw.fnis_mk KX G ?a7 ?l7 ?c7 ?k7 (fun _ _ _ _ _ _ us hl => match us, hl with | [_, _], _ => rfl)) (Fw.fnis_mk KX G ?a8 ?l8 ?c8 ?k8 (fun _ _ _ _ _ _ us hl => match us, hl with | [_, _], _ => rfl)) (Fw.fnis_mk KX G ?a9 ?l9 ?c9 ?k9 (fun _ _ _ _ _ _ us hl => match us, hl with | [_, _], _ => rfl)) (Fw.fnis_mk KX G ?a10 ?l10 ?c10 ?k10 (fun _ _ _ _ _ _ us hl => match us, hl with | [_, _], _ => rfl)) (Fw.fnis_mk KX G ?a11 ?l11 ?c11 ?k11 (fun _ _ _ _ _ _ us hl => match us, hl with | [_], _ => rfl)) (Fw.fnis_mk KX G ?a12 ?l12 ?c12 ?k12 (fun _ _ _ _ _ _ us hl => match us, hl with | [_], _ => rfl)) (Fw.fnis_mk KX G ?a13 ?l13 ?c13 ?k13 (fun _ _ _ _ _ _ us hl => match us, hl with | [_], _ => rfl)) (Fw.fnis_mk KX G ?a14 ?l14 ?c14 ?k14 (fun _ _ _ _ _ _ us hl => match us, hl with | [_, _], _ => rfl)) (Fw.fnis_mk KX G ?a15 ?l15 ?c15 ?k15 (fun _ _ _ _ _ _ us hl => match us, hl with | [_, _], _ => rfl)) (Fw.fnis_mk KX G ?a16 ?l16 ?c16 ?k16 (fun _ _ _ _ _ _ us hl => match us, hl with | [_, _], _ => rfl)) (Fw.fnis_mk KX G ?a17 ?l17 ?c17 ?k17 (fun _ _ _ _ _ _ us hl => match us, hl with | [_], _ => rfl)) ?z_enumerate ?z_len ?z_abs ?z_isinstance ?z_int ?z_bool ?z_tuple ?z_range ?z_list ?aL ?lL ?cL ?kL
    (case a0 => k_is)
    (case l0 => k_is)
    (case c0 => k_is)
    (case k0 => k_is)
    (case a1 => k_is)
    (case l1 => k_is)
    (case c1 => k_is)
    (case k1 => k_is)
    (case a2 => k_is)
    (case l2 => k_is)
    (case c2 => k_is)
    (case k2 => k_is)
    (case a3 => k_is)
    (case l3 => k_is)
    (case c3 => k_is)
    (case k3 => k_is)
    (case a4 => k_is)
    (case l4 => k_is)
    (case c4 => k_is)
    (case k4 => k_is)
    (case a5 => k_is)
    (case l5 => k_is)
    (case c5 => k_is)
    (case k5 => k_is)
    (case a6 => k_is)
    (case l6 => k_is)
    (case c6 => k_is)
    (case k6 => k_is)
    (case a7 => k_is)
    (case l7 => k_is)
    (case c7 => k_is)
    (case k7 => k_is)
    (case a8 => k_is)
    (case l8 => k_is)
    (case c8 => k_is)
    (case k8 => k_is)
    (case a9 => k_is)
    (case l9 => k_is)
    (case c9 => k_is)
    (case k9 => k_is)
    (case a10 => k_is)
    (case l10 => k_is)
    (case c10 => k_is)
    (case k10 => k_is)
    (case a11 => k_is)
    (case l11 => k_is)
    (case c11 => k_is)
    (case k11 => k_is)
    (case a12 => k_is)
    (case l12 => k_is)
    (case c12 => k_is)
    (case k12 => k_is)
    (case a13 => k_is)
    (case l13 => k_is)
    (case c13 => k_is)
    (case k13 => k_is)
    (case a14 => k_is)
    (case l14 => k_is)
    (case c14 => k_is)
    (case k14 => k_is)
    (case a15 => k_is)
    (case l15 => k_is)
    (case c15 => k_is)
    (case k15 => k_is)
    (case a16 => k_is)
    (case l16 => k_is)
    (case c16 => k_is)
    (case k16 => k_is)
    (case a17 => k_is)
    (case l17 => k_is)
    (case c17 => k_is)
    (case k17 => k_is)
    (case z_enumerate => k_is)
    (case z_len => k_is)
    (case z_abs => k_is)
    (case z_isinstance => k_is)
    (case z_int => k_is)
    (case z_bool => k_is)
    (case z_tuple => k_is)
    (case z_range => k_is)
    (case z_list => k_is)
    (case aL => k_is)
    (case lL => k_is)
    (case cL => k_is)
    (case kL => k_is)
#print axioms PySem.Challenge.cw_frothwane_k23_the_first_to_go_holds
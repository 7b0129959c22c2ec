import PyProof.Rows.All
import Wide.All
import OpenK.AllK
import Wide.FinOn
import HandS.ForMost
import HandS.Exc
import HandS.ExcOwn
import HandS.Wide
import HandS.WideBits
import HandS.IsInst
import HandS.NoneIn
import HandS.Walk
import HandS.SortInts
import HandS.Style
import HandS.Flow
import HandS.FStr
import HandS.Conv
import HandS.Finally
import HandS.More
import HandS.TupAny
import HandS.SortKw
import KE.DataMinKey
import HandS.TryMany
import HandS.WordsExc
import HandS.SuiteRaise
import PySem.Challenge.RW_frothwane_k22_whole_far_deeds
set_option Elab.async false
set_option linter.all false
set_option maxRecDepth 100000
set_option maxHeartbeats 4000000
namespace Fw
open PySem L2
/-! Fw: short words over the hand layer: readings by steps. -/
/-- nothing tracked stands there -/
def Free (H : Hp) (p : Addr) : Prop := H p = none
section
variable {σ : St} {H : Hp} {Q : VK} {nx bk ct : St → Hp → Prop} {rt : VK}
/-! ### statements -/
theorem r_seq {t u : TS} (h : t ⟨u ⟨nx, rt, bk, ct⟩, rt, bk, ct⟩ σ H) : tSeq t u ⟨nx, rt, bk, ct⟩ σ H := h
theorem r_asg {te : TE} {i : Nat} (h : te σ H (fun x H1 => nx (σ.set i (some x)) H1)) : tAsg te (gName i) ⟨nx, rt, bk, ct⟩ σ H := h
theorem r_asgG {te : TE} {g : TG} (h : te σ H (fun x H1 => g x σ H1 nx)) : tAsg te g ⟨nx, rt, bk, ct⟩ σ H := h
theorem r_ret {te : TE} (h : te σ H rt) : tRet te ⟨nx, rt, bk, ct⟩ σ H := h
theorem r_if {c : TT} {t u : TS} {D : Ends} (h : c σ H (fun b H1 => if b = true then t D σ H1 else u D σ H1)) : tIfS c t u D σ H := h
theorem r_next (h : nx σ H) : tNext ⟨nx, rt, bk, ct⟩ σ H := h
theorem r_drop {te : TE} (h : te σ H (fun _ H1 => nx σ H1)) : tDrop te ⟨nx, rt, bk, ct⟩ σ H := h
theorem r_par {ta : TA} {i j : Nat} (h : ta σ H (fun vs H1 => ∃ v w, vs = [v, w] ∧ nx ((σ.set i (some v)).set j (some w)) H1)) : tPar i j ta ⟨nx, rt, bk, ct⟩ σ H := h
theorem r_par2 {v w : V} {P : V → V → Prop} (h : P v w) : ∃ v' w', [v, w] = [v', w'] ∧ P v' w' := ⟨v, w, rfl, h⟩
theorem r_aug {te : TE} {ti : TIp} {i : Nat} {x : V} (hx : σ[i]? = some (some x)) (h : te σ H fun y H1 => ti x y H1 fun z H2 => nx (σ.set i (some z)) H2) : tAug i te ti ⟨nx, rt, bk, ct⟩ σ H := ⟨x, hx, h⟩
/-! ### expressions -/
theorem r_var {i : Nat} {v : V} (e : σ[i]? = some (some v)) (h : Q v H) : tVar i σ H Q := ⟨v, e, h⟩
theorem r_c {v : V} (h : Q v H) : tC v σ H Q := h
theorem r_op {r : R2} {ta tb : TE} (h : ta σ H fun x H1 => tb σ H1 fun y H2 => r x y H2 Q) : tOp r ta tb σ H Q := h
theorem r_un {r : V → Hp → VK → Prop} {ta : TE} (h : ta σ H fun x H1 => r x H1 Q) : tUn r ta σ H Q := h
theorem r_U {g : Int → V} {i : Int} (h : Q (g i) H) : rU g (.int i) H Q := ⟨i, rfl, h⟩
theorem r_I0 {g : Int → Int → V} {i j : Int} (h : Q (g i j) H) : rI0 g (.int i) (.int j) H Q := ⟨i, j, rfl, rfl, h⟩
theorem r_I {C : Int → Int → Prop} {g : Int → Int → V} {i j : Int} (hc : C i j) (h : Q (g i j) H) : rI C g (.int i) (.int j) H Q := ⟨i, j, rfl, rfl, hc, h⟩
theorem r_eq {x y : V} (hs : scal x y = true) (h : Q (.bl (decide (x = y))) H) : rEq x y H Q := ⟨hs, h⟩
theorem r_ne {x y : V} (hs : scal x y = true) (h : Q (.bl (!decide (x = y))) H) : rNe x y H Q := ⟨hs, h⟩
theorem r_nil {R : List V → Hp → Prop} (h : R [] H) : tNil σ H R := h
theorem r_cons {R : List V → Hp → Prop} {ta : TE} {tr : TA} (h : ta σ H fun x H1 => tr σ H1 fun xs H2 => R (x :: xs) H2) : tCons ta tr σ H R := h
theorem r_tup {t : TA} (h : t σ H fun xs H1 => xs.length ≤ sizeLine ∧ ∀ p, Free H1 p → Q (.ref p) (upd H1 p (.tup xs))) : tTup t σ H Q := h
theorem r_lst {t : TA} (h : t σ H fun xs H1 => xs.length ≤ sizeLine ∧ ∀ p, Free H1 p → Q (.ref p) (upd H1 p (.lst xs))) : tLst t σ H Q := h
theorem r_call {sp : Sp} {E : XK} {t : TA} (h : t σ H fun vs H1 => sp vs H1 Q E) : tCall sp [] E t σ H Q := by
  unfold tCall
  have e : (fun (vs : List V) (H1 : Hp) => sp (vs ++ []) H1 Q E) = fun vs H1 => sp vs H1 Q E := by
    funext vs H1
    rw [List.append_nil]
  rw [e]
  exact h
theorem r_cb {r : List V → Hp → VK → Prop} {t : TA} (h : t σ H fun vs H1 => r vs H1 Q) : tCB r t σ H Q := h
/-! ### tests -/
variable {R : Bool → Hp → Prop}
theorem r_test {t : TE} (h : t σ H fun x H1 => ∃ k, x = .bl k ∧ R k H1) : tTest t σ H R := h
theorem r_B {t : TE} (h : t σ H fun x H1 => ∃ k, x = .bl k ∧ R k H1) : tB t σ H R := h
theorem r_bl {b : Bool} {P : Bool → Prop} (h : P b) : ∃ k, V.bl b = .bl k ∧ P k := ⟨b, rfl, h⟩
theorem r_and {t u : TT} (h : t σ H fun c H1 => if c = true then u σ H1 R else R false H1) : tAnd t u σ H R := h
theorem r_or {t u : TT} (h : t σ H fun c H1 => if c = true then R true H1 else u σ H1 R) : tOr t u σ H R := h
theorem r_not {t : TT} (h : t σ H fun c H1 => R (!c) H1) : tNot t σ H R := h
theorem r_andV {ta tb : TE} (h : ta σ H fun x H1 => ∃ c, x = .bl c ∧ if c = true then tb σ H1 Q else Q (.bl false) H1) : tAndV ta tb σ H Q := h
theorem r_orV {ta tb : TE} (h : ta σ H fun x H1 => ∃ c, x = .bl c ∧ if c = true then Q (.bl true) H1 else tb σ H1 Q) : tOrV ta tb σ H Q := h
theorem r_notV {ta : TE} (h : ta σ H fun x H1 => ∃ c, x = .bl c ∧ Q (.bl (!c)) H1) : tNotV ta σ H Q := h
theorem r_ifE {t : TT} {ta tb : TE} (h : t σ H fun c H1 => if c = true then ta σ H1 Q else tb σ H1 Q) : tIf t ta tb σ H Q := h
/-! ### branches -/
theorem iteD {c A B : Prop} [Decidable c] (h1 : c → A) (h2 : ¬ c → B) : if decide c = true then A else B := by
  by_cases h : c
  · rw [decide_eq_true h, if_pos rfl]; exact h1 h
  · rw [decide_eq_false h, if_neg Bool.false_ne_true]; exact h2 h
theorem iteN {c A B : Prop} [Decidable c] (h1 : ¬ c → A) (h2 : c → B) : if (!decide c) = true then A else B := by
  by_cases h : c
  · rw [decide_eq_true h, Bool.not_true, if_neg Bool.false_ne_true]; exact h2 h
  · rw [decide_eq_false h, Bool.not_false, if_pos rfl]; exact h1 h
theorem iteI {a b : Int} {A B : Prop} (h1 : a = b → A) (h2 : a ≠ b → B) : if decide (V.int a = V.int b) = true then A else B :=
  iteD (fun h => h1 (by injection h)) (fun h => h2 fun e => h (by rw [e]))
theorem iteNI {a b : Int} {A B : Prop} (h1 : a ≠ b → A) (h2 : a = b → B) : if (!decide (V.int a = V.int b)) = true then A else B :=
  iteN (fun h => h1 fun e => h (by rw [e])) (fun h => h2 (by injection h))
theorem iteNt {A B : Prop} (h : B) : if (!true) = true then A else B := iteF h
theorem iteNf {A B : Prop} (h : A) : if (!false) = true then A else B := iteT h
theorem iteNN {A B : Prop} (h : A) : if decide (V.non = V.non) = true then A else B := iteD (fun _ => h) (fun z => absurd rfl z)
theorem iteRN {a : Addr} {A B : Prop} (h : B) : if decide (V.ref a = V.non) = true then A else B := iteD (fun z => nomatch z) (fun _ => h)
theorem iteNNn {A B : Prop} (h : B) : if (!decide (V.non = V.non)) = true then A else B := iteN (fun z => absurd rfl z) (fun _ => h)
theorem iteRNn {a : Addr} {A B : Prop} (h : A) : if (!decide (V.ref a = V.non)) = true then A else B := iteN (fun _ => h) (fun z => nomatch z)
theorem iteB {b : Bool} {A B : Prop} (h1 : b = true → A) (h2 : b = false → B) : if b = true then A else B := by
  cases b with
  | true => rw [if_pos rfl]; exact h1 rfl
  | false => rw [if_neg Bool.false_ne_true]; exact h2 rfl
theorem iteNB {b : Bool} {A B : Prop} (h1 : b = false → A) (h2 : b = true → B) : if (!b) = true then A else B := by
  cases b with
  | true => exact iteF (h2 rfl)
  | false => exact iteT (h1 rfl)
/-! ### loops -/
/-- a for over whatever walks -/
theorem r_for {wi : TI} {g : TG} {tb : TS} (h : wi σ H fun J H1 => ∃ W : Nat → Nat → St → Hp → Prop, (∃ m, W 0 m σ H1) ∧ ∀ i m σ H, W i m σ H →
    (J.stop i H ∧ nx σ H) ∨ (J.go i H ∧ ∃ N : St → Hp → Prop, (∀ σ' H', N σ' H' → ∃ m', m' < m ∧ W (i + 1) m' σ' H') ∧ ∀ x H', J.yld i H x H' → g x σ H' fun σ2 H2 => tb ⟨N, rt, nx, N⟩ σ2 H2)) :
    tFor wi g tb ⟨nx, rt, bk, ct⟩ σ H := h
/-- .. by an invariant -/
theorem r_it {J : It} {n : Nat} {G : Hp → Prop} {Y : Nat → Hp → V → Hp → Prop} (w : Walk J n G Y) {g : TG} {tb : TS} (Pv : Nat → St → Hp → Prop) (h0 : Pv 0 σ H) (hG : ∀ i σ H, i ≤ n → Pv i σ H → G H)
    (hs : ∀ i x σ H H', i < n → Pv i σ H → Y i H x H' → g x σ H' fun σ2 H2 => tb ⟨Pv (i + 1), rt, nx, Pv (i + 1)⟩ σ2 H2) (hd : ∀ σ H, Pv n σ H → nx σ H) :
    ∃ W : Nat → Nat → St → Hp → Prop, (∃ m, W 0 m σ H) ∧ ∀ i m σ H, W i m σ H →
      (J.stop i H ∧ nx σ H) ∨ (J.go i H ∧ ∃ N : St → Hp → Prop, (∀ σ' H', N σ' H' → ∃ m', m' < m ∧ W (i + 1) m' σ' H') ∧ ∀ x H', J.yld i H x H' → g x σ H' fun σ2 H2 => tb ⟨N, rt, nx, N⟩ σ2 H2) :=
  for_it (D := ⟨nx, rt, fun _ _ => False, fun _ _ => False⟩) w Pv h0 hG hs hd
/-! ### targets -/
theorem g_name {i : Nat} {v : V} {R : St → Hp → Prop} (h : R (σ.set i (some v)) H) : gName i v σ H R := h
theorem g_nil {R : St → Hp → Prop} (h : R σ H) : gNil [] σ H R := ⟨rfl, h⟩
theorem g_cons {t : TG} {u : TGs} {v : V} {r : List V} {R : St → Hp → Prop} (h : t v σ H fun σ' H' => u r σ' H' R) : gCons t u (v :: r) σ H R := ⟨v, r, rfl, h⟩
theorem g_tup {K : PySem.W.Frag} {n : Nat} {t : TGs} {a : Addr} {xs : List V} {R : St → Hp → Prop} (ha : SqT K H a xs) (hl : xs.length = n) (h : t xs σ H R) : gTup K n t (.ref a) σ H R := ⟨a, xs, rfl, ha, hl, h⟩
theorem g_unl {K : PySem.W.Frag} {n : Nat} {t : TGs} {a : Addr} {xs : List V} {R : St → Hp → Prop} (ha : SqL K H a xs) (hl : xs.length = n) (h : t xs σ H R) : gUnl K n t (.ref a) σ H R := ⟨a, xs, rfl, ha, hl, h⟩
end
/-! ### a statement, then the rest, with a word between them -/
def tCut (t u : TS) : TS := fun D σ H => ∃ Mid : St → Hp → Prop, t { D with nx := Mid } σ H ∧ ∀ σ' H', Mid σ' H' → u D σ' H'
theorem pss_cut {X : Cx} {st : Stmt} {rest : List Stmt} {t u : TS} (h1 : PS X st t) (h2 : PSs X rest u) : PSs X (st :: rest) (tCut t u) := by
  refine ⟨fun pins s σ H D I h => ?_⟩
  obtain ⟨Mid, h, k⟩ := h
  refine wpAny_execs_cons (thn (h1.run pins s σ H { D with nx := Mid } I h) fun f s1 q => ?_)
  cases f with
  | next =>
    obtain ⟨σ', H', I', q⟩ := q
    exact h2.run pins s1 σ' H' D I' (k σ' H' q)
  | ret v => exact q
  | brk => exact q
  | cont => exact q
theorem r_cut {σ : St} {H : Hp} {nx bk ct : St → Hp → Prop} {rt : VK} {t u : TS} (Mid : St → Hp → Prop) (h1 : t ⟨Mid, rt, bk, ct⟩ σ H) (h2 : ∀ σ' H', Mid σ' H' → u ⟨nx, rt, bk, ct⟩ σ' H') : tCut t u ⟨nx, rt, bk, ct⟩ σ H := ⟨Mid, h1, h2⟩
/-! ### readings by name -/
abbrev rAddI : R2 := rI0 fun i j => .int (i + j)
abbrev rSubI : R2 := rI0 fun i j => .int (i - j)
abbrev rMulI : R2 := rI CMul fun i j => .int (i * j)
abbrev rDivW : R2 := rI CDivW fun i j => .int (i / j)
abbrev rModI : R2 := rI (fun _ j => 0 < j) fun i j => .int (i % j)
abbrev rPowI : R2 := rI CPow fun i j => .int (i ^ j.toNat)
abbrev rLtI : R2 := rI0 fun i j => .bl (decide (i < j))
abbrev rGeI : R2 := rI0 fun i j => .bl (decide (j ≤ i))
abbrev rNegI : V → Hp → VK → Prop := rU fun i => .int (-i)
def rIsN : R2 := fun x y H Q => y = .non ∧ Q (.bl (decide (x = .non))) H
def rNotN : R2 := fun x y H Q => y = .non ∧ Q (.bl (!decide (x = .non))) H
def rAbs : List V → Hp → VK → Prop := fun xs H Q => ∃ i, xs = [.int i] ∧ Q (.int (if i < 0 then -i else i)) H
def rMax2 : List V → Hp → VK → Prop := fun xs H Q => ∃ i j, xs = [.int i, .int j] ∧ Q (.int (if j > i then j else i)) H
def rMin2 : List V → Hp → VK → Prop := fun xs H Q => ∃ i j, xs = [.int i, .int j] ∧ Q (.int (if j < i then j else i)) H
def rLenSeq (K : PySem.W.Frag) : List V → Hp → VK → Prop := fun xs H Q => ∃ p ys, xs = [.ref p] ∧ (SqL K H p ys ∨ SqT K H p ys) ∧ Q (.int ys.length) H
def rListOf (K : PySem.W.Frag) : List V → Hp → VK → Prop := fun xs H Q => ∃ p ys, xs = [.ref p] ∧ (SqL K H p ys ∨ SqT K H p ys) ∧ ∀ l, H l = none → Q (.ref l) (upd H l (.lst ys))
section
variable {σ : St} {H : Hp} {Q : VK} {K : PySem.W.Frag}
theorem r_isN {x : V} (h : Q (.bl (decide (x = .non))) H) : rIsN x .non H Q := ⟨rfl, h⟩
theorem r_notN {x : V} (h : Q (.bl (!decide (x = .non))) H) : rNotN x .non H Q := ⟨rfl, h⟩
theorem r_abs {i : Int} (h : Q (.int (if i < 0 then -i else i)) H) : rAbs [.int i] H Q := ⟨i, rfl, h⟩
theorem r_max2 {i j : Int} (h : Q (.int (if j > i then j else i)) H) : rMax2 [.int i, .int j] H Q := ⟨i, j, rfl, h⟩
theorem r_min2 {i j : Int} (h : Q (.int (if j < i then j else i)) H) : rMin2 [.int i, .int j] H Q := ⟨i, j, rfl, h⟩
theorem r_lenL {p : Addr} {ys : List V} (hs : SqL K H p ys) (h : Q (.int ys.length) H) : rLenSeq K [.ref p] H Q := ⟨p, ys, rfl, .inl hs, h⟩
theorem r_lenT {p : Addr} {ys : List V} (hs : SqT K H p ys) (h : Q (.int ys.length) H) : rLenSeq K [.ref p] H Q := ⟨p, ys, rfl, .inr hs, h⟩
theorem r_listL {p : Addr} {ys : List V} (hs : SqL K H p ys) (h : ∀ l, Free H l → Q (.ref l) (upd H l (.lst ys))) : rListOf K [.ref p] H Q := ⟨p, ys, rfl, .inl hs, h⟩
theorem r_listT {p : Addr} {ys : List V} (hs : SqT K H p ys) (h : ∀ l, Free H l → Q (.ref l) (upd H l (.lst ys))) : rListOf K [.ref p] H Q := ⟨p, ys, rfl, .inr hs, h⟩
theorem r_ixL {p : Addr} {xs : List V} {i : Int} {v : V} (hs : SqL K H p xs) (ha : atI xs i = some v) (h : Q v H) : rIxL K (.ref p) (.int i) H Q := ⟨p, xs, i, v, rfl, rfl, hs, ha, h⟩
theorem r_ixT {p : Addr} {xs : List V} {i : Int} {v : V} (hs : SqT K H p xs) (ha : atI xs i = some v) (h : Q v H) : rIxT K (.ref p) (.int i) H Q := ⟨p, xs, i, v, rfl, rfl, hs, ha, h⟩
end
/-! ### heaps -/
section
variable {H H1 : Hp} {p q : Addr} {o u : HO}
theorem same_new (s : Same H H1) (h : Free H1 p) : Same H (upd H1 p o) := fun b x e => by
  have z := s b x e
  rw [upd_ne (ne_of_none z h)]
  exact z
theorem same_mut (s : Same H H1) (h : Free H p) : Same H (upd H1 p o) := fun b x e => by
  rw [upd_ne (ne_of_none e h)]
  exact s b x e
theorem at_new (h : H q = some u) (hp : Free H p) : upd H p o q = some u := by
  rw [upd_ne (ne_of_none h hp)]
  exact h
theorem at_ne (h : H q = some u) (hp : q ≠ p) : upd H p o q = some u := by
  rw [upd_ne hp]
  exact h
theorem same_tup {K : PySem.W.Frag} {a : Addr} {xs : List V} (e : Same H H1) (h : SqT K H a xs) : SqT K H1 a xs := by
  rcases h with (h | ⟨o, h⟩) | h
  · exact .inl (.inl (e _ _ h))
  · exact .inl (.inr ⟨o, e _ _ h⟩)
  · exact .inr h
theorem same_rd {a : Addr} (e : Same H H1) (h : Rd H a u) : Rd H1 a u := by
  rcases h with h | ⟨o, h⟩
  · exact .inl (e _ _ h)
  · exact .inr ⟨o, e _ _ h⟩
end
/-! ### facts of a heap, looked for: the fact first, then that it is kept -/
section
variable {H H' H0 : Hp} {a p q : Addr} {o u u0 : HO} {K : PySem.W.Frag} {xs ys : List V}
theorem back_new (hp : Free H p) (h : H a = some u) : upd H p o a = some u := at_new h hp
theorem back_ne (hn : a ≠ p) (h : H a = some u) : upd H p o a = some u := at_ne h hn
theorem back_same (s : Same H H') (h : H a = some u) : H' a = some u := s a u h
theorem ne_fresh (h : H a = some u) (h0 : Free H p) : a ≠ p := ne_of_none h h0
theorem ne_fresh' (h : H p = some u) (h0 : Free H a) : a ≠ p := (ne_of_none h h0).symm
theorem lst_same (s : Same H H') (h : SqL K H a xs) : SqL K H' a xs := s.seq h
def KeepT (K : PySem.W.Frag) (H0 H : Hp) (a : Addr) (xs : List V) : Prop := SqT K H0 a xs → SqT K H a xs
theorem keepT_refl : KeepT K H H a xs := fun h => h
theorem keepT_new (hp : Free H p) (k : KeepT K H0 H a xs) : KeepT K H0 (upd H p o) a xs := fun h => same_tup (same_new (Same.refl H) hp) (k h)
theorem keepT_same (s : Same H H') (k : KeepT K H0 H a xs) : KeepT K H0 H' a xs := fun h => same_tup s (k h)
theorem keepT_mut (hp : H p = some u) (hm : Mut (some u)) (k : KeepT K H0 H a xs) : KeepT K H0 (upd H p o) a xs := fun h => by
  rcases k h with (h | ⟨ob, h⟩) | h
  · exact .inl (.inl (at_ne h fun e => by subst e; rw [hp] at h; cases h; exact hm))
  · exact .inl (.inr ⟨ob, at_ne h fun e => by subst e; rw [hp] at h; cases h; exact hm⟩)
  · exact .inr h
theorem tup_keep (h : SqT K H0 a xs) (k : KeepT K H0 H a xs) : SqT K H a xs := k h
theorem free_of (s : Same H0 H) (h : Free H p) : Free H0 p := s.free h
theorem same_tr {H1 : Hp} (t : Same H1 H') (s : Same H H1) : Same H H' := s.trans t
end
theorem size1000 {n : Nat} (h : n ≤ 1000000) : n ≤ sizeLine := Nat.le_trans h (by decide)
theorem size1000l {n : Nat} (h : n < 1000000) : n < sizeLine := Nat.lt_of_lt_of_le h (by decide)
theorem log2_mono {a b : Nat} (h : a ≤ b) : a.log2 ≤ b.log2 := by
  by_cases ha : a = 0
  · subst ha; rw [Nat.log2_zero]; exact Nat.zero_le _
  · have hb : b ≠ 0 := by omega
    have h1 := Nat.log2_self_le ha
    have h2 := (Nat.log2_lt hb (k := b.log2 + 1)).mp (Nat.lt_succ_self _)
    exact Nat.lt_succ_iff.mp ((Nat.log2_lt ha).mpr (Nat.lt_of_le_of_lt h h2))
theorem divW_le {i z : Int} (B : Nat) (h0 : 0 < z) (h1 : z ≤ (B : Int)) (hB : B.log2 < 9000) : CDivW i z :=
  ⟨h0, Nat.lt_of_le_of_lt (log2_mono (show z.natAbs ≤ B by omega)) hB⟩
theorem map_get {α β : Type} {f : α → β} {l : List α} {i : Nat} {y : β} (h : (l.map f)[i]? = some y) : ∃ x, l[i]? = some x ∧ y = f x := by
  rw [List.getElem?_map] at h
  cases e : l[i]? with
  | none => rw [e] at h; cases h
  | some x => rw [e] at h; exact ⟨x, rfl, (Option.some.inj h).symm⟩
/-- a list just grown -/
theorem r_append {K : PySem.W.Frag} {σ : St} {H : Hp} {Q : VK} {l : Addr} {xs : List V} {tr : TA} (hl : H l = some (.lst xs)) (h : tr σ H fun vs H2 => rAppend (.ref l) vs H2 Q) :
    tyV K "list" (.ref l) H ∧ tr σ H fun vs H2 => rAppend (.ref l) vs H2 Q := ⟨Or.inl ⟨rfl, xs, SqL.of hl⟩, h⟩
theorem r_bm {K : PySem.W.Frag} {T : String} {r : V → List V → Hp → VK → Prop} {to : TE} {t : TA} {σ : St} {H : Hp} {Q : VK} (h : to σ H fun x H1 => tyV K T x H1 ∧ t σ H1 fun xs H2 => r x xs H2 Q) : tBM K T r to t σ H Q := h
theorem r_app {H : Hp} {Q : VK} {l : Addr} {xs : List V} {y : V} (hl : H l = some (.lst xs)) (hz : xs.length < sizeLine) (h : Q .non (upd H l (.lst (xs ++ [y])))) : rAppend (.ref l) [y] H Q := ⟨l, xs, y, rfl, rfl, hl, hz, h⟩
theorem dp_ints {K : PySem.W.Frag} {H : Hp} : ∀ ns : List Int, DpAll K H (ns.map V.int) (ns.map PyData.int)
  | [] => .nil
  | n :: r => .cons (.int n) (dp_ints r)
theorem r_eqD {K : PySem.W.Frag} {H : Hp} {Q : VK} {x y : V} {d e : PyData} (hd : Dp K H x d) (he : Dp K H y e) (sd : SeqAt.shaped d = true) (se : SeqAt.shaped e = true) (h : Q (.bl (PyData.eqv d e)) H) : rEqD K x y H Q := ⟨d, e, hd, he, sd, se, h⟩
theorem r_neD {K : PySem.W.Frag} {H : Hp} {Q : VK} {x y : V} {d e : PyData} (hd : Dp K H x d) (he : Dp K H y e) (sd : SeqAt.shaped d = true) (se : SeqAt.shaped e = true) (h : Q (.bl (!PyData.eqv d e)) H) : rNeD K x y H Q := ⟨d, e, hd, he, sd, se, h⟩
/-! ### f-strings -/
def tJoin (ts : List TE) : TE := fun σ H Q => tJs ts Str.empty σ H fun out H1 => Q (.str out) H1
section
variable {σ : St} {H : Hp} {Q : VK}
theorem r_join {ts : List TE} (h : tJs ts Str.empty σ H fun out H1 => Q (.str out) H1) : tJoin ts σ H Q := h
theorem r_jsNil {acc : Str} {R : Str → Hp → Prop} (h : R acc H) : tJs [] acc σ H R := h
theorem r_jsCons {t : TE} {ts : List TE} {acc : Str} {R : Str → Hp → Prop} (h : t σ H fun x H1 => ∃ y : Str, x = .str y ∧ (acc ++ y).length ≤ sizeLine ∧ tJs ts (acc ++ y) σ H1 R) : tJs (t :: ts) acc σ H R := h
theorem r_fmt {te : TE} (h : te σ H fun x H1 => (∃ y : Str, x = .str y ∧ y.length ≤ sizeLine ∧ Q (.str y) H1) ∨ ∃ i : Int, x = .int i ∧ i.natAbs.log2 < 1920 ∧ Q (.str (toString i)) H1) : tFmt te σ H Q := h
end
/-! ### in, ranges, op= -/
section
variable {H : Hp} {Q : VK} {K : PySem.W.Frag}
theorem r_ipI {f : Int → Int → Int} {i j : Int} (h : Q (.int (f i j)) H) : ipI f (.int i) (.int j) H Q := ⟨i, j, rfl, rfl, h⟩
theorem r_inT {neg : Bool} {x : V} {p : Addr} {xs : List V} (hs : SqT K H p xs) (hx : flatV x = true) (hf : xs.all flatV = true) (h : Q (.bl (if neg then !inV x xs else inV x xs)) H) : rIn K neg x (.ref p) H Q := ⟨p, xs, rfl, .inr hs, hx, hf, h⟩
theorem r_inL {neg : Bool} {x : V} {p : Addr} {xs : List V} (hs : SqL K H p xs) (hx : flatV x = true) (hf : xs.all flatV = true) (h : Q (.bl (if neg then !inV x xs else inV x xs)) H) : rIn K neg x (.ref p) H Q := ⟨p, xs, rfl, .inl hs, hx, hf, h⟩
theorem r_rng {j : Int} {R : Int → Prop} (h1 : -4611686018427387904 ≤ j) (h2 : j < 4611686018427387904) (h : R j) : ∃ j' : Int, [V.int j] = [.int j'] ∧ -4611686018427387904 ≤ j' ∧ j' < 4611686018427387904 ∧ R j' := ⟨j, rfl, h1, h2, h⟩
end
theorem inV_ints (k : Int) (ks : List Int) : inV (.int k) (ks.map V.int) = ks.any (fun y => y == k) := by
  unfold inV
  induction ks with
  | nil => rfl
  | cons a r ih => rw [List.map_cons, List.any_cons, List.any_cons, ih]; rfl
/-! ### what is walked -/
section
variable {σ : St} {H : Hp} {K : PySem.W.Frag} {R : It → Hp → Prop}
theorem r_iEnum {ta : TA} (h : ta σ H fun vs H1 => ∃ a xs, vs = [.ref a] ∧ SqL K H1 a xs ∧ R (Ite K a) H1) : iEnum K ta σ H R := h
theorem r_iList {tl : TE} (h : tl σ H fun x H1 => ∃ a, x = .ref a ∧ (∃ xs, SqL K H1 a xs) ∧ R (Itl K a) H1) : iList K tl σ H R := h
theorem r_iTup {tl : TE} (h : tl σ H fun x H1 => ∃ a, x = .ref a ∧ (∃ xs, SqT K H1 a xs) ∧ R (Itt K a) H1) : iTup K tl σ H R := h
theorem r_iRng1 {ta : TA} (h : ta σ H fun vs H1 => ∃ j : Int, vs = [.int j] ∧ -(2 ^ 62) ≤ j ∧ j < 2 ^ 62 ∧ R (Itr 0 j.toNat) H1) : iRng1 ta σ H R := h
theorem r_iZip {ta : TA} (h : ta σ H fun vs H1 => ∃ a b xs ys, vs = [.ref a, .ref b] ∧ SqL K H1 a xs ∧ SqL K H1 b ys ∧ R (Itz K a b) H1) : iZip K ta σ H R := h
end
/-! ### isinstance -/
section
variable {H : Hp} {Q : VK} {K : PySem.W.Frag}
theorem isi_int {i : Int} (h : Q (.bl true) H) : rIsi K [.int i, .ty "int"] H Q := ⟨_, _, _, _, true, rfl, .ty _, .base (.int i), kit_ty (by decide +kernel), h⟩
theorem isi_intb {i : Int} (h : Q (.bl false) H) : rIsi K [.int i, .ty "bool"] H Q := ⟨_, _, _, _, false, rfl, .ty _, .base (.int i), kit_ty (by decide +kernel), h⟩
theorem isi_bool {b : Bool} (h : Q (.bl true) H) : rIsi K [.bl b, .ty "bool"] H Q := ⟨_, _, _, _, true, rfl, .ty _, .base (.bl b), kit_ty (by decide +kernel), h⟩
theorem isi_str {z : Str} (h : Q (.bl true) H) : rIsi K [.str z, .ty "str"] H Q := ⟨_, _, _, _, true, rfl, .ty _, .base (.str z), kit_ty (by decide +kernel), h⟩
theorem isi_tup {a : Addr} {xs : List V} (e : H a = some (.tup xs)) (h : Q (.bl true) H) : rIsi K [.ref a, .ty "tuple"] H Q := ⟨_, _, _, _, true, rfl, .ty _, .base (.tup e), kit_ty (by decide +kernel), h⟩
theorem isi_lst {a : Addr} {xs : List V} (e : H a = some (.lst xs)) (h : Q (.bl true) H) : rIsi K [.ref a, .ty "list"] H Q := ⟨_, _, _, _, true, rfl, .ty _, .base (.lst e), kit_ty (by decide +kernel), h⟩
theorem isi_dict {a : Addr} {xs : List (Key × V)} (e : H a = some (.dK xs)) (h : Q (.bl true) H) : rIsi K [.ref a, .ty "dict"] H Q := ⟨_, _, _, _, true, rfl, .ty _, .base (.dK e), kit_ty (by decide +kernel), h⟩
end
/-! ### defs -/
structure Gx where
  K : PySem.W.Frag
  ad : Str → Addr
/-- a def of the top as it stands -/
def FnIs (K : PySem.W.Frag) (mg : Str → Option Value) (x : Str) (st : Stmt) (ps : List Str) : Prop := ∃ (f : Addr) (fd : FuncData), mg x = some (.ref f) ∧ Fun K x x st f fd ∧ Binds K fd ps []
/-- a def with its promise -/
def Df (P : Program) (w : World) (K : PySem.W.Frag) (mg : Str → Option Value) (base : Heap) (CX : CXT) (x : Str) (k : Nat) (ps : List Str) (sp : Sp) : Prop :=
  ∃ (f : Addr) (fd : FuncData), mg x = some (.ref f) ∧ PySem.W.keepIn K (.ref f) = true ∧ Binds K fd ps [] ∧ FnOk P w K mg base CX k f fd ps sp
section
variable {P : Program} {w : World} {K : PySem.W.Frag} {mg : Str → Option Value} {base : Heap}
theorem Df.of {x : Str} {st : Stmt} {N ps : List Str} {k : Nat} {sp : Sp} (F : FnIs K mg x st ps) (S : FnScope N ps (defScope st)) (len : ∀ vs H Q E, sp vs H Q E → vs.length = ps.length)
    (hbody : ∀ (f : Addr) (cdv : Value) (A : Around) (outer : List Env) (s : Shared) (H : Hp) (vs : List V) (Q : VK) (E : XK), Room k (A.deeper (PyProof.Rows.envOfC x (defScope st) s.heap.objs.size f cdv)) → sp vs H Q E →
      ∃ t, PSs (cxOf CX0 P w K mg base N x (defScope st) f cdv A outer s H E).nox (defBody st) t ∧ t ⟨fun _ H' => Q .non H', Q, fun _ _ => False, fun _ _ => False⟩ (start N vs) H) : Df P w K mg base CX0 x (k + 1) ps sp := by
  obtain ⟨f, fd, hm, hf, hb⟩ := F
  exact ⟨f, fd, hm, hf.kp, hb, hf.ok S len fun cdv A outer s H vs Q E hr h => hbody f cdv A outer s H vs Q E hr h⟩
theorem fnis_mk {h : Heap} {x : Str} {st : Stmt} {ps : List Str} {f : Addr} {oc : Value} {od an : Option Addr} {osl : Array (Option Value)} {kV doc pm cdv ct : Value} (X : K.In h) (G : h.Ns mainGlobals mg) (a : PySem.W.nsIn K mainGlobals x = some (some (.ref f)))
    (l : K.lookup f = some ⟨oc, od, .func (PySem.W.fnOf x x (defArgs st) (defBody st) (defScope st) .none kV doc pm an cdv ct), osl⟩) (c : PySem.W.codeIn K cdv x = true) (k : PySem.W.keepIn K (.ref f) = true)
    (hb : ∀ (kV doc pm : Value) (an : Option Addr) (cdv ct : Value) (us : List Value), us.length = ps.length → bindArgs (PySem.W.fnOf x x (defArgs st) (defBody st) (defScope st) .none kV doc pm an cdv ct) ⟨us, []⟩ = pure (ps.zip us)) : FnIs K mg x st ps :=
  ⟨f, _, PySem.W.mg_of X G a, fun_mk l c k, (fun_mk (st := st) l c k).binds hb⟩
theorem Df.up {CX : CXT} {x : Str} {j k : Nat} {ps : List Str} {sp : Sp} (D : Df P w K mg base CX x j ps sp) (h : j ≤ k) : Df P w K mg base CX x k ps sp := by
  obtain ⟨f, fd, hm, hk, hb, ok⟩ := D
  exact ⟨f, fd, hm, hk, hb, ok.mono h⟩
end
section
variable {X : Cx} {CX : CXT} {j k : Nat} {ps : List Str} {sp : Sp} {E : XK} {x : Str} {p pos : Pos} {e : Expr} {es : List Expr} {t : TA}
theorem pe_df (D : Df X.prog X.w X.K X.mg X.base CX x k ps sp) (hr : Room j X.A) (hk : k ≤ j) (hx : Passes CX X E) (ha : PA X (e :: es) t) (hg : Gl X x := by rfl) (hdb : (x == ("__debug__" : Str)) = false := by decide)
    (he : starEach (e :: es) X.env = (false, eval e X.env) :: starEach es X.env := by rfl) (hpl : (backTo pos (starEach es X.env)).any (·.1) = false := by rfl) : PE X (.Call (.Name x p) (e :: es) [] pos) (tCall sp [] E t) := by
  obtain ⟨f, fd, hm, hkp, hb, ok⟩ := D
  exact pe_call (ok.mono hk) hr hg hm hkp hb .nil hx ha hdb he hpl
end
local macro_rules | `(tactic| walk_at "sd") => `(tactic| first
  | assumption
  | (show (0 : Int) < _; first | decide | omega)
  | exact Or.inr ⟨by decide, by decide⟩
  | exact Or.inl ⟨by decide, by decide⟩
  | exact ⟨by decide, by decide, by decide⟩
  | exact ⟨by decide, by decide +kernel⟩
  | exact Or.inl ⟨by omega, by omega⟩
  | exact Or.inr ⟨by omega, by omega⟩)
local macro_rules | `(tactic| walk_at "hp1") => `(tactic| first
  | with_reducible assumption
  | with_reducible exact upd_same
  | ((with_reducible refine back_new ?hn ?_); (case hn => with_reducible assumption))
  | ((with_reducible refine back_ne ?hn ?_); (case hn => walk_at "ne"))
  | ((with_reducible refine back_same (H := ?Hb) ?hn ?_); (case hn => with_reducible assumption)))
local macro_rules | `(tactic| walk_at "hp") => `(tactic| ((repeat walk_at "hp1"); done))
local macro_rules | `(tactic| walk_at "ne") => `(tactic| first
  | with_reducible assumption
  | (with_reducible apply Ne.symm; with_reducible assumption)
  | ((with_reducible refine ne_fresh (H := ?Hb) (u := ?ub) ?h1 ?h0); (case h0 => with_reducible assumption); (case h1 => walk_at "hp"))
  | ((with_reducible refine ne_fresh' (H := ?Hb) (u := ?ub) ?h1 ?h0); (case h0 => with_reducible assumption); (case h1 => walk_at "hp")))
local macro_rules | `(tactic| walk_at "fr") => `(tactic| first
  | with_reducible assumption
  | ((with_reducible refine free_of (H := ?Hb) ?hs ?hn); (case hn => with_reducible assumption); (case hs => walk_at "sm")))
local macro_rules | `(tactic| walk_at "sm1") => `(tactic| first
  | with_reducible exact Same.refl _
  | with_reducible assumption
  | ((with_reducible refine same_new ?_ ?hn); (case hn => with_reducible assumption))
  | ((with_reducible refine same_mut ?_ ?hn); (case hn => walk_at "fr"))
  | ((with_reducible refine same_tr (H1 := ?Hb) ?hn ?_); (case hn => with_reducible assumption)))
local macro_rules | `(tactic| walk_at "sm") => `(tactic| ((repeat walk_at "sm1"); done))
local macro_rules | `(tactic| walk_at "kt1") => `(tactic| first
  | with_reducible exact keepT_refl
  | ((with_reducible refine keepT_new ?hn ?_); (case hn => with_reducible assumption))
  | ((with_reducible refine keepT_mut (u := ?ub) ?hn ?hm ?_); (case hn => walk_at "hp"); (case hm => exact True.intro))
  | ((with_reducible refine keepT_same (H := ?Hb) ?hn ?_); (case hn => with_reducible assumption)))
local macro_rules | `(tactic| walk_at "kt") => `(tactic| ((repeat walk_at "kt1"); done))
local macro_rules | `(tactic| walk_at "sq") => `(tactic| first
  | with_reducible assumption
  | ((with_reducible refine SqT.of ?ho); (case ho => walk_at "hp"))
  | ((with_reducible refine SqL.of ?ho); (case ho => walk_at "hp"))
  | ((with_reducible refine tup_keep (H0 := ?Hb) ?hb ?hk); (case hb => with_reducible assumption); (case hk => walk_at "kt"))
  | ((with_reducible refine lst_same (H := ?Hb) ?hs ?hb); (case hb => with_reducible assumption); (case hs => walk_at "sm")))
local macro_rules | `(tactic| walk_at "dp") => `(tactic| first
  | with_reducible exact Dp.int _
  | with_reducible exact Dp.bl _
  | with_reducible exact Dp.str _
  | with_reducible exact Dp.non
  | with_reducible exact DpAll.nil
  | with_reducible exact dp_ints _
  | ((with_reducible refine DpAll.cons (d := ?dd) (ds := ?de) ?d1 ?d2); (case d1 => walk_at "dp"); (case d2 => walk_at "dp"))
  | ((with_reducible refine Dp.tup (xs := ?dx) (ds := ?de) ?ds ?da); (case ds => walk_at "sq"); (case da => walk_at "dp"))
  | ((with_reducible refine Dp.lst (xs := ?dx) (ds := ?de) ?ds ?da); (case ds => walk_at "sq"); (case da => walk_at "dp")))
local macro_rules | `(tactic| walk_at "st") => `(tactic| first
  | with_reducible refine r_seq ?_
  | (with_reducible refine r_asg ?_)
  | ((with_reducible refine r_var (v := ?v) ?hv ?_); (case hv => exact rfl))
  | with_reducible refine r_op ?_
  | with_reducible refine r_c ?_
  | with_reducible refine r_I0 ?_
  | ((with_reducible refine r_I ?hc ?_); (case hc => walk_at "sd"))
  | with_reducible refine r_test ?_
  | with_reducible refine r_bl ?_
  | with_reducible refine r_if ?_
  | with_reducible refine r_next ?_
  | with_reducible refine r_ret ?_
  | with_reducible refine r_cons ?_
  | with_reducible refine r_nil ?_
  | with_reducible refine r_call ?_
  | with_reducible refine r_cb ?_
  | with_reducible refine r_abs ?_
  | with_reducible refine r_max2 ?_
  | with_reducible refine r_min2 ?_
  | with_reducible refine r_un ?_
  | with_reducible refine r_U ?_
  | with_reducible refine r_par ?_
  | with_reducible refine r_par2 ?_
  | with_reducible refine r_B ?_
  | with_reducible refine r_and ?_
  | with_reducible refine r_or ?_
  | with_reducible refine r_not ?_
  | with_reducible refine r_andV ?_
  | with_reducible refine r_orV ?_
  | with_reducible refine r_notV ?_
  | with_reducible refine r_ifE ?_
  | with_reducible refine r_drop ?_
  | with_reducible refine r_tup ?_
  | with_reducible refine r_lst ?_
  | with_reducible refine r_for ?_
  | with_reducible refine g_name ?_
  | with_reducible refine g_nil ?_
  | with_reducible refine g_cons ?_
  | with_reducible refine iteT ?_
  | with_reducible refine iteF ?_
  | with_reducible refine iteNt ?_
  | with_reducible refine iteNf ?_
  | with_reducible refine iteNN ?_
  | with_reducible refine iteRN ?_
  | with_reducible refine iteNNn ?_
  | with_reducible refine iteRNn ?_
  | ((with_reducible refine r_eq ?hs ?_); (case hs => rfl))
  | ((with_reducible refine r_ne ?hs ?_); (case hs => rfl))
  | with_reducible refine r_asgG ?_
  | with_reducible refine r_isN ?_
  | ((with_reducible refine r_ixT (v := ?v) (xs := ?xs) ?hs ?ha ?_); (case hs => walk_at "sq"); (case ha => exact rfl))
  | ((with_reducible refine r_ixL (v := ?v) (xs := ?xs) ?hs ?ha ?_); (case hs => walk_at "sq"); (case ha => exact rfl))
  | with_reducible refine r_bm ?_
  | ((with_reducible refine r_lenL (ys := ?ys) ?hs ?_); (case hs => walk_at "sq"))
  | ((with_reducible refine r_lenT (ys := ?ys) ?hs ?_); (case hs => walk_at "sq"))
  | with_reducible refine isi_int ?_
  | with_reducible refine isi_intb ?_
  | with_reducible refine isi_bool ?_
  | with_reducible refine isi_str ?_
  | ((with_reducible refine isi_tup (xs := ?xs) ?he ?_); (case he => walk_at "hp"))
  | ((with_reducible refine isi_lst (xs := ?xs) ?he ?_); (case he => walk_at "hp"))
  | ((with_reducible refine isi_dict (xs := ?xs) ?he ?_); (case he => walk_at "hp"))
  | ((with_reducible refine r_eqD (d := ?d) (e := ?e) ?h1 ?h2 ?h3 ?h4 ?_); (case h1 => walk_at "dp"); (case h2 => walk_at "dp"); (case h3 => exact rfl); (case h4 => exact rfl))
  | ((with_reducible refine r_neD (d := ?d) (e := ?e) ?h1 ?h2 ?h3 ?h4 ?_); (case h1 => walk_at "dp"); (case h2 => walk_at "dp"); (case h3 => exact rfl); (case h4 => exact rfl))
  | ((with_reducible refine r_inT (xs := ?xs) ?hs ?hx ?hf ?_); (case hs => walk_at "sq"); (case hx => exact rfl); (case hf => exact rfl))
  | ((with_reducible refine r_inL (xs := ?xs) ?hs ?hx ?hf ?_); (case hs => walk_at "sq"); (case hx => exact rfl); (case hf => exact rfl))
  | ((with_reducible refine r_aug (x := ?x) ?hx ?_); (case hx => exact rfl))
  | with_reducible refine r_ipI ?_
  | with_reducible refine r_join ?_
  | with_reducible refine r_jsNil ?_
  | with_reducible refine r_jsCons ?_
  | with_reducible refine r_fmt ?_
  | with_reducible refine r_iEnum ?_
  | with_reducible refine r_iList ?_
  | with_reducible refine r_iTup ?_
  | with_reducible refine r_iRng1 ?_
  | with_reducible refine r_iZip ?_
  | ((with_reducible refine r_append (xs := ?xs) ?hl ?_); (case hl => walk_at "hp"))
  | ((with_reducible refine r_app (xs := ?xs) ?hl ?hz ?_); (case hl => walk_at "hp"); (case hz => walk_at "sz"))
  | with_reducible refine r_notN ?_)
local macro_rules | `(tactic| walk_at "go") => `(tactic| ((repeat walk_at "st"); try dsimp only [List.set, Int.reduceToNat, Int.reducePow]))
local macro_rules | `(tactic| walk_at "sz") => `(tactic| first
  | (refine size1000l ?_; omega)
  | (refine size1000 ?_; omega)
  | (refine size1000 ?_; simp only [List.length_cons, List.length_nil]; decide)
  | (refine size1000l ?_; simp only [List.length_cons, List.length_nil]; decide)
  | (refine size1000 ?_; simp only [List.length_cons, List.length_nil, List.length_map, List.length_append]; omega)
  | (refine size1000l ?_; simp only [List.length_cons, List.length_nil, List.length_map, List.length_append]; omega))
abbrev Body (t : TS) (N : List Str) (vs : List V) (H : Hp) (Q : VK) : Prop := t ⟨fun _ H' => Q .non H', Q, fun _ _ => False, fun _ _ => False⟩ (start N vs) H
/-! ### seed -/
def seed (c : Int) : Int :=
  if 1000000000000000000 ≤ c then c else (c * 48271 + 7919) % 2147483647 * 16807 % 2147483629 * 2147483399 + (c * 69621 + 104729) % 2147483587 * 40692 % 2147483399
def sp_l_seed (G : Gx) : Sp := fun vs H Q _ => ∃ c : Int, vs = [.int c] ∧ Q (.int (seed c)) H
theorem len_l_seed {G : Gx} : ∀ vs H Q E, sp_l_seed G vs H Q E → vs.length = 1 := by rintro vs H Q E ⟨c, rfl, _⟩; rfl
/-! _law_seed: slots _law_cell_here, _law_one, _law_two -/
def t_l_seed (G : Gx) : TS :=
  (tSeq (tIfS (tTest (tOp rGeI (tVar 0) (tOp rPowI (tC (.int 10)) (tC (.int 18))))) (tRet (tVar 0)) tNext)
  (tSeq (tAsg (tOp rModI (tOp rMulI (tOp rModI (tOp rAddI (tOp rMulI (tVar 0) (tC (.int 48271))) (tC (.int 7919))) (tC (.int 2147483647))) (tC (.int 16807))) (tC (.int 2147483629))) (gName 1))
  (tSeq (tAsg (tOp rModI (tOp rMulI (tOp rModI (tOp rAddI (tOp rMulI (tVar 0) (tC (.int 69621))) (tC (.int 104729))) (tC (.int 2147483587))) (tC (.int 40692))) (tC (.int 2147483399))) (gName 2))
  (tRet (tOp rAddI (tOp rMulI (tVar 1) (tC (.int 2147483399))) (tVar 2))))))
theorem pure_l_seed {G : Gx} {vs : List V} {H : Hp} {Q : VK} {E : XK} (h : sp_l_seed G vs H Q E) : Body (t_l_seed G) ["_law_cell_here", "_law_one", "_law_two"] vs H Q := by
  obtain ⟨c, rfl, k⟩ := h
  show t_l_seed G _ [some (.int c), none, none] H
  unfold t_l_seed
  walk_at "go"
  refine iteD (fun h => ?_) (fun h => ?_)
  · walk_at "go"
    unfold seed at k
    rw [if_pos h] at k
    exact k
  · have e1 : (0 : Int) ≤ (c * 48271 + 7919) % 2147483647 := Int.emod_nonneg _ (by decide)
    have e2 : (c * 48271 + 7919) % 2147483647 < 2147483647 := Int.emod_lt_of_pos _ (by decide)
    walk_at "go"
    unfold seed at k
    rw [if_neg h] at k
    exact k
/-! ### digits -/
def digSt (c : Int) (zs : List Int) : Nat → Int × List Int
  | 0 => (seed c, [])
  | i + 1 =>
    let s := digSt c zs i
    let z := zs.getD i 1
    let r := if s.1 < z then seed (s.1 + 131 * (i : Int) + c % 1009) else s.1
    (r / z, s.2 ++ [r % z])
def digits (c : Int) (zs : List Int) : List Int := (digSt c zs zs.length).2
theorem digSt_len (c : Int) (zs : List Int) : ∀ i, (digSt c zs i).2.length = i
  | 0 => rfl
  | i + 1 => by
    show ((digSt c zs i).2 ++ [_]).length = i + 1
    rw [List.length_append, digSt_len c zs i]
    rfl
theorem digits_len (c : Int) (zs : List Int) : (digits c zs).length = zs.length := digSt_len c zs _
theorem digSt_get (c : Int) (zs : List Int) : ∀ n j, j < n → ∃ r, (digSt c zs n).2[j]? = some (r % zs.getD j 1)
  | 0, j, h => absurd h (Nat.not_lt_zero _)
  | n + 1, j, h => by
    have hl := digSt_len c zs n
    show ∃ r, ((digSt c zs n).2 ++ [_])[j]? = some (r % zs.getD j 1)
    by_cases e : j = n
    · subst e
      refine ⟨if (digSt c zs j).1 < zs.getD j 1 then seed ((digSt c zs j).1 + 131 * (j : Int) + c % 1009) else (digSt c zs j).1, ?_⟩
      rw [List.getElem?_append_right (by omega), hl, Nat.sub_self]
      rfl
    · rw [List.getElem?_append_left (by omega)]
      exact digSt_get c zs n j (by omega)
theorem digits_get (c : Int) (zs : List Int) (j : Nat) (z : Int) (h : zs[j]? = some z) (hz : 0 < z) : ∃ d, (digits c zs)[j]? = some d ∧ 0 ≤ d ∧ d < z := by
  have hj : j < zs.length := (List.getElem?_eq_some_iff.mp h).1
  obtain ⟨r, e⟩ := digSt_get c zs zs.length j hj
  have ez : zs.getD j 1 = z := by rw [List.getD_eq_getElem?_getD, h]; rfl
  rw [ez] at e
  exact ⟨r % z, e, Int.emod_nonneg _ (by omega), Int.emod_lt_of_pos _ hz⟩
def sp_l_digits (G : Gx) : Sp := fun vs H Q _ => ∃ (c : Int) (a : Addr) (zs : List Int), vs = [.int c, .ref a] ∧ SqL G.K H a (zs.map V.int) ∧ (∀ z ∈ zs, 0 < z ∧ z ≤ (10 : Int) ^ 60) ∧ zs.length ≤ 1000 ∧
  ∀ p H', Same H H' → Free H p → H' p = some (.lst ((digits c zs).map V.int)) → Q (.ref p) H'
theorem len_l_digits {G : Gx} : ∀ vs H Q E, sp_l_digits G vs H Q E → vs.length = 2 := by rintro vs H Q E ⟨c, a, zs, rfl, _⟩; rfl
/-! _law_digits: slots _law_cell_here, _law_sizes, _law_rest, _law_found, _law_k, _law_size -/
def t_l_digits (G : Gx) : TS :=
  (tSeq (tAsg (tCall (sp_l_seed G) [] E0 (tCons (tVar 0) tNil)) (gName 2))
  (tSeq (tAsg (tLst tNil) (gName 3))
  (tSeq (tFor (iEnum G.K (tCons (tVar 1) tNil)) (gTup G.K 2 (gCons (gName 4) (gCons (gName 5) gNil)))
  (tSeq (tIfS (tTest (tOp rLtI (tVar 2) (tVar 5))) (tAsg (tCall (sp_l_seed G) [] E0 (tCons (tOp rAddI (tOp rAddI (tVar 2) (tOp rMulI (tC (.int 131)) (tVar 4))) (tOp rModI (tVar 0) (tC (.int 1009)))) tNil)) (gName 2)) tNext)
  (tSeq (tDrop (tBM G.K "list" rAppend (tVar 3) (tCons (tOp rModI (tVar 2) (tVar 5)) tNil)))
  (tAsg (tOp rDivW (tVar 2) (tVar 5)) (gName 2)))))
  (tRet (tVar 3)))))
theorem div60 {i z : Int} (h0 : 0 < z) (h1 : z ≤ (10 : Int) ^ 60) : CDivW i z := divW_le (10 ^ 60) h0 h1 (by decide +kernel)
theorem pure_l_digits {G : Gx} {vs : List V} {H : Hp} {Q : VK} {E : XK} (h : sp_l_digits G vs H Q E) : Body (t_l_digits G) ["_law_cell_here", "_law_sizes", "_law_rest", "_law_found", "_law_k", "_law_size"] vs H Q := by
  obtain ⟨c, a, zs, rfl, hS, hz, hl, k⟩ := h
  show t_l_digits G _ [some (.int c), some (.ref a), none, none, none, none] H
  unfold t_l_digits
  walk_at "go"
  refine ⟨_, rfl, ?_⟩
  walk_at "go"
  refine ⟨by decide, fun p hp => ?_⟩
  walk_at "go"
  refine ⟨a, zs.map V.int, rfl, (same_new (Same.refl H) hp).seq hS, ?_⟩
  refine r_it walk_enum (fun i σ H' => ∃ u v, σ = [some (.int c), some (.ref a), some (.int (digSt c zs i).1), some (.ref p), u, v] ∧ Same H H' ∧ H' p = some (.lst ((digSt c zs i).2.map V.int)))
    ⟨none, none, rfl, same_new (Same.refl H) hp, upd_same⟩ (fun i σ H' _ ⟨_, _, _, s, _⟩ => s.seq hS) ?_ ?_
  · rintro i x σ H1 H2 hi ⟨u, v, rfl, s, hpl⟩ ⟨T, x1, y1, rfl, hT, rfl, e1, e2⟩
    cases e1
    obtain ⟨z, ez, rfl⟩ := map_get e2
    obtain ⟨hz0, hz1⟩ := hz z (List.mem_of_getElem? ez)
    have eg : zs.getD i 1 = z := by rw [List.getD_eq_getElem?_getD, ez]; rfl
    have hpl2 : upd H1 T (.tup [.int (i : Nat), .int z]) p = some (.lst ((digSt c zs i).2.map V.int)) := at_new hpl hT
    have s2 : Same H (upd H1 T (.tup [.int (i : Nat), .int z])) := same_new s hT
    have hpn : ∀ r : Int, (digSt c zs (i + 1)) = ((if (digSt c zs i).1 < z then seed ((digSt c zs i).1 + 131 * (i : Int) + c % 1009) else (digSt c zs i).1) / z, (digSt c zs i).2 ++ [(if (digSt c zs i).1 < z then seed ((digSt c zs i).1 + 131 * (i : Int) + c % 1009) else (digSt c zs i).1) % z]) := fun _ => by
      show (_, _) = _
      rw [eg]
    refine g_tup (SqT.of upd_same) rfl ?_
    have hln : (digSt c zs i).2.length < 1000000 := by
      rw [digSt_len]
      rw [List.length_map] at hi
      omega
    have fin : ∀ r : Int, r = (if (digSt c zs i).1 < z then seed ((digSt c zs i).1 + 131 * (i : Int) + c % 1009) else (digSt c zs i).1) →
        ∃ u v, [some (V.int c), some (V.ref a), some (V.int (r / z)), some (V.ref p), some (V.int (i : Nat)), some (V.int z)] = [some (.int c), some (.ref a), some (.int (digSt c zs (i + 1)).1), some (.ref p), u, v] ∧
          Same H (upd (upd H1 T (.tup [.int (i : Nat), .int z])) p (.lst ((digSt c zs i).2.map V.int ++ [.int (r % z)]))) ∧ upd (upd H1 T (.tup [.int (i : Nat), .int z])) p (.lst ((digSt c zs i).2.map V.int ++ [.int (r % z)])) p = some (.lst ((digSt c zs (i + 1)).2.map V.int)) := by
      rintro r rfl
      rw [hpn 0]
      refine ⟨_, _, rfl, same_mut s2 hp, ?_⟩
      rw [upd_same, List.map_append]
      rfl
    walk_at "go"
    refine iteD (fun hc => ?_) (fun hc => ?_)
    · walk_at "go"
      refine ⟨_, rfl, ?_⟩
      walk_at "go"
      refine r_I (div60 hz0 hz1) ?_
      exact fin _ (by rw [if_pos hc])
    · walk_at "go"
      refine r_I (div60 hz0 hz1) ?_
      exact fin _ (by rw [if_neg hc])
  · rintro σ H1 ⟨u, v, rfl, s, hpl⟩
    walk_at "go"
    rw [List.length_map] at hpl
    exact k p H1 s hp hpl
/-! ### cell -/
def sp_l_cell (G : Gx) : Sp := fun vs H Q _ => ∃ (a : Addr) (ns : List Int) (j : Nat), vs = [.ref a, .int (j : Int)] ∧ SqL G.K H a (ns.map V.int) ∧ Q (.int (ns.getD j 0)) H
theorem len_l_cell {G : Gx} : ∀ vs H Q E, sp_l_cell G vs H Q E → vs.length = 2 := by rintro vs H Q E ⟨a, ns, j, rfl, _⟩; rfl
/-! _law_cell: slots _law_script, _law_place -/
def t_l_cell (G : Gx) : TS :=
  (tSeq (tIfS (tTest (tOp rLtI (tVar 1) (tCB (rLenSeq G.K) (tCons (tVar 0) tNil)))) (tRet (tOp (rIxL G.K) (tVar 0) (tVar 1))) tNext)
  (tRet (tC (.int 0))))
theorem pure_l_cell {G : Gx} {vs : List V} {H : Hp} {Q : VK} {E : XK} (h : sp_l_cell G vs H Q E) : Body (t_l_cell G) ["_law_script", "_law_place"] vs H Q := by
  obtain ⟨a, ns, j, rfl, hS, k⟩ := h
  show t_l_cell G _ [some (.ref a), some (.int j)] H
  unfold t_l_cell
  walk_at "go"
  rw [List.length_map]
  refine iteD (fun h => ?_) (fun h => ?_)
  · have hj : j < ns.length := by omega
    walk_at "go"
    refine r_ixL hS (atI_nat (v := .int (ns.getD j 0)) ?_) k
    rw [List.getElem?_map, List.getElem?_eq_getElem hj, List.getD_eq_getElem?_getD, List.getElem?_eq_getElem hj]
    rfl
  · walk_at "go"
    have e : ns.getD j 0 = 0 := by rw [List.getD_eq_getElem?_getD, List.getElem?_eq_none (by omega)]; rfl
    rw [e] at k
    exact k
/-! ### whole -/
def sp_l_whole (G : Gx) : Sp := fun vs H Q _ => ∃ (i : Int), vs = [.int i] ∧ Q (.bl true) H
theorem len_l_whole {G : Gx} : ∀ vs H Q E, sp_l_whole G vs H Q E → vs.length = 1 := by rintro vs H Q E ⟨a, rfl, _⟩; rfl
/-! _law_whole: slots _law_thing -/
def t_l_whole (G : Gx) : TS :=
  (tRet (tAndV (tCB (rIsi G.K) (tCons (tVar 0) (tCons (tC (.ty "int")) tNil))) (tNotV (tCB (rIsi G.K) (tCons (tVar 0) (tCons (tC (.ty "bool")) tNil))))))
theorem pure_l_whole {G : Gx} {vs : List V} {H : Hp} {Q : VK} {E : XK} (h : sp_l_whole G vs H Q E) : Body (t_l_whole G) ["_law_thing"] vs H Q := by
  obtain ⟨i, rfl, k⟩ := h
  show t_l_whole G _ [some (.int i)] H
  unfold t_l_whole
  walk_at "go"
  exact k
/-! ### gcd -/
/-! _law_gcd: slots _law_one, _law_two -/
/-! ### common -/
/-! common: slots one, two -/
/-! ### amounts in lowest terms -/
/-! amount: slots num, den, by -/
/-! ### what holds of amt -/
/-! ### call words -/
theorem c_seed {G : Gx} {c : Int} {H : Hp} {Q : VK} {E : XK} (h : Q (.int (seed c)) H) : sp_l_seed G [.int c] H Q E := ⟨c, rfl, h⟩
theorem c_cell {G : Gx} {a : Addr} {ns : List Int} {i : Int} {H : Hp} {Q : VK} {E : XK} (hs : SqL G.K H a (ns.map V.int)) (h0 : 0 ≤ i) (h : Q (.int (ns.getD i.toNat 0)) H) : sp_l_cell G [.ref a, .int i] H Q E :=
  ⟨a, ns, i.toNat, by rw [Int.toNat_of_nonneg h0], hs, h⟩
theorem c_whole {G : Gx} {i : Int} {H : Hp} {Q : VK} {E : XK} (h : Q (.bl true) H) : sp_l_whole G [.int i] H Q E := ⟨i, rfl, h⟩
theorem c_digits3 {G : Gx} {c z0 z1 z2 : Int} {a : Addr} {H : Hp} {Q : VK} {E : XK} (hs : SqL G.K H a [.int z0, .int z1, .int z2]) (hz0 : 0 < z0 ∧ z0 ≤ (10 : Int) ^ 60) (hz1 : 0 < z1 ∧ z1 ≤ (10 : Int) ^ 60) (hz2 : 0 < z2 ∧ z2 ≤ (10 : Int) ^ 60)
    (h : ∀ (d0 d1 d2 : Int) (q : Addr) (H' : Hp), digits c [z0, z1, z2] = [d0, d1, d2] → 0 ≤ d0 → d0 < z0 → 0 ≤ d1 → d1 < z1 → 0 ≤ d2 → d2 < z2 → Same H H' → Free H q → H' q = some (.lst [.int d0, .int d1, .int d2]) → Q (.ref q) H') : sp_l_digits G [.int c, .ref a] H Q E := by
  refine ⟨c, a, [z0, z1, z2], rfl, hs, ?_, by show 3 ≤ 1000; decide, fun q H1 s hq e => ?_⟩
  · intro z hz
    simp only [List.mem_cons, List.not_mem_nil, or_false] at hz
    rcases hz with rfl | rfl | rfl
    · exact hz0
    · exact hz1
    · exact hz2
  · have hl := digits_len c [z0, z1, z2]
    obtain ⟨y0, e0, a0, b0⟩ := digits_get c [z0, z1, z2] 0 z0 rfl hz0.1
    obtain ⟨y1, e1, a1, b1⟩ := digits_get c [z0, z1, z2] 1 z1 rfl hz1.1
    obtain ⟨y2, e2, a2, b2⟩ := digits_get c [z0, z1, z2] 2 z2 rfl hz2.1
    have ed : digits c [z0, z1, z2] = [y0, y1, y2] := by
      generalize digits c [z0, z1, z2] = l at *
      match l, hl with
      | [x0, x1, x2], _ =>
        obtain rfl : x0 = y0 := Option.some.inj e0
        obtain rfl : x1 = y1 := Option.some.inj e1
        obtain rfl : x2 = y2 := Option.some.inj e2
        rfl
    rw [ed] at e
    exact h y0 y1 y2 q H1 ed a0 b0 a1 b1 a2 b2 s hq e
theorem c_digits4 {G : Gx} {c z0 z1 z2 z3 : Int} {a : Addr} {H : Hp} {Q : VK} {E : XK} (hs : SqL G.K H a [.int z0, .int z1, .int z2, .int z3]) (hz0 : 0 < z0 ∧ z0 ≤ (10 : Int) ^ 60) (hz1 : 0 < z1 ∧ z1 ≤ (10 : Int) ^ 60) (hz2 : 0 < z2 ∧ z2 ≤ (10 : Int) ^ 60) (hz3 : 0 < z3 ∧ z3 ≤ (10 : Int) ^ 60)
    (h : ∀ (d0 d1 d2 d3 : Int) (q : Addr) (H' : Hp), digits c [z0, z1, z2, z3] = [d0, d1, d2, d3] → 0 ≤ d0 → d0 < z0 → 0 ≤ d1 → d1 < z1 → 0 ≤ d2 → d2 < z2 → 0 ≤ d3 → d3 < z3 → Same H H' → Free H q → H' q = some (.lst [.int d0, .int d1, .int d2, .int d3]) → Q (.ref q) H') : sp_l_digits G [.int c, .ref a] H Q E := by
  refine ⟨c, a, [z0, z1, z2, z3], rfl, hs, ?_, by show 4 ≤ 1000; decide, fun q H1 s hq e => ?_⟩
  · intro z hz
    simp only [List.mem_cons, List.not_mem_nil, or_false] at hz
    rcases hz with rfl | rfl | rfl | rfl
    · exact hz0
    · exact hz1
    · exact hz2
    · exact hz3
  · have hl := digits_len c [z0, z1, z2, z3]
    obtain ⟨y0, e0, a0, b0⟩ := digits_get c [z0, z1, z2, z3] 0 z0 rfl hz0.1
    obtain ⟨y1, e1, a1, b1⟩ := digits_get c [z0, z1, z2, z3] 1 z1 rfl hz1.1
    obtain ⟨y2, e2, a2, b2⟩ := digits_get c [z0, z1, z2, z3] 2 z2 rfl hz2.1
    obtain ⟨y3, e3, a3, b3⟩ := digits_get c [z0, z1, z2, z3] 3 z3 rfl hz3.1
    have ed : digits c [z0, z1, z2, z3] = [y0, y1, y2, y3] := by
      generalize digits c [z0, z1, z2, z3] = l at *
      match l, hl with
      | [x0, x1, x2, x3], _ =>
        obtain rfl : x0 = y0 := Option.some.inj e0
        obtain rfl : x1 = y1 := Option.some.inj e1
        obtain rfl : x2 = y2 := Option.some.inj e2
        obtain rfl : x3 = y3 := Option.some.inj e3
        rfl
    rw [ed] at e
    exact h y0 y1 y2 y3 q H1 ed a0 b0 a1 b1 a2 b2 a3 b3 s hq e
local macro_rules | `(tactic| walk_at "st") => `(tactic| first
  | with_reducible refine c_seed ?_
  | ((with_reducible refine c_cell (ns := ?ns) ?hs ?h0 ?_); (case hs => walk_at "sq"); (case h0 => first | decide | omega))
  | with_reducible refine c_whole ?_)
/-! ### number: something below 10 ** 60 -/
/-! _law_number: slots _law_cell_here, _law_low, _law_high, _law_size, _law_sign, _law_number_here -/
/-! ### is_amount -/
/-! _law_is_amount: slots _law_found -/
def spLaw (G : Gx) : Sp := fun vs H Q _ => ∃ (a : Addr) (ns : List Int), vs = [.ref a] ∧ SqL G.K H a (ns.map V.int) ∧ ns.length ≤ 63 ∧ ∀ H', Q (.bl true) H'
theorem len_p_law {G : Gx} : ∀ vs H Q E, spLaw G vs H Q E → vs.length = 1 := by rintro vs H Q E ⟨m, a, rfl, _⟩; rfl
/-! ### lowest -/
/-! _law_lowest: slots _law_num, _law_den, _law_by -/
/-! ### drawn_amount -/
/-! _law_drawn_amount: slots _law_one, _law_two, _law_den -/
/-! ### plus, minus, times -/
/-! plus: slots one, other -/
/-! minus: slots one, other -/
/-! times: slots one, many -/
/-! ### below -/
/-! below: slots one, other -/
/-! Ps: the keys of a dict in their order. -/
def putS (S : List Int) (k : Int) : List Int := if k ∈ S then S else S ++ [k]
section
variable {S : List Int} {k : Int}
theorem mem_putS {x : Int} : x ∈ putS S k ↔ x ∈ S ∨ x = k := by
  unfold putS
  by_cases h : k ∈ S
  · rw [if_pos h]
    exact ⟨.inl, fun z => z.elim id fun e => e ▸ h⟩
  · rw [if_neg h, List.mem_append, List.mem_singleton]
theorem nd_putS (h : S.Nodup) : (putS S k).Nodup := by
  unfold putS
  by_cases hk : k ∈ S
  · rw [if_pos hk]; exact h
  · rw [if_neg hk]
    refine List.nodup_append.mpr ⟨h, List.Pairwise.cons (fun _ z => nomatch z) .nil, fun x hx y hy => ?_⟩
    rw [List.mem_singleton.mp hy]
    exact fun e => hk (e ▸ hx)
theorem len_putS : (putS S k).length ≤ S.length + 1 := by
  unfold putS
  split
  · omega
  · rw [List.length_append]; exact Nat.le_refl _
theorem putS_in (h : k ∈ S) : putS S k = S := if_pos h
theorem putS_out (h : k ∉ S) : putS S k = S ++ [k] := if_neg h
end
def fset (f : Int → Int) (k v : Int) : Int → Int := fun z => if z = k then v else f z
/-- three keys in turn -/
def putS3 (S : List Int) (x y z : Int) : List Int := putS (putS (putS S x) y) z
theorem mem_putS3 {S : List Int} {x y z w : Int} : w ∈ putS3 S x y z ↔ w ∈ S ∨ w = x ∨ w = y ∨ w = z := by
  unfold putS3
  rw [mem_putS, mem_putS, mem_putS, or_assoc, or_assoc]
theorem nd_putS3 {S : List Int} {x y z : Int} (h : S.Nodup) : (putS3 S x y z).Nodup := nd_putS (nd_putS (nd_putS h))
theorem len_putS3 {S : List Int} {x y z : Int} : (putS3 S x y z).length ≤ S.length + 3 := by
  have a := len_putS (S := putS (putS S x) y) (k := z)
  have b := len_putS (S := putS S x) (k := y)
  have c := len_putS (S := S) (k := x)
  unfold putS3
  omega
/-! Eqv: classes of a finite set under steps; permutations; counting classes. Plain Lean. -/
/-! ### lists -/
theorem sub_len {α : Type} [DecidableEq α] : ∀ {l m : List α}, l.Nodup → (∀ x ∈ l, x ∈ m) → l.length ≤ m.length
  | [], _, _, _ => Nat.zero_le _
  | a :: l, m, h, hs => by
    obtain ⟨h1, h2⟩ := List.nodup_cons.mp h
    have ha : a ∈ m := hs a List.mem_cons_self
    have q := sub_len (l := l) (m := m.erase a) h2 fun x hx => by
      have hne : x ≠ a := fun e => h1 (e ▸ hx)
      exact (List.mem_erase_of_ne hne).mpr (hs x (List.mem_cons_of_mem _ hx))
    have e := List.length_erase_of_mem ha
    have : 0 < m.length := List.length_pos_of_mem ha
    rw [List.length_cons]
    omega
/-! ### the equivalence that steps make -/
inductive Eqv (r : Int → Int → Prop) : Int → Int → Prop where
  | refl (x : Int) : Eqv r x x
  | step {x y : Int} (h : r x y) : Eqv r x y
  | symm {x y : Int} (h : Eqv r x y) : Eqv r y x
  | trans {x y z : Int} (h : Eqv r x y) (g : Eqv r y z) : Eqv r x z
section
variable {r r' : Int → Int → Prop} {x y z : Int}
theorem Eqv.map {f : Int → Int} (h : ∀ x y, r x y → Eqv r' (f x) (f y)) : Eqv r x y → Eqv r' (f x) (f y) := fun e => by
  induction e with
  | refl x => exact .refl _
  | step q => exact h _ _ q
  | symm _ ih => exact ih.symm
  | trans _ _ i1 i2 => exact i1.trans i2
theorem Eqv.mono (h : ∀ x y, r x y → Eqv r' x y) : Eqv r x y → Eqv r' x y := Eqv.map (f := id) h
theorem Eqv.inv {A : Int → Prop} (h : ∀ x y, r x y → (A x ↔ A y)) : Eqv r x y → (A x ↔ A y) := fun e => by
  induction e with
  | refl x => exact Iff.rfl
  | step q => exact h _ _ q
  | symm _ ih => exact ih.symm
  | trans _ _ i1 i2 => exact i1.trans i2
end
/-! ### how many classes -/
def Cls (S : List Int) (r : Int → Int → Prop) (n : Nat) : Prop :=
  ∃ R : List Int, R.length = n ∧ (∀ x ∈ R, x ∈ S) ∧ (∀ x ∈ S, ∃ y ∈ R, Eqv r x y) ∧ R.Pairwise fun x y => ¬ Eqv r x y
theorem cls_exists (r : Int → Int → Prop) : ∀ S : List Int, ∃ n, Cls S r n
  | [] => ⟨0, [], rfl, fun x h => h, fun x h => absurd h (List.not_mem_nil), List.Pairwise.nil⟩
  | a :: S => by
    obtain ⟨n, R, h1, h2, h3, h4⟩ := cls_exists r S
    by_cases c : ∃ y ∈ R, Eqv r a y
    · refine ⟨n, R, h1, fun x hx => List.mem_cons_of_mem _ (h2 x hx), fun x hx => ?_, h4⟩
      rcases List.mem_cons.mp hx with rfl | hx
      · exact c
      · exact h3 x hx
    · refine ⟨n + 1, a :: R, by rw [List.length_cons, h1], fun x hx => ?_, fun x hx => ?_, List.pairwise_cons.mpr ⟨fun y hy e => c ⟨y, hy, e⟩, h4⟩⟩
      · rcases List.mem_cons.mp hx with rfl | hx
        · exact List.mem_cons_self
        · exact List.mem_cons_of_mem _ (h2 x hx)
      · rcases List.mem_cons.mp hx with rfl | hx
        · exact ⟨x, List.mem_cons_self, .refl _⟩
        · obtain ⟨y, hy, e⟩ := h3 x hx
          exact ⟨y, List.mem_cons_of_mem _ hy, e⟩
theorem cls_le {S : List Int} {r : Int → Int → Prop} : ∀ {R R2 : List Int}, R.Pairwise (fun x y => ¬ Eqv r x y) → (∀ x ∈ R, ∃ y ∈ R2, Eqv r x y) → R.length ≤ R2.length
  | [], _, _, _ => Nat.zero_le _
  | a :: R, R2, h, hc => by
    obtain ⟨h1, h2⟩ := List.pairwise_cons.mp h
    obtain ⟨b, hb, e⟩ := hc a List.mem_cons_self
    have q := cls_le (S := S) (R := R) (R2 := R2.erase b) h2 fun x hx => by
      obtain ⟨y, hy, e2⟩ := hc x (List.mem_cons_of_mem _ hx)
      have hne : y ≠ b := fun z => h1 x hx (e.trans (by rw [← z]; exact e2.symm))
      exact ⟨y, (List.mem_erase_of_ne hne).mpr hy, e2⟩
    have e := List.length_erase_of_mem hb
    have : 0 < R2.length := List.length_pos_of_mem hb
    rw [List.length_cons]
    omega
theorem cls_unique {S : List Int} {r : Int → Int → Prop} {n m : Nat} (h : Cls S r n) (g : Cls S r m) : n = m := by
  obtain ⟨R, h1, h2, h3, h4⟩ := h
  obtain ⟨R2, g1, g2, g3, g4⟩ := g
  have a := cls_le (S := S) h4 fun x hx => g3 x (h2 x hx)
  have b := cls_le (S := S) g4 fun x hx => h3 x (g2 x hx)
  omega
/-- the same classes by maps to and fro -/
theorem cls_maps {S S' : List Int} {r r' : Int → Int → Prop} {n : Nat} (f g : Int → Int) (hf : ∀ x y, r x y → Eqv r' (f x) (f y)) (hg : ∀ x y, r' x y → Eqv r (g x) (g y)) (mf : ∀ x ∈ S, f x ∈ S') (mg : ∀ y ∈ S', g y ∈ S)
    (fg : ∀ y ∈ S', Eqv r' (f (g y)) y) (gf : ∀ x ∈ S, Eqv r (g (f x)) x) (h : Cls S r n) : Cls S' r' n := by
  obtain ⟨R, h1, h2, h3, h4⟩ := h
  refine ⟨R.map f, by rw [List.length_map, h1], fun y hy => ?_, fun y hy => ?_, ?_⟩
  · obtain ⟨x, hx, rfl⟩ := List.mem_map.mp hy
    exact mf x (h2 x hx)
  · obtain ⟨x, hx, e⟩ := h3 (g y) (mg y hy)
    exact ⟨f x, List.mem_map_of_mem hx, (fg y hy).symm.trans (Eqv.map hf e)⟩
  · rw [List.pairwise_map]
    refine List.Pairwise.imp_of_mem (fun {a b} ha hb hne e => hne ?_) h4
    exact (gf a (h2 a ha)).symm.trans ((Eqv.map hg e).trans (gf b (h2 b hb)))
theorem cls_same {S S' : List Int} {r r' : Int → Int → Prop} {n : Nat} (hS : ∀ x, x ∈ S ↔ x ∈ S') (hf : ∀ x y, r x y → Eqv r' x y) (hg : ∀ x y, r' x y → Eqv r x y) (h : Cls S r n) : Cls S' r' n :=
  cls_maps id id hf hg (fun x => (hS x).mp) (fun x => (hS x).mpr) (fun _ _ => .refl _) (fun _ _ => .refl _) h
/-- one pair more -/
def plusPair (r : Int → Int → Prop) (a b : Int) : Int → Int → Prop := fun x y => r x y ∨ (x = a ∧ y = b)
theorem eqv_pair {r : Int → Int → Prop} {a b x y : Int} (h : Eqv (plusPair r a b) x y) : Eqv r x y ∨ ((Eqv r x a ∨ Eqv r x b) ∧ (Eqv r y a ∨ Eqv r y b)) := by
  induction h with
  | refl x => exact .inl (.refl _)
  | step q =>
    rcases q with q | ⟨rfl, rfl⟩
    · exact .inl (.step q)
    · exact .inr ⟨.inl (.refl _), .inr (.refl _)⟩
  | symm _ ih =>
    rcases ih with q | ⟨q1, q2⟩
    · exact .inl q.symm
    · exact .inr ⟨q2, q1⟩
  | trans _ _ i1 i2 =>
    rcases i1 with q | ⟨q1, q2⟩
    · rcases i2 with p | ⟨p1, p2⟩
      · exact .inl (q.trans p)
      · exact .inr ⟨p1.imp (fun z => q.trans z) (fun z => q.trans z), p2⟩
    · rcases i2 with p | ⟨p1, p2⟩
      · exact .inr ⟨q1, q2.imp (fun z => p.symm.trans z) (fun z => p.symm.trans z)⟩
      · exact .inr ⟨q1, p2⟩
theorem nodup_of {r : Int → Int → Prop} {R : List Int} (h : R.Pairwise fun x y => ¬ Eqv r x y) : R.Nodup := h.imp (fun {a b} (hne : ¬ Eqv r a b) (e : a = b) => hne (by rw [e]; exact .refl _))
theorem pair_of {r : Int → Int → Prop} {R : List Int} (h : R.Pairwise fun x y => ¬ Eqv r x y) {x y : Int} (hx : x ∈ R) (hy : y ∈ R) (e : Eqv r x y) : x = y := by
  induction R with
  | nil => exact absurd hx List.not_mem_nil
  | cons a R ih =>
    obtain ⟨h1, h2⟩ := List.pairwise_cons.mp h
    rcases List.mem_cons.mp hx with ex | mx
    · rcases List.mem_cons.mp hy with ey | my
      · rw [ex, ey]
      · exact absurd (ex ▸ e) (h1 y my)
    · rcases List.mem_cons.mp hy with ey | my
      · exact absurd (ey ▸ e.symm) (h1 x mx)
      · exact ih h2 mx my
theorem cls_merge {S : List Int} {r : Int → Int → Prop} {a b : Int} {n : Nat} (ha : a ∈ S) (hb : b ∈ S) (hne : ¬ Eqv r a b) (h : Cls S r (n + 1)) : Cls S (plusPair r a b) n := by
  obtain ⟨R, h1, h2, h3, h4⟩ := h
  obtain ⟨ra, hra, ea⟩ := h3 a ha
  obtain ⟨rb, hrb, eb⟩ := h3 b hb
  have hab : ra ≠ rb := fun z => hne (ea.trans (z ▸ eb.symm))
  have up : ∀ {x y}, Eqv r x y → Eqv (plusPair r a b) x y := fun e => Eqv.mono (fun _ _ q => .step (.inl q)) e
  have ab : Eqv (plusPair r a b) a b := .step (.inr ⟨rfl, rfl⟩)
  have nd := nodup_of h4
  refine ⟨R.erase rb, by rw [List.length_erase_of_mem hrb, h1]; rfl, fun x hx => h2 x (List.mem_of_mem_erase hx), fun x hx => ?_, ?_⟩
  · obtain ⟨y, hy, e⟩ := h3 x hx
    by_cases c : y = rb
    · subst c
      exact ⟨ra, (List.mem_erase_of_ne hab).mpr hra, (up e).trans ((up eb).symm.trans (ab.symm.trans (up ea)))⟩
    · exact ⟨y, (List.mem_erase_of_ne c).mpr hy, up e⟩
  · have h5 : (R.erase rb).Pairwise fun x y => ¬ Eqv r x y := h4.sublist List.erase_sublist
    refine List.Pairwise.imp_of_mem (fun {x y} hx hy hn e => ?_) h5
    have only : ∀ z ∈ R.erase rb, (Eqv r z a ∨ Eqv r z b) → z = ra := fun z hz q => by
      have hzR := List.mem_of_mem_erase hz
      rcases q with q | q
      · exact pair_of h4 hzR hra (q.trans ea)
      · have e2 := pair_of h4 hzR hrb (q.trans eb)
        rw [e2] at hz
        exact absurd hz (List.Nodup.not_mem_erase nd)
    rcases eqv_pair e with q | ⟨q1, q2⟩
    · exact hn q
    · have e1 := only x hx q1
      have e2 := only y hy q2
      subst e1
      subst e2
      exact hn (.refl _)
theorem cls_pair_in {S : List Int} {r : Int → Int → Prop} {a b : Int} {n : Nat} (hab : Eqv r a b) : Cls S r n ↔ Cls S (plusPair r a b) n := by
  have f : ∀ x y, r x y → Eqv (plusPair r a b) x y := fun x y q => .step (.inl q)
  have g : ∀ x y, plusPair r a b x y → Eqv r x y := fun x y q => by
    rcases q with q | ⟨rfl, rfl⟩
    · exact .step q
    · exact hab
  exact ⟨cls_same (fun _ => Iff.rfl) f g, cls_same (fun _ => Iff.rfl) g f⟩
/-- a one is the only class: all are equivalent -/
theorem cls_one {S : List Int} {r : Int → Int → Prop} (h : Cls S r 1) {x y : Int} (hx : x ∈ S) (hy : y ∈ S) : Eqv r x y := by
  obtain ⟨R, h1, h2, h3, h4⟩ := h
  match R, h1 with
  | [a], _ =>
    obtain ⟨u, hu, e⟩ := h3 x hx
    obtain ⟨v, hv, e2⟩ := h3 y hy
    rw [List.mem_singleton.mp hu] at e
    rw [List.mem_singleton.mp hv] at e2
    exact e.trans e2.symm
/-! ### a permutation of a finite set -/
def iter (f : Int → Int) : Nat → Int → Int
  | 0, x => x
  | n + 1, x => f (iter f n x)
structure Perm1 (S : List Int) (f : Int → Int) : Prop where
  mem : ∀ x ∈ S, f x ∈ S
  inj : ∀ x ∈ S, ∀ y ∈ S, f x = f y → x = y
section
variable {S : List Int} {f : Int → Int}
theorem iter_mem (P : Perm1 S f) {x : Int} (hx : x ∈ S) : ∀ n, iter f n x ∈ S
  | 0 => hx
  | n + 1 => P.mem _ (iter_mem P hx n)
theorem iter_add (f : Int → Int) (x : Int) (m : Nat) : ∀ n, iter f (n + m) x = iter f n (iter f m x)
  | 0 => by rw [Nat.zero_add]; rfl
  | n + 1 => by rw [Nat.succ_add]; exact congrArg f (iter_add f x m n)
theorem iter_inj (P : Perm1 S f) : ∀ (n : Nat) {x y : Int}, x ∈ S → y ∈ S → iter f n x = iter f n y → x = y
  | 0, _, _, _, _, e => e
  | n + 1, x, y, hx, hy, e => iter_inj P n hx hy (P.inj _ (iter_mem P hx n) _ (iter_mem P hy n) e)
/-- one comes back, within as many steps as there are -/
theorem iter_back (P : Perm1 S f) {x : Int} (hx : x ∈ S) : ∃ n, n < S.length ∧ iter f (n + 1) x = x := by
  by_cases c : ∃ n, n < S.length ∧ iter f (n + 1) x = x
  · exact c
  · exfalso
    have key : ∀ m, m ≤ S.length → ((List.range (m + 1)).map fun i => iter f i x).Nodup := by
      intro m hm
      rw [List.nodup_iff_pairwise_ne, List.pairwise_map]
      refine List.Pairwise.imp_of_mem (fun {i j} hi hj hlt e => ?_) (List.pairwise_lt_range (n := m + 1))
      have hj' := List.mem_range.mp hj
      obtain ⟨k, hk⟩ : ∃ k, j = (k + 1) + i := ⟨j - i - 1, by omega⟩
      rw [hk, Nat.add_comm (k + 1) i, iter_add] at e
      have e2 := iter_inj P i hx (iter_mem P hx (k + 1)) e
      exact c ⟨k, by omega, e2.symm⟩
    have nd := key S.length (Nat.le_refl _)
    have := sub_len nd fun y hy => by
      obtain ⟨i, _, rfl⟩ := List.mem_map.mp hy
      exact iter_mem P hx i
    rw [List.length_map, List.length_range] at this
    omega
/-- the first return -/
theorem iter_first (P : Perm1 S f) {x : Int} (hx : x ∈ S) : ∃ n, n < S.length ∧ iter f (n + 1) x = x ∧ ∀ i, i < n → iter f (i + 1) x ≠ x := by
  obtain ⟨n, h1, h2⟩ := iter_back P hx
  have key : ∀ n, n < S.length → iter f (n + 1) x = x → ∃ m, m < S.length ∧ iter f (m + 1) x = x ∧ ∀ i, i < m → iter f (i + 1) x ≠ x := by
    intro n
    induction n using Nat.strongRecOn with
    | ind n ih =>
      intro h1 h2
      by_cases c : ∃ i, i < n ∧ iter f (i + 1) x = x
      · obtain ⟨i, hi, e⟩ := c
        exact ih i hi (by omega) e
      · exact ⟨n, h1, h2, fun i hi e => c ⟨i, hi, e⟩⟩
  exact key n h1 h2
def fstep (S : List Int) (f : Int → Int) : Int → Int → Prop := fun x y => x ∈ S ∧ y = f x
theorem fstep_iter (P : Perm1 S f) {x : Int} (hx : x ∈ S) : ∀ n, Eqv (fstep S f) x (iter f n x)
  | 0 => .refl _
  | n + 1 => (fstep_iter P hx n).trans (.step ⟨iter_mem P hx n, rfl⟩)
/-- what is equivalent to x is come to by steps from x -/
theorem eqv_iter (P : Perm1 S f) {x y : Int} (hx : x ∈ S) (e : Eqv (fstep S f) x y) : ∃ n, n < S.length ∧ iter f n x = y := by
  obtain ⟨p, hp, hb, hf⟩ := iter_first P hx
  have per : ∀ n, ∃ m, m ≤ p ∧ iter f n x = iter f m x := by
    intro n
    induction n with
    | zero => exact ⟨0, Nat.zero_le _, rfl⟩
    | succ n ih =>
      obtain ⟨m, hm, e⟩ := ih
      by_cases c : m = p
      · subst c
        refine ⟨0, Nat.zero_le _, ?_⟩
        show f (iter f n x) = x
        rw [e]
        exact hb
      · refine ⟨m + 1, by omega, ?_⟩
        show f (iter f n x) = f (iter f m x)
        rw [e]
  have inv : (∃ n, iter f n x = x) ↔ (∃ n, iter f n x = y) := by
    refine Eqv.inv (A := fun y => ∃ n, iter f n x = y) (fun a b q => ?_) e
    obtain ⟨ha, rfl⟩ := q
    constructor
    · rintro ⟨n, hn⟩
      exact ⟨n + 1, by show f _ = f a; rw [hn]⟩
    · rintro ⟨n, hn⟩
      obtain ⟨m, hm, e2⟩ := per n
      cases m with
      | zero =>
        refine ⟨p, ?_⟩
        have e3 : f (iter f p x) = f a := hb.trans (e2.symm.trans hn)
        exact P.inj _ (iter_mem P hx p) _ ha e3
      | succ m =>
        refine ⟨m, ?_⟩
        have e3 : f (iter f m x) = f a := e2.symm.trans hn
        exact P.inj _ (iter_mem P hx m) _ ha e3
  obtain ⟨n, hn⟩ := inv.mp ⟨0, rfl⟩
  obtain ⟨m, hm, e2⟩ := per n
  exact ⟨m, by omega, e2.symm.trans hn⟩
/-- round the class from f x to x, without a step from x -/
theorem cyc_back (P : Perm1 S f) {x : Int} (hx : x ∈ S) {R : Int → Int → Prop} (rr : ∀ z, R z z) (rt : ∀ {a b c}, R a b → R b c → R a c) (h : ∀ z ∈ S, z ≠ x → Eqv (fstep S f) x z → R z (f z)) : R (f x) x := by
  obtain ⟨p, hp, hb, hf⟩ := iter_first P hx
  have key : ∀ i, i ≤ p → R (f x) (iter f (i + 1) x) := by
    intro i
    induction i with
    | zero => exact fun _ => rr _
    | succ i ih =>
      intro hi
      exact rt (ih (by omega)) (h _ (iter_mem P hx _) (hf i (by omega)) (fstep_iter P hx _))
  have q := key p (Nat.le_refl _)
  rw [hb] at q
  exact q
/-- two images changed for one another -/
def swapF (f : Int → Int) (a b : Int) : Int → Int := fun x => if x = a then f b else if x = b then f a else f x
theorem swap_perm (P : Perm1 S f) {a b : Int} (ha : a ∈ S) (hb : b ∈ S) : Perm1 S (swapF f a b) := by
  refine ⟨fun x hx => ?_, fun x hx y hy e => ?_⟩
  · unfold swapF
    split
    · exact P.mem _ hb
    · split
      · exact P.mem _ ha
      · exact P.mem _ hx
  · unfold swapF at e
    by_cases x1 : x = a
    · rw [if_pos x1] at e
      by_cases y1 : y = a
      · rw [x1, y1]
      · rw [if_neg y1] at e
        by_cases y2 : y = b
        · rw [if_pos y2] at e
          have := P.inj _ hb _ ha e
          rw [x1, y2, this]
        · rw [if_neg y2] at e
          exact absurd (P.inj _ hb _ hy e).symm y2
    · rw [if_neg x1] at e
      by_cases x2 : x = b
      · rw [if_pos x2] at e
        by_cases y1 : y = a
        · rw [if_pos y1] at e
          have := P.inj _ ha _ hb e
          rw [x2, y1, this]
        · rw [if_neg y1] at e
          by_cases y2 : y = b
          · rw [x2, y2]
          · rw [if_neg y2] at e
            exact absurd (P.inj _ ha _ hy e).symm y1
      · rw [if_neg x2] at e
        by_cases y1 : y = a
        · rw [if_pos y1] at e
          exact absurd (P.inj _ hx _ hb e) x2
        · rw [if_neg y1] at e
          by_cases y2 : y = b
          · rw [if_pos y2] at e
            exact absurd (P.inj _ hx _ ha e) x1
          · rw [if_neg y2] at e
            exact P.inj _ hx _ hy e
theorem swap_join (P : Perm1 S f) {a b : Int} (ha : a ∈ S) (hb : b ∈ S) (hne : ¬ Eqv (fstep S f) a b) : Eqv (fstep S (swapF f a b)) a b := by
  have hab : a ≠ b := fun e => hne (e ▸ .refl _)
  -- b's own class from f b to b
  have q : Eqv (fstep S (swapF f a b)) (f b) b := cyc_back P hb (R := Eqv (fstep S (swapF f a b))) .refl .trans fun z hz hzb e => .step ⟨hz, by
    have hza : z ≠ a := fun c => hne (c ▸ e.symm)
    unfold swapF
    rw [if_neg hza, if_neg hzb]⟩
  exact (Eqv.step ⟨ha, by unfold swapF; rw [if_pos rfl]⟩ : Eqv (fstep S (swapF f a b)) a (f b)).trans q
theorem swap_split (P : Perm1 S f) {a b : Int} (ha : a ∈ S) (hb : b ∈ S) (hab : a ≠ b) (e : Eqv (fstep S f) a b) : ¬ Eqv (fstep S (swapF f a b)) a b := by
  have P' := swap_perm P ha hb
  obtain ⟨n, hn, en⟩ := eqv_iter P ha e
  -- the least k with iter (k + 1) a = b
  have key : ∀ n, iter f n a = b → ∃ k, iter f (k + 1) a = b ∧ ∀ i, i < k → iter f (i + 1) a ≠ b := by
    intro n
    induction n using Nat.strongRecOn with
    | ind n ih =>
      intro h
      cases n with
      | zero => exact absurd h hab
      | succ n =>
        by_cases c : ∃ i, i < n ∧ iter f (i + 1) a = b
        · obtain ⟨i, hi, e⟩ := c
          exact ih (i + 1) (by omega) e
        · exact ⟨n, h, fun i hi e => c ⟨i, hi, e⟩⟩
  obtain ⟨k, hk, hmin⟩ := key n en
  -- a itself does not come on the way
  have noA : ∀ i, i ≤ k → iter f (i + 1) a ≠ a := by
    intro i hi ea
    by_cases c : i = k
    · subst c
      exact hab (ea.symm.trans hk)
    · have : iter f (k - i) a = b := by
        have e1 : k + 1 = (k - i) + (i + 1) := by omega
        rw [e1, iter_add, ea] at hk
        exact hk
      obtain ⟨m, hm⟩ : ∃ m, k - i = m + 1 := ⟨k - i - 1, by omega⟩
      rw [hm] at this
      exact hmin m (by omega) this
  intro e'
  have inv : (∃ i, i ≤ k ∧ iter f (i + 1) a = a) ↔ (∃ i, i ≤ k ∧ iter f (i + 1) a = b) := by
    refine Eqv.inv (A := fun y => ∃ i, i ≤ k ∧ iter f (i + 1) a = y) (fun x y q => ?_) e'
    obtain ⟨hx, rfl⟩ := q
    have swb : swapF f a b b = f a := by unfold swapF; rw [if_neg (Ne.symm hab), if_pos rfl]
    have sw : ∀ i, i < k → swapF f a b (iter f (i + 1) a) = iter f (i + 2) a := fun i hi => by
      unfold swapF
      rw [if_neg (noA i (by omega)), if_neg (hmin i hi)]
      rfl
    constructor
    · rintro ⟨i, hi, e⟩
      by_cases c : i = k
      · subst c
        refine ⟨0, Nat.zero_le _, ?_⟩
        rw [← e, hk, swb]
        rfl
      · refine ⟨i + 1, by omega, ?_⟩
        rw [← e, sw i (by omega)]
    · rintro ⟨i, hi, e⟩
      cases i with
      | zero =>
        refine ⟨k, Nat.le_refl _, ?_⟩
        rw [hk]
        exact P'.inj _ hb _ hx (swb.trans e)
      | succ i =>
        refine ⟨i, by omega, ?_⟩
        exact P'.inj _ (iter_mem P ha _) _ hx ((sw i (by omega)).trans e)
  obtain ⟨i, hi, e2⟩ := inv.mpr ⟨k, Nat.le_refl _, hk⟩
  exact noA i hi e2
/-- the pair thrown in, the swap makes no difference -/
theorem swap_pair {a b : Int} (ha : a ∈ S) (hb : b ∈ S) {x y : Int} : Eqv (plusPair (fstep S f) a b) x y ↔ Eqv (plusPair (fstep S (swapF f a b)) a b) x y := by
  have ab : ∀ r, Eqv (plusPair r a b) a b := fun r => .step (.inr ⟨rfl, rfl⟩)
  constructor
  · refine Eqv.mono fun x y q => ?_
    rcases q with ⟨hx, rfl⟩ | q
    · by_cases c1 : x = a
      · subst c1
        by_cases c2 : x = b
        · subst c2
          exact .step (.inl ⟨hx, by unfold swapF; rw [if_pos rfl]⟩)
        · exact (ab _).trans (.step (.inl ⟨hb, by unfold swapF; rw [if_neg (Ne.symm c2), if_pos rfl]⟩))
      · by_cases c2 : x = b
        · subst c2
          exact (ab _).symm.trans (.step (.inl ⟨ha, by unfold swapF; rw [if_pos rfl]⟩))
        · exact .step (.inl ⟨hx, by unfold swapF; rw [if_neg c1, if_neg c2]⟩)
    · exact .step (.inr q)
  · refine Eqv.mono fun x y q => ?_
    rcases q with ⟨hx, rfl⟩ | q
    · unfold swapF
      by_cases c1 : x = a
      · subst c1
        rw [if_pos rfl]
        exact (ab _).trans (.step (.inl ⟨hb, rfl⟩))
      · rw [if_neg c1]
        by_cases c2 : x = b
        · subst c2
          rw [if_pos rfl]
          exact (ab _).symm.trans (.step (.inl ⟨ha, rfl⟩))
        · rw [if_neg c2]
          exact .step (.inl ⟨hx, rfl⟩)
    · exact .step (.inr q)
theorem swap_down (P : Perm1 S f) {a b : Int} {n : Nat} (ha : a ∈ S) (hb : b ∈ S) (hne : ¬ Eqv (fstep S f) a b) (h : Cls S (fstep S f) (n + 1)) : Cls S (fstep S (swapF f a b)) n := by
  have h1 := cls_merge ha hb hne h
  rw [cls_pair_in (swap_join P ha hb hne)]
  exact cls_same (fun _ => Iff.rfl) (fun x y q => (swap_pair ha hb).mp (.step q)) (fun x y q => (swap_pair ha hb).mpr (.step q)) h1
theorem swap_up (P : Perm1 S f) {a b : Int} {n : Nat} (ha : a ∈ S) (hb : b ∈ S) (hab : a ≠ b) (e : Eqv (fstep S f) a b) (h : Cls S (fstep S f) n) : Cls S (fstep S (swapF f a b)) (n + 1) := by
  obtain ⟨m, hm⟩ := cls_exists (fstep S (swapF f a b)) S
  have hs := swap_split P ha hb hab e
  have h1 := (cls_pair_in e).mp h
  have h2 : Cls S (plusPair (fstep S (swapF f a b)) a b) n := cls_same (fun _ => Iff.rfl) (fun x y q => (swap_pair ha hb).mp (.step q)) (fun x y q => (swap_pair ha hb).mpr (.step q)) h1
  cases m with
  | zero =>
    obtain ⟨R, g1, _, g3, _⟩ := hm
    obtain ⟨y, hy, _⟩ := g3 a ha
    rw [List.length_eq_zero_iff.mp g1] at hy
    exact absurd hy List.not_mem_nil
  | succ m =>
    have h3 := cls_merge ha hb hs hm
    rw [cls_unique h2 h3]
    exact hm
end
/-! WebM: webs as maps: ends, the next end, the other end; films pushed, pulled; a film cut; a corner mended. Plain Lean. -/
def ot (x : Int) : Int := if x % 2 = 0 then x + 1 else x - 1
theorem ot_ot (x : Int) : ot (ot x) = x := by
  unfold ot
  split <;> split <;> omega
theorem ot_ne (x : Int) : ot x ≠ x := by
  unfold ot
  split <;> omega
theorem ot_div (x : Int) : ot x / 2 = x / 2 := by
  unfold ot
  split <;> omega
theorem ot_even (f : Int) : ot (2 * f) = 2 * f + 1 := by
  unfold ot
  rw [if_pos (by omega)]
theorem ot_or {x y : Int} (h : x / 2 = y / 2) : x = y ∨ x = ot y := by
  unfold ot
  split <;> omega
structure Map (S : List Int) (al nx : Int → Int) : Prop where
  nd : S.Nodup
  ca : ∀ x ∈ S, al x ∈ S
  cn : ∀ x ∈ S, nx x ∈ S
  aa : ∀ x ∈ S, al (al x) = x
  n3 : ∀ x ∈ S, nx (nx (nx x)) = x
  n1 : ∀ x ∈ S, nx x ≠ x
def face (al nx : Int → Int) : Int → Int := fun x => nx (al x)
def cs (S : List Int) (al nx : Int → Int) : Int → Int → Prop := fun x y => x ∈ S ∧ (y = al x ∨ y = nx x)
section
variable {S : List Int} {al nx : Int → Int}
theorem Map.ninj (M : Map S al nx) {x y : Int} (hx : x ∈ S) (hy : y ∈ S) (e : nx x = nx y) : x = y := by
  rw [← M.n3 x hx, ← M.n3 y hy, e]
theorem Map.ainj (M : Map S al nx) {x y : Int} (hx : x ∈ S) (hy : y ∈ S) (e : al x = al y) : x = y := by
  rw [← M.aa x hx, ← M.aa y hy, e]
theorem Map.n2 (M : Map S al nx) {x : Int} (hx : x ∈ S) : nx (nx x) ≠ x := fun e => by
  have h := M.n3 x hx
  rw [e] at h
  exact M.n1 x hx h
theorem Map.n12 (M : Map S al nx) {x : Int} (hx : x ∈ S) : nx (nx x) ≠ nx x := M.n1 _ (M.cn x hx)
theorem Map.perm (M : Map S al nx) : Perm1 S (face al nx) :=
  ⟨fun x hx => M.cn _ (M.ca x hx), fun x hx y hy e => M.ainj hx hy (M.ninj (M.ca x hx) (M.ca y hy) e)⟩
theorem Map.same {nx' : Int → Int} {S' : List Int} (M : Map S al nx) (nd : S'.Nodup) (hS : ∀ x, x ∈ S' ↔ x ∈ S) (h : ∀ x ∈ S, nx' x = nx x) : Map S' al nx' := by
  refine ⟨nd, fun x hx => (hS _).mpr (M.ca x ((hS x).mp hx)), fun x hx => ?_, fun x hx => M.aa x ((hS x).mp hx), fun x hx => ?_, fun x hx => ?_⟩
  · have hx := (hS x).mp hx
    rw [h x hx]
    exact (hS _).mpr (M.cn x hx)
  · have hx := (hS x).mp hx
    rw [h x hx, h _ (M.cn x hx), h _ (M.cn _ (M.cn x hx))]
    exact M.n3 x hx
  · have hx := (hS x).mp hx
    rw [h x hx]
    exact M.n1 x hx
end
/-! ### a film cut: its ends lead back -/
def cutA (al : Int → Int) (e o : Int) : Int → Int := fun z => if z = e then e else if z = o then o else al z
section
variable {S : List Int} {al nx : Int → Int} {e o : Int}
theorem cut_map (M : Map S al nx) (he : e ∈ S) (ho : o ∈ S) (h1 : al e = o) (h2 : al o = e) : Map S (cutA al e o) nx := by
  refine ⟨M.nd, fun x hx => ?_, M.cn, fun x hx => ?_, M.n3, M.n1⟩
  · unfold cutA
    split
    · exact he
    · split
      · exact ho
      · exact M.ca x hx
  · by_cases c1 : x = e
    · subst c1
      unfold cutA
      rw [if_pos rfl, if_pos rfl]
    · by_cases c2 : x = o
      · subst c2
        unfold cutA
        rw [if_neg c1, if_pos rfl, if_neg c1, if_pos rfl]
      · have e1 : cutA al e o x = al x := by unfold cutA; rw [if_neg c1, if_neg c2]
        have n1 : al x ≠ e := fun z => c2 (M.ainj hx ho (z.trans h2.symm))
        have n2 : al x ≠ o := fun z => c1 (M.ainj hx he (z.trans h1.symm))
        rw [e1]
        unfold cutA
        rw [if_neg n1, if_neg n2]
        exact M.aa x hx
theorem cut_face (h1 : al e = o) (h2 : al o = e) : face (cutA al e o) nx = swapF (face al nx) e o := by
  funext z
  unfold face cutA swapF
  by_cases c1 : z = e
  · rw [if_pos c1, if_pos c1]
    show nx e = nx (al o)
    rw [h2]
  · rw [if_neg c1, if_neg c1]
    by_cases c2 : z = o
    · rw [if_pos c2, if_pos c2]
      show nx o = nx (al e)
      rw [h1]
    · rw [if_neg c2, if_neg c2]
theorem cut_cls {n : Nat} (M : Map S al nx) (he : e ∈ S) (ho : o ∈ S) (h1 : al e = o) (h2 : al o = e) (hne : ¬ Eqv (fstep S (face al nx)) e o) (h : Cls S (fstep S (face al nx)) (n + 1)) : Cls S (fstep S (face (cutA al e o) nx)) n := by
  rw [cut_face h1 h2]
  exact swap_down M.perm he ho hne h
/-- with unlike faces on its hands a film may be cut: all stays connected -/
theorem cut_conn (M : Map S al nx) (he : e ∈ S) (ho : o ∈ S) (h1 : al e = o) (h2 : al o = e) (hne : ¬ Eqv (fstep S (face al nx)) e o) {x y : Int} (h : Eqv (cs S al nx) x y) : Eqv (cs S (cutA al e o) nx) x y := by
  have st : ∀ z ∈ S, Eqv (cs S (cutA al e o) nx) z (nx z) := fun z hz => .step ⟨hz, .inr rfl⟩
  have eo : Eqv (cs S (cutA al e o) nx) e o := by
    have q : Eqv (cs S (cutA al e o) nx) (face al nx e) e := cyc_back M.perm he (R := Eqv (cs S (cutA al e o) nx)) .refl .trans fun z hz hze hq => by
      have hzo : z ≠ o := fun c => hne (c ▸ hq)
      have e1 : cutA al e o z = al z := by unfold cutA; rw [if_neg hze, if_neg hzo]
      exact (Eqv.step ⟨hz, .inl e1.symm⟩ : Eqv (cs S (cutA al e o) nx) z (al z)).trans (st _ (M.ca z hz))
    have q2 : face al nx e = nx o := by unfold face; rw [h1]
    rw [q2] at q
    exact ((st o ho).trans q).symm
  refine Eqv.mono (fun x y q => ?_) h
  obtain ⟨hx, q | q⟩ := q
  · subst q
    by_cases c1 : x = e
    · rw [c1, h1]
      exact eo
    · by_cases c2 : x = o
      · rw [c2, h2]
        exact eo.symm
      · exact .step ⟨hx, .inl (by unfold cutA; rw [if_neg c1, if_neg c2])⟩
  · exact .step ⟨hx, .inr q⟩
end
/-! ### a corner mended: t leads back, y's film goes on as x's -/
def mendS (S : List Int) (t y g : Int) : List Int := S.filter fun z => decide (z ≠ t ∧ z ≠ y ∧ z ≠ g)
def mendN (nx : Int → Int) (x g : Int) : Int → Int := fun z => if z = x then nx g else if nx z = g then x else nx z
structure Mend (S : List Int) (al nx : Int → Int) (t x y g : Int) : Prop where
  M : Map S al nx
  ht : t ∈ S
  hy : y ∈ S
  tt : al t = t
  yg : al y = g
  cor : (nx t = x ∧ nx x = y ∧ nx y = t) ∨ (nx t = y ∧ nx y = x ∧ nx x = t)
  gy : g ≠ y
  gx : g ≠ x
theorem mem_mendS {S : List Int} {t y g z : Int} : z ∈ mendS S t y g ↔ z ∈ S ∧ z ≠ t ∧ z ≠ y ∧ z ≠ g := by
  unfold mendS
  rw [List.mem_filter, decide_eq_true_eq]
section
variable {S : List Int} {al nx : Int → Int} {t x y g : Int}
structure MendFacts (S : List Int) (al nx : Int → Int) (t x y g p q : Int) : Prop where
  hx : x ∈ S
  hg : g ∈ S
  hp : p ∈ S
  hq : q ∈ S
  gp : nx g = p
  pq : nx p = q
  qg : nx q = g
  gy' : al g = y
  tx : t ≠ x
  ty : t ≠ y
  xy : x ≠ y
  gt : g ≠ t
  pt : p ≠ t
  px : p ≠ x
  py : p ≠ y
  pg : p ≠ g
  qt : q ≠ t
  qx : q ≠ x
  qy : q ≠ y
  qg' : q ≠ g
  qp : q ≠ p
theorem Mend.facts (D : Mend S al nx t x y g) : MendFacts S al nx t x y g (nx g) (nx (nx g)) := by
  obtain ⟨M, ht, hy, tt, yg, cor, gy, gx⟩ := D
  have hg : g ∈ S := yg ▸ M.ca y hy
  have gy' : al g = y := by rw [← yg]; exact M.aa y hy
  have hp := M.cn g hg
  have hq := M.cn _ hp
  have gt : g ≠ t := fun z => by
    rw [z, tt] at gy'
    rw [z] at gy
    exact gy gy'
  have qg := M.n3 g hg
  -- corners apart: what leads to t, x, y are themselves
  have apart : ∀ z ∈ S, z ≠ t → z ≠ x → z ≠ y → nx z ≠ t ∧ nx z ≠ x ∧ nx z ≠ y := by
    intro z hz z1 z2 z3
    rcases cor with ⟨c1, c2, c3⟩ | ⟨c1, c2, c3⟩
    · have hx : x ∈ S := c1 ▸ M.cn t ht
      exact ⟨fun q => z3 (M.ninj hz hy (q.trans c3.symm)), fun q => z1 (M.ninj hz ht (q.trans c1.symm)), fun q => z2 (M.ninj hz hx (q.trans c2.symm))⟩
    · have hx : x ∈ S := c2 ▸ M.cn y hy
      exact ⟨fun q => z2 (M.ninj hz hx (q.trans c3.symm)), fun q => z3 (M.ninj hz hy (q.trans c2.symm)), fun q => z1 (M.ninj hz ht (q.trans c1.symm))⟩
  have a1 := apart g hg gt gx gy
  have a2 := apart _ hp a1.1 a1.2.1 a1.2.2
  have hx : x ∈ S := by
    rcases cor with ⟨c1, c2, c3⟩ | ⟨c1, c2, c3⟩
    · exact c1 ▸ M.cn t ht
    · exact c2 ▸ M.cn y hy
  have dis : t ≠ x ∧ t ≠ y ∧ x ≠ y := by
    rcases cor with ⟨c1, c2, c3⟩ | ⟨c1, c2, c3⟩
    · refine ⟨fun z => M.n1 t ht (c1.trans z.symm), fun z => M.n1 y hy (c3.trans z), fun z => M.n1 x hx (c2.trans z.symm)⟩
    · refine ⟨fun z => M.n1 x hx (c3.trans z), fun z => M.n1 t ht (c1.trans z.symm), fun z => M.n1 y hy (c2.trans z)⟩
  exact ⟨hx, hg, hp, hq, rfl, rfl, qg, gy', dis.1, dis.2.1, dis.2.2, gt, a1.1, a1.2.1, a1.2.2, M.n1 g hg, a2.1, a2.2.1, a2.2.2, M.n2 hg, M.n12 hg⟩
theorem mendN_x : mendN nx x g x = nx g := by unfold mendN; rw [if_pos rfl]
theorem mendN_q {q : Int} (h1 : q ≠ x) (h2 : nx q = g) : mendN nx x g q = x := by unfold mendN; rw [if_neg h1, if_pos h2]
theorem mendN_o {z : Int} (h1 : z ≠ x) (h2 : nx z ≠ g) : mendN nx x g z = nx z := by unfold mendN; rw [if_neg h1, if_neg h2]
theorem mend_map (D : Mend S al nx t x y g) : Map (mendS S t y g) al (mendN nx x g) := by
  have F := D.facts
  obtain ⟨M, ht, hy, tt, yg, cor, gy, gx⟩ := D
  generalize nx g = p at F
  generalize nx p = q at F
  have hN : ∀ z ∈ mendS S t y g, z ≠ x → z ≠ q → mendN nx x g z = nx z ∧ nx z ∈ mendS S t y g := by
    intro z hz z1 z2
    obtain ⟨zS, z3, z4, z5⟩ := mem_mendS.mp hz
    have n1 : nx z ≠ g := fun e => z2 (M.ninj zS F.hq (e.trans F.qg.symm))
    refine ⟨mendN_o z1 n1, mem_mendS.mpr ⟨M.cn z zS, fun e => ?_, fun e => ?_, n1⟩⟩
    · rcases cor with ⟨c1, c2, c3⟩ | ⟨c1, c2, c3⟩
      · exact z4 (M.ninj zS hy (e.trans c3.symm))
      · exact z1 (M.ninj zS F.hx (e.trans c3.symm))
    · rcases cor with ⟨c1, c2, c3⟩ | ⟨c1, c2, c3⟩
      · exact z1 (M.ninj zS F.hx (e.trans c2.symm))
      · exact z3 (M.ninj zS ht (e.trans c1.symm))
  have mx : x ∈ mendS S t y g := mem_mendS.mpr ⟨F.hx, F.tx.symm, F.xy, gx.symm⟩
  have mp : p ∈ mendS S t y g := mem_mendS.mpr ⟨F.hp, F.pt, F.py, F.pg⟩
  have mq : q ∈ mendS S t y g := mem_mendS.mpr ⟨F.hq, F.qt, F.qy, F.qg'⟩
  have ex : mendN nx x g x = p := mendN_x.trans F.gp
  have eq : mendN nx x g q = x := mendN_q F.qx F.qg
  have ep : mendN nx x g p = q := (mendN_o F.px (by rw [F.pq]; exact F.qg')).trans F.pq
  refine ⟨M.nd.filter _, fun z hz => ?_, fun z hz => ?_, fun z hz => M.aa z (mem_mendS.mp hz).1, fun z hz => ?_, fun z hz => ?_⟩
  · obtain ⟨zS, z3, z4, z5⟩ := mem_mendS.mp hz
    refine mem_mendS.mpr ⟨M.ca z zS, fun e => z3 (M.ainj zS ht (e.trans tt.symm)), fun e => z5 (M.ainj zS F.hg (e.trans F.gy'.symm)), fun e => z4 (M.ainj zS hy (e.trans yg.symm))⟩
  · by_cases z1 : z = x
    · rw [z1, ex]; exact mp
    · by_cases z2 : z = q
      · rw [z2, eq]; exact mx
      · rw [(hN z hz z1 z2).1]; exact (hN z hz z1 z2).2
  · by_cases z1 : z = x
    · rw [z1, ex, ep, eq]
    · by_cases z2 : z = q
      · rw [z2, eq, ex, ep]
      · by_cases z3 : z = p
        · rw [z3, ep, eq, ex]
        · have zS := (mem_mendS.mp hz).1
          have h1 := hN z hz z1 z2
          have w1 : nx z ≠ x := fun e => by
            rcases cor with ⟨c1, c2, c3⟩ | ⟨c1, c2, c3⟩
            · exact (mem_mendS.mp hz).2.1 (M.ninj zS ht (e.trans c1.symm))
            · exact (mem_mendS.mp hz).2.2.1 (M.ninj zS hy (e.trans c2.symm))
          have w2 : nx z ≠ q := fun e => z3 (M.ninj zS F.hp (e.trans F.pq.symm))
          have w3 : nx z ≠ p := fun e => (mem_mendS.mp hz).2.2.2 (M.ninj zS F.hg (e.trans F.gp.symm))
          have h2 := hN (nx z) h1.2 w1 w2
          have zS' := M.cn z zS
          have v1 : nx (nx z) ≠ x := fun e => by
            rcases cor with ⟨c1, c2, c3⟩ | ⟨c1, c2, c3⟩
            · exact (mem_mendS.mp h1.2).2.1 (M.ninj zS' ht (e.trans c1.symm))
            · exact (mem_mendS.mp h1.2).2.2.1 (M.ninj zS' hy (e.trans c2.symm))
          have v2 : nx (nx z) ≠ q := fun e => w3 (M.ninj zS' F.hp (e.trans F.pq.symm))
          have h3 := hN (nx (nx z)) h2.2 v1 v2
          rw [h1.1, h2.1, h3.1]
          exact M.n3 z zS
  · by_cases z1 : z = x
    · rw [z1, ex]; exact F.px
    · by_cases z2 : z = q
      · rw [z2, eq]; exact F.qx.symm
      · rw [(hN z hz z1 z2).1]; exact M.n1 z (mem_mendS.mp hz).1
theorem len_ne {S : List Int} (nd : S.Nodup) {a : Int} (ha : a ∈ S) : (S.filter fun z => decide (z ≠ a)).length + 1 = S.length := by
  induction S with
  | nil => exact absurd ha List.not_mem_nil
  | cons b S ih =>
    obtain ⟨h1, h2⟩ := List.nodup_cons.mp nd
    by_cases c : b = a
    · subst c
      have e : (S.filter fun z => decide (z ≠ b)) = S := List.filter_eq_self.mpr fun z hz => decide_eq_true fun q => h1 (q ▸ hz)
      rw [List.filter_cons, if_neg (by simp), e, List.length_cons]
    · have ha' : a ∈ S := (List.mem_cons.mp ha).resolve_left (Ne.symm c)
      rw [List.filter_cons, if_pos (by simp [c]), List.length_cons, List.length_cons, ih h2 ha']
theorem len_ne3 {S : List Int} (nd : S.Nodup) {a b c : Int} (ha : a ∈ S) (hb : b ∈ S) (hc : c ∈ S) (ab : a ≠ b) (ac : a ≠ c) (bc : b ≠ c) : (S.filter fun z => decide (z ≠ a ∧ z ≠ b ∧ z ≠ c)).length + 3 = S.length := by
  have e : (S.filter fun z => decide (z ≠ a ∧ z ≠ b ∧ z ≠ c)) = ((S.filter fun z => decide (z ≠ a)).filter fun z => decide (z ≠ b)).filter fun z => decide (z ≠ c) := by
    rw [List.filter_filter, List.filter_filter]
    refine List.filter_congr fun z _ => ?_
    by_cases h1 : z = a <;> by_cases h2 : z = b <;> by_cases h3 : z = c <;> simp [h1, h2, h3]
  have n1 := nd.filter (fun z => decide (z ≠ a))
  have n2 := n1.filter (fun z => decide (z ≠ b))
  have m1 : b ∈ S.filter fun z => decide (z ≠ a) := List.mem_filter.mpr ⟨hb, decide_eq_true ab.symm⟩
  have m2 : c ∈ (S.filter fun z => decide (z ≠ a)).filter fun z => decide (z ≠ b) := List.mem_filter.mpr ⟨List.mem_filter.mpr ⟨hc, decide_eq_true ac.symm⟩, decide_eq_true bc.symm⟩
  have l1 := len_ne nd ha
  have l2 := len_ne n1 m1
  have l3 := len_ne n2 m2
  rw [e]
  omega
theorem mend_len (D : Mend S al nx t x y g) : (mendS S t y g).length + 3 = S.length := by
  have F := D.facts
  exact len_ne3 D.M.nd D.ht D.hy F.hg F.ty F.gt.symm D.gy.symm
theorem mend_cls {n : Nat} (D : Mend S al nx t x y g) (h : Cls S (fstep S (face al nx)) n) : Cls (mendS S t y g) (fstep (mendS S t y g) (face al (mendN nx x g))) n := by
  have F := D.facts
  have M' := mend_map D
  obtain ⟨M, ht, hy, tt, yg, cor, gy, gx⟩ := D
  generalize nx g = p at F
  generalize nx p = q at F
  have mx : x ∈ mendS S t y g := mem_mendS.mpr ⟨F.hx, F.tx.symm, F.xy, gx.symm⟩
  have mp : p ∈ mendS S t y g := mem_mendS.mpr ⟨F.hp, F.pt, F.py, F.pg⟩
  have ex : mendN nx x g x = p := mendN_x.trans F.gp
  have eq : mendN nx x g q = x := mendN_q F.qx F.qg
  -- steps of the old map
  have s_t : Eqv (fstep S (face al nx)) t (nx t) := .step ⟨ht, by unfold face; rw [tt]⟩
  have s_y : Eqv (fstep S (face al nx)) y p := .step ⟨hy, by unfold face; rw [yg, F.gp]⟩
  have s_g : Eqv (fstep S (face al nx)) g (nx y) := .step ⟨F.hg, by unfold face; rw [F.gy']⟩
  have tx_or : Eqv (fstep S (face al nx)) g x ∧ ((nx t = x ∧ nx x = y ∧ Eqv (fstep S (face al nx)) t x) ∨ (nx t = y ∧ nx x = t ∧ Eqv (fstep S (face al nx)) t p)) := by
    rcases cor with ⟨c1, c2, c3⟩ | ⟨c1, c2, c3⟩
    · rw [c1] at s_t
      rw [c3] at s_g
      exact ⟨s_g.trans s_t, .inl ⟨c1, c2, s_t⟩⟩
    · rw [c1] at s_t
      rw [c2] at s_g
      exact ⟨s_g, .inr ⟨c1, c3, s_t.trans s_y⟩⟩
  obtain ⟨s_gx, tc⟩ := tx_or
  let w : Int := if nx t = x then x else p
  let f : Int → Int := fun z => if z = t then w else if z = y then p else if z = g then x else z
  have fw : w ∈ mendS S t y g ∧ Eqv (fstep S (face al nx)) t w := by
    rcases tc with ⟨c1, _, c3⟩ | ⟨c1, _, c3⟩
    · have e : w = x := if_pos c1
      rw [e]
      exact ⟨mx, c3⟩
    · have e : w = p := if_neg (by rw [c1]; exact F.xy.symm)
      rw [e]
      exact ⟨mp, c3⟩
  have f_t : f t = w := if_pos rfl
  have f_y : f y = p := by show (if y = t then w else if y = y then p else _) = p; rw [if_neg F.ty.symm, if_pos rfl]
  have f_g : f g = x := by show (if g = t then w else if g = y then p else if g = g then x else g) = x; rw [if_neg F.gt, if_neg gy, if_pos rfl]
  have f_o : ∀ z, z ≠ t → z ≠ y → z ≠ g → f z = z := fun z z1 z2 z3 => by show (if z = t then w else if z = y then p else if z = g then x else z) = z; rw [if_neg z1, if_neg z2, if_neg z3]
  have al_in : ∀ z ∈ S, z ≠ t → z ≠ y → z ≠ g → al z ≠ t ∧ al z ≠ y ∧ al z ≠ g := fun z zS z3 z4 z5 =>
    ⟨fun e => z3 (M.ainj zS ht (e.trans tt.symm)), fun e => z5 (M.ainj zS F.hg (e.trans F.gy'.symm)), fun e => z4 (M.ainj zS hy (e.trans yg.symm))⟩
  refine cls_maps f id (fun z v hz => ?_) (fun z v hz => ?_) (fun z hz => ?_) (fun z hz => (mem_mendS.mp hz).1) (fun z hz => ?_) (fun z hz => ?_) h
  · obtain ⟨zS, rfl⟩ := hz
    by_cases z1 : z = t
    · rw [z1, f_t]
      show Eqv _ w (f (nx (al t)))
      rw [tt]
      rcases tc with ⟨c1, _, _⟩ | ⟨c1, _, _⟩
      · have e : w = x := if_pos c1
        rw [e, c1, f_o x F.tx.symm F.xy gx.symm]
        exact .refl _
      · have e : w = p := if_neg (by rw [c1]; exact F.xy.symm)
        rw [e, c1, f_y]
        exact .refl _
    · by_cases z2 : z = y
      · rw [z2, f_y]
        show Eqv _ p (f (nx (al y)))
        rw [yg, F.gp, f_o p F.pt F.py F.pg]
        exact .refl _
      · by_cases z3 : z = g
        · rw [z3, f_g]
          show Eqv _ x (f (nx (al g)))
          rw [F.gy']
          rcases cor with ⟨c1, c2, c3⟩ | ⟨c1, c2, c3⟩
          · rw [c3, f_t]
            have e : w = x := if_pos c1
            rw [e]
            exact .refl _
          · rw [c2, f_o x F.tx.symm F.xy gx.symm]
            exact .refl _
        · have zm : z ∈ mendS S t y g := mem_mendS.mpr ⟨zS, z1, z2, z3⟩
          rw [f_o z z1 z2 z3]
          show Eqv _ z (f (nx (al z)))
          obtain ⟨a1, a2, a3⟩ := al_in z zS z1 z2 z3
          have haS := M.ca z zS
          have st : Eqv (fstep (mendS S t y g) (face al (mendN nx x g))) z (mendN nx x g (al z)) := .step ⟨zm, rfl⟩
          by_cases b1 : al z = x
          · rw [b1] at st ⊢
            rw [ex] at st
            rcases tc with ⟨_, c2, _⟩ | ⟨c1, c2, _⟩
            · rw [c2, f_y]
              exact st
            · rw [c2, f_t]
              have e : w = p := if_neg (by rw [c1]; exact F.xy.symm)
              rw [e]
              exact st
          · by_cases b2 : al z = q
            · rw [b2] at st ⊢
              rw [eq] at st
              rw [F.qg, f_g]
              exact st
            · have n1 : nx (al z) ≠ g := fun e => b2 (M.ninj haS F.hq (e.trans F.qg.symm))
              rw [mendN_o b1 n1] at st
              have n2 : nx (al z) ≠ t := fun e => by
                rcases cor with ⟨c1, c2, c3⟩ | ⟨c1, c2, c3⟩
                · exact a2 (M.ninj haS hy (e.trans c3.symm))
                · exact b1 (M.ninj haS F.hx (e.trans c3.symm))
              have n3 : nx (al z) ≠ y := fun e => by
                rcases cor with ⟨c1, c2, c3⟩ | ⟨c1, c2, c3⟩
                · exact b1 (M.ninj haS F.hx (e.trans c2.symm))
                · exact a1 (M.ninj haS ht (e.trans c1.symm))
              rw [f_o _ n2 n3 n1]
              exact st
  · obtain ⟨zm, rfl⟩ := hz
    obtain ⟨zS, z1, z2, z3⟩ := mem_mendS.mp zm
    show Eqv _ z (mendN nx x g (al z))
    have haS := M.ca z zS
    have st : Eqv (fstep S (face al nx)) z (nx (al z)) := .step ⟨zS, rfl⟩
    by_cases b1 : al z = x
    · rw [b1] at st ⊢
      rw [ex]
      rcases tc with ⟨_, c2, _⟩ | ⟨c1, c2, c3⟩
      · rw [c2] at st
        exact st.trans s_y
      · rw [c2] at st
        exact st.trans c3
    · by_cases b2 : al z = q
      · rw [b2] at st ⊢
        rw [eq]
        rw [F.qg] at st
        exact st.trans s_gx
      · have n1 : nx (al z) ≠ g := fun e => b2 (M.ninj haS F.hq (e.trans F.qg.symm))
        rw [mendN_o b1 n1]
        exact st
  · by_cases z1 : z = t
    · rw [z1, f_t]; exact fw.1
    · by_cases z2 : z = y
      · rw [z2, f_y]; exact mp
      · by_cases z3 : z = g
        · rw [z3, f_g]; exact mx
        · rw [f_o z z1 z2 z3]; exact mem_mendS.mpr ⟨hz, z1, z2, z3⟩
  · obtain ⟨zS, z1, z2, z3⟩ := mem_mendS.mp hz
    show Eqv _ (f z) z
    rw [f_o z z1 z2 z3]
    exact .refl _
  · show Eqv _ (f z) z
    by_cases z1 : z = t
    · rw [z1, f_t]; exact fw.2.symm
    · by_cases z2 : z = y
      · rw [z2, f_y]; exact s_y.symm
      · by_cases z3 : z = g
        · rw [z3, f_g]; exact s_gx.symm
        · rw [f_o z z1 z2 z3]; exact .refl _
theorem mend_conn (D : Mend S al nx t x y g) (h : ∀ u ∈ S, ∀ v ∈ S, Eqv (cs S al nx) u v) : ∀ u ∈ mendS S t y g, ∀ v ∈ mendS S t y g, Eqv (cs (mendS S t y g) al (mendN nx x g)) u v := by
  have F := D.facts
  obtain ⟨M, ht, hy, tt, yg, cor, gy, gx⟩ := D
  generalize nx g = p at F
  generalize nx p = q at F
  have mx : x ∈ mendS S t y g := mem_mendS.mpr ⟨F.hx, F.tx.symm, F.xy, gx.symm⟩
  let f : Int → Int := fun z => if z = t ∨ z = y ∨ z = g then x else z
  have f_b : ∀ z, (z = t ∨ z = y ∨ z = g) → f z = x := fun z hz => if_pos hz
  have f_o : ∀ z, z ≠ t → z ≠ y → z ≠ g → f z = z := fun z z1 z2 z3 => if_neg fun q => by
    rcases q with q | q | q
    · exact z1 q
    · exact z2 q
    · exact z3 q
  have fx : f x = x := f_o x F.tx.symm F.xy gx.symm
  have key : ∀ u v, Eqv (cs S al nx) u v → Eqv (cs (mendS S t y g) al (mendN nx x g)) (f u) (f v) := by
    intro u v e
    refine Eqv.map (fun z v hz => ?_) e
    obtain ⟨zS, q | q⟩ := hz
    · subst q
      by_cases z1 : z = t
      · rw [z1, tt]; exact .refl _
      · by_cases z2 : z = y
        · rw [z2, yg, f_b y (.inr (.inl rfl)), f_b g (.inr (.inr rfl))]; exact .refl _
        · by_cases z3 : z = g
          · rw [z3, F.gy', f_b y (.inr (.inl rfl)), f_b g (.inr (.inr rfl))]; exact .refl _
          · rw [f_o z z1 z2 z3, f_o (al z) (fun e => z1 (M.ainj zS ht (e.trans tt.symm))) (fun e => z3 (M.ainj zS F.hg (e.trans F.gy'.symm))) (fun e => z2 (M.ainj zS hy (e.trans yg.symm)))]
            exact .step ⟨mem_mendS.mpr ⟨zS, z1, z2, z3⟩, .inl rfl⟩
    · subst q
      have corner : ∀ z, z = t ∨ z = x ∨ z = y → f z = x ∧ f (nx z) = x := by
        intro z hz
        have hfz : f z = x := by
          rcases hz with hz | hz | hz
          · exact f_b z (.inl hz)
          · rw [hz]; exact fx
          · exact f_b z (.inr (.inl hz))
        refine ⟨hfz, ?_⟩
        rcases cor with ⟨c1, c2, c3⟩ | ⟨c1, c2, c3⟩
        · rcases hz with hz | hz | hz
          · rw [hz, c1]; exact fx
          · rw [hz, c2]; exact f_b y (.inr (.inl rfl))
          · rw [hz, c3]; exact f_b t (.inl rfl)
        · rcases hz with hz | hz | hz
          · rw [hz, c1]; exact f_b y (.inr (.inl rfl))
          · rw [hz, c3]; exact f_b t (.inl rfl)
          · rw [hz, c2]; exact fx
      by_cases zc : z = t ∨ z = x ∨ z = y
      · obtain ⟨h1, h2⟩ := corner z zc
        rw [h1, h2]
        exact .refl _
      · have z1 : z ≠ t := fun e => zc (.inl e)
        have z2 : z ≠ x := fun e => zc (.inr (.inl e))
        have z3 : z ≠ y := fun e => zc (.inr (.inr e))
        by_cases z4 : z = g
        · rw [z4, f_b g (.inr (.inr rfl)), F.gp, f_o p F.pt F.py F.pg]
          exact .step ⟨mx, .inr (mendN_x.trans F.gp).symm⟩
        · have zm : z ∈ mendS S t y g := mem_mendS.mpr ⟨zS, z1, z3, z4⟩
          rw [f_o z z1 z3 z4]
          by_cases z5 : z = q
          · rw [z5, F.qg, f_b g (.inr (.inr rfl))]
            exact .step ⟨z5 ▸ zm, .inr (mendN_q F.qx F.qg).symm⟩
          · have n1 : nx z ≠ g := fun e => z5 (M.ninj zS F.hq (e.trans F.qg.symm))
            have n2 : nx z ≠ t := fun e => by
              rcases cor with ⟨c1, c2, c3⟩ | ⟨c1, c2, c3⟩
              · exact z3 (M.ninj zS hy (e.trans c3.symm))
              · exact z2 (M.ninj zS F.hx (e.trans c3.symm))
            have n3 : nx z ≠ y := fun e => by
              rcases cor with ⟨c1, c2, c3⟩ | ⟨c1, c2, c3⟩
              · exact z2 (M.ninj zS F.hx (e.trans c2.symm))
              · exact z1 (M.ninj zS ht (e.trans c1.symm))
            rw [f_o _ n2 n3 n1]
            exact .step ⟨zm, .inr (mendN_o z2 n1).symm⟩
  intro u hu v hv
  obtain ⟨uS, u1, u2, u3⟩ := mem_mendS.mp hu
  obtain ⟨vS, v1, v2, v3⟩ := mem_mendS.mp hv
  have q := key u v (h u uS v vS)
  rw [f_o u u1 u2 u3, f_o v v1 v2 v3] at q
  exact q
end
/-! WebD: webs and the deeds at them: each gives a web. Plain Lean. -/
abbrev Rim (S : List Int) (nx : Int → Int) : Int → Int → Prop := Eqv (fstep S (face ot nx))
structure Web (S : List Int) (nx : Int → Int) : Prop where
  map : Map S ot nx
  ne : S ≠ []
  conn : ∀ x ∈ S, ∀ y ∈ S, Eqv (cs S ot nx) x y
  eul : ∃ n, Cls S (fstep S (face ot nx)) n ∧ 6 * n = S.length
  pos : ∀ x ∈ S, 0 ≤ x
/-- the same web with its ends in another order -/
theorem Web.same {S S' : List Int} {nx nx' : Int → Int} (W : Web S nx) (nd : S'.Nodup) (hS : ∀ x, x ∈ S' ↔ x ∈ S) (h : ∀ x ∈ S, nx' x = nx x) : Web S' nx' := by
  obtain ⟨n, hn, hl⟩ := W.eul
  have M' := W.map.same nd hS h
  have fs1 : ∀ x y, fstep S (face ot nx) x y → Eqv (fstep S' (face ot nx')) x y := fun x y ⟨hx, e⟩ => .step ⟨(hS x).mpr hx, by rw [e]; exact (h _ (W.map.ca x hx)).symm⟩
  have fs2 : ∀ x y, fstep S' (face ot nx') x y → Eqv (fstep S (face ot nx)) x y := fun x y ⟨hx, e⟩ => .step ⟨(hS x).mp hx, by rw [e]; exact h _ (W.map.ca x ((hS x).mp hx))⟩
  have len : S'.length = S.length := Nat.le_antisymm (sub_len nd fun x hx => (hS x).mp hx) (sub_len W.map.nd fun x hx => (hS x).mpr hx)
  refine ⟨M', ?_, fun x hx y hy => ?_, ⟨n, cls_same (fun x => (hS x).symm) fs1 fs2 hn, by rw [len]; exact hl⟩, fun x hx => W.pos x ((hS x).mp hx)⟩
  · obtain ⟨a, ha⟩ := List.exists_mem_of_ne_nil _ W.ne
    exact List.ne_nil_of_mem ((hS a).mpr ha)
  · refine Eqv.mono (fun u v q => ?_) (W.conn x ((hS x).mp hx) y ((hS y).mp hy))
    obtain ⟨hu, q | q⟩ := q
    · exact .step ⟨(hS u).mpr hu, .inl q⟩
    · exact .step ⟨(hS u).mpr hu, .inr (by rw [h u hu]; exact q)⟩
/-- corners seated anew among themselves -/
theorem reseat_map {S : List Int} {al nx nx' : Int → Int} {U : Int → Prop} (M : Map S al nx) (uS : ∀ x, U x → x ∈ S) (un : ∀ x, U x → U (nx x)) (off : ∀ x ∈ S, ¬ U x → nx' x = nx x)
    (u1 : ∀ x, U x → U (nx' x)) (u3 : ∀ x, U x → nx' (nx' (nx' x)) = x) (u0 : ∀ x, U x → nx' x ≠ x) : Map S al nx' := by
  have nu : ∀ x ∈ S, ¬ U x → ¬ U (nx x) := fun x hx h q => h (by rw [← M.n3 x hx]; exact un _ (un _ q))
  refine ⟨M.nd, M.ca, fun x hx => ?_, M.aa, fun x hx => ?_, fun x hx => ?_⟩
  · by_cases c : U x
    · exact uS _ (u1 x c)
    · rw [off x hx c]; exact M.cn x hx
  · by_cases c : U x
    · exact u3 x c
    · have c1 := nu x hx c
      have c2 := nu _ (M.cn x hx) c1
      rw [off x hx c, off _ (M.cn x hx) c1, off _ (M.cn _ (M.cn x hx)) c2]
      exact M.n3 x hx
  · by_cases c : U x
    · exact u0 x c
    · rw [off x hx c]; exact M.n1 x hx
def seatF (f : Int → Int) (x y z : Int) : Int → Int := fset (fset (fset f x y) y z) z x
theorem fset_same {f : Int → Int} {k v : Int} : fset f k v k = v := by unfold fset; rw [if_pos rfl]
theorem fset_ne {f : Int → Int} {k v z : Int} (h : z ≠ k) : fset f k v z = f z := by unfold fset; rw [if_neg h]
section
variable {f : Int → Int} {x y z w : Int}
theorem seat_1 (h1 : x ≠ y) (h2 : x ≠ z) : seatF f x y z x = y := by unfold seatF; rw [fset_ne h2, fset_ne h1, fset_same]
theorem seat_2 (h1 : y ≠ z) : seatF f x y z y = z := by unfold seatF; rw [fset_ne h1, fset_same]
theorem seat_3 : seatF f x y z z = x := by unfold seatF; rw [fset_same]
theorem seat_o (h1 : w ≠ x) (h2 : w ≠ y) (h3 : w ≠ z) : seatF f x y z w = f w := by unfold seatF; rw [fset_ne h3, fset_ne h2, fset_ne h1]
end
/-! ### a film pushed, pulled -/
structure Film (S : List Int) (nx : Int → Int) (e o a b c d : Int) : Prop where
  M : Map S ot nx
  he : e ∈ S
  ho : o ∈ S
  ha : a ∈ S
  hb : b ∈ S
  hc : c ∈ S
  hd : d ∈ S
  eo : ot e = o
  oe : ot o = e
  ea : nx e = a
  ab : nx a = b
  be : nx b = e
  oc : nx o = c
  cd : nx c = d
  do_ : nx d = o
  n_eo : e ≠ o
  n_ea : e ≠ a
  n_eb : e ≠ b
  n_ec : e ≠ c
  n_ed : e ≠ d
  n_oa : o ≠ a
  n_ob : o ≠ b
  n_oc : o ≠ c
  n_od : o ≠ d
  n_ab : a ≠ b
  n_ac : a ≠ c
  n_ad : a ≠ d
  n_bc : b ≠ c
  n_bd : b ≠ d
  n_cd : c ≠ d
/-- a film that doesn't lead back to its own corner -/
theorem film_of {S : List Int} {nx : Int → Int} {e : Int} (M : Map S ot nx) (he : e ∈ S) (h1 : nx e ≠ ot e) (h2 : nx (nx e) ≠ ot e) : Film S nx e (ot e) (nx e) (nx (nx e)) (nx (ot e)) (nx (nx (ot e))) := by
  have ho := M.ca e he
  have ha := M.cn e he
  have hb := M.cn _ ha
  have hc := M.cn _ ho
  have hd := M.cn _ hc
  have be := M.n3 e he
  have do_ := M.n3 _ ho
  -- what stands at the one corner doesn't stand at the other
  have ap : ∀ z ∈ S, z ≠ e → z ≠ nx e → z ≠ nx (nx e) → nx z ≠ e ∧ nx z ≠ nx e ∧ nx z ≠ nx (nx e) := fun z hz z1 z2 z3 =>
    ⟨fun q => z3 (M.ninj hz hb (q.trans be.symm)), fun q => z1 (M.ninj hz he q), fun q => z2 (M.ninj hz ha q)⟩
  have o1 : ot e ≠ e := ot_ne e
  have p1 := ap _ ho o1 h1.symm h2.symm
  have p2 := ap _ hc p1.1 p1.2.1 p1.2.2
  exact ⟨M, he, ho, ha, hb, hc, hd, rfl, ot_ot e, rfl, rfl, be, rfl, rfl, do_, o1.symm, (M.n1 e he).symm, (M.n2 he).symm, p1.1.symm, p2.1.symm, h1.symm, h2.symm, (M.n1 _ ho).symm, (M.n2 ho).symm, (M.n1 _ ha).symm, p1.2.1.symm, p2.2.1.symm, p1.2.2.symm, p2.2.2.symm, (M.n1 _ hc).symm⟩
def pushF (nx : Int → Int) (e : Int) : Int → Int := seatF (seatF nx e (nx (nx e)) (nx (ot e))) (ot e) (nx (nx (ot e))) (nx e)
def pullF (nx : Int → Int) (e : Int) : Int → Int := seatF (seatF nx e (nx (nx (ot e))) (nx e)) (ot e) (nx (nx e)) (nx (ot e))
section
variable {S : List Int} {nx : Int → Int} {e o a b c d : Int}
/-- the ends of the two corners -/
def Six (e o a b c d : Int) (z : Int) : Prop := z = e ∨ z = o ∨ z = a ∨ z = b ∨ z = c ∨ z = d
theorem six_no {z : Int} (h : ¬ Six e o a b c d z) : z ≠ e ∧ z ≠ o ∧ z ≠ a ∧ z ≠ b ∧ z ≠ c ∧ z ≠ d :=
  ⟨fun q => h (.inl q), fun q => h (.inr (.inl q)), fun q => h (.inr (.inr (.inl q))), fun q => h (.inr (.inr (.inr (.inl q)))), fun q => h (.inr (.inr (.inr (.inr (.inl q))))), fun q => h (.inr (.inr (.inr (.inr (.inr q)))))⟩
/-- two corners seated anew: everything that is asked of it, at once. nx' on the six ends is given; p, q: where e and o are put in -/
theorem reseat_web {nx' : Int → Int} (F : Film S nx e o a b c d) (W : Web S nx) (off : ∀ z, ¬ Six e o a b c d z → nx' z = nx z)
    (h : (nx' e = b ∧ nx' b = c ∧ nx' c = e ∧ nx' o = d ∧ nx' d = a ∧ nx' a = o) ∨ (nx' e = d ∧ nx' d = a ∧ nx' a = e ∧ nx' o = b ∧ nx' b = c ∧ nx' c = o)) :
    Web S nx' ∧ ∀ x ∈ S, ∀ y ∈ S, x ≠ e → x ≠ o → y ≠ e → y ≠ o → (Rim S nx x y ↔ Rim S nx' x y) := by
  have M := F.M
  have uS : ∀ z, Six e o a b c d z → z ∈ S := by
    rintro z (rfl | rfl | rfl | rfl | rfl | rfl)
    · exact F.he
    · exact F.ho
    · exact F.ha
    · exact F.hb
    · exact F.hc
    · exact F.hd
  have un : ∀ z, Six e o a b c d z → Six e o a b c d (nx z) := by
    rintro z (rfl | rfl | rfl | rfl | rfl | rfl)
    · rw [F.ea]; exact .inr (.inr (.inl rfl))
    · rw [F.oc]; exact .inr (.inr (.inr (.inr (.inl rfl))))
    · rw [F.ab]; exact .inr (.inr (.inr (.inl rfl)))
    · rw [F.be]; exact .inl rfl
    · rw [F.cd]; exact .inr (.inr (.inr (.inr (.inr rfl))))
    · rw [F.do_]; exact .inr (.inl rfl)
  have six_e : Six e o a b c d e := .inl rfl
  have six_o : Six e o a b c d o := .inr (.inl rfl)
  have six_a : Six e o a b c d a := .inr (.inr (.inl rfl))
  have six_b : Six e o a b c d b := .inr (.inr (.inr (.inl rfl)))
  have six_c : Six e o a b c d c := .inr (.inr (.inr (.inr (.inl rfl))))
  have six_d : Six e o a b c d d := .inr (.inr (.inr (.inr (.inr rfl))))
  have M' : Map S ot nx' := by
    refine reseat_map M uS un (fun z _ q => off z q) ?_ ?_ ?_
    · rcases h with ⟨h1, h2, h3, h4, h5, h6⟩ | ⟨h1, h2, h3, h4, h5, h6⟩
      · rintro z (rfl | rfl | rfl | rfl | rfl | rfl)
        · rw [h1]; exact six_b
        · rw [h4]; exact six_d
        · rw [h6]; exact six_o
        · rw [h2]; exact six_c
        · rw [h3]; exact six_e
        · rw [h5]; exact six_a
      · rintro z (rfl | rfl | rfl | rfl | rfl | rfl)
        · rw [h1]; exact six_d
        · rw [h4]; exact six_b
        · rw [h3]; exact six_e
        · rw [h5]; exact six_c
        · rw [h6]; exact six_o
        · rw [h2]; exact six_a
    · rcases h with ⟨h1, h2, h3, h4, h5, h6⟩ | ⟨h1, h2, h3, h4, h5, h6⟩
      · rintro z (rfl | rfl | rfl | rfl | rfl | rfl)
        · rw [h1, h2, h3]
        · rw [h4, h5, h6]
        · rw [h6, h4, h5]
        · rw [h2, h3, h1]
        · rw [h3, h1, h2]
        · rw [h5, h6, h4]
      · rintro z (rfl | rfl | rfl | rfl | rfl | rfl)
        · rw [h1, h2, h3]
        · rw [h4, h5, h6]
        · rw [h3, h1, h2]
        · rw [h5, h6, h4]
        · rw [h6, h4, h5]
        · rw [h2, h3, h1]
    · rcases h with ⟨h1, h2, h3, h4, h5, h6⟩ | ⟨h1, h2, h3, h4, h5, h6⟩
      · rintro z (rfl | rfl | rfl | rfl | rfl | rfl)
        · rw [h1]; exact F.n_eb.symm
        · rw [h4]; exact F.n_od.symm
        · rw [h6]; exact F.n_oa
        · rw [h2]; exact F.n_bc.symm
        · rw [h3]; exact F.n_ec
        · rw [h5]; exact F.n_ad
      · rintro z (rfl | rfl | rfl | rfl | rfl | rfl)
        · rw [h1]; exact F.n_ed.symm
        · rw [h4]; exact F.n_ob.symm
        · rw [h3]; exact F.n_ea
        · rw [h5]; exact F.n_bc.symm
        · rw [h6]; exact F.n_oc
        · rw [h2]; exact F.n_ad
  -- the new faces by steps
  have st' : ∀ z ∈ S, Eqv (fstep S (face ot nx')) z (nx' (ot z)) := fun z hz => .step ⟨hz, rfl⟩
  have st : ∀ z ∈ S, Eqv (fstep S (face ot nx)) z (nx (ot z)) := fun z hz => .step ⟨hz, rfl⟩
  let f : Int → Int := fun z => if z = e then c else if z = o then a else z
  have f_e : f e = c := if_pos rfl
  have f_o : f o = a := by show (if o = e then c else if o = o then a else o) = a; rw [if_neg F.n_eo.symm, if_pos rfl]
  have f_z : ∀ z, z ≠ e → z ≠ o → f z = z := fun z z1 z2 => by show (if z = e then c else if z = o then a else z) = z; rw [if_neg z1, if_neg z2]
  -- where e and o are put in anew
  obtain ⟨p, q, hp, hq, pe, po, qe, qo, ge, go, he', ho', hb', hd', ha', hc'⟩ : ∃ p q, p ∈ S ∧ q ∈ S ∧ p ≠ e ∧ p ≠ o ∧ q ≠ e ∧ q ≠ o ∧ Eqv (fstep S (face ot nx')) e p ∧ Eqv (fstep S (face ot nx')) o q ∧
      (∀ z ∈ S, ot z = c → ∃ s, nx' (ot z) = s ∧ (s = e ∧ p = d ∨ s = o ∧ q = d)) ∧ (∀ z ∈ S, ot z = a → ∃ s, nx' (ot z) = s ∧ (s = e ∧ p = b ∨ s = o ∧ q = b)) ∧ nx' b = c ∧ nx' d = a ∧ (nx' e = q) ∧ (nx' o = p) := by
    rcases h with ⟨h1, h2, h3, h4, h5, h6⟩ | ⟨h1, h2, h3, h4, h5, h6⟩
    · refine ⟨d, b, F.hd, F.hb, F.n_ed.symm, F.n_od.symm, F.n_eb.symm, F.n_ob.symm, ?_, ?_, fun z hz q => ⟨e, by rw [q, h3], .inl ⟨rfl, rfl⟩⟩, fun z hz q => ⟨o, by rw [q, h6], .inr ⟨rfl, rfl⟩⟩, h2, h5, h1, h4⟩
      · have := st' e F.he; rw [F.eo, h4] at this; exact this
      · have := st' o F.ho; rw [F.oe, h1] at this; exact this
    · refine ⟨b, d, F.hb, F.hd, F.n_eb.symm, F.n_ob.symm, F.n_ed.symm, F.n_od.symm, ?_, ?_, fun z hz q => ⟨o, by rw [q, h6], .inr ⟨rfl, rfl⟩⟩, fun z hz q => ⟨e, by rw [q, h3], .inl ⟨rfl, rfl⟩⟩, h5, h2, h1, h4⟩
      · have := st' e F.he; rw [F.eo, h4] at this; exact this
      · have := st' o F.ho; rw [F.oe, h1] at this; exact this
  let g : Int → Int := fun z => if z = e then p else if z = o then q else z
  have g_e : g e = p := if_pos rfl
  have g_o : g o = q := by show (if o = e then p else if o = o then q else o) = q; rw [if_neg F.n_eo.symm, if_pos rfl]
  have g_z : ∀ z, z ≠ e → z ≠ o → g z = z := fun z z1 z2 => by show (if z = e then p else if z = o then q else z) = z; rw [if_neg z1, if_neg z2]
  have other_side : ∀ z ∈ S, z ≠ e → z ≠ o → ot z ≠ e ∧ ot z ≠ o := fun z hz z1 z2 => ⟨fun q => z2 (M.ainj hz F.ho (q.trans F.oe.symm)), fun q => z1 (M.ainj hz F.he (q.trans F.eo.symm))⟩
  have hf : ∀ x y, fstep S (face ot nx) x y → Eqv (fstep S (face ot nx')) (f x) (f y) := by
    rintro z v ⟨hz, rfl⟩
    show Eqv _ (f z) (f (nx (ot z)))
    by_cases z1 : z = e
    · rw [z1, f_e, F.eo, F.oc, f_z c F.n_ec.symm F.n_oc.symm]; exact .refl _
    · by_cases z2 : z = o
      · rw [z2, f_o, F.oe, F.ea, f_z a F.n_ea.symm F.n_oa.symm]; exact .refl _
      · rw [f_z z z1 z2]
        have sz := st' z hz
        obtain ⟨w1, w2⟩ := other_side z hz z1 z2
        by_cases c1 : ot z = a
        · obtain ⟨s, es, q1⟩ := ho' z hz c1
          rw [es] at sz
          rw [c1, F.ab, f_z b F.n_eb.symm F.n_ob.symm]
          rcases q1 with ⟨rfl, rfl⟩ | ⟨rfl, rfl⟩
          · exact sz.trans ge
          · exact sz.trans go
        · by_cases c2 : ot z = b
          · rw [c2, hb'] at sz
            rw [c2, F.be, f_e]
            exact sz
          · by_cases c3 : ot z = c
            · obtain ⟨s, es, q1⟩ := he' z hz c3
              rw [es] at sz
              rw [c3, F.cd, f_z d F.n_ed.symm F.n_od.symm]
              rcases q1 with ⟨rfl, rfl⟩ | ⟨rfl, rfl⟩
              · exact sz.trans ge
              · exact sz.trans go
            · by_cases c4 : ot z = d
              · rw [c4, hd'] at sz
                rw [c4, F.do_, f_o]
                exact sz
              · have nsix : ¬ Six e o a b c d (ot z) := by
                  rintro (q | q | q | q | q | q)
                  · exact w1 q
                  · exact w2 q
                  · exact c1 q
                  · exact c2 q
                  · exact c3 q
                  · exact c4 q
                rw [off _ nsix] at sz
                have n1 : nx (ot z) ≠ e := fun q => c2 (M.ninj (M.ca z hz) F.hb (q.trans F.be.symm))
                have n2 : nx (ot z) ≠ o := fun q => c4 (M.ninj (M.ca z hz) F.hd (q.trans F.do_.symm))
                rw [f_z _ n1 n2]
                exact sz
  have hg : ∀ x y, fstep S (face ot nx') x y → Eqv (fstep S (face ot nx)) (g x) (g y) := by
    rintro z v ⟨hz, rfl⟩
    show Eqv _ (g z) (g (nx' (ot z)))
    by_cases z1 : z = e
    · rw [z1, g_e, F.eo, hc', g_z p pe po]; exact .refl _
    · by_cases z2 : z = o
      · rw [z2, g_o, F.oe, ha', g_z q qe qo]; exact .refl _
      · rw [g_z z z1 z2]
        have sz := st z hz
        obtain ⟨w1, w2⟩ := other_side z hz z1 z2
        by_cases c1 : ot z = a
        · obtain ⟨s, es, q1⟩ := ho' z hz c1
          rw [es]
          rw [c1, F.ab] at sz
          rcases q1 with ⟨rfl, e2⟩ | ⟨rfl, e2⟩
          · rw [g_e, e2]; exact sz
          · rw [g_o, e2]; exact sz
        · by_cases c2 : ot z = b
          · rw [c2, F.be] at sz
            rw [c2, hb', g_z c F.n_ec.symm F.n_oc.symm]
            have s2 := st e F.he
            rw [F.eo, F.oc] at s2
            exact sz.trans s2
          · by_cases c3 : ot z = c
            · obtain ⟨s, es, q1⟩ := he' z hz c3
              rw [es]
              rw [c3, F.cd] at sz
              rcases q1 with ⟨rfl, e2⟩ | ⟨rfl, e2⟩
              · rw [g_e, e2]; exact sz
              · rw [g_o, e2]; exact sz
            · by_cases c4 : ot z = d
              · rw [c4, F.do_] at sz
                rw [c4, hd', g_z a F.n_ea.symm F.n_oa.symm]
                have s2 := st o F.ho
                rw [F.oe, F.ea] at s2
                exact sz.trans s2
              · have nsix : ¬ Six e o a b c d (ot z) := by
                  rintro (q | q | q | q | q | q)
                  · exact w1 q
                  · exact w2 q
                  · exact c1 q
                  · exact c2 q
                  · exact c3 q
                  · exact c4 q
                rw [off _ nsix]
                have n1 : nx (ot z) ≠ e := fun q => c2 (M.ninj (M.ca z hz) F.hb (q.trans F.be.symm))
                have n2 : nx (ot z) ≠ o := fun q => c4 (M.ninj (M.ca z hz) F.hd (q.trans F.do_.symm))
                rw [g_z _ n1 n2]
                exact sz
  have s_ec : Eqv (fstep S (face ot nx)) e c := by have := st e F.he; rw [F.eo, F.oc] at this; exact this
  have s_oa : Eqv (fstep S (face ot nx)) o a := by have := st o F.ho; rw [F.oe, F.ea] at this; exact this
  obtain ⟨n, hn, hl⟩ := W.eul
  refine ⟨⟨M', W.ne, ?_, ⟨n, cls_maps f g hf hg ?_ ?_ ?_ ?_ hn, hl⟩, W.pos⟩, ?_⟩
  · -- connected
    have c_st : ∀ z ∈ S, Eqv (cs S ot nx') z (nx' z) := fun z hz => .step ⟨hz, .inr rfl⟩
    have c_eo : Eqv (cs S ot nx') e o := .step ⟨F.he, .inl F.eo.symm⟩
    have all : ∀ z, Six e o a b c d z → Eqv (cs S ot nx') e z := by
      rcases h with ⟨h1, h2, h3, h4, h5, h6⟩ | ⟨h1, h2, h3, h4, h5, h6⟩
      · have k1 := c_st e F.he; rw [h1] at k1
        have k2 := c_st b F.hb; rw [h2] at k2
        have k3 := c_st o F.ho; rw [h4] at k3
        have k4 := c_st d F.hd; rw [h5] at k4
        rintro z (rfl | rfl | rfl | rfl | rfl | rfl)
        · exact .refl _
        · exact c_eo
        · exact c_eo.trans (k3.trans k4)
        · exact k1
        · exact k1.trans k2
        · exact c_eo.trans k3
      · have k1 := c_st e F.he; rw [h1] at k1
        have k2 := c_st d F.hd; rw [h2] at k2
        have k3 := c_st o F.ho; rw [h4] at k3
        have k4 := c_st b F.hb; rw [h5] at k4
        rintro z (rfl | rfl | rfl | rfl | rfl | rfl)
        · exact .refl _
        · exact c_eo
        · exact k1.trans k2
        · exact c_eo.trans k3
        · exact c_eo.trans (k3.trans k4)
        · exact k1
    intro x hx y hy
    refine Eqv.mono (fun u v q => ?_) (W.conn x hx y hy)
    obtain ⟨hu, q | q⟩ := q
    · exact .step ⟨hu, .inl q⟩
    · subst q
      by_cases s6 : Six e o a b c d u
      · exact (all u s6).symm.trans (all _ (un u s6))
      · rw [← off u s6]
        exact c_st u hu
  · intro z hz
    by_cases z1 : z = e
    · rw [z1, f_e]; exact F.hc
    · by_cases z2 : z = o
      · rw [z2, f_o]; exact F.ha
      · rw [f_z z z1 z2]; exact hz
  · intro z hz
    by_cases z1 : z = e
    · rw [z1, g_e]; exact hp
    · by_cases z2 : z = o
      · rw [z2, g_o]; exact hq
      · rw [g_z z z1 z2]; exact hz
  · intro z hz
    by_cases z1 : z = e
    · rw [z1, g_e, f_z p pe po]; exact ge.symm
    · by_cases z2 : z = o
      · rw [z2, g_o, f_z q qe qo]; exact go.symm
      · rw [g_z z z1 z2, f_z z z1 z2]; exact .refl _
  · intro z hz
    by_cases z1 : z = e
    · rw [z1, f_e, g_z c F.n_ec.symm F.n_oc.symm]; exact s_ec.symm
    · by_cases z2 : z = o
      · rw [z2, f_o, g_z a F.n_ea.symm F.n_oa.symm]; exact s_oa.symm
      · rw [f_z z z1 z2, g_z z z1 z2]; exact .refl _
  · intro x hx y hy x1 x2 y1 y2
    constructor
    · intro q
      have := Eqv.map hf q
      rw [f_z x x1 x2, f_z y y1 y2] at this
      exact this
    · intro q
      have := Eqv.map hg q
      rw [g_z x x1 x2, g_z y y1 y2] at this
      exact this
theorem push_vals (F : Film S nx e o a b c d) : (pushF nx e e = b ∧ pushF nx e b = c ∧ pushF nx e c = e ∧ pushF nx e o = d ∧ pushF nx e d = a ∧ pushF nx e a = o) ∧ ∀ z, ¬ Six e o a b c d z → pushF nx e z = nx z := by
  have E : pushF nx e = seatF (seatF nx e b c) o d a := by unfold pushF; rw [F.eo, F.ea, F.ab, F.oc, F.cd]
  rw [E]
  refine ⟨⟨?_, ?_, ?_, seat_1 F.n_od F.n_oa, seat_2 F.n_ad.symm, seat_3⟩, fun z hz => ?_⟩
  · rw [seat_o F.n_eo F.n_ed F.n_ea, seat_1 F.n_eb F.n_ec]
  · rw [seat_o F.n_ob.symm F.n_bd F.n_ab.symm, seat_2 F.n_bc]
  · rw [seat_o F.n_oc.symm F.n_cd F.n_ac.symm, seat_3]
  · obtain ⟨z1, z2, z3, z4, z5, z6⟩ := six_no hz
    rw [seat_o z2 z6 z3, seat_o z1 z4 z5]
theorem pull_vals (F : Film S nx e o a b c d) : (pullF nx e e = d ∧ pullF nx e d = a ∧ pullF nx e a = e ∧ pullF nx e o = b ∧ pullF nx e b = c ∧ pullF nx e c = o) ∧ ∀ z, ¬ Six e o a b c d z → pullF nx e z = nx z := by
  have E : pullF nx e = seatF (seatF nx e d a) o b c := by unfold pullF; rw [F.eo, F.ea, F.ab, F.oc, F.cd]
  rw [E]
  refine ⟨⟨?_, ?_, ?_, seat_1 F.n_ob F.n_oc, seat_2 F.n_bc, seat_3⟩, fun z hz => ?_⟩
  · rw [seat_o F.n_eo F.n_eb F.n_ec, seat_1 F.n_ed F.n_ea]
  · rw [seat_o F.n_od.symm F.n_bd.symm F.n_cd.symm, seat_2 F.n_ad.symm]
  · rw [seat_o F.n_oa.symm F.n_ab F.n_ac, seat_3]
  · obtain ⟨z1, z2, z3, z4, z5, z6⟩ := six_no hz
    rw [seat_o z2 z4 z5, seat_o z1 z6 z3]
end
theorem push_web {S : List Int} {nx : Int → Int} {e : Int} (W : Web S nx) (he : e ∈ S) (h1 : nx e ≠ ot e) (h2 : nx (nx e) ≠ ot e) : Web S (pushF nx e) :=
  (reseat_web (film_of W.map he h1 h2) W (push_vals (film_of W.map he h1 h2)).2 (.inl (push_vals (film_of W.map he h1 h2)).1)).1
theorem pull_web {S : List Int} {nx : Int → Int} {e : Int} (W : Web S nx) (he : e ∈ S) (h1 : nx e ≠ ot e) (h2 : nx (nx e) ≠ ot e) : Web S (pullF nx e) :=
  (reseat_web (film_of W.map he h1 h2) W (pull_vals (film_of W.map he h1 h2)).2 (.inr (pull_vals (film_of W.map he h1 h2)).1)).1
/-! WebE: films burst. Plain Lean. -/
theorem min_max (u v : Int) : (min u v = u ∧ max u v = v) ∨ (min u v = v ∧ max u v = u) := by
  by_cases h : u ≤ v
  · exact .inl ⟨by omega, by omega⟩
  · exact .inr ⟨by omega, by omega⟩
def mX (nx : Int → Int) (t : Int) : Int := min (nx t) (nx (nx t))
def mY (nx : Int → Int) (t : Int) : Int := max (nx t) (nx (nx t))
def m1S (S : List Int) (nx : Int → Int) (t : Int) : List Int := mendS S t (mY nx t) (ot (mY nx t))
def m1N (nx : Int → Int) (t : Int) : Int → Int := mendN nx (mX nx t) (ot (mY nx t))
section
variable {S : List Int} {al nx : Int → Int} {t : Int}
theorem mXY (nx : Int → Int) (t : Int) : (mX nx t = nx t ∧ mY nx t = nx (nx t)) ∨ (mX nx t = nx (nx t) ∧ mY nx t = nx t) := min_max _ _
theorem mend_mk (M : Map S al nx) (ht : t ∈ S) (tt : al t = t) (h1 : al (nx t) = ot (nx t)) (h2 : al (nx (nx t)) = ot (nx (nx t))) (hl : ot (nx t) ≠ nx (nx t)) : Mend S al nx t (mX nx t) (mY nx t) (ot (mY nx t)) := by
  have ha := M.cn t ht
  have hb := M.cn _ ha
  have h3 := M.n3 t ht
  rcases mXY nx t with ⟨ex, ey⟩ | ⟨ex, ey⟩
  · rw [ex, ey]
    exact ⟨M, ht, hb, tt, h2, .inl ⟨rfl, rfl, h3⟩, ot_ne _, fun z => hl ((congrArg ot z).symm.trans (ot_ot _))⟩
  · rw [ex, ey]
    exact ⟨M, ht, ha, tt, h1, .inr ⟨rfl, rfl, h3⟩, ot_ne _, hl⟩
end
theorem map_al {S : List Int} {al al' nx : Int → Int} (M : Map S al nx) (h : ∀ x ∈ S, al' x = al x) : Map S al' nx :=
  ⟨M.nd, fun x hx => by rw [h x hx]; exact M.ca x hx, M.cn, fun x hx => by rw [h x hx, h _ (M.ca x hx)]; exact M.aa x hx, M.n3, M.n1⟩
theorem cls_al {S : List Int} {al al' nx : Int → Int} {n : Nat} (h : ∀ x ∈ S, al' x = al x) (c : Cls S (fstep S (face al nx)) n) : Cls S (fstep S (face al' nx)) n :=
  cls_same (fun _ => Iff.rfl) (fun x y ⟨hx, e⟩ => .step ⟨hx, by rw [e]; unfold face; rw [h x hx]⟩) (fun x y ⟨hx, e⟩ => .step ⟨hx, by rw [e]; unfold face; rw [h x hx]⟩) c
theorem conn_al {S : List Int} {al al' nx : Int → Int} (h : ∀ x ∈ S, al' x = al x) {u v : Int} (c : Eqv (cs S al nx) u v) : Eqv (cs S al' nx) u v :=
  Eqv.mono (fun x y ⟨hx, q⟩ => .step ⟨hx, q.imp (fun z => by rw [h x hx]; exact z) id⟩) c
/-- a web of six ends has one rim -/
theorem six_ends {S : List Int} {nx : Int → Int} (W : Web S nx) (l : List Int) (hl : l.length = 6) (x0 : Int) (h0 : x0 ∈ S) (h0l : x0 ∈ l) (cl : ∀ x ∈ l, ot x ∈ l ∧ nx x ∈ l) (clb : ∀ x ∈ S, (ot x ∈ l → x ∈ l) ∧ (nx x ∈ l → x ∈ l)) {u v : Int} (hu : u ∈ S) (hv : v ∈ S) : Rim S nx u v := by
  obtain ⟨n, hn, hl6⟩ := W.eul
  have sub : ∀ x ∈ S, x ∈ l := fun x hx => by
    have q := Eqv.inv (A := fun z => z ∈ l) (fun a b q => ?_) (W.conn x0 h0 x hx)
    · exact q.mp h0l
    · obtain ⟨ha, q | q⟩ := q
      · subst q
        exact ⟨fun z => (cl a z).1, fun z => (clb a ha).1 z⟩
      · subst q
        exact ⟨fun z => (cl a z).2, fun z => (clb a ha).2 z⟩
  have len := sub_len W.map.nd sub
  have pos : 0 < S.length := List.length_pos_of_mem h0
  have n1 : n = 1 := by omega
  rw [n1] at hn
  exact cls_one hn hu hv
/-! ### a film that doesn't lead back -/
def burstS (S : List Int) (nx : Int → Int) (e : Int) : List Int := m1S (m1S S nx e) (m1N nx e) (ot e)
def burstN (nx : Int → Int) (e : Int) : Int → Int := m1N (m1N nx e) (ot e)
structure Burst (S : List Int) (nx : Int → Int) (e : Int) : Prop where
  D1 : Mend S (cutA ot e (ot e)) nx e (mX nx e) (mY nx e) (ot (mY nx e))
  D2 : Mend (m1S S nx e) (cutA ot e (ot e)) (m1N nx e) (ot e) (mX (m1N nx e) (ot e)) (mY (m1N nx e) (ot e)) (ot (mY (m1N nx e) (ot e)))
  web : Web (burstS S nx e) (burstN nx e)
  len : (burstS S nx e).length + 6 = S.length
theorem burst_web {S : List Int} {nx : Int → Int} {e : Int} (W : Web S nx) (he : e ∈ S) (h1 : nx e ≠ ot e) (h2 : nx (nx e) ≠ ot e) (hr : ¬ Rim S nx e (ot e)) : Burst S nx e := by
  have F := film_of W.map he h1 h2
  generalize ho_ : ot e = o at *
  generalize ha_ : nx e = a at *
  generalize hb_ : nx a = b at *
  generalize hc_ : nx o = c at *
  generalize hd_ : nx c = d at *
  have M := W.map
  have st : ∀ z ∈ S, Rim S nx z (nx (ot z)) := fun z hz => .step ⟨hz, rfl⟩
  have s_e : Rim S nx e c := by have := st e he; rw [F.eo, F.oc] at this; exact this
  have s_o : Rim S nx o a := by have := st o F.ho; rw [F.oe, F.ea] at this; exact this
  -- no loop beside
  have hab : ot a ≠ b := fun z => hr (by
    have s1 := st a F.ha
    rw [z, F.be] at s1
    exact (s_o.trans s1).symm)
  have hcd : ot c ≠ d := fun z => hr (by
    have s1 := st c F.hc
    rw [z, F.do_] at s1
    exact s_e.trans s1)
  -- the two films c, d aren't the two films a, b
  have hnot1 : ¬ (ot c = a ∧ ot d = b) := fun ⟨z1, z2⟩ => hr (by
    have s1 := st c F.hc
    rw [z1, F.ab] at s1
    have s2 := st b F.hb
    have e2 : ot b = d := by rw [← z2, ot_ot]
    rw [e2, F.do_] at s2
    exact s_e.trans (s1.trans s2))
  have hnot2 : ¬ (ot c = b ∧ ot d = a) := fun ⟨z1, z2⟩ => hr (by
    have oa : ot a = d := by rw [← z2, ot_ot]
    have ob : ot b = c := by rw [← z1, ot_ot]
    refine six_ends W [e, o, a, b, c, d] rfl e he List.mem_cons_self (fun x hx => ?_) (fun x hx => ⟨fun q => ?_, fun q => ?_⟩) he F.ho
    · simp only [List.mem_cons, List.not_mem_nil, or_false] at hx ⊢
      rcases hx with rfl | rfl | rfl | rfl | rfl | rfl
      · rw [F.eo, F.ea]; simp
      · rw [F.oe, F.oc]; simp
      · rw [oa, F.ab]; simp
      · rw [ob, F.be]; simp
      · rw [z1, F.cd]; simp
      · rw [z2, F.do_]; simp
    · simp only [List.mem_cons, List.not_mem_nil, or_false] at q ⊢
      have back : x = ot (ot x) := (ot_ot x).symm
      rcases q with q | q | q | q | q | q
      · rw [back, q, F.eo]; simp
      · rw [back, q, F.oe]; simp
      · rw [back, q, oa]; simp
      · rw [back, q, ob]; simp
      · rw [back, q, z1]; simp
      · rw [back, q, z2]; simp
    · simp only [List.mem_cons, List.not_mem_nil, or_false] at q ⊢
      rcases q with q | q | q | q | q | q
      · rw [M.ninj hx F.hb (q.trans F.be.symm)]; simp
      · rw [M.ninj hx F.hd (q.trans F.do_.symm)]; simp
      · rw [M.ninj hx F.he (q.trans F.ea.symm)]; simp
      · rw [M.ninj hx F.ha (q.trans F.ab.symm)]; simp
      · rw [M.ninj hx F.ho (q.trans F.oc.symm)]; simp
      · rw [M.ninj hx F.hc (q.trans F.cd.symm)]; simp)
  have Mc := cut_map M he F.ho F.eo F.oe
  have alz : ∀ z, z ≠ e → z ≠ o → cutA ot e o z = ot z := fun z z1 z2 => by unfold cutA; rw [if_neg z1, if_neg z2]
  have ale : cutA ot e o e = e := by unfold cutA; rw [if_pos rfl]
  have alo : cutA ot e o o = o := by unfold cutA; rw [if_neg F.n_eo.symm, if_pos rfl]
  have D1 : Mend S (cutA ot e o) nx e (mX nx e) (mY nx e) (ot (mY nx e)) := mend_mk Mc he ale (by rw [F.ea]; exact alz a F.n_ea.symm F.n_oa.symm) (by rw [F.ea, F.ab]; exact alz b F.n_eb.symm F.n_ob.symm) (by rw [F.ea, F.ab]; exact hab)
  have M1 := mend_map D1
  -- the second corner
  have xy : (mX nx e = a ∧ mY nx e = b) ∨ (mX nx e = b ∧ mY nx e = a) := by
    have q := mXY nx e
    rw [F.ea, F.ab] at q
    exact q
  have oS1 : o ∈ m1S S nx e := mem_mendS.mpr ⟨F.ho, F.n_eo.symm, by rcases xy with ⟨_, q⟩ | ⟨_, q⟩ <;> rw [q]; exact F.n_ob; exact F.n_oa, fun z => by
    have : ot o = mY nx e := by rw [z, ot_ot]
    rw [F.oe] at this
    rcases xy with ⟨_, q⟩ | ⟨_, q⟩
    · rw [q] at this; exact F.n_eb this
    · rw [q] at this; exact F.n_ea this⟩
  have ox : o ≠ mX nx e := by rcases xy with ⟨q, _⟩ | ⟨q, _⟩ <;> rw [q]; exact F.n_oa; exact F.n_ob
  have cx : c ≠ mX nx e := by rcases xy with ⟨q, _⟩ | ⟨q, _⟩ <;> rw [q]; exact F.n_ac.symm; exact F.n_bc.symm
  have c1S := M1.cn o oS1
  have d1S := M1.cn _ c1S
  have cd1 : (m1N nx e o = c ∧ m1N nx e (m1N nx e o) = d) ∨ (c = ot (mY nx e) ∧ m1N nx e o = mX nx e ∧ m1N nx e (m1N nx e o) = d) ∨ (d = ot (mY nx e) ∧ m1N nx e o = c ∧ m1N nx e (m1N nx e o) = mX nx e) := by
    by_cases k1 : c = ot (mY nx e)
    · have e1 : m1N nx e o = mX nx e := mendN_q ox (by rw [F.oc]; exact k1)
      refine .inr (.inl ⟨k1, e1, ?_⟩)
      rw [e1]
      show mendN nx (mX nx e) (ot (mY nx e)) (mX nx e) = d
      rw [mendN_x, ← k1, F.cd]
    · have e1 : m1N nx e o = c := (mendN_o ox (by rw [F.oc]; exact k1)).trans F.oc
      by_cases k2 : d = ot (mY nx e)
      · refine .inr (.inr ⟨k2, e1, ?_⟩)
        rw [e1]
        exact mendN_q cx (by rw [F.cd]; exact k2)
      · refine .inl ⟨e1, ?_⟩
        rw [e1]
        exact (mendN_o cx (by rw [F.cd]; exact k2)).trans F.cd
  have hl2 : ot (m1N nx e o) ≠ m1N nx e (m1N nx e o) := by
    rcases cd1 with ⟨k1, k2⟩ | ⟨k0, k1, k2⟩ | ⟨k0, k1, k2⟩
    · rw [k2, k1]; exact hcd
    · rw [k2, k1]
      intro z
      have od : ot d = mX nx e := by rw [← z, ot_ot]
      have oc : ot c = mY nx e := by rw [k0, ot_ot]
      rcases xy with ⟨q1, q2⟩ | ⟨q1, q2⟩
      · exact hnot2 ⟨oc.trans q2, od.trans q1⟩
      · exact hnot1 ⟨oc.trans q2, od.trans q1⟩
    · rw [k2, k1]
      intro z
      have od : ot d = mY nx e := by rw [k0, ot_ot]
      rcases xy with ⟨q1, q2⟩ | ⟨q1, q2⟩
      · exact hnot1 ⟨z.trans q1, od.trans q2⟩
      · exact hnot2 ⟨z.trans q1, od.trans q2⟩
  have al_in : ∀ z ∈ m1S S nx e, z ≠ o → cutA ot e o z = ot z := fun z hz z1 => alz z (mem_mendS.mp hz).2.1 z1
  have D2 : Mend (m1S S nx e) (cutA ot e o) (m1N nx e) o (mX (m1N nx e) o) (mY (m1N nx e) o) (ot (mY (m1N nx e) o)) :=
    mend_mk M1 oS1 alo (al_in _ c1S (M1.n1 o oS1)) (al_in _ d1S (M1.n2 oS1)) hl2
  have M2 := mend_map D2
  have len1 := mend_len D1
  have len2 := mend_len D2
  obtain ⟨n, hn, hl⟩ := W.eul
  have npos : ∃ k, n = k + 1 := by
    cases n with
    | zero =>
      obtain ⟨R, g1, _, g3, _⟩ := hn
      obtain ⟨y, hy, _⟩ := g3 e he
      rw [List.length_eq_zero_iff.mp g1] at hy
      exact absurd hy List.not_mem_nil
    | succ k => exact ⟨k, rfl⟩
  obtain ⟨k, rfl⟩ := npos
  have cl2 := mend_cls D2 (mend_cls D1 (cut_cls M he F.ho F.eo F.oe hr hn))
  have al2 : ∀ x ∈ mendS (m1S S nx e) o (mY (m1N nx e) o) (ot (mY (m1N nx e) o)), ot x = cutA ot e o x := fun x hx => (al_in x (mem_mendS.mp hx).1 (mem_mendS.mp hx).2.1).symm
  have cn2 := mend_conn D2 (mend_conn D1 fun u hu v hv => cut_conn M he F.ho F.eo F.oe hr (W.conn u hu v hv))
  have lenS : (mendS (m1S S nx e) o (mY (m1N nx e) o) (ot (mY (m1N nx e) o))).length + 6 = S.length := by
    have l1 : (m1S S nx e).length + 3 = S.length := len1
    omega
  refine ⟨ho_ ▸ D1, ho_ ▸ D2, ?_, ?_⟩
  · unfold burstS burstN
    rw [ho_]
    refine ⟨map_al M2 al2, ?_, fun u hu v hv => conn_al al2 (cn2 u hu v hv), ⟨k, cls_al al2 cl2, by show 6 * k = (mendS _ _ _ _).length; omega⟩, fun x hx => W.pos x (mem_mendS.mp (mem_mendS.mp hx).1).1⟩
    intro z
    have z0 : (mendS (m1S S nx e) o (mY (m1N nx e) o) (ot (mY (m1N nx e) o))).length = 0 := by
      have z' : mendS (m1S S nx e) o (mY (m1N nx e) o) (ot (mY (m1N nx e) o)) = [] := z
      rw [z']; rfl
    have k0 : k + 1 = 1 := by omega
    rw [k0] at hn
    exact hr (cls_one hn he F.ho)
  · unfold burstS
    rw [ho_]
    exact lenS
/-! ### a film that leads back to its own corner -/
def loopT (nx : Int → Int) (e : Int) : Int := if nx e = ot e then nx (nx e) else nx e
def loopS (S : List Int) (nx : Int → Int) (e : Int) : List Int := S.filter fun z => decide (z ≠ e ∧ z ≠ ot e ∧ z ≠ loopT nx e)
def burstLS (S : List Int) (nx : Int → Int) (e : Int) : List Int := m1S (loopS S nx e) nx (ot (loopT nx e))
def burstLN (nx : Int → Int) (e : Int) : Int → Int := m1N nx (ot (loopT nx e))
structure BurstL (S : List Int) (nx : Int → Int) (e : Int) : Prop where
  map : Map (loopS S nx e) (fun z => if z = ot (loopT nx e) then z else ot z) nx
  D : Mend (loopS S nx e) (fun z => if z = ot (loopT nx e) then z else ot z) nx (ot (loopT nx e)) (mX nx (ot (loopT nx e))) (mY nx (ot (loopT nx e))) (ot (mY nx (ot (loopT nx e))))
  web : Web (burstLS S nx e) (burstLN nx e)
  len : (burstLS S nx e).length + 6 = S.length
theorem burstL_web {S : List Int} {nx : Int → Int} {e : Int} (W : Web S nx) (he : e ∈ S) (hloop : nx e = ot e ∨ nx (nx e) = ot e) : BurstL S nx e := by
  have M := W.map
  have ho := M.ca e he
  have hoe : ot e ≠ e := ot_ne e
  -- the third end, and which of the two is alone on its rim
  obtain ⟨t, z0, z1, et, ht, te, to, hz0, hz1, z01, zc, f0, f1, f2, cor⟩ : ∃ t z0 z1, loopT nx e = t ∧ t ∈ S ∧ t ≠ e ∧ t ≠ ot e ∧ z0 ∈ S ∧ z1 ∈ S ∧ z0 ≠ z1 ∧ ((z0 = e ∧ z1 = ot e) ∨ (z0 = ot e ∧ z1 = e)) ∧ nx (ot z0) = z0 ∧ nx (ot z1) = t ∧ nx t = z1 ∧
      (∀ z ∈ S, nx z = e ∨ nx z = ot e ∨ nx z = t ↔ z = e ∨ z = ot e ∨ z = t) := by
    by_cases c1 : nx e = ot e
    · have ht := M.cn _ (M.cn e he)
      refine ⟨nx (nx e), ot e, e, if_pos c1, ht, M.n2 he, by rw [← c1]; exact M.n12 he, ho, he, hoe, .inr ⟨rfl, rfl⟩, by rw [ot_ot]; exact c1, by rw [← c1], M.n3 e he, fun z hz => ?_⟩
      constructor
      · rintro (q | q | q)
        · exact .inr (.inr (M.ninj hz ht (q.trans (M.n3 e he).symm)))
        · exact .inl (M.ninj hz he (q.trans c1.symm))
        · exact .inr (.inl ((M.ninj hz (M.cn e he) q).trans c1))
      · rintro (q | q | q)
        · exact .inr (.inl (by rw [q]; exact c1))
        · exact .inr (.inr (by rw [q, ← c1]))
        · exact .inl (by rw [q]; exact M.n3 e he)
    · have c2 : nx (nx e) = ot e := hloop.resolve_left c1
      have ht := M.cn e he
      have h3 := M.n3 e he
      rw [c2] at h3
      refine ⟨nx e, e, ot e, if_neg c1, ht, M.n1 e he, by rw [← c2]; exact (M.n12 he).symm, he, ho, hoe.symm, .inl ⟨rfl, rfl⟩, h3, by rw [ot_ot], c2, fun z hz => ?_⟩
      constructor
      · rintro (q | q | q)
        · exact .inr (.inl (M.ninj hz ho (q.trans h3.symm)))
        · exact .inr (.inr (M.ninj hz ht (q.trans c2.symm)))
        · exact .inl (M.ninj hz he q)
      · rintro (q | q | q)
        · exact .inr (.inr (by rw [q]))
        · exact .inl (by rw [q]; exact h3)
        · exact .inr (.inl (by rw [q]; exact c2))
  have zmem : ∀ z, (z = e ∨ z = ot e ∨ z = t) ↔ (z = z0 ∨ z = z1 ∨ z = t) := fun z => by
    rcases zc with ⟨q1, q2⟩ | ⟨q1, q2⟩
    · rw [q1, q2]
    · rw [q1, q2]
      constructor
      · rintro (q | q | q)
        · exact .inr (.inl q)
        · exact .inl q
        · exact .inr (.inr q)
      · rintro (q | q | q)
        · exact .inr (.inl q)
        · exact .inl q
        · exact .inr (.inr q)
  -- u: the other end of the third film
  have hu : ot t ∈ S := M.ca t ht
  have u1 : ot t ≠ e := fun q => to (by rw [← ot_ot t, q])
  have u2 : ot t ≠ ot e := fun q => te (by rw [← ot_ot t, q, ot_ot])
  have u3 : ot t ≠ t := ot_ne t
  have u_no : ¬ (ot t = e ∨ ot t = ot e ∨ ot t = t) := by
    rintro (q | q | q)
    · exact u1 q
    · exact u2 q
    · exact u3 q
  have memL : ∀ z, z ∈ loopS S nx e ↔ z ∈ S ∧ ¬ (z = e ∨ z = ot e ∨ z = t) := fun z => by
    unfold loopS
    rw [et, List.mem_filter, decide_eq_true_eq]
    exact ⟨fun ⟨q, a, b, c⟩ => ⟨q, fun h => h.elim a fun h => h.elim b c⟩, fun ⟨q, h⟩ => ⟨q, fun a => h (.inl a), fun a => h (.inr (.inl a)), fun a => h (.inr (.inr a))⟩⟩
  have uL : ot t ∈ loopS S nx e := (memL _).mpr ⟨hu, u_no⟩
  let al : Int → Int := fun z => if z = ot t then z else ot z
  have alu : al (ot t) = ot t := if_pos rfl
  have alz : ∀ z, z ≠ ot t → al z = ot z := fun z h => if_neg h
  have otL : ∀ z, z ∈ S → ¬ (z = e ∨ z = ot e ∨ z = t) → z ≠ ot t → ¬ (ot z = e ∨ ot z = ot e ∨ ot z = t) := fun z hz h1 h2 => by
    rintro (q | q | q)
    · exact h1 (.inr (.inl (by rw [← q, ot_ot])))
    · exact h1 (.inl (by rw [← ot_ot z, q, ot_ot]))
    · exact h2 (by rw [← q, ot_ot])
  have nxL : ∀ z, z ∈ S → ¬ (z = e ∨ z = ot e ∨ z = t) → ¬ (nx z = e ∨ nx z = ot e ∨ nx z = t) := fun z hz h q => h ((cor z hz).mp q)
  have ML : Map (loopS S nx e) al nx := by
    refine ⟨M.nd.filter _, fun x hx => ?_, fun x hx => ?_, fun x hx => ?_, fun x hx => M.n3 x ((memL x).mp hx).1, fun x hx => M.n1 x ((memL x).mp hx).1⟩
    · obtain ⟨xS, xn⟩ := (memL x).mp hx
      by_cases c : x = ot t
      · rw [c, alu]; exact uL
      · rw [alz x c]; exact (memL _).mpr ⟨M.ca x xS, otL x xS xn c⟩
    · obtain ⟨xS, xn⟩ := (memL x).mp hx
      exact (memL _).mpr ⟨M.cn x xS, nxL x xS xn⟩
    · obtain ⟨xS, xn⟩ := (memL x).mp hx
      by_cases c : x = ot t
      · rw [c, alu, alu]
      · have c' : ot x ≠ ot t := fun q => xn (.inr (.inr (by rw [← ot_ot x, q, ot_ot])))
        rw [alz x c, alz _ c', ot_ot]
  -- the faces
  have st : ∀ z ∈ S, Rim S nx z (nx (ot z)) := fun z hz => .step ⟨hz, rfl⟩
  have alone : ¬ Rim S nx z0 z1 := fun q => by
    have inv := Eqv.inv (A := fun z => z = z0) (fun a b h => ?_) q
    · exact z01 (inv.mp rfl).symm
    · obtain ⟨ha, rfl⟩ := h
      constructor
      · rintro rfl
        exact f0
      · intro h
        have h2 : nx (ot a) = nx (ot z0) := h.trans f0.symm
        exact M.ainj ha hz0 (M.ninj (M.ca a ha) (M.ca _ hz0) h2)
  have s_u : Rim S nx (ot t) z1 := by have := st _ hu; rw [ot_ot, f2] at this; exact this
  have s_1 : Rim S nx z1 t := by have := st _ hz1; rw [f1] at this; exact this
  have s_t : Rim S nx t (nx (ot t)) := st t ht
  obtain ⟨n, hn, hl⟩ := W.eul
  obtain ⟨k, rfl⟩ : ∃ k, n = k + 1 := by
    cases n with
    | zero =>
      obtain ⟨R, g1, _, g3, _⟩ := hn
      obtain ⟨y, hy, _⟩ := g3 e he
      rw [List.length_eq_zero_iff.mp g1] at hy
      exact absurd hy List.not_mem_nil
    | succ k => exact ⟨k, rfl⟩
  let f : Int → Int := fun z => if z = e ∨ z = ot e ∨ z = t then ot t else z
  have f_b : ∀ z, (z = e ∨ z = ot e ∨ z = t) → f z = ot t := fun z h => if_pos h
  have f_o : ∀ z, ¬ (z = e ∨ z = ot e ∨ z = t) → f z = z := fun z h => if_neg h
  have pu_no : ¬ (nx (ot t) = e ∨ nx (ot t) = ot e ∨ nx (ot t) = t) := nxL _ hu u_no
  have clL : Cls (loopS S nx e) (fstep (loopS S nx e) (face al nx)) k := by
    refine cls_maps f id ?_ ?_ ?_ ?_ ?_ ?_ (cls_merge hz0 hz1 alone hn)
    · rintro z v (⟨hz, rfl⟩ | ⟨rfl, rfl⟩)
      · show Eqv _ (f z) (f (nx (ot z)))
        by_cases c : z = e ∨ z = ot e ∨ z = t
        · rw [f_b z c]
          rcases (zmem z).mp c with q | q | q
          · rw [q, f0, f_b z0 ((zmem z0).mpr (.inl rfl))]; exact .refl _
          · rw [q, f1, f_b t (.inr (.inr rfl))]; exact .refl _
          · rw [q, f_o _ pu_no]
            exact .step ⟨uL, by unfold face; rw [alu]⟩
        · rw [f_o z c]
          by_cases c2 : z = ot t
          · rw [c2, ot_ot, f2, f_b z1 ((zmem z1).mpr (.inr (.inl rfl)))]; exact .refl _
          · have h1 := otL z hz c c2
            rw [f_o _ (nxL _ (M.ca z hz) h1)]
            exact .step ⟨(memL z).mpr ⟨hz, c⟩, by unfold face; rw [alz z c2]⟩
      · show Eqv _ (f z) (f v)
        rw [f_b z ((zmem z).mpr (.inl rfl)), f_b v ((zmem v).mpr (.inr (.inl rfl)))]; exact .refl _
    · rintro z v ⟨hz, rfl⟩
      obtain ⟨zS, zn⟩ := (memL z).mp hz
      show Eqv _ z (nx (al z))
      have up : ∀ {a b}, Rim S nx a b → Eqv (plusPair (fstep S (face ot nx)) z0 z1) a b := fun q => Eqv.mono (fun _ _ q => .step (.inl q)) q
      by_cases c2 : z = ot t
      · rw [c2, alu]
        exact up (s_u.trans (s_1.trans s_t))
      · rw [alz z c2]
        exact up (st z zS)
    · intro z hz
      by_cases c : z = e ∨ z = ot e ∨ z = t
      · rw [f_b z c]; exact uL
      · rw [f_o z c]; exact (memL z).mpr ⟨hz, c⟩
    · intro z hz
      exact ((memL z).mp hz).1
    · intro z hz
      show Eqv _ (f z) z
      rw [f_o z ((memL z).mp hz).2]; exact .refl _
    · intro z hz
      show Eqv _ (f z) z
      have up : ∀ {a b}, Rim S nx a b → Eqv (plusPair (fstep S (face ot nx)) z0 z1) a b := fun q => Eqv.mono (fun _ _ q => .step (.inl q)) q
      by_cases c : z = e ∨ z = ot e ∨ z = t
      · rw [f_b z c]
        rcases (zmem z).mp c with q | q | q
        · rw [q]
          exact (up s_u).trans (Eqv.symm (.step (.inr ⟨rfl, rfl⟩)))
        · rw [q]; exact up s_u
        · rw [q]; exact up (s_u.trans s_1)
      · rw [f_o z c]; exact .refl _
  have cnL : ∀ u ∈ loopS S nx e, ∀ v ∈ loopS S nx e, Eqv (cs (loopS S nx e) al nx) u v := by
    intro u hu' v hv'
    obtain ⟨uS, un⟩ := (memL u).mp hu'
    obtain ⟨vS, vn⟩ := (memL v).mp hv'
    have q := Eqv.map (f := f) (r' := cs (loopS S nx e) al nx) (fun z w h => ?_) (W.conn u uS v vS)
    · rw [f_o u un, f_o v vn] at q
      exact q
    · obtain ⟨hz, h | h⟩ := h
      · subst h
        by_cases c : z = e ∨ z = ot e ∨ z = t
        · rw [f_b z c]
          rcases c with q | q | q
          · rw [q, f_b _ (.inr (.inl rfl))]; exact .refl _
          · rw [q, ot_ot, f_b _ (.inl rfl)]; exact .refl _
          · rw [q, f_o _ u_no]; exact .refl _
        · rw [f_o z c]
          by_cases c2 : z = ot t
          · rw [c2, ot_ot, f_b t (.inr (.inr rfl))]; exact .refl _
          · rw [f_o _ (otL z hz c c2)]
            exact .step ⟨(memL z).mpr ⟨hz, c⟩, .inl (alz z c2).symm⟩
      · subst h
        by_cases c : z = e ∨ z = ot e ∨ z = t
        · rw [f_b z c, f_b _ ((cor z hz).mpr c)]; exact .refl _
        · rw [f_o z c, f_o _ (nxL z hz c)]
          exact .step ⟨(memL z).mpr ⟨hz, c⟩, .inr rfl⟩
  have lenL : (loopS S nx e).length + 3 = S.length := by
    unfold loopS
    rw [et]
    exact len_ne3 M.nd he ho ht hoe.symm te.symm to.symm
  -- the corner of u
  have pL := ML.cn _ uL
  have qL := ML.cn _ pL
  have hpq : ot (nx (ot t)) ≠ nx (nx (ot t)) := fun z => alone (by
    have hp := M.cn _ hu
    have hq := M.cn _ hp
    have h3 := M.n3 _ hu
    have oq : ot (nx (nx (ot t))) = nx (ot t) := by rw [← z, ot_ot]
    refine six_ends W [e, ot e, t, ot t, nx (ot t), nx (nx (ot t))] rfl e he List.mem_cons_self (fun x hx => ?_) (fun x hx => ⟨fun q => ?_, fun q => ?_⟩) hz0 hz1
    · have c3 : ∀ x, (x = e ∨ x = ot e ∨ x = t) → (nx x = e ∨ nx x = ot e ∨ nx x = t) := fun x h => (cor x (by rcases h with h | h | h <;> rw [h]; exact he; exact ho; exact ht)).mpr h
      simp only [List.mem_cons, List.not_mem_nil, or_false] at hx ⊢
      rcases hx with rfl | rfl | rfl | rfl | rfl | rfl
      · exact ⟨.inr (.inl rfl), by rcases c3 _ (.inl rfl) with h | h | h <;> simp [h]⟩
      · exact ⟨.inl (ot_ot e), by rcases c3 _ (.inr (.inl rfl)) with h | h | h <;> simp [h]⟩
      · exact ⟨by simp, by rcases c3 _ (.inr (.inr rfl)) with h | h | h <;> simp [h]⟩
      · exact ⟨by rw [ot_ot]; simp, by simp⟩
      · exact ⟨by rw [z]; simp, by simp⟩
      · exact ⟨by rw [oq]; simp, by rw [h3]; simp⟩
    · simp only [List.mem_cons, List.not_mem_nil, or_false] at q ⊢
      have back : x = ot (ot x) := (ot_ot x).symm
      rcases q with q | q | q | q | q | q
      · rw [back, q]; simp
      · rw [back, q, ot_ot]; simp
      · rw [back, q]; simp
      · rw [back, q, ot_ot]; simp
      · rw [back, q, z]; simp
      · rw [back, q, oq]; simp
    · simp only [List.mem_cons, List.not_mem_nil, or_false] at q ⊢
      by_cases c : nx x = e ∨ nx x = ot e ∨ nx x = t
      · rcases (cor x hx).mp c with h | h | h <;> simp [h]
      · rcases q with q | q | q | q | q | q
        · exact absurd (.inl q) c
        · exact absurd (.inr (.inl q)) c
        · exact absurd (.inr (.inr q)) c
        · rw [M.ninj hx hq (q.trans h3.symm)]; simp
        · rw [M.ninj hx hu q]; simp
        · rw [M.ninj hx hp q]; simp)
  have D : Mend (loopS S nx e) al nx (ot t) (mX nx (ot t)) (mY nx (ot t)) (ot (mY nx (ot t))) := mend_mk ML uL alu (alz _ (ML.n1 _ uL)) (alz _ (ML.n2 uL)) hpq
  have lenM := mend_len D
  have al2 : ∀ x ∈ m1S (loopS S nx e) nx (ot t), ot x = al x := fun x hx => (alz x (mem_mendS.mp hx).2.1).symm
  refine ⟨by rw [et]; exact ML, by rw [et]; exact D, ?_, by
    have l1 : (m1S (loopS S nx e) nx (ot t)).length + 3 = (loopS S nx e).length := lenM
    unfold burstLS
    rw [et]
    omega⟩
  unfold burstLS burstLN
  rw [et]
  refine ⟨map_al (mend_map D) al2, ?_, fun u hu v hv => conn_al al2 (mend_conn D cnL u hu v hv), ⟨k, cls_al al2 (mend_cls D clL), by
    have l1 : (m1S (loopS S nx e) nx (ot t)).length + 3 = (loopS S nx e).length := lenM
    omega⟩, fun x hx => W.pos x ((memL x).mp (mem_mendS.mp hx).1).1⟩
  intro z
  have z0' : (m1S (loopS S nx e) nx (ot t)).length = 0 := by rw [z]; rfl
  have l1 : (m1S (loopS S nx e) nx (ot t)).length + 3 = (loopS S nx e).length := lenM
  have k0 : k + 1 = 1 := by omega
  rw [k0] at hn
  exact alone (cls_one hn hz0 hz1)
/-! WebB: bubbles blown and parted. Plain Lean. -/
theorem swap_swap {f : Int → Int} {a b : Int} (h : a ≠ b) : swapF (swapF f a b) a b = f := by
  funext z
  unfold swapF
  by_cases c1 : z = a
  · rw [if_pos c1, if_neg h.symm, if_pos rfl, c1]
  · rw [if_neg c1]
    by_cases c2 : z = b
    · rw [if_pos c2, if_pos rfl, c2]
    · rw [if_neg c2, if_neg c1, if_neg c2]
/-- a film put in whose cutting gives n faces, both its ends on one -/
theorem add_cls {S : List Int} {nx : Int → Int} {N N1 : Int} {n : Nat} (M : Map S ot nx) (hN : N ∈ S) (hN1 : N1 ∈ S) (h1 : ot N = N1) (h2 : ot N1 = N) (c : Cls S (fstep S (face (cutA ot N N1) nx)) n) (e : Eqv (fstep S (face (cutA ot N N1) nx)) N N1) :
    Cls S (fstep S (face ot nx)) (n + 1) ∧ ¬ Eqv (fstep S (face ot nx)) N N1 := by
  have hne : N ≠ N1 := fun z => ot_ne N (h1.trans z.symm)
  have P := (cut_map M hN hN1 h1 h2).perm
  have q := swap_up P hN hN1 hne e c
  have q2 := swap_split P hN hN1 hne e
  have E : swapF (face (cutA ot N N1) nx) N N1 = face ot nx := by rw [cut_face h1 h2, swap_swap hne]
  rw [E] at q q2
  exact ⟨q, q2⟩
def New6 (L z : Int) : Prop := z = L ∨ z = L + 1 ∨ z = L + 2 ∨ z = L + 3 ∨ z = L + 4 ∨ z = L + 5
theorem nodup6 (L : Int) : [L, L + 5, L + 2, L + 1, L + 4, L + 3].Nodup := by
  refine List.Pairwise.cons ?_ (List.Pairwise.cons ?_ (List.Pairwise.cons ?_ (List.Pairwise.cons ?_ (List.Pairwise.cons ?_ (List.Pairwise.cons ?_ List.Pairwise.nil)))))
  all_goals
    intro a h
    simp only [List.mem_cons, List.not_mem_nil, or_false] at h
    try omega
theorem ot_L {L : Int} (h : L % 2 = 0) : ot L = L + 1 ∧ ot (L + 1) = L ∧ ot (L + 2) = L + 3 ∧ ot (L + 3) = L + 2 ∧ ot (L + 4) = L + 5 ∧ ot (L + 5) = L + 4 := by
  unfold ot
  refine ⟨?_, ?_, ?_, ?_, ?_, ?_⟩
  · rw [if_pos (by omega)]
  · rw [if_neg (by omega)]; omega
  · rw [if_pos (by omega)]; omega
  · rw [if_neg (by omega)]; omega
  · rw [if_pos (by omega)]; omega
  · rw [if_neg (by omega)]; omega
/-! ### blown -/
def blowF (nx : Int → Int) (e L : Int) : Int → Int := seatF (seatF (seatF nx e L (L + 5)) (nx e) (L + 2) (L + 1)) (nx (nx e)) (L + 4) (L + 3)
def blowS (S : List Int) (L : Int) : List Int := S ++ [L, L + 5, L + 2, L + 1, L + 4, L + 3]
theorem mem_blowS {S : List Int} {L z : Int} : z ∈ blowS S L ↔ z ∈ S ∨ New6 L z := by
  unfold blowS New6
  rw [List.mem_append]
  simp only [List.mem_cons, List.not_mem_nil, or_false]
  constructor
  · rintro (q | q | q | q | q | q | q)
    · exact .inl q
    · exact .inr (.inl q)
    · exact .inr (.inr (.inr (.inr (.inr (.inr q)))))
    · exact .inr (.inr (.inr (.inl q)))
    · exact .inr (.inr (.inl q))
    · exact .inr (.inr (.inr (.inr (.inr (.inl q)))))
    · exact .inr (.inr (.inr (.inr (.inl q))))
  · rintro (q | q | q | q | q | q | q)
    · exact .inl q
    · exact .inr (.inl q)
    · exact .inr (.inr (.inr (.inr (.inl q))))
    · exact .inr (.inr (.inr (.inl q)))
    · exact .inr (.inr (.inr (.inr (.inr (.inr q)))))
    · exact .inr (.inr (.inr (.inr (.inr (.inl q)))))
    · exact .inr (.inr (.inl q))
structure BlowV (S : List Int) (nx nx' : Int → Int) (e a b L : Int) : Prop where
  he : e ∈ S
  ha : a ∈ S
  hb : b ∈ S
  ea : nx e = a
  ab : nx a = b
  be : nx b = e
  v_e : nx' e = L
  v_0 : nx' L = L + 5
  v_5 : nx' (L + 5) = e
  v_a : nx' a = L + 2
  v_2 : nx' (L + 2) = L + 1
  v_1 : nx' (L + 1) = a
  v_b : nx' b = L + 4
  v_4 : nx' (L + 4) = L + 3
  v_3 : nx' (L + 3) = b
  v_o : ∀ z ∈ S, z ≠ e → z ≠ a → z ≠ b → nx' z = nx z
  n_ea : e ≠ a
  n_eb : e ≠ b
  n_ab : a ≠ b
theorem blow_vals {S : List Int} {nx : Int → Int} {e L : Int} (M : Map S ot nx) (he : e ∈ S) (hL : ∀ x ∈ S, x < L) : BlowV S nx (blowF nx e L) e (nx e) (nx (nx e)) L := by
  have ha := M.cn e he
  have hb := M.cn _ ha
  have n1 := (M.n1 e he).symm
  have n2 := (M.n2 he).symm
  have n3 := (M.n12 he).symm
  generalize hA : nx e = a at *
  generalize hB : nx a = b at *
  have le := hL e he
  have la := hL a ha
  have lb := hL b hb
  have E : blowF nx e L = seatF (seatF (seatF nx e L (L + 5)) a (L + 2) (L + 1)) b (L + 4) (L + 3) := by unfold blowF; rw [hA, hB]
  rw [E]
  refine ⟨he, ha, hb, hA, hB, by rw [← hB, ← hA]; exact M.n3 e he, ?_, ?_, ?_, ?_, ?_, ?_, ?_, ?_, ?_, fun z hz z1 z2 z3 => ?_, n1, n2, n3⟩
  · rw [seat_o n2 (by omega) (by omega), seat_o n1 (by omega) (by omega), seat_1 (by omega) (by omega)]
  · rw [seat_o (by omega) (by omega) (by omega), seat_o (by omega) (by omega) (by omega), seat_2 (by omega)]
  · rw [seat_o (by omega) (by omega) (by omega), seat_o (by omega) (by omega) (by omega), seat_3]
  · rw [seat_o n3 (by omega) (by omega), seat_1 (by omega) (by omega)]
  · rw [seat_o (by omega) (by omega) (by omega), seat_2 (by omega)]
  · rw [seat_o (by omega) (by omega) (by omega), seat_3]
  · rw [seat_1 (by omega) (by omega)]
  · rw [seat_2 (by omega)]
  · rw [seat_3]
  · have lz := hL z hz
    rw [seat_o z3 (by omega) (by omega), seat_o z2 (by omega) (by omega), seat_o z1 (by omega) (by omega)]
theorem blow_web {S : List Int} {nx : Int → Int} {e L : Int} (W : Web S nx) (he : e ∈ S) (hL : ∀ x ∈ S, x < L) (h0 : 0 ≤ L) (h2 : L % 2 = 0) : Web (blowS S L) (blowF nx e L) ∧ (blowS S L).length = S.length + 6 := by
  have M := W.map
  have V := blow_vals M he hL
  obtain ⟨o0, o1, o2, o3, o4, o5⟩ := ot_L h2
  generalize nx e = a at V
  generalize nx a = b at V
  generalize blowF nx e L = nx' at V ⊢
  have mS : ∀ z, z ∈ S → z ∈ blowS S L := fun z h => mem_blowS.mpr (.inl h)
  have m0 : L ∈ blowS S L := mem_blowS.mpr (.inr (.inl rfl))
  have m1 : L + 1 ∈ blowS S L := mem_blowS.mpr (.inr (.inr (.inl rfl)))
  have m2 : L + 2 ∈ blowS S L := mem_blowS.mpr (.inr (.inr (.inr (.inl rfl))))
  have m3 : L + 3 ∈ blowS S L := mem_blowS.mpr (.inr (.inr (.inr (.inr (.inl rfl)))))
  have m4 : L + 4 ∈ blowS S L := mem_blowS.mpr (.inr (.inr (.inr (.inr (.inr (.inl rfl))))))
  have m5 : L + 5 ∈ blowS S L := mem_blowS.mpr (.inr (.inr (.inr (.inr (.inr (.inr rfl))))))
  have off : ∀ z ∈ S, ¬ New6 L z := fun z hz q => by
    have := hL z hz
    rcases q with q | q | q | q | q | q <;> omega
  have no3 : ∀ z ∈ S, z ≠ e → z ≠ a → z ≠ b → nx z ≠ e ∧ nx z ≠ a ∧ nx z ≠ b := fun z hz z1 z2 z3 =>
    ⟨fun q => z3 (M.ninj hz V.hb (q.trans V.be.symm)), fun q => z1 (M.ninj hz V.he (q.trans V.ea.symm)), fun q => z2 (M.ninj hz V.ha (q.trans V.ab.symm))⟩
  have nd : (blowS S L).Nodup := by
    unfold blowS
    refine List.nodup_append.mpr ⟨M.nd, ?_, fun x hx y hy => ?_⟩
    · exact nodup6 L
    · have := hL x hx
      simp only [List.mem_cons, List.not_mem_nil, or_false] at hy
      omega
  have M' : Map (blowS S L) ot nx' := by
    refine ⟨nd, fun z hz => ?_, fun z hz => ?_, fun z _ => ot_ot z, fun z hz => ?_, fun z hz => ?_⟩
    · rcases mem_blowS.mp hz with q | q | q | q | q | q | q
      · exact mS _ (M.ca z q)
      · rw [q, o0]; exact m1
      · rw [q, o1]; exact m0
      · rw [q, o2]; exact m3
      · rw [q, o3]; exact m2
      · rw [q, o4]; exact m5
      · rw [q, o5]; exact m4
    · rcases mem_blowS.mp hz with q | q | q | q | q | q | q
      · by_cases z1 : z = e
        · rw [z1, V.v_e]; exact m0
        · by_cases z2 : z = a
          · rw [z2, V.v_a]; exact m2
          · by_cases z3 : z = b
            · rw [z3, V.v_b]; exact m4
            · rw [V.v_o z q z1 z2 z3]; exact mS _ (M.cn z q)
      · rw [q, V.v_0]; exact m5
      · rw [q, V.v_1]; exact mS _ V.ha
      · rw [q, V.v_2]; exact m1
      · rw [q, V.v_3]; exact mS _ V.hb
      · rw [q, V.v_4]; exact m3
      · rw [q, V.v_5]; exact mS _ V.he
    · rcases mem_blowS.mp hz with q | q | q | q | q | q | q
      · by_cases z1 : z = e
        · rw [z1, V.v_e, V.v_0, V.v_5]
        · by_cases z2 : z = a
          · rw [z2, V.v_a, V.v_2, V.v_1]
          · by_cases z3 : z = b
            · rw [z3, V.v_b, V.v_4, V.v_3]
            · obtain ⟨w1, w2, w3⟩ := no3 z q z1 z2 z3
              obtain ⟨y1, y2, y3⟩ := no3 _ (M.cn z q) w1 w2 w3
              rw [V.v_o z q z1 z2 z3, V.v_o _ (M.cn z q) w1 w2 w3, V.v_o _ (M.cn _ (M.cn z q)) y1 y2 y3]
              exact M.n3 z q
      · rw [q, V.v_0, V.v_5, V.v_e]
      · rw [q, V.v_1, V.v_a, V.v_2]
      · rw [q, V.v_2, V.v_1, V.v_a]
      · rw [q, V.v_3, V.v_b, V.v_4]
      · rw [q, V.v_4, V.v_3, V.v_b]
      · rw [q, V.v_5, V.v_e, V.v_0]
    · have le := hL e V.he
      have la := hL a V.ha
      have lb := hL b V.hb
      rcases mem_blowS.mp hz with q | q | q | q | q | q | q
      · by_cases z1 : z = e
        · rw [z1, V.v_e]; omega
        · by_cases z2 : z = a
          · rw [z2, V.v_a]; omega
          · by_cases z3 : z = b
            · rw [z3, V.v_b]; omega
            · rw [V.v_o z q z1 z2 z3]; exact M.n1 z q
      · rw [q, V.v_0]; omega
      · rw [q, V.v_1]; omega
      · rw [q, V.v_2]; omega
      · rw [q, V.v_3]; omega
      · rw [q, V.v_4]; omega
      · rw [q, V.v_5]; omega
  have Mc := cut_map M' m0 m1 o0 o1
  let al := cutA ot L (L + 1)
  have al0 : al L = L := if_pos rfl
  have al1 : al (L + 1) = L + 1 := by show (if L + 1 = L then L else if L + 1 = L + 1 then L + 1 else ot (L + 1)) = L + 1; rw [if_neg (by omega), if_pos rfl]
  have alz : ∀ z, z ≠ L → z ≠ L + 1 → al z = ot z := fun z z1 z2 => by show (if z = L then L else if z = L + 1 then L + 1 else ot z) = ot z; rw [if_neg z1, if_neg z2]
  have sc : ∀ z ∈ blowS S L, Eqv (fstep (blowS S L) (face al nx')) z (nx' (al z)) := fun z hz => .step ⟨hz, rfl⟩
  have t0 : Eqv (fstep (blowS S L) (face al nx')) L (L + 5) := by have := sc L m0; rw [al0, V.v_0] at this; exact this
  have t1 : Eqv (fstep (blowS S L) (face al nx')) (L + 1) a := by have := sc _ m1; rw [al1, V.v_1] at this; exact this
  have t5 : Eqv (fstep (blowS S L) (face al nx')) (L + 5) (L + 3) := by have := sc _ m5; rw [alz _ (by omega) (by omega), o5, V.v_4] at this; exact this
  have t3 : Eqv (fstep (blowS S L) (face al nx')) (L + 3) (L + 1) := by have := sc _ m3; rw [alz _ (by omega) (by omega), o3, V.v_2] at this; exact this
  have t4 : Eqv (fstep (blowS S L) (face al nx')) (L + 4) e := by have := sc _ m4; rw [alz _ (by omega) (by omega), o4, V.v_5] at this; exact this
  have t2 : Eqv (fstep (blowS S L) (face al nx')) (L + 2) b := by have := sc _ m2; rw [alz _ (by omega) (by omega), o2, V.v_3] at this; exact this
  let f : Int → Int := fun z => if z = L ∨ z = L + 5 ∨ z = L + 3 ∨ z = L + 1 then a else if z = L + 2 then b else if z = L + 4 then e else z
  have f_a : ∀ z, (z = L ∨ z = L + 5 ∨ z = L + 3 ∨ z = L + 1) → f z = a := fun z h => if_pos h
  have f_2 : f (L + 2) = b := by show (if L + 2 = L ∨ L + 2 = L + 5 ∨ L + 2 = L + 3 ∨ L + 2 = L + 1 then a else if L + 2 = L + 2 then b else _) = b; rw [if_neg (by omega), if_pos rfl]
  have f_4 : f (L + 4) = e := by show (if L + 4 = L ∨ L + 4 = L + 5 ∨ L + 4 = L + 3 ∨ L + 4 = L + 1 then a else if L + 4 = L + 2 then b else if L + 4 = L + 4 then e else _) = e; rw [if_neg (by omega), if_neg (by omega), if_pos rfl]
  have f_S : ∀ z ∈ S, f z = z := fun z hz => by
    have := hL z hz
    show (if z = L ∨ z = L + 5 ∨ z = L + 3 ∨ z = L + 1 then a else if z = L + 2 then b else if z = L + 4 then e else z) = z
    rw [if_neg (by omega), if_neg (by omega), if_neg (by omega)]
  have stO : ∀ z ∈ S, Rim S nx z (nx (ot z)) := fun z hz => .step ⟨hz, rfl⟩
  have hS_L : ∀ z ∈ S, z ≠ L ∧ z ≠ L + 1 := fun z hz => by have := hL z hz; exact ⟨by omega, by omega⟩
  -- old steps in the new, the film cut
  have hg : ∀ x y, fstep S (face ot nx) x y → Eqv (fstep (blowS S L) (face al nx')) x y := by
    rintro z v ⟨hz, rfl⟩
    show Eqv _ z (nx (ot z))
    have hz1 := M.ca z hz
    have s := sc z (mS z hz)
    rw [alz z (hS_L z hz).1 (hS_L z hz).2] at s
    by_cases c1 : ot z = e
    · rw [c1, V.v_e] at s
      rw [c1, V.ea]
      exact s.trans (t0.trans (t5.trans (t3.trans t1)))
    · by_cases c2 : ot z = a
      · rw [c2, V.v_a] at s
        rw [c2, V.ab]
        exact s.trans t2
      · by_cases c3 : ot z = b
        · rw [c3, V.v_b] at s
          rw [c3, V.be]
          exact s.trans t4
        · rw [V.v_o _ hz1 c1 c2 c3] at s
          exact s
  have hf : ∀ x y, fstep (blowS S L) (face al nx') x y → Eqv (fstep S (face ot nx)) (f x) (f y) := by
    rintro z v ⟨hz, rfl⟩
    show Eqv _ (f z) (f (nx' (al z)))
    rcases mem_blowS.mp hz with q | q | q | q | q | q | q
    · rw [f_S z q, alz z (hS_L z q).1 (hS_L z q).2]
      have s := stO z q
      have hz1 := M.ca z q
      by_cases c1 : ot z = e
      · rw [c1, V.ea] at s
        rw [c1, V.v_e, f_a L (.inl rfl)]
        exact s
      · by_cases c2 : ot z = a
        · rw [c2, V.ab] at s
          rw [c2, V.v_a, f_2]
          exact s
        · by_cases c3 : ot z = b
          · rw [c3, V.be] at s
            rw [c3, V.v_b, f_4]
            exact s
          · rw [V.v_o _ hz1 c1 c2 c3, f_S _ (M.cn _ hz1)]
            exact s
    · rw [q, al0, V.v_0, f_a L (.inl rfl), f_a (L + 5) (.inr (.inl rfl))]; exact .refl _
    · rw [q, al1, V.v_1, f_a (L + 1) (.inr (.inr (.inr rfl))), f_S a V.ha]; exact .refl _
    · rw [q, alz _ (by omega) (by omega), o2, V.v_3, f_2, f_S b V.hb]; exact .refl _
    · rw [q, alz _ (by omega) (by omega), o3, V.v_2, f_a (L + 3) (.inr (.inr (.inl rfl))), f_a (L + 1) (.inr (.inr (.inr rfl)))]; exact .refl _
    · rw [q, alz _ (by omega) (by omega), o4, V.v_5, f_4, f_S e V.he]; exact .refl _
    · rw [q, alz _ (by omega) (by omega), o5, V.v_4, f_a (L + 5) (.inr (.inl rfl)), f_a (L + 3) (.inr (.inr (.inl rfl)))]; exact .refl _
  obtain ⟨n, hn, hl⟩ := W.eul
  have cc : Cls (blowS S L) (fstep (blowS S L) (face al nx')) n := by
    refine cls_maps id f hg hf (fun z hz => mS z hz) ?_ ?_ ?_ hn
    · intro z hz
      rcases mem_blowS.mp hz with q | q | q | q | q | q | q
      · rw [f_S z q]; exact q
      · rw [f_a z (.inl q)]; exact V.ha
      · rw [f_a z (.inr (.inr (.inr q)))]; exact V.ha
      · rw [q, f_2]; exact V.hb
      · rw [f_a z (.inr (.inr (.inl q)))]; exact V.ha
      · rw [q, f_4]; exact V.he
      · rw [f_a z (.inr (.inl q))]; exact V.ha
    · intro z hz
      show Eqv _ (f z) z
      rcases mem_blowS.mp hz with q | q | q | q | q | q | q
      · rw [f_S z q]; exact .refl _
      · rw [f_a z (.inl q), q]; exact (t0.trans (t5.trans (t3.trans t1))).symm
      · rw [f_a z (.inr (.inr (.inr q))), q]; exact t1.symm
      · rw [q, f_2]; exact t2.symm
      · rw [f_a z (.inr (.inr (.inl q))), q]; exact (t3.trans t1).symm
      · rw [q, f_4]; exact t4.symm
      · rw [f_a z (.inr (.inl q)), q]; exact (t5.trans (t3.trans t1)).symm
    · intro z hz
      show Eqv _ (f z) z
      rw [f_S z hz]; exact .refl _
  have fin := add_cls M' m0 m1 o0 o1 cc (t0.trans (t5.trans t3))
  have len : (blowS S L).length = S.length + 6 := by unfold blowS; rw [List.length_append]; rfl
  refine ⟨⟨M', List.ne_nil_of_mem m0, ?_, ⟨n + 1, fin.1, by rw [len]; omega⟩, fun z hz => ?_⟩, len⟩
  · -- connected
    have cn : ∀ z ∈ blowS S L, Eqv (cs (blowS S L) ot nx') z (nx' z) := fun z hz => .step ⟨hz, .inr rfl⟩
    have co : ∀ z ∈ blowS S L, Eqv (cs (blowS S L) ot nx') z (ot z) := fun z hz => .step ⟨hz, .inl rfl⟩
    have k1 := cn e (mS _ V.he); rw [V.v_e] at k1
    have k2 := co L m0; rw [o0] at k2
    have k3 := cn _ m1; rw [V.v_1] at k3
    have k4 := cn a (mS _ V.ha); rw [V.v_a] at k4
    have k5 := co _ m2; rw [o2] at k5
    have k6 := cn _ m3; rw [V.v_3] at k6
    have k7 := cn b (mS _ V.hb); rw [V.v_b] at k7
    have k8 := co _ m4; rw [o4] at k8
    have k9 := cn _ m5; rw [V.v_5] at k9
    have old : ∀ u v, Eqv (cs S ot nx) u v → Eqv (cs (blowS S L) ot nx') u v := fun u v q => Eqv.mono (fun z w h => by
      obtain ⟨hz, h | h⟩ := h
      · exact .step ⟨mS z hz, .inl h⟩
      · subst h
        by_cases z1 : z = e
        · rw [z1, V.ea]; exact k1.trans (k2.trans k3)
        · by_cases z2 : z = a
          · rw [z2, V.ab]; exact k4.trans (k5.trans k6)
          · by_cases z3 : z = b
            · rw [z3, V.be]; exact k7.trans (k8.trans k9)
            · have := cn z (mS z hz)
              rw [V.v_o z hz z1 z2 z3] at this
              exact this) q
    have toS : ∀ z ∈ blowS S L, Eqv (cs (blowS S L) ot nx') e z := fun z hz => by
      rcases mem_blowS.mp hz with q | q | q | q | q | q | q
      · exact old _ _ (W.conn e V.he z q)
      · rw [q]; exact k1
      · rw [q]; exact k1.trans k2
      · rw [q]; exact (old _ _ (W.conn e V.he a V.ha)).trans k4
      · rw [q]; exact (old _ _ (W.conn e V.he a V.ha)).trans (k4.trans k5)
      · rw [q]; exact (old _ _ (W.conn e V.he b V.hb)).trans k7
      · rw [q]; exact (old _ _ (W.conn e V.he b V.hb)).trans (k7.trans k8)
    exact fun u hu v hv => (toS u hu).symm.trans (toS v hv)
  · rcases mem_blowS.mp hz with q | q | q | q | q | q | q
    · exact W.pos z q
    all_goals omega
/-! ### parted -/
def subP (p q L v : Int) : Int := if v = p then L + 1 else if v = q then L + 3 else v
def partF (nx : Int → Int) (one two L : Int) : Int → Int := fun z =>
  if z = ot one then L + 4 else if z = ot two then L + 5 else if z = L then ot one else if z = L + 1 then subP (ot one) (ot two) L (nx (ot one)) else if z = L + 2 then ot two
  else if z = L + 3 then subP (ot one) (ot two) L (nx (ot two)) else if z = L + 4 then L else if z = L + 5 then L + 2 else subP (ot one) (ot two) L (nx z)
structure PartV (S : List Int) (nx nx' : Int → Int) (one two p q L : Int) : Prop where
  h1 : one ∈ S
  h2 : two ∈ S
  hp : p ∈ S
  hq : q ∈ S
  o1 : ot one = p
  o2 : ot two = q
  op : ot p = one
  oq : ot q = two
  v_p : nx' p = L + 4
  v_q : nx' q = L + 5
  v_0 : nx' L = p
  v_1 : nx' (L + 1) = subP p q L (nx p)
  v_2 : nx' (L + 2) = q
  v_3 : nx' (L + 3) = subP p q L (nx q)
  v_4 : nx' (L + 4) = L
  v_5 : nx' (L + 5) = L + 2
  v_o : ∀ z ∈ S, z ≠ p → z ≠ q → nx' z = subP p q L (nx z)
  n_pq : p ≠ q
  n_1p : one ≠ p
  n_1q : one ≠ q
  n_2p : two ≠ p
  n_2q : two ≠ q
  n_12 : one ≠ two
theorem part_vals {S : List Int} {nx : Int → Int} {one two L : Int} (M : Map S ot nx) (h1 : one ∈ S) (h2 : two ∈ S) (hf : one / 2 ≠ two / 2) (hL : ∀ x ∈ S, x < L) : PartV S nx (partF nx one two L) one two (ot one) (ot two) L := by
  have hp := M.ca one h1
  have hq := M.ca two h2
  have lp := hL _ hp
  have lq := hL _ hq
  have d1 := ot_div one
  have d2 := ot_div two
  have npq : ot one ≠ ot two := fun z => hf (by rw [← d1, ← d2, z])
  refine ⟨h1, h2, hp, hq, rfl, rfl, ot_ot one, ot_ot two, ?_, ?_, ?_, ?_, ?_, ?_, ?_, ?_, fun z hz z1 z2 => ?_, npq, (ot_ne one).symm, fun z => hf (by rw [z, d2]), fun z => hf (by rw [z, d1]), (ot_ne two).symm, fun z => hf (by rw [z])⟩
  all_goals unfold partF
  · rw [if_pos rfl]
  · rw [if_neg npq.symm, if_pos rfl]
  · rw [if_neg (by omega), if_neg (by omega), if_pos rfl]
  · rw [if_neg (by omega), if_neg (by omega), if_neg (by omega), if_pos rfl]
  · rw [if_neg (by omega), if_neg (by omega), if_neg (by omega), if_neg (by omega), if_pos rfl]
  · rw [if_neg (by omega), if_neg (by omega), if_neg (by omega), if_neg (by omega), if_neg (by omega), if_pos rfl]
  · rw [if_neg (by omega), if_neg (by omega), if_neg (by omega), if_neg (by omega), if_neg (by omega), if_neg (by omega), if_pos rfl]
  · rw [if_neg (by omega), if_neg (by omega), if_neg (by omega), if_neg (by omega), if_neg (by omega), if_neg (by omega), if_neg (by omega), if_pos rfl]
  · have lz := hL z hz
    rw [if_neg z1, if_neg z2, if_neg (by omega), if_neg (by omega), if_neg (by omega), if_neg (by omega), if_neg (by omega), if_neg (by omega)]
theorem part_web {S : List Int} {nx : Int → Int} {one two L : Int} (W : Web S nx) (h1 : one ∈ S) (h2 : two ∈ S) (hf : one / 2 ≠ two / 2) (hr : Rim S nx one two) (hL : ∀ x ∈ S, x < L) (h0 : 0 ≤ L) (hL2 : L % 2 = 0) :
    Web (blowS S L) (partF nx one two L) ∧ ¬ Rim (blowS S L) (partF nx one two L) (L + 4) (L + 5) := by
  have M := W.map
  have V := part_vals M h1 h2 hf hL
  obtain ⟨o0, o1, o2, o3, o4, o5⟩ := ot_L hL2
  generalize ot one = p at V
  generalize ot two = q at V
  generalize partF nx one two L = nx' at V ⊢
  have mS : ∀ z, z ∈ S → z ∈ blowS S L := fun z h => mem_blowS.mpr (.inl h)
  have m0 : L ∈ blowS S L := mem_blowS.mpr (.inr (.inl rfl))
  have m1 : L + 1 ∈ blowS S L := mem_blowS.mpr (.inr (.inr (.inl rfl)))
  have m2 : L + 2 ∈ blowS S L := mem_blowS.mpr (.inr (.inr (.inr (.inl rfl))))
  have m3 : L + 3 ∈ blowS S L := mem_blowS.mpr (.inr (.inr (.inr (.inr (.inl rfl)))))
  have m4 : L + 4 ∈ blowS S L := mem_blowS.mpr (.inr (.inr (.inr (.inr (.inr (.inl rfl))))))
  have m5 : L + 5 ∈ blowS S L := mem_blowS.mpr (.inr (.inr (.inr (.inr (.inr (.inr rfl))))))
  have lp := hL p V.hp
  have lq := hL q V.hq
  -- the ends put in the places of p and q
  have sub_p : subP p q L p = L + 1 := if_pos rfl
  have sub_q : subP p q L q = L + 3 := by unfold subP; rw [if_neg V.n_pq.symm, if_pos rfl]
  have sub_o : ∀ v, v ≠ p → v ≠ q → subP p q L v = v := fun v v1 v2 => by unfold subP; rw [if_neg v1, if_neg v2]
  have sub_m : ∀ v ∈ S, subP p q L v ∈ blowS S L := fun v hv => by
    by_cases c1 : v = p
    · rw [c1, sub_p]; exact m1
    · by_cases c2 : v = q
      · rw [c2, sub_q]; exact m3
      · rw [sub_o v c1 c2]; exact mS v hv
  -- the next end of what was put in a place
  have conj : ∀ v ∈ S, nx' (subP p q L v) = subP p q L (nx v) := fun v hv => by
    by_cases c1 : v = p
    · rw [c1, sub_p]; exact V.v_1
    · by_cases c2 : v = q
      · rw [c2, sub_q]; exact V.v_3
      · rw [sub_o v c1 c2]; exact V.v_o v hv c1 c2
  have sub_inj : ∀ u ∈ S, ∀ v ∈ S, subP p q L u = subP p q L v → u = v := fun u hu v hv e => by
    have lu := hL u hu
    have lv := hL v hv
    unfold subP at e
    by_cases u1 : u = p <;> by_cases v1 : v = p
    · rw [u1, v1]
    · rw [if_pos u1, if_neg v1] at e
      by_cases v2 : v = q
      · rw [if_pos v2] at e; omega
      · rw [if_neg v2] at e; omega
    · rw [if_neg u1, if_pos v1] at e
      by_cases u2 : u = q
      · rw [if_pos u2] at e; omega
      · rw [if_neg u2] at e; omega
    · rw [if_neg u1, if_neg v1] at e
      by_cases u2 : u = q <;> by_cases v2 : v = q
      · rw [u2, v2]
      · rw [if_pos u2, if_neg v2] at e; omega
      · rw [if_neg u2, if_pos v2] at e; omega
      · rw [if_neg u2, if_neg v2] at e; exact e
  have nd : (blowS S L).Nodup := by
    unfold blowS
    refine List.nodup_append.mpr ⟨M.nd, ?_, fun x hx y hy => ?_⟩
    · exact nodup6 L
    · have := hL x hx
      simp only [List.mem_cons, List.not_mem_nil, or_false] at hy
      omega
  have M' : Map (blowS S L) ot nx' := by
    have cov : ∀ z ∈ blowS S L, (∃ v ∈ S, z = subP p q L v) ∨ z = p ∨ z = q ∨ z = L ∨ z = L + 2 ∨ z = L + 4 ∨ z = L + 5 := fun z hz => by
      rcases mem_blowS.mp hz with k | k | k | k | k | k | k
      · by_cases c1 : z = p
        · exact .inr (.inl c1)
        · by_cases c2 : z = q
          · exact .inr (.inr (.inl c2))
          · exact .inl ⟨z, k, (sub_o z c1 c2).symm⟩
      · exact .inr (.inr (.inr (.inl k)))
      · exact .inl ⟨p, V.hp, by rw [k, sub_p]⟩
      · exact .inr (.inr (.inr (.inr (.inl k))))
      · exact .inl ⟨q, V.hq, by rw [k, sub_q]⟩
      · exact .inr (.inr (.inr (.inr (.inr (.inl k)))))
      · exact .inr (.inr (.inr (.inr (.inr (.inr k)))))
    refine ⟨nd, fun z hz => ?_, fun z hz => ?_, fun z _ => ot_ot z, fun z hz => ?_, fun z hz => ?_⟩
    · rcases mem_blowS.mp hz with k | k | k | k | k | k | k
      · exact mS _ (M.ca z k)
      · rw [k, o0]; exact m1
      · rw [k, o1]; exact m0
      · rw [k, o2]; exact m3
      · rw [k, o3]; exact m2
      · rw [k, o4]; exact m5
      · rw [k, o5]; exact m4
    · rcases cov z hz with ⟨v, hv, k⟩ | k | k | k | k | k | k
      · rw [k, conj v hv]; exact sub_m _ (M.cn v hv)
      · rw [k, V.v_p]; exact m4
      · rw [k, V.v_q]; exact m5
      · rw [k, V.v_0]; exact mS _ V.hp
      · rw [k, V.v_2]; exact mS _ V.hq
      · rw [k, V.v_4]; exact m0
      · rw [k, V.v_5]; exact m2
    · rcases cov z hz with ⟨v, hv, k⟩ | k | k | k | k | k | k
      · rw [k, conj v hv, conj _ (M.cn v hv), conj _ (M.cn _ (M.cn v hv)), M.n3 v hv]
      · rw [k, V.v_p, V.v_4, V.v_0]
      · rw [k, V.v_q, V.v_5, V.v_2]
      · rw [k, V.v_0, V.v_p, V.v_4]
      · rw [k, V.v_2, V.v_q, V.v_5]
      · rw [k, V.v_4, V.v_0, V.v_p]
      · rw [k, V.v_5, V.v_2, V.v_q]
    · rcases cov z hz with ⟨v, hv, k⟩ | k | k | k | k | k | k
      · rw [k, conj v hv]; exact fun e => M.n1 v hv (sub_inj _ (M.cn v hv) v hv e)
      · rw [k, V.v_p]; omega
      · rw [k, V.v_q]; omega
      · rw [k, V.v_0]; omega
      · rw [k, V.v_2]; omega
      · rw [k, V.v_4]; omega
      · rw [k, V.v_5]; omega
  have Mc := cut_map M' m4 m5 o4 o5
  let al := cutA ot (L + 4) (L + 5)
  have al4 : al (L + 4) = L + 4 := if_pos rfl
  have al5 : al (L + 5) = L + 5 := by show (if L + 5 = L + 4 then L + 4 else if L + 5 = L + 5 then L + 5 else ot (L + 5)) = L + 5; rw [if_neg (by omega), if_pos rfl]
  have alz : ∀ z, z ≠ L + 4 → z ≠ L + 5 → al z = ot z := fun z z1 z2 => by show (if z = L + 4 then L + 4 else if z = L + 5 then L + 5 else ot z) = ot z; rw [if_neg z1, if_neg z2]
  have alS : ∀ z ∈ S, al z = ot z := fun z hz => by have := hL z hz; exact alz z (by omega) (by omega)
  have sc : ∀ z ∈ blowS S L, Eqv (fstep (blowS S L) (face al nx')) z (nx' (al z)) := fun z hz => .step ⟨hz, rfl⟩
  have t1 : Eqv (fstep (blowS S L) (face al nx')) (L + 1) p := by have := sc _ m1; rw [alz _ (by omega) (by omega), o1, V.v_0] at this; exact this
  have t3 : Eqv (fstep (blowS S L) (face al nx')) (L + 3) q := by have := sc _ m3; rw [alz _ (by omega) (by omega), o3, V.v_2] at this; exact this
  have sb : ∀ v, Eqv (fstep (blowS S L) (face al nx')) (subP p q L v) v := fun v => by
    by_cases c1 : v = p
    · rw [c1, sub_p]; exact t1
    · by_cases c2 : v = q
      · rw [c2, sub_q]; exact t3
      · rw [sub_o v c1 c2]; exact .refl _
  have t0 : Eqv (fstep (blowS S L) (face al nx')) L (nx p) := by have := sc _ m0; rw [alz _ (by omega) (by omega), o0, V.v_1] at this; exact this.trans (sb _)
  have t2 : Eqv (fstep (blowS S L) (face al nx')) (L + 2) (nx q) := by have := sc _ m2; rw [alz _ (by omega) (by omega), o2, V.v_3] at this; exact this.trans (sb _)
  have t4 : Eqv (fstep (blowS S L) (face al nx')) (L + 4) L := by have := sc _ m4; rw [al4, V.v_4] at this; exact this
  have t5 : Eqv (fstep (blowS S L) (face al nx')) (L + 5) (L + 2) := by have := sc _ m5; rw [al5, V.v_5] at this; exact this
  have tone : Eqv (fstep (blowS S L) (face al nx')) one (L + 4) := by have := sc _ (mS _ V.h1); rw [alS one V.h1, V.o1, V.v_p] at this; exact this
  have ttwo : Eqv (fstep (blowS S L) (face al nx')) two (L + 5) := by have := sc _ (mS _ V.h2); rw [alS two V.h2, V.o2, V.v_q] at this; exact this
  have stO : ∀ z ∈ S, Rim S nx z (nx (ot z)) := fun z hz => .step ⟨hz, rfl⟩
  have hg : ∀ x y, fstep S (face ot nx) x y → Eqv (fstep (blowS S L) (face al nx')) x y := by
    rintro z v ⟨hz, rfl⟩
    show Eqv _ z (nx (ot z))
    by_cases c1 : z = one
    · rw [c1, V.o1]; exact tone.trans (t4.trans t0)
    · by_cases c2 : z = two
      · rw [c2, V.o2]; exact ttwo.trans (t5.trans t2)
      · have s := sc z (mS z hz)
        rw [alS z hz] at s
        have n1 : ot z ≠ p := fun e => c1 (by rw [← ot_ot z, e, V.op])
        have n2 : ot z ≠ q := fun e => c2 (by rw [← ot_ot z, e, V.oq])
        rw [V.v_o _ (M.ca z hz) n1 n2] at s
        exact s.trans (sb _)
  let f : Int → Int := fun z => if z = L ∨ z = L + 4 then one else if z = L + 2 ∨ z = L + 5 then two else if z = L + 1 then p else if z = L + 3 then q else z
  have f_1 : ∀ z, (z = L ∨ z = L + 4) → f z = one := fun z h => if_pos h
  have f_2 : ∀ z, (z = L + 2 ∨ z = L + 5) → f z = two := fun z h => by show (if z = L ∨ z = L + 4 then one else if z = L + 2 ∨ z = L + 5 then two else _) = two; rw [if_neg (by omega), if_pos h]
  have f_p : f (L + 1) = p := by show (if L + 1 = L ∨ L + 1 = L + 4 then one else if L + 1 = L + 2 ∨ L + 1 = L + 5 then two else if L + 1 = L + 1 then p else _) = p; rw [if_neg (by omega), if_neg (by omega), if_pos rfl]
  have f_q : f (L + 3) = q := by show (if L + 3 = L ∨ L + 3 = L + 4 then one else if L + 3 = L + 2 ∨ L + 3 = L + 5 then two else if L + 3 = L + 1 then p else if L + 3 = L + 3 then q else _) = q; rw [if_neg (by omega), if_neg (by omega), if_neg (by omega), if_pos rfl]
  have f_S : ∀ z ∈ S, f z = z := fun z hz => by
    have := hL z hz
    show (if z = L ∨ z = L + 4 then one else if z = L + 2 ∨ z = L + 5 then two else if z = L + 1 then p else if z = L + 3 then q else z) = z
    rw [if_neg (by omega), if_neg (by omega), if_neg (by omega), if_neg (by omega)]
  have f_sub : ∀ v ∈ S, f (subP p q L v) = v := fun v hv => by
    by_cases c1 : v = p
    · rw [c1, sub_p, f_p]
    · by_cases c2 : v = q
      · rw [c2, sub_q, f_q]
      · rw [sub_o v c1 c2, f_S v hv]
  have hf' : ∀ x y, fstep (blowS S L) (face al nx') x y → Eqv (fstep S (face ot nx)) (f x) (f y) := by
    rintro z v ⟨hz, rfl⟩
    show Eqv _ (f z) (f (nx' (al z)))
    rcases mem_blowS.mp hz with k | k | k | k | k | k | k
    · rw [f_S z k, alS z k]
      have s := stO z k
      by_cases c1 : ot z = p
      · have e1 : z = one := by rw [← ot_ot z, c1, V.op]
        rw [c1, V.v_p, f_1 (L + 4) (.inr rfl), e1]; exact .refl _
      · by_cases c2 : ot z = q
        · have e1 : z = two := by rw [← ot_ot z, c2, V.oq]
          rw [c2, V.v_q, f_2 (L + 5) (.inr rfl), e1]; exact .refl _
        · rw [V.v_o _ (M.ca z k) c1 c2, f_sub _ (M.cn _ (M.ca z k))]; exact s
    · have s := stO one V.h1
      rw [V.o1] at s
      rw [k, alz _ (by omega) (by omega), o0, V.v_1, f_1 L (.inl rfl), f_sub _ (M.cn _ V.hp)]; exact s
    · rw [k, alz _ (by omega) (by omega), o1, V.v_0, f_p, f_S p V.hp]; exact .refl _
    · have s := stO two V.h2
      rw [V.o2] at s
      rw [k, alz _ (by omega) (by omega), o2, V.v_3, f_2 (L + 2) (.inl rfl), f_sub _ (M.cn _ V.hq)]; exact s
    · rw [k, alz _ (by omega) (by omega), o3, V.v_2, f_q, f_S q V.hq]; exact .refl _
    · rw [k, al4, V.v_4, f_1 (L + 4) (.inr rfl), f_1 L (.inl rfl)]; exact .refl _
    · rw [k, al5, V.v_5, f_2 (L + 5) (.inr rfl), f_2 (L + 2) (.inl rfl)]; exact .refl _
  obtain ⟨n, hn, hl⟩ := W.eul
  have cc : Cls (blowS S L) (fstep (blowS S L) (face al nx')) n := by
    refine cls_maps id f hg hf' (fun z hz => mS z hz) ?_ ?_ ?_ hn
    · intro z hz
      rcases mem_blowS.mp hz with k | k | k | k | k | k | k
      · rw [f_S z k]; exact k
      · rw [f_1 z (.inl k)]; exact V.h1
      · rw [k, f_p]; exact V.hp
      · rw [f_2 z (.inl k)]; exact V.h2
      · rw [k, f_q]; exact V.hq
      · rw [f_1 z (.inr k)]; exact V.h1
      · rw [f_2 z (.inr k)]; exact V.h2
    · intro z hz
      show Eqv _ (f z) z
      rcases mem_blowS.mp hz with k | k | k | k | k | k | k
      · rw [f_S z k]; exact .refl _
      · rw [f_1 z (.inl k), k]; exact tone.trans t4
      · rw [k, f_p]; exact t1.symm
      · rw [f_2 z (.inl k), k]; exact ttwo.trans t5
      · rw [k, f_q]; exact t3.symm
      · rw [f_1 z (.inr k), k]; exact tone
      · rw [f_2 z (.inr k), k]; exact ttwo
    · intro z hz
      show Eqv _ (f z) z
      rw [f_S z hz]; exact .refl _
  have both : Eqv (fstep (blowS S L) (face al nx')) (L + 4) (L + 5) := tone.symm.trans ((Eqv.mono hg hr).trans ttwo)
  have fin := add_cls M' m4 m5 o4 o5 cc both
  have len : (blowS S L).length = S.length + 6 := by unfold blowS; rw [List.length_append]; rfl
  refine ⟨⟨M', List.ne_nil_of_mem m0, ?_, ⟨n + 1, fin.1, by rw [len]; omega⟩, fun z hz => ?_⟩, fin.2⟩
  · have cn : ∀ z ∈ blowS S L, Eqv (cs (blowS S L) ot nx') z (nx' z) := fun z hz => .step ⟨hz, .inr rfl⟩
    have co : ∀ z ∈ blowS S L, Eqv (cs (blowS S L) ot nx') z (ot z) := fun z hz => .step ⟨hz, .inl rfl⟩
    have k0 := cn L m0; rw [V.v_0] at k0
    have k1 := co L m0; rw [o0] at k1
    have k2 := cn _ m2; rw [V.v_2] at k2
    have k3 := co _ m2; rw [o2] at k3
    have k4 := cn _ m4; rw [V.v_4] at k4
    have k5 := cn _ m5; rw [V.v_5] at k5
    have sbc : ∀ v, Eqv (cs (blowS S L) ot nx') (subP p q L v) v := fun v => by
      by_cases c1 : v = p
      · rw [c1, sub_p]; exact k1.symm.trans k0
      · by_cases c2 : v = q
        · rw [c2, sub_q]; exact k3.symm.trans k2
        · rw [sub_o v c1 c2]; exact .refl _
    have old : ∀ u v, Eqv (cs S ot nx) u v → Eqv (cs (blowS S L) ot nx') u v := fun u v e => Eqv.mono (fun z w h => by
      obtain ⟨hz, h | h⟩ := h
      · exact .step ⟨mS z hz, .inl h⟩
      · subst h
        have s := cn _ (sub_m z hz)
        rw [conj z hz] at s
        exact (sbc z).symm.trans (s.trans (sbc _))) e
    have toS : ∀ z ∈ blowS S L, Eqv (cs (blowS S L) ot nx') p z := fun z hz => by
      have hpq := old _ _ (W.conn p V.hp q V.hq)
      rcases mem_blowS.mp hz with k | k | k | k | k | k | k
      · exact old _ _ (W.conn p V.hp z k)
      · rw [k]; exact k0.symm
      · rw [k]; exact k0.symm.trans k1
      · rw [k]; exact hpq.trans k2.symm
      · rw [k]; exact hpq.trans (k2.symm.trans k3)
      · rw [k]; exact k0.symm.trans k4.symm
      · rw [k]; exact hpq.trans (k2.symm.trans k5.symm)
    exact fun u hu v hv => (toS u hu).symm.trans (toS v hv)
  · rcases mem_blowS.mp hz with k | k | k | k | k | k | k
    · exact W.pos z k
    all_goals omega
/-! PartP: a parting done by seating: what it makes. Plain Lean. -/
/-- one half of a parting -/
def halfF (f : Int → Int) (p h u v : Int) : Int → Int := seatF (seatF f h (f p) (f (f p))) p u v
structure Half (f : Int → Int) (p x y h u v : Int) : Prop where
  px : f p = x
  xy : f x = y
  yp : f y = p
  n1 : p ≠ x
  n2 : x ≠ y
  n3 : y ≠ p
  hp : h ≠ p
  hx : h ≠ x
  hy : h ≠ y
  up : u ≠ p
  ux : u ≠ x
  uy : u ≠ y
  vp : v ≠ p
  vx : v ≠ x
  vy : v ≠ y
  hu : h ≠ u
  hv : h ≠ v
  uv : u ≠ v
section
variable {f : Int → Int} {p x y h u v : Int}
theorem half_p (F : Half f p x y h u v) : halfF f p h u v p = u := by unfold halfF; rw [seat_1 F.up.symm F.vp.symm]
theorem half_u (F : Half f p x y h u v) : halfF f p h u v u = v := by unfold halfF; rw [seat_2 F.uv]
theorem half_v (F : Half f p x y h u v) : halfF f p h u v v = p := by unfold halfF; rw [seat_3]
theorem half_h (F : Half f p x y h u v) : halfF f p h u v h = x := by
  unfold halfF
  rw [seat_o F.hp F.hu F.hv, F.px, F.xy, seat_1 F.hx F.hy]
theorem half_z (F : Half f p x y h u v) {z : Int} (h1 : z ≠ p) (h2 : z ≠ u) (h3 : z ≠ v) (h4 : z ≠ h) (hi : f z = p → z = y) : halfF f p h u v z = if f z = p then h else f z := by
  unfold halfF
  rw [seat_o h1 h2 h3, F.px, F.xy]
  by_cases e1 : z = y
  · subst e1
    rw [seat_3, if_pos F.yp]
  · rw [if_neg (fun q => e1 (hi q))]
    by_cases e2 : z = x
    · subst e2
      rw [seat_2 F.n2, F.xy]
    · rw [seat_o h4 e2 e1]
end
theorem part_seat {S : List Int} {nx : Int → Int} {one two L : Int} (M : Map S ot nx) (h1 : one ∈ S) (h2 : two ∈ S) (hf : one / 2 ≠ two / 2) (hL : ∀ x ∈ S, x < L) :
    (∀ z, z ∈ S ∨ New6 L z → halfF (halfF nx (ot one) (L + 1) (L + 4) L) (ot two) (L + 3) (L + 5) (L + 2) z = partF nx one two L z) ∧
    (halfF nx (ot one) (L + 1) (L + 4) L (ot two) ∈ S ∨ halfF nx (ot one) (L + 1) (L + 4) L (ot two) = L + 1) ∧
    (halfF nx (ot one) (L + 1) (L + 4) L (halfF nx (ot one) (L + 1) (L + 4) L (ot two)) ∈ S ∨ halfF nx (ot one) (L + 1) (L + 4) L (halfF nx (ot one) (L + 1) (L + 4) L (ot two)) = L + 1) := by
  have hp := M.ca one h1
  have hq := M.ca two h2
  have hpq : ot one ≠ ot two := fun e => hf (by rw [← ot_div one, ← ot_div two, e])
  unfold partF
  generalize ot one = p at hp hpq ⊢
  generalize ot two = q at hq hpq ⊢
  have ha := M.cn p hp
  have hb := M.cn _ ha
  have hc := M.cn q hq
  have hd := M.cn _ hc
  have l1 := hL p hp
  have l2 := hL q hq
  have l3 := hL _ ha
  have l4 := hL _ hb
  have l5 := hL _ hc
  have l6 := hL _ hd
  have n12 : nx p ≠ nx (nx p) := fun e => M.n1 _ ha e.symm
  have F : Half nx p (nx p) (nx (nx p)) (L + 1) (L + 4) L := ⟨rfl, rfl, M.n3 p hp, fun e => M.n1 p hp e.symm, n12, M.n2 hp, by omega, by omega, by omega, by omega, by omega, by omega, by omega, by omega, by omega, by omega, by omega, by omega⟩
  -- the first half on the ends
  have g : ∀ z ∈ S, z ≠ p → halfF nx p (L + 1) (L + 4) L z = if nx z = p then L + 1 else nx z := fun z hz hzp => by
    have lz := hL z hz
    exact half_z F hzp (by omega) (by omega) (by omega) fun e => M.ninj hz hb (e.trans (M.n3 p hp).symm)
  have gh := half_h F
  have gp := half_p F
  have gu := half_u F
  have gv := half_v F
  generalize hG : halfF nx p (L + 1) (L + 4) L = G at g gh gp gu gv
  -- the second corner, as it stands then
  obtain ⟨x2, y2, e1, e2, e3, m1, m2, d1, d2, d3⟩ : ∃ x2 y2, G q = x2 ∧ G x2 = y2 ∧ G y2 = q ∧ (x2 ∈ S ∨ x2 = L + 1) ∧ (y2 ∈ S ∨ y2 = L + 1) ∧ q ≠ x2 ∧ x2 ≠ y2 ∧ y2 ≠ q := by
    by_cases c1 : nx q = p
    · have eb : q = nx (nx p) := M.ninj hq hb (c1.trans (M.n3 p hp).symm)
      refine ⟨L + 1, nx p, by rw [g q hq hpq.symm, if_pos c1], gh, ?_, .inr rfl, .inl ha, by omega, by omega, fun e => n12 (e.trans eb)⟩
      rw [g _ ha (M.n1 p hp), if_neg (M.n2 hp), ← eb]
    · by_cases c2 : nx (nx q) = p
      · have ea : q = nx p := by rw [← c2, M.n3 q hq]
        refine ⟨nx q, L + 1, by rw [g q hq hpq.symm, if_neg c1], by rw [g _ hc c1, if_pos c2], by rw [gh, ← ea], .inl hc, .inr rfl, fun e => M.n1 q hq e.symm, by omega, by omega⟩
      · refine ⟨nx q, nx (nx q), by rw [g q hq hpq.symm, if_neg c1], by rw [g _ hc c1, if_neg c2], ?_, .inl hc, .inl hd, fun e => M.n1 q hq e.symm, fun e => M.n1 _ hc e.symm, M.n2 hq⟩
        rw [g _ hd c2, M.n3 q hq, if_neg hpq.symm]
  have b1 : x2 < L ∨ x2 = L + 1 := m1.imp (hL _) id
  have b2 : y2 < L ∨ y2 = L + 1 := m2.imp (hL _) id
  have F2 : Half G q x2 y2 (L + 3) (L + 5) (L + 2) := ⟨e1, e2, e3, d1, d2, d3, by omega, by omega, by omega, by omega, by omega, by omega, by omega, by omega, by omega, by omega, by omega, by omega⟩
  refine ⟨fun z hz => ?_, by rw [e1]; exact m1, by rw [e1, e2]; exact m2⟩
  -- who leads to q
  have inj : z ∈ S ∨ z = L ∨ z = L + 1 ∨ z = L + 4 → G z = q → z = y2 := fun hz e => by
    have key : ∀ a ∈ S, a ≠ p → G a = q → nx a = q := fun a ha' hap e => by
      rw [g a ha' hap] at e
      by_cases c : nx a = p
      · rw [if_pos c] at e; omega
      · rwa [if_neg c] at e
    have yk : y2 ∈ S → y2 ≠ p → nx y2 = q := fun a b => key y2 a b e3
    have yp : y2 ≠ p := fun c => by rw [c, gp] at e3; omega
    have yh : y2 = L + 1 → nx p = q := fun c => by rw [c, gh] at e3; exact e3
    rcases hz with hz | rfl | rfl | rfl
    · by_cases c : z = p
      · rw [c, gp] at e; omega
      · have k1 := key z hz c e
        rcases m2 with m2 | m2
        · exact M.ninj hz m2 (k1.trans (yk m2 yp).symm)
        · exact absurd (M.ninj hz hp (k1.trans (yh m2).symm)) c
    · rw [gv] at e; exact absurd e hpq
    · rw [gh] at e
      rcases m2 with m2 | m2
      · exact absurd (M.ninj hp m2 (e.trans (yk m2 yp).symm)).symm yp
      · exact m2.symm
    · rw [gu] at e; omega
  by_cases z1 : z = p
  · subst z1
    have lz := l1
    rw [if_pos rfl, half_z F2 hpq (by omega) (by omega) (by omega) (inj (.inl hp)), gp, if_neg (by omega)]
  rw [if_neg z1]
  by_cases z2 : z = q
  · subst z2
    rw [if_pos rfl, half_p F2]
  rw [if_neg z2]
  by_cases z3 : z = L
  · subst z3
    rw [if_pos rfl, half_z F2 z2 (by omega) (by omega) (by omega) (inj (.inr (.inl rfl))), gv, if_neg hpq]
  rw [if_neg z3]
  unfold subP
  by_cases z4 : z = L + 1
  · subst z4
    rw [if_pos rfl, half_z F2 z2 (by omega) (by omega) (by omega) (inj (.inr (.inr (.inl rfl)))), gh, if_neg (M.n1 p hp)]
  rw [if_neg z4]
  by_cases z5 : z = L + 2
  · subst z5
    rw [if_pos rfl, half_v F2]
  rw [if_neg z5]
  by_cases z6 : z = L + 3
  · subst z6
    rw [if_pos rfl, half_h F2, ← e1, g q hq hpq.symm]
    by_cases c : nx q = p
    · rw [if_pos c, if_pos c]
    · rw [if_neg c, if_neg c, if_neg (M.n1 q hq)]
  rw [if_neg z6]
  by_cases z7 : z = L + 4
  · subst z7
    rw [if_pos rfl, half_z F2 z2 (by omega) (by omega) (by omega) (inj (.inr (.inr (.inr rfl)))), gu, if_neg (by omega)]
  rw [if_neg z7]
  by_cases z8 : z = L + 5
  · subst z8
    rw [if_pos rfl, half_u F2]
  rw [if_neg z8]
  have hzS : z ∈ S := hz.resolve_right fun k => by rcases k with k | k | k | k | k | k <;> omega
  rw [half_z F2 z2 (by omega) (by omega) (by omega) (inj (.inl hzS)), g z hzS z1]
  by_cases c : nx z = p
  · rw [if_pos c, if_pos c, if_neg (by omega)]
  · rw [if_neg c, if_neg c]
theorem Map.sameS {S S' : List Int} {al nx : Int → Int} (M : Map S al nx) (nd : S'.Nodup) (hS : ∀ z, z ∈ S' ↔ z ∈ S) : Map S' al nx :=
  ⟨nd, fun x hx => (hS _).mpr (M.ca x ((hS x).mp hx)), fun x hx => (hS _).mpr (M.cn x ((hS x).mp hx)), fun x hx => M.aa x ((hS x).mp hx), fun x hx => M.n3 x ((hS x).mp hx), fun x hx => M.n1 x ((hS x).mp hx)⟩
theorem Mend.sameS {S S' : List Int} {al nx : Int → Int} {t x y g : Int} (D : Mend S al nx t x y g) (nd : S'.Nodup) (hS : ∀ z, z ∈ S' ↔ z ∈ S) : Mend S' al nx t x y g :=
  ⟨D.M.sameS nd hS, (hS _).mpr D.ht, (hS _).mpr D.hy, D.tt, D.yg, D.cor, D.gy, D.gx⟩
theorem mem_m1S {S S' : List Int} {nx : Int → Int} {t z : Int} (hS : ∀ z, z ∈ S' ↔ z ∈ S) : z ∈ m1S S' nx t ↔ z ∈ m1S S nx t := by
  unfold m1S
  rw [mem_mendS, mem_mendS, hS]
/-! Comb: the web of a comb. Plain Lean. -/
/-! ### a torus of n places -/
structure Tor (n : Int) (lf rt ab bl : Int → Int) : Prop where
  pos : 0 < n
  blf : ∀ k, 0 ≤ k → k < n → 0 ≤ lf k ∧ lf k < n
  brt : ∀ k, 0 ≤ k → k < n → 0 ≤ rt k ∧ rt k < n
  bab : ∀ k, 0 ≤ k → k < n → 0 ≤ ab k ∧ ab k < n
  bbl : ∀ k, 0 ≤ k → k < n → 0 ≤ bl k ∧ bl k < n
  rl : ∀ k, 0 ≤ k → k < n → rt (lf k) = k
  lr : ∀ k, 0 ≤ k → k < n → lf (rt k) = k
  ba : ∀ k, 0 ≤ k → k < n → bl (ab k) = k
  ab' : ∀ k, 0 ≤ k → k < n → ab (bl k) = k
  com : ∀ k, 0 ≤ k → k < n → ab (rt k) = rt (ab k)
  reach : ∀ P : Int → Prop, P 0 → (∀ k, 0 ≤ k → k < n → (P k ↔ P (lf k))) → (∀ k, 0 ≤ k → k < n → (P k ↔ P (ab k))) → ∀ k, 0 ≤ k → k < n → P k
/-- the dict that the comb's corners make, behind m bubbles -/
def combD (lf ab : Int → Int) : Nat → List Int × (Int → Int)
  | 0 => ([], fun _ => 0)
  | m + 1 =>
    let k : Int := m
    let D := combD lf ab m
    (putS3 (putS3 D.1 (6 * k) (6 * k + 2) (6 * k + 4)) (6 * k + 1) (6 * lf k + 3) (6 * ab k + 5),
      seatF (seatF D.2 (6 * k) (6 * k + 2) (6 * k + 4)) (6 * k + 1) (6 * lf k + 3) (6 * ab k + 5))
section
variable {n : Int} {lf rt ab bl : Int → Int}
theorem comb_nd (m : Nat) : (combD lf ab m).1.Nodup := by
  induction m with
  | zero => exact List.Pairwise.nil
  | succ m ih => exact nd_putS3 (nd_putS3 ih)
theorem comb_le (m : Nat) : (combD lf ab m).1.length ≤ 6 * m := by
  induction m with
  | zero => exact Nat.le_refl _
  | succ m ih =>
    have a := len_putS3 (S := (combD lf ab m).1) (x := 6 * (m : Int)) (y := 6 * (m : Int) + 2) (z := 6 * (m : Int) + 4)
    have b := len_putS3 (S := putS3 (combD lf ab m).1 (6 * (m : Int)) (6 * (m : Int) + 2) (6 * (m : Int) + 4)) (x := 6 * (m : Int) + 1) (y := 6 * lf m + 3) (z := 6 * ab m + 5)
    show (putS3 (putS3 (combD lf ab m).1 (6 * (m : Int)) (6 * (m : Int) + 2) (6 * (m : Int) + 4)) (6 * (m : Int) + 1) (6 * lf m + 3) (6 * ab m + 5)).length ≤ _
    omega
theorem comb_mem (m : Nat) (x : Int) : x ∈ (combD lf ab m).1 ↔ ∃ k : Int, 0 ≤ k ∧ k < m ∧ (x = 6 * k ∨ x = 6 * k + 2 ∨ x = 6 * k + 4 ∨ x = 6 * k + 1 ∨ x = 6 * lf k + 3 ∨ x = 6 * ab k + 5) := by
  induction m with
  | zero =>
    refine ⟨fun h => absurd h List.not_mem_nil, fun ⟨k, h0, h1, _⟩ => ?_⟩
    omega
  | succ m ih =>
    show x ∈ putS3 (putS3 (combD lf ab m).1 (6 * (m : Int)) (6 * (m : Int) + 2) (6 * (m : Int) + 4)) (6 * (m : Int) + 1) (6 * lf m + 3) (6 * ab m + 5) ↔ _
    rw [mem_putS3, mem_putS3, ih]
    constructor
    · rintro ((⟨k, h0, h1, h⟩ | h | h | h) | h | h | h)
      · exact ⟨k, h0, by omega, h⟩
      · exact ⟨m, by omega, by omega, .inl h⟩
      · exact ⟨m, by omega, by omega, .inr (.inl h)⟩
      · exact ⟨m, by omega, by omega, .inr (.inr (.inl h))⟩
      · exact ⟨m, by omega, by omega, .inr (.inr (.inr (.inl h)))⟩
      · exact ⟨m, by omega, by omega, .inr (.inr (.inr (.inr (.inl h))))⟩
      · exact ⟨m, by omega, by omega, .inr (.inr (.inr (.inr (.inr h))))⟩
    · rintro ⟨k, h0, h1, h⟩
      by_cases e : k = m
      · subst e
        rcases h with h | h | h | h | h | h
        · exact .inl (.inr (.inl h))
        · exact .inl (.inr (.inr (.inl h)))
        · exact .inl (.inr (.inr (.inr h)))
        · exact .inr (.inl h)
        · exact .inr (.inr (.inl h))
        · exact .inr (.inr (.inr h))
      · exact .inl (.inl ⟨k, h0, by omega, h⟩)
theorem comb_vals (T : Tor n lf rt ab bl) (m : Nat) (hm : (m : Int) ≤ n) : ∀ k : Int, 0 ≤ k → k < m →
    (combD lf ab m).2 (6 * k) = 6 * k + 2 ∧ (combD lf ab m).2 (6 * k + 2) = 6 * k + 4 ∧ (combD lf ab m).2 (6 * k + 4) = 6 * k ∧
    (combD lf ab m).2 (6 * k + 1) = 6 * lf k + 3 ∧ (combD lf ab m).2 (6 * lf k + 3) = 6 * ab k + 5 ∧ (combD lf ab m).2 (6 * ab k + 5) = 6 * k + 1 := by
  induction m with
  | zero => intro k h0 h1; omega
  | succ m ih =>
    intro k h0 h1
    have ih := ih (by omega)
    have e : (combD lf ab (m + 1)).2 = seatF (seatF (combD lf ab m).2 (6 * (m : Int)) (6 * (m : Int) + 2) (6 * (m : Int) + 4)) (6 * (m : Int) + 1) (6 * lf m + 3) (6 * ab m + 5) := rfl
    rw [e]
    by_cases hk : k = m
    · subst hk
      refine ⟨?_, ?_, ?_, ?_, ?_, ?_⟩
      · rw [seat_o (by omega) (by omega) (by omega), seat_1 (by omega) (by omega)]
      · rw [seat_o (by omega) (by omega) (by omega), seat_2 (by omega)]
      · rw [seat_o (by omega) (by omega) (by omega), seat_3]
      · rw [seat_1 (by omega) (by omega)]
      · rw [seat_2 (by omega)]
      · rw [seat_3]
    · have hkm : k < m := by omega
      obtain ⟨v1, v2, v3, v4, v5, v6⟩ := ih k h0 hkm
      have nl : lf k ≠ lf m := fun q => hk (by rw [← T.rl k h0 (by omega), q, T.rl m (by omega) (by omega)])
      have na : ab k ≠ ab m := fun q => hk (by rw [← T.ba k h0 (by omega), q, T.ba m (by omega) (by omega)])
      refine ⟨?_, ?_, ?_, ?_, ?_, ?_⟩
      · rw [seat_o (by omega) (by omega) (by omega), seat_o (by omega) (by omega) (by omega)]; exact v1
      · rw [seat_o (by omega) (by omega) (by omega), seat_o (by omega) (by omega) (by omega)]; exact v2
      · rw [seat_o (by omega) (by omega) (by omega), seat_o (by omega) (by omega) (by omega)]; exact v3
      · rw [seat_o (by omega) (by omega) (by omega), seat_o (by omega) (by omega) (by omega)]; exact v4
      · rw [seat_o (by omega) (by omega) (by omega), seat_o (by omega) (by omega) (by omega)]; exact v5
      · rw [seat_o (by omega) (by omega) (by omega), seat_o (by omega) (by omega) (by omega)]; exact v6
/-- by its kind -/
theorem six_way (x : Int) (h0 : 0 ≤ x) (h1 : x < 6 * n) : ∃ k, 0 ≤ k ∧ k < n ∧ (x = 6 * k ∨ x = 6 * k + 1 ∨ x = 6 * k + 2 ∨ x = 6 * k + 3 ∨ x = 6 * k + 4 ∨ x = 6 * k + 5) :=
  ⟨x / 6, by omega, by omega, by omega⟩
structure CombV (n : Int) (lf rt ab bl : Int → Int) (S : List Int) (nx : Int → Int) : Prop where
  T : Tor n lf rt ab bl
  nd : S.Nodup
  mem : ∀ x, x ∈ S ↔ 0 ≤ x ∧ x < 6 * n
  v0 : ∀ k, 0 ≤ k → k < n → nx (6 * k) = 6 * k + 2
  v2 : ∀ k, 0 ≤ k → k < n → nx (6 * k + 2) = 6 * k + 4
  v4 : ∀ k, 0 ≤ k → k < n → nx (6 * k + 4) = 6 * k
  v1 : ∀ k, 0 ≤ k → k < n → nx (6 * k + 1) = 6 * lf k + 3
  v3 : ∀ k, 0 ≤ k → k < n → nx (6 * k + 3) = 6 * ab (rt k) + 5
  v5 : ∀ k, 0 ≤ k → k < n → nx (6 * k + 5) = 6 * bl k + 1
theorem comb_v (T : Tor n lf rt ab bl) : CombV n lf rt ab bl (combD lf ab n.toNat).1 (combD lf ab n.toNat).2 := by
  have en : ((n.toNat : Nat) : Int) = n := Int.toNat_of_nonneg (by have := T.pos; omega)
  have V := comb_vals T n.toNat (by omega)
  refine ⟨T, comb_nd _, fun x => ?_, fun k h0 h1 => (V k h0 (by omega)).1, fun k h0 h1 => (V k h0 (by omega)).2.1, fun k h0 h1 => (V k h0 (by omega)).2.2.1, fun k h0 h1 => (V k h0 (by omega)).2.2.2.1, fun k h0 h1 => ?_, fun k h0 h1 => ?_⟩
  · rw [comb_mem, en]
    constructor
    · rintro ⟨k, h0, h1, h⟩
      have a := T.blf k h0 h1
      have b := T.bab k h0 h1
      omega
    · rintro ⟨h0, h1⟩
      obtain ⟨k, k0, k1, h⟩ := six_way x h0 h1
      rcases h with h | h | h | h | h | h
      · exact ⟨k, k0, k1, .inl h⟩
      · exact ⟨k, k0, k1, .inr (.inr (.inr (.inl h)))⟩
      · exact ⟨k, k0, k1, .inr (.inl h)⟩
      · exact ⟨rt k, (T.brt k k0 k1).1, (T.brt k k0 k1).2, .inr (.inr (.inr (.inr (.inl (by rw [T.lr k k0 k1]; exact h)))))⟩
      · exact ⟨k, k0, k1, .inr (.inr (.inl h))⟩
      · exact ⟨bl k, (T.bbl k k0 k1).1, (T.bbl k k0 k1).2, .inr (.inr (.inr (.inr (.inr (by rw [T.ab' k k0 k1]; exact h)))))⟩
  · have q := (V (rt k) (T.brt k h0 h1).1 (by have := (T.brt k h0 h1).2; omega)).2.2.2.2.1
    rw [T.lr k h0 h1] at q
    exact q
  · have q := (V (bl k) (T.bbl k h0 h1).1 (by have := (T.bbl k h0 h1).2; omega)).2.2.2.2.2
    rw [T.ab' k h0 h1] at q
    exact q
variable {S : List Int} {nx : Int → Int}
theorem CombV.map (C : CombV n lf rt ab bl S nx) : Map S ot nx := by
  have T := C.T
  refine ⟨C.nd, fun x hx => ?_, fun x hx => ?_, fun x _ => ot_ot x, fun x hx => ?_, fun x hx => ?_⟩
  · rw [C.mem] at hx ⊢
    unfold ot
    split <;> omega
  all_goals
    obtain ⟨h0, h1⟩ := (C.mem x).mp hx
    obtain ⟨k, k0, k1, h⟩ := six_way x h0 h1
    have a := T.blf k k0 k1
    have b := T.bbl k k0 k1
    have r := T.brt k k0 k1
    have ar := T.bab _ r.1 r.2
    have av := T.bab k k0 k1
    try rw [C.mem]
    rcases h with rfl | rfl | rfl | rfl | rfl | rfl
  · rw [C.v0 k k0 k1]; omega
  · rw [C.v1 k k0 k1]; omega
  · rw [C.v2 k k0 k1]; omega
  · rw [C.v3 k k0 k1]; omega
  · rw [C.v4 k k0 k1]; omega
  · rw [C.v5 k k0 k1]; omega
  · rw [C.v0 k k0 k1, C.v2 k k0 k1, C.v4 k k0 k1]
  · rw [C.v1 k k0 k1, C.v3 _ a.1 a.2, T.rl k k0 k1, C.v5 _ av.1 av.2, T.ba k k0 k1]
  · rw [C.v2 k k0 k1, C.v4 k k0 k1, C.v0 k k0 k1]
  · rw [C.v3 k k0 k1, C.v5 _ ar.1 ar.2, T.ba _ r.1 r.2, C.v1 _ r.1 r.2, T.lr k k0 k1]
  · rw [C.v4 k k0 k1, C.v0 k k0 k1, C.v2 k k0 k1]
  · have l := T.blf _ b.1 b.2
    rw [C.v5 k k0 k1, C.v1 _ b.1 b.2, C.v3 _ l.1 l.2, T.rl _ b.1 b.2, T.ab' k k0 k1]
  · rw [C.v0 k k0 k1]; omega
  · rw [C.v1 k k0 k1]; omega
  · rw [C.v2 k k0 k1]; omega
  · rw [C.v3 k k0 k1]; omega
  · rw [C.v4 k k0 k1]; omega
  · rw [C.v5 k k0 k1]; omega
theorem CombV.conn (C : CombV n lf rt ab bl S nx) : ∀ x ∈ S, ∀ y ∈ S, Eqv (cs S ot nx) x y := by
  have T := C.T
  have m : ∀ k, 0 ≤ k → k < n → ∀ i, 0 ≤ i → i < 6 → 6 * k + i ∈ S := fun k k0 k1 i i0 i1 => (C.mem _).mpr ⟨by omega, by omega⟩
  have st : ∀ x ∈ S, Eqv (cs S ot nx) x (nx x) := fun x hx => .step ⟨hx, .inr rfl⟩
  have so : ∀ x ∈ S, Eqv (cs S ot nx) x (ot x) := fun x hx => .step ⟨hx, .inl rfl⟩
  have o0 : ∀ k : Int, ot (6 * k) = 6 * k + 1 := fun k => by unfold ot; rw [if_pos (by omega)]
  have o2 : ∀ k : Int, ot (6 * k + 2) = 6 * k + 3 := fun k => by unfold ot; rw [if_pos (by omega)]; omega
  have o4 : ∀ k : Int, ot (6 * k + 4) = 6 * k + 5 := fun k => by unfold ot; rw [if_pos (by omega)]; omega
  have i0 : ∀ k, 0 ≤ k → k < n → 6 * k ∈ S := fun k k0 k1 => by have := m k k0 k1 0 (by decide) (by decide); rwa [Int.add_zero] at this
  have e2 : ∀ k, 0 ≤ k → k < n → Eqv (cs S ot nx) (6 * k) (6 * k + 2) := fun k k0 k1 => by have := st _ (i0 k k0 k1); rwa [C.v0 k k0 k1] at this
  have e4 : ∀ k, 0 ≤ k → k < n → Eqv (cs S ot nx) (6 * k) (6 * k + 4) := fun k k0 k1 => by have := st _ (m k k0 k1 4 (by decide) (by decide)); rw [C.v4 k k0 k1] at this; exact this.symm
  have e1 : ∀ k, 0 ≤ k → k < n → Eqv (cs S ot nx) (6 * k) (6 * k + 1) := fun k k0 k1 => by have := so _ (i0 k k0 k1); rwa [o0] at this
  have e3 : ∀ k, 0 ≤ k → k < n → Eqv (cs S ot nx) (6 * k) (6 * k + 3) := fun k k0 k1 => by have := so _ (m k k0 k1 2 (by decide) (by decide)); rw [o2] at this; exact (e2 k k0 k1).trans this
  have e5 : ∀ k, 0 ≤ k → k < n → Eqv (cs S ot nx) (6 * k) (6 * k + 5) := fun k k0 k1 => by have := so _ (m k k0 k1 4 (by decide) (by decide)); rw [o4] at this; exact (e4 k k0 k1).trans this
  have z : ∀ k, 0 ≤ k → k < n → Eqv (cs S ot nx) 0 (6 * k) := by
    refine T.reach _ (.refl _) (fun k k0 k1 => ?_) (fun k k0 k1 => ?_)
    · have a := T.blf k k0 k1
      have q : Eqv (cs S ot nx) (6 * k) (6 * lf k) := by
        have := st _ (m k k0 k1 1 (by decide) (by decide))
        rw [C.v1 k k0 k1] at this
        exact ((e1 k k0 k1).trans this).trans (e3 _ a.1 a.2).symm
      exact ⟨fun h => h.trans q, fun h => h.trans q.symm⟩
    · have a := T.bab k k0 k1
      have q : Eqv (cs S ot nx) (6 * ab k) (6 * k) := by
        have := st _ (m _ a.1 a.2 5 (by decide) (by decide))
        rw [C.v5 _ a.1 a.2, T.ba k k0 k1] at this
        exact ((e5 _ a.1 a.2).trans this).trans (e1 k k0 k1).symm
      exact ⟨fun h => h.trans q.symm, fun h => h.trans q⟩
  have all : ∀ x ∈ S, Eqv (cs S ot nx) 0 x := fun x hx => by
    obtain ⟨h0, h1⟩ := (C.mem x).mp hx
    obtain ⟨k, k0, k1, h⟩ := six_way x h0 h1
    rcases h with rfl | rfl | rfl | rfl | rfl | rfl
    · exact z k k0 k1
    · exact (z k k0 k1).trans (e1 k k0 k1)
    · exact (z k k0 k1).trans (e2 k k0 k1)
    · exact (z k k0 k1).trans (e3 k k0 k1)
    · exact (z k k0 k1).trans (e4 k k0 k1)
    · exact (z k k0 k1).trans (e5 k k0 k1)
  exact fun x hx y hy => (all x hx).symm.trans (all y hy)
/-- the six ends round bubble k -/
theorem CombV.face (C : CombV n lf rt ab bl S nx) : ∀ k, 0 ≤ k → k < n →
    face ot nx (6 * k) = 6 * lf k + 3 ∧ face ot nx (6 * lf k + 3) = 6 * lf k + 4 ∧ face ot nx (6 * lf k + 4) = 6 * bl (lf k) + 1 ∧ face ot nx (6 * bl (lf k) + 1) = 6 * bl (lf k) + 2 ∧
    face ot nx (6 * bl (lf k) + 2) = 6 * k + 5 ∧ face ot nx (6 * k + 5) = 6 * k := by
  intro k k0 k1
  have T := C.T
  have a := T.blf k k0 k1
  have b := T.bbl _ a.1 a.2
  have o0 : ∀ k : Int, ot (6 * k) = 6 * k + 1 := fun k => by unfold ot; rw [if_pos (by omega)]
  have o1 : ∀ k : Int, ot (6 * k + 1) = 6 * k := fun k => by unfold ot; rw [if_neg (by omega)]; omega
  have o2 : ∀ k : Int, ot (6 * k + 2) = 6 * k + 3 := fun k => by unfold ot; rw [if_pos (by omega)]; omega
  have o3 : ∀ k : Int, ot (6 * k + 3) = 6 * k + 2 := fun k => by unfold ot; rw [if_neg (by omega)]; omega
  have o4 : ∀ k : Int, ot (6 * k + 4) = 6 * k + 5 := fun k => by unfold ot; rw [if_pos (by omega)]; omega
  have o5 : ∀ k : Int, ot (6 * k + 5) = 6 * k + 4 := fun k => by unfold ot; rw [if_neg (by omega)]; omega
  refine ⟨?_, ?_, ?_, ?_, ?_, ?_⟩
  · show nx (ot _) = _
    rw [o0, C.v1 k k0 k1]
  · show nx (ot _) = _
    rw [o3, C.v2 _ a.1 a.2]
  · show nx (ot _) = _
    rw [o4, C.v5 _ a.1 a.2]
  · show nx (ot _) = _
    rw [o1, C.v0 _ b.1 b.2]
  · show nx (ot _) = _
    rw [o2, C.v3 _ b.1 b.2, T.com _ b.1 b.2, T.ab' _ a.1 a.2, T.rl k k0 k1]
  · show nx (ot _) = _
    rw [o5, C.v4 k k0 k1]
/-- the bubble on whose rim an end lies -/
def bubO (rt ab : Int → Int) (x : Int) : Int := if x % 6 = 0 ∨ x % 6 = 5 then x / 6 else if x % 6 = 3 ∨ x % 6 = 4 then rt (x / 6) else rt (ab (x / 6))
theorem CombV.bub (C : CombV n lf rt ab bl S nx) : ∀ x ∈ S, ∃ k, 0 ≤ k ∧ k < n ∧ bubO rt ab x = k ∧ (x = 6 * k ∨ x = 6 * lf k + 3 ∨ x = 6 * lf k + 4 ∨ x = 6 * bl (lf k) + 1 ∨ x = 6 * bl (lf k) + 2 ∨ x = 6 * k + 5) := by
  intro x hx
  have T := C.T
  obtain ⟨h0, h1⟩ := (C.mem x).mp hx
  obtain ⟨k, k0, k1, h⟩ := six_way x h0 h1
  have r := T.brt k k0 k1
  have a := T.bab k k0 k1
  have ra := T.brt _ a.1 a.2
  unfold bubO
  rcases h with rfl | rfl | rfl | rfl | rfl | rfl
  · exact ⟨k, k0, k1, by rw [if_pos (by omega)]; omega, .inl rfl⟩
  · refine ⟨rt (ab k), ra.1, ra.2, ?_, .inr (.inr (.inr (.inl (by rw [T.lr _ a.1 a.2, T.ba k k0 k1]))))⟩
    rw [if_neg (by omega), if_neg (by omega), show (6 * k + 1) / 6 = k by omega]
  · refine ⟨rt (ab k), ra.1, ra.2, ?_, .inr (.inr (.inr (.inr (.inl (by rw [T.lr _ a.1 a.2, T.ba k k0 k1])))))⟩
    rw [if_neg (by omega), if_neg (by omega), show (6 * k + 2) / 6 = k by omega]
  · refine ⟨rt k, r.1, r.2, ?_, .inr (.inl (by rw [T.lr k k0 k1]))⟩
    rw [if_neg (by omega), if_pos (by omega), show (6 * k + 3) / 6 = k by omega]
  · refine ⟨rt k, r.1, r.2, ?_, .inr (.inr (.inl (by rw [T.lr k k0 k1])))⟩
    rw [if_neg (by omega), if_pos (by omega), show (6 * k + 4) / 6 = k by omega]
  · exact ⟨k, k0, k1, by rw [if_pos (by omega)]; omega, .inr (.inr (.inr (.inr (.inr rfl))))⟩
theorem CombV.bub6 (C : CombV n lf rt ab bl S nx) : ∀ k, 0 ≤ k → k < n → bubO rt ab (6 * k) = k ∧ bubO rt ab (6 * lf k + 3) = k ∧ bubO rt ab (6 * lf k + 4) = k ∧ bubO rt ab (6 * bl (lf k) + 1) = k ∧ bubO rt ab (6 * bl (lf k) + 2) = k ∧ bubO rt ab (6 * k + 5) = k := by
  intro k k0 k1
  have T := C.T
  have a := T.blf k k0 k1
  have b := T.bbl _ a.1 a.2
  unfold bubO
  refine ⟨?_, ?_, ?_, ?_, ?_, ?_⟩
  · rw [if_pos (by omega)]; omega
  · rw [if_neg (by omega), if_pos (by omega), show (6 * lf k + 3) / 6 = lf k by omega, T.rl k k0 k1]
  · rw [if_neg (by omega), if_pos (by omega), show (6 * lf k + 4) / 6 = lf k by omega, T.rl k k0 k1]
  · rw [if_neg (by omega), if_neg (by omega), show (6 * bl (lf k) + 1) / 6 = bl (lf k) by omega, T.ab' _ a.1 a.2, T.rl k k0 k1]
  · rw [if_neg (by omega), if_neg (by omega), show (6 * bl (lf k) + 2) / 6 = bl (lf k) by omega, T.ab' _ a.1 a.2, T.rl k k0 k1]
  · rw [if_pos (by omega)]; omega
theorem CombV.inv (C : CombV n lf rt ab bl S nx) {x : Int} (hx : x ∈ S) : bubO rt ab (Fw.face ot nx x) = bubO rt ab x := by
  obtain ⟨k, k0, k1, e, h⟩ := C.bub x hx
  obtain ⟨f0, f1, f2, f3, f4, f5⟩ := C.face k k0 k1
  obtain ⟨g0, g1, g2, g3, g4, g5⟩ := C.bub6 k k0 k1
  rw [e]
  rcases h with rfl | rfl | rfl | rfl | rfl | rfl
  · rw [f0, g1]
  · rw [f1, g2]
  · rw [f2, g3]
  · rw [f3, g4]
  · rw [f4, g5]
  · rw [f5, g0]
theorem CombV.to0 (C : CombV n lf rt ab bl S nx) {x : Int} (hx : x ∈ S) : Eqv (fstep S (Fw.face ot nx)) x (6 * bubO rt ab x) := by
  obtain ⟨k, k0, k1, e, h⟩ := C.bub x hx
  obtain ⟨f0, f1, f2, f3, f4, f5⟩ := C.face k k0 k1
  have T := C.T
  have a := T.blf k k0 k1
  have b := T.bbl _ a.1 a.2
  rw [e]
  have s : ∀ {x y : Int}, 0 ≤ x → x < 6 * n → Fw.face ot nx x = y → Eqv (fstep S (Fw.face ot nx)) x y := fun h0 h1 e => .step ⟨(C.mem _).mpr ⟨h0, h1⟩, e.symm⟩
  have e5 := s (by omega) (by omega) f5
  have e4 := (s (by omega) (by omega) f4).trans e5
  have e3 := (s (by omega) (by omega) f3).trans e4
  have e2 := (s (by omega) (by omega) f2).trans e3
  have e1 := (s (by omega) (by omega) f1).trans e2
  rcases h with rfl | rfl | rfl | rfl | rfl | rfl
  · exact .refl _
  · exact e1
  · exact e2
  · exact e3
  · exact e4
  · exact e5
theorem CombV.len (C : CombV n lf rt ab bl S nx) : (S.length : Int) = 6 * n := by
  have hn := C.T.pos
  have p : S.Perm ((List.range (6 * n).toNat).map fun i : Nat => (i : Int)) := by
    refine (List.perm_ext_iff_of_nodup C.nd ?_).mpr fun x => ?_
    · exact List.Pairwise.map _ (fun a b h e => h (Int.ofNat.inj e)) List.nodup_range
    · rw [C.mem, List.mem_map]
      constructor
      · rintro ⟨h0, h1⟩
        exact ⟨x.toNat, List.mem_range.mpr (by omega), by omega⟩
      · rintro ⟨i, hi, rfl⟩
        have := List.mem_range.mp hi
        omega
  have e := p.length_eq
  rw [List.length_map, List.length_range] at e
  omega
theorem CombV.cls (C : CombV n lf rt ab bl S nx) : Cls S (fstep S (Fw.face ot nx)) n.toNat := by
  have T := C.T
  have hn := T.pos
  refine ⟨(List.range n.toNat).map fun i : Nat => 6 * (i : Int), by rw [List.length_map, List.length_range], fun x hx => ?_, fun x hx => ?_, ?_⟩
  · obtain ⟨i, hi, rfl⟩ := List.mem_map.mp hx
    have := List.mem_range.mp hi
    exact (C.mem _).mpr ⟨by omega, by omega⟩
  · obtain ⟨k, k0, k1, e, _⟩ := C.bub x hx
    refine ⟨6 * k, List.mem_map.mpr ⟨k.toNat, List.mem_range.mpr (by omega), by rw [Int.toNat_of_nonneg k0]⟩, ?_⟩
    have := C.to0 hx
    rwa [e] at this
  · refine List.Pairwise.map (R := fun a b : Nat => a < n.toNat ∧ b < n.toNat ∧ a ≠ b) _ (fun a b ⟨ha, hb, h⟩ e => h ?_) ?_
    · have key : ∀ x y, Eqv (fstep S (Fw.face ot nx)) x y → bubO rt ab x = bubO rt ab y := fun x y q => by
        induction q with
        | refl => rfl
        | step s => obtain ⟨hx, rfl⟩ := s; exact (C.inv hx).symm
        | symm _ ih => exact ih.symm
        | trans _ _ i1 i2 => exact i1.trans i2
      have q := key _ _ e
      rw [(C.bub6 a (by omega) (by omega)).1, (C.bub6 b (by omega) (by omega)).1] at q
      omega
    · refine List.Pairwise.imp_of_mem (R := fun a b => a ≠ b) (fun {a b} ha hb h => ⟨List.mem_range.mp ha, List.mem_range.mp hb, h⟩) List.nodup_range
theorem CombV.web (C : CombV n lf rt ab bl S nx) : Web S nx := by
  have hn := C.T.pos
  have hl := C.len
  refine ⟨C.map, fun e => ?_, C.conn, ⟨n.toNat, C.cls, by omega⟩, fun x hx => ((C.mem x).mp hx).1⟩
  rw [e] at hl
  simp at hl
  omega
end
/-! ### rows and columns -/
def prd (c b : Int) : Int := if b = 0 then c - 1 else b - 1
def scc (c b : Int) : Int := if b = c - 1 then 0 else b + 1
def lfO (c k : Int) : Int := k / c * c + prd c (k % c)
def rtO (c k : Int) : Int := k / c * c + scc c (k % c)
def abO (r c k : Int) : Int := prd r (k / c) * c + k % c
def blO (r c k : Int) : Int := scc r (k / c) * c + k % c
theorem dm {a b c : Int} (h0 : 0 ≤ b) (h1 : b < c) : (a * c + b) / c = a ∧ (a * c + b) % c = b := by
  have hc : c ≠ 0 := by omega
  refine ⟨?_, ?_⟩
  · rw [Int.add_comm, Int.add_mul_ediv_right _ _ hc, Int.ediv_eq_zero_of_lt h0 h1]; omega
  · rw [Int.add_comm, Int.add_mul_emod_self_right, Int.emod_eq_of_lt h0 h1]
theorem inb {r c a b : Int} (a0 : 0 ≤ a) (a1 : a < r) (b0 : 0 ≤ b) (b1 : b < c) : 0 ≤ a * c + b ∧ a * c + b < r * c := by
  have hc : 0 ≤ c := by omega
  have h1 : 0 ≤ a * c := Int.mul_nonneg a0 hc
  have h2 : (a + 1) * c ≤ r * c := Int.mul_le_mul_of_nonneg_right (by omega) hc
  rw [Int.add_mul] at h2
  omega
theorem rc {r c k : Int} (hc : 0 < c) (h0 : 0 ≤ k) (h1 : k < r * c) : (0 ≤ k / c ∧ k / c < r) ∧ (0 ≤ k % c ∧ k % c < c) ∧ k / c * c + k % c = k :=
  ⟨⟨Int.ediv_nonneg h0 (by omega), Int.ediv_lt_of_lt_mul hc h1⟩, ⟨Int.emod_nonneg _ (by omega), Int.emod_lt_of_pos _ hc⟩, by rw [Int.mul_comm]; exact Int.mul_ediv_add_emod k c⟩
theorem prd_b {c b : Int} (h0 : 0 ≤ b) (h1 : b < c) : 0 ≤ prd c b ∧ prd c b < c := by unfold prd; split <;> omega
theorem scc_b {c b : Int} (h0 : 0 ≤ b) (h1 : b < c) : 0 ≤ scc c b ∧ scc c b < c := by unfold scc; split <;> omega
theorem scc_prd {c b : Int} (h0 : 0 ≤ b) (h1 : b < c) : scc c (prd c b) = b := by unfold scc prd; split <;> split <;> omega
theorem prd_scc {c b : Int} (h0 : 0 ≤ b) (h1 : b < c) : prd c (scc c b) = b := by unfold scc prd; split <;> split <;> omega
theorem tor_rc {r c : Int} (hr : 0 < r) (hc : 0 < c) : Tor (r * c) (lfO c) (rtO c) (abO r c) (blO r c) := by
  have key : ∀ {P : Int → Prop}, (∀ a b, 0 ≤ a → a < r → 0 ≤ b → b < c → P (a * c + b)) → ∀ k, 0 ≤ k → k < r * c → P k := fun h k k0 k1 => by
    obtain ⟨⟨a0, a1⟩, ⟨b0, b1⟩, e⟩ := rc hc k0 k1
    rw [← e]
    exact h _ _ a0 a1 b0 b1
  have vl : ∀ a b, 0 ≤ b → b < c → lfO c (a * c + b) = a * c + prd c b := fun a b b0 b1 => by unfold lfO; rw [(dm b0 b1).1, (dm b0 b1).2]
  have vr : ∀ a b, 0 ≤ b → b < c → rtO c (a * c + b) = a * c + scc c b := fun a b b0 b1 => by unfold rtO; rw [(dm b0 b1).1, (dm b0 b1).2]
  have va : ∀ a b, 0 ≤ b → b < c → abO r c (a * c + b) = prd r a * c + b := fun a b b0 b1 => by unfold abO; rw [(dm b0 b1).1, (dm b0 b1).2]
  have vb : ∀ a b, 0 ≤ b → b < c → blO r c (a * c + b) = scc r a * c + b := fun a b b0 b1 => by unfold blO; rw [(dm b0 b1).1, (dm b0 b1).2]
  refine ⟨Int.mul_pos hr hc, key fun a b a0 a1 b0 b1 => ?_, key fun a b a0 a1 b0 b1 => ?_, key fun a b a0 a1 b0 b1 => ?_, key fun a b a0 a1 b0 b1 => ?_, key fun a b a0 a1 b0 b1 => ?_, key fun a b a0 a1 b0 b1 => ?_, key fun a b a0 a1 b0 b1 => ?_, key fun a b a0 a1 b0 b1 => ?_, key fun a b a0 a1 b0 b1 => ?_, fun P p0 hl ha => ?_⟩
  · rw [vl a b b0 b1]; exact inb a0 a1 (prd_b b0 b1).1 (prd_b b0 b1).2
  · rw [vr a b b0 b1]; exact inb a0 a1 (scc_b b0 b1).1 (scc_b b0 b1).2
  · rw [va a b b0 b1]; exact inb (prd_b a0 a1).1 (prd_b a0 a1).2 b0 b1
  · rw [vb a b b0 b1]; exact inb (scc_b a0 a1).1 (scc_b a0 a1).2 b0 b1
  · rw [vl a b b0 b1, vr _ _ (prd_b b0 b1).1 (prd_b b0 b1).2, scc_prd b0 b1]
  · rw [vr a b b0 b1, vl _ _ (scc_b b0 b1).1 (scc_b b0 b1).2, prd_scc b0 b1]
  · rw [va a b b0 b1, vb _ _ b0 b1, scc_prd a0 a1]
  · rw [vb a b b0 b1, va _ _ b0 b1, prd_scc a0 a1]
  · rw [vr a b b0 b1, va _ _ (scc_b b0 b1).1 (scc_b b0 b1).2, va a b b0 b1, vr _ _ b0 b1]
  · have col : ∀ j : Nat, (j : Int) < c → P (0 * c + j) := fun j => by
      induction j with
      | zero => intro _; rw [Int.zero_mul]; exact p0
      | succ j ih =>
        intro h
        have q := (hl (0 * c + (j + 1 : Nat)) (by rw [Int.zero_mul]; omega) (by
          have := (inb (r := r) (Int.le_refl 0) hr (b := ((j + 1 : Nat) : Int)) (by omega) h).2
          exact this)).mpr
        rw [vl _ _ (by omega) h] at q
        have e : prd c ((j + 1 : Nat) : Int) = j := by unfold prd; rw [if_neg (by omega)]; omega
        rw [e] at q
        exact q (ih (by omega))
    have row : ∀ (i : Nat) (b : Int), (i : Int) < r → 0 ≤ b → b < c → P (i * c + b) := fun i => by
      induction i with
      | zero =>
        intro b _ b0 b1
        have := col b.toNat (by omega)
        rw [Int.toNat_of_nonneg b0] at this
        exact this
      | succ i ih =>
        intro b h b0 b1
        have w := inb (r := r) (a := ((i + 1 : Nat) : Int)) (by omega) h b0 b1
        have q := (ha _ w.1 w.2).mpr
        rw [va _ _ b0 b1] at q
        have e : prd r ((i + 1 : Nat) : Int) = i := by unfold prd; rw [if_neg (by omega)]; omega
        rw [e] at q
        exact q (ih b (by omega) b0 b1)
    exact key fun a b a0 a1 b0 b1 => by
      have := row a.toNat b (by omega) b0 b1
      rw [Int.toNat_of_nonneg a0] at this
      exact this
/-- the comb's web -/
def cS (r c : Int) : List Int := (combD (lfO c) (abO r c) (r * c).toNat).1
def cN (r c : Int) : Int → Int := (combD (lfO c) (abO r c) (r * c).toNat).2
theorem comb_rc {r c : Int} (hr : 0 < r) (hc : 0 < c) : CombV (r * c) (lfO c) (rtO c) (abO r c) (blO r c) (cS r c) (cN r c) := comb_v (tor_rc hr hc)
/-! Rim: the rim from an end on; flooding; counting rims. Plain Lean. -/
structure Per (f : Int → Int) (x : Int) (n : Nat) : Prop where
  pos : 0 < n
  ret : iter f n x = x
  first : ∀ i, 0 < i → i < n → iter f i x ≠ x
def rimO (f : Int → Int) (x : Int) (n : Nat) : List Int := (List.range n).map fun i => iter f i x
section
variable {S : List Int} {f : Int → Int} {x y : Int} {n m : Nat}
theorem rimO_len : (rimO f x n).length = n := by unfold rimO; rw [List.length_map, List.length_range]
theorem rimO_succ : rimO f x (n + 1) = rimO f x n ++ [iter f n x] := by unfold rimO; rw [List.range_succ, List.map_append]; rfl
theorem per_ex (P : Perm1 S f) (hx : x ∈ S) : ∃ n, n ≤ S.length ∧ Per f x n := by
  obtain ⟨n, h1, h2, h3⟩ := iter_first P hx
  refine ⟨n + 1, h1, Nat.succ_pos _, h2, fun i h0 hi => ?_⟩
  have := h3 (i - 1) (by omega)
  rwa [show i - 1 + 1 = i by omega] at this
theorem per_unique (h : Per f x n) (g : Per f x m) : n = m := by
  rcases Nat.lt_trichotomy n m with q | q | q
  · exact absurd h.ret (g.first n h.pos q)
  · exact q
  · exact absurd g.ret (h.first m g.pos q)
theorem per_le (P : Perm1 S f) (hx : x ∈ S) (h : Per f x n) : n ≤ S.length := by
  obtain ⟨m, hm, g⟩ := per_ex P hx
  rw [per_unique h g]
  exact hm
theorem rim_nd (P : Perm1 S f) (hx : x ∈ S) (h : Per f x n) : (rimO f x n).Nodup := by
  unfold rimO
  rw [List.nodup_iff_pairwise_ne, List.pairwise_map]
  refine List.Pairwise.imp_of_mem (fun {i j} hi hj hlt e => ?_) (List.pairwise_lt_range (n := n))
  have hj' := List.mem_range.mp hj
  obtain ⟨k, hk⟩ : ∃ k, j = (k + 1) + i := ⟨j - i - 1, by omega⟩
  rw [hk, Nat.add_comm (k + 1) i, iter_add] at e
  exact h.first (k + 1) (by omega) (by omega) (iter_inj P i hx (iter_mem P hx (k + 1)) e).symm
theorem per_mod (h : Per f x n) (i : Nat) : ∃ j, j < n ∧ iter f i x = iter f j x := by
  induction i with
  | zero => exact ⟨0, h.pos, rfl⟩
  | succ i ih =>
    obtain ⟨j, hj, e⟩ := ih
    by_cases c : j + 1 = n
    · refine ⟨0, h.pos, ?_⟩
      show f (iter f i x) = x
      rw [e]
      have := h.ret
      rw [← c] at this
      exact this
    · exact ⟨j + 1, by omega, by show f _ = f _; rw [e]⟩
theorem rim_mem (P : Perm1 S f) (hx : x ∈ S) (h : Per f x n) : y ∈ rimO f x n ↔ Eqv (fstep S f) x y := by
  unfold rimO
  rw [List.mem_map]
  constructor
  · rintro ⟨i, _, rfl⟩
    exact fstep_iter P hx i
  · intro e
    obtain ⟨i, _, q⟩ := eqv_iter P hx e
    obtain ⟨j, hj, q2⟩ := per_mod h i
    exact ⟨j, List.mem_range.mpr hj, by rw [← q2, q]⟩
theorem rim_sub (P : Perm1 S f) (hx : x ∈ S) (hy : y ∈ rimO f x n) : y ∈ S := by
  obtain ⟨i, _, rfl⟩ := List.mem_map.mp hy
  exact iter_mem P hx i
end
/-! ### flooding -/
/-! ### counting classes as they are met -/
/-- behind some ends: the ends passed, how many rims -/
structure Cnt (S : List Int) (f : Int → Int) (P : List Int) (n : Nat) : Prop where
  sub : ∀ x ∈ P, x ∈ S
  cl : ∀ x ∈ P, f x ∈ P
  reps : ∃ R : List Int, R.length = n ∧ (∀ x ∈ R, x ∈ S) ∧ (∀ x ∈ P, ∃ y ∈ R, Eqv (fstep S f) x y) ∧ (∀ x ∈ R, x ∈ P) ∧ R.Pairwise fun x y => ¬ Eqv (fstep S f) x y
section
variable {S : List Int} {f : Int → Int} {P : List Int} {n : Nat}
theorem Cnt.all (C : Cnt S f P n) (h : ∀ x ∈ S, x ∈ P) : Cls S (fstep S f) n := by
  obtain ⟨R, h1, h2, h3, h4, h5⟩ := C.reps
  exact ⟨R, h1, h2, fun x hx => h3 x (h x hx), h5⟩
end
/-! Fd: dicts by whole numbers: their keys in order and what stands at each. -/
def kvI (S : List Int) (f : Int → V) : List (Key × V) := S.map fun x => (Sum.inl x, f x)
def dI (S : List Int) (f : Int → V) : HO := .dK (kvI S f)
abbrev dW (S : List Int) (nx : Int → Int) : HO := dI S fun x => .int (nx x)
section
variable {S : List Int} {f g : Int → V} {k : Int} {v : V} {H H1 H' : Hp} {a : Addr}
theorem dI_congr (h : ∀ x ∈ S, f x = g x) : dI S f = dI S g := by
  unfold dI kvI
  congr 1
  exact List.map_congr_left fun x hx => by rw [h x hx]
theorem kvI_len : (kvI S f).length = S.length := by unfold kvI; rw [List.length_map]
theorem valV_in (h : k ∈ S) : valV (kvI S f) (Sum.inl k) = some (f k) := by
  unfold kvI
  induction S with
  | nil => exact absurd h List.not_mem_nil
  | cons x r ih =>
    by_cases e : x = k
    · subst e; exact valV_pos rfl
    · rw [List.map_cons, valV_neg (fun z => e (Sum.inl.inj z))]
      exact ih ((List.mem_cons.mp h).resolve_left fun z => e z.symm)
theorem valV_out (h : k ∉ S) : valV (kvI S f) (Sum.inl k) = none := by
  unfold kvI
  induction S with
  | nil => rfl
  | cons x r ih =>
    rw [List.map_cons, valV_neg (fun z => h (by rw [← (Sum.inl.inj z : x = k)]; exact List.mem_cons_self))]
    exact ih fun z => h (List.mem_cons_of_mem _ z)
theorem valV_some : (valV (kvI S f) (Sum.inl k)).isSome = decide (k ∈ S) := by
  by_cases h : k ∈ S
  · rw [valV_in h, decide_eq_true h]; rfl
  · rw [valV_out h, decide_eq_false h]; rfl
theorem putK_I : putK (kvI S f) (Sum.inl k) v = kvI (putS S k) fun x => if x = k then v else f x := by
  unfold putK putS
  rw [valV_any, valV_some]
  by_cases h : k ∈ S
  · rw [if_pos (decide_eq_true h), if_pos h]
    unfold kvI
    rw [List.map_map]
    refine List.map_congr_left fun x _ => ?_
    show (if (Sum.inl x : Key) = Sum.inl k then ((Sum.inl x : Key), v) else (Sum.inl x, f x)) = _
    by_cases e : x = k
    · rw [if_pos (by rw [e])]
      show _ = ((Sum.inl x : Key), if x = k then v else f x)
      rw [if_pos e]
    · rw [if_neg (fun z => e (Sum.inl.inj z))]
      show _ = ((Sum.inl x : Key), if x = k then v else f x)
      rw [if_neg e]
  · rw [if_neg (fun z => h (of_decide_eq_true z)), if_neg h]
    unfold kvI
    rw [List.map_append, List.map_singleton]
    have e : (fun x : Int => if x = k then v else f x) k = v := if_pos rfl
    rw [e]
    congr 1
    exact List.map_congr_left fun x hx => by
      show _ = ((Sum.inl x : Key), if x = k then v else f x)
      rw [if_neg (fun z : x = k => h (z ▸ hx))]
theorem dropK_I : dropK (kvI S f) (Sum.inl k) = kvI (S.filter fun x => decide (x ≠ k)) f := by
  unfold dropK kvI
  rw [List.filter_map]
  congr 1
  refine List.filter_congr fun x _ => ?_
  show decide ((Sum.inl x : Key) ≠ Sum.inl k) = _
  by_cases e : x = k
  · subst e; simp
  · simp [e]
/-! ### readings -/
variable {Q : VK} {σ : St} {nx bk ct : St → Hp → Prop} {rt : VK} {td ty tv : TE} {R : Bool → Hp → Prop}
def rDGet : R2 := fun x y H Q => ∃ a v, x = .ref a ∧ DGet H a y (some v) ∧ Q v H
def rDIn : R2 := fun y x H Q => ∃ a o, x = .ref a ∧ DGet H a y o ∧ Q (.bl o.isSome) H
def rDNotIn : R2 := fun y x H Q => ∃ a o, x = .ref a ∧ DGet H a y o ∧ Q (.bl (!o.isSome)) H
theorem r_dgetS (h : td σ H fun x H1 => ty σ H1 fun y H2 => rDGet x y H2 Q) : tDGet td ty σ H Q := h
theorem r_dinS (h : ty σ H fun y H1 => td σ H1 fun x H2 => rDIn y x H2 Q) : tDIn ty td σ H Q := h
theorem r_dnotinS (h : ty σ H fun y H1 => td σ H1 fun x H2 => rDNotIn y x H2 Q) : tDNotIn ty td σ H Q := h
theorem r_dget (hd : Rd H a (dI S f)) (hm : k ∈ S) (h : Q (f k) H) : rDGet (.ref a) (.int k) H Q := ⟨a, _, rfl, .inl ⟨_, Sum.inl k, hd, rfl, (valV_in hm).symm⟩, h⟩
theorem r_din (hd : Rd H a (dI S f)) (h : Q (.bl (decide (k ∈ S))) H) : rDIn (.int k) (.ref a) H Q := ⟨a, _, rfl, .inl ⟨_, Sum.inl k, hd, rfl, rfl⟩, by rw [valV_some]; exact h⟩
theorem r_dnotin (hd : Rd H a (dI S f)) (h : Q (.bl (!decide (k ∈ S))) H) : rDNotIn (.int k) (.ref a) H Q := ⟨a, _, rfl, .inl ⟨_, Sum.inl k, hd, rfl, rfl⟩, by rw [valV_some]; exact h⟩
def rDPut : V → V → V → Hp → (Hp → Prop) → Prop := fun x y v H N => ∃ a H4, x = .ref a ∧ DPut H a y v H4 ∧ N H4
theorem r_dputS (h : tv σ H fun v H1 => td σ H1 fun x H2 => ty σ H2 fun y H3 => rDPut x y v H3 fun H4 => nx σ H4) : sDPut td ty tv ⟨nx, rt, bk, ct⟩ σ H := h
theorem r_dput {N : Hp → Prop} (hd : H a = some (dI S f)) (hl : S.length < sizeLine) (h : N (upd H a (dI (putS S k) fun x => if x = k then v else f x))) : rDPut (.ref a) (.int k) v H N := by
  refine ⟨a, _, rfl, .inl ⟨_, Sum.inl k, hd, rfl, by rw [kvI_len]; exact hl, rfl⟩, ?_⟩
  rw [putK_I]
  exact h
theorem r_dputW {N : Hp → Prop} {w : Int → Int} {y : Int} (hd : H a = some (dW S w)) (hl : S.length < sizeLine) (h : N (upd H a (dW (putS S k) (fset w k y)))) : rDPut (.ref a) (.int k) (.int y) H N := by
  refine r_dput hd hl ?_
  have e : (fun x => if x = k then V.int y else V.int (w x)) = fun x => V.int (fset w k y x) := funext fun x => by unfold fset; split <;> rfl
  rw [e]
  exact h
theorem r_dputT {N : Hp → Prop} (hd : H a = some (dI S fun _ => v)) (hl : S.length < sizeLine) (h : N (upd H a (dI (putS S k) fun _ => v))) : rDPut (.ref a) (.int k) v H N := by
  refine r_dput hd hl ?_
  have e : (fun x : Int => if x = k then v else v) = fun _ => v := funext fun x => by split <;> rfl
  rw [e]
  exact h
theorem r_dnew (h : ∀ p, Free H p → Q (.ref p) (upd H p (dI [] f))) : tDNewK σ H Q := h
theorem r_dpop {td ty : TE} (h : td σ H fun x H1 => ∃ a, x = .ref a ∧ IsD H1 a ∧ ty σ H1 fun y H2 => ∃ kvs k v, H2 a = some (.dK kvs) ∧ y = kV k ∧ valV kvs k = some v ∧ Q v (upd H2 a (.dK (dropK kvs k)))) : tDPop1 td ty σ H Q := h
theorem r_dpop1 (hd : H a = some (dI S f)) (hm : k ∈ S) (h : Q (f k) (upd H a (dI (S.filter fun x => decide (x ≠ k)) f))) :
    ∃ kvs k' v, H a = some (.dK kvs) ∧ V.int k = kV k' ∧ valV kvs k' = some v ∧ Q v (upd H a (.dK (dropK kvs k'))) := by
  refine ⟨_, Sum.inl k, _, hd, rfl, valV_in hm, ?_⟩
  rw [dropK_I]
  exact h
theorem isD_I (hd : Rd H a (dI S f)) : IsD H a := .inl ⟨_, hd⟩
/-- len, list, dict -/
def rLenD : List V → Hp → VK → Prop := fun xs H Q => ∃ a kvs, xs = [V.ref a] ∧ Rd H a (.dK kvs) ∧ Q (.int kvs.length) H
theorem call_lenRd {X : Cx} : CallR X (.builtin "len") rLenD := by
  intro pins s σ H xs us Q I r h
  obtain ⟨a, kvs, rfl, hd, q⟩ := h
  obtain ⟨u, rfl, rx⟩ := vals1 r
  obtain rfl : u = Value.ref a := rx
  exact d_len I hd fun t s' I' => ⟨.int kvs.length, H, I', ⟨t, rfl⟩, q⟩
def rListRd : List V → Hp → VK → Prop := fun xs H Q => ∃ (a : Addr) (kvs : List (Key × V)), xs = [.ref a] ∧ Rd H a (.dK kvs) ∧ ∀ p, H p = none → Q (.ref p) (upd H p (.lst (kvs.map fun kv => kV kv.1)))
def rDictRd : List V → Hp → VK → Prop := fun xs H Q => ∃ (a : Addr) (kvs : List (Key × V)), xs = [.ref a] ∧ Rd H a (.dK kvs) ∧ ∀ p, H p = none → Q (.ref p) (upd H p (.dK kvs))
theorem r_lenD (hd : Rd H a (dI S f)) (h : Q (.int S.length) H) : rLenD [.ref a] H Q := ⟨a, _, rfl, hd, by rw [kvI_len]; exact h⟩
theorem r_listD (hd : Rd H a (dI S f)) (h : ∀ p, Free H p → Q (.ref p) (upd H p (.lst (S.map V.int)))) : rListRd [.ref a] H Q := ⟨a, _, rfl, hd, fun p hp => by
  have e : (kvI S f).map (fun kv => kV kv.1) = S.map V.int := by unfold kvI; rw [List.map_map]; rfl
  rw [e]
  exact h p hp⟩
theorem r_dictD (hd : Rd H a (dI S f)) (h : ∀ p, Free H p → Q (.ref p) (upd H p (dI S f))) : rDictRd [.ref a] H Q := ⟨a, _, rfl, hd, h⟩
theorem r_sorted {K : PySem.W.Frag} {ns : List Int} (hs : SqL K H a (ns.map V.int)) (h : ∀ (ns' : List Int) (p : Addr), ns'.Perm ns → ns'.Pairwise (· ≤ ·) → Free H p → Q (.ref p) (upd H p (.lst (ns'.map V.int)))) : rSortedI K [.ref a] H Q := ⟨a, ns, rfl, hs, h⟩
theorem r_all {K : PySem.W.Frag} {bs : List Bool} (hs : SqL K H a (bs.map V.bl)) (h : Q (.bl (bs.all id)) H) : rAll K [.ref a] H Q := ⟨a, bs, rfl, hs, h⟩
theorem r_bm0 {K : PySem.W.Frag} {T : String} {r : V → List V → Hp → VK → Prop} {to : TE} (h : to σ H fun x H1 => tyV K T x H1 ∧ r x [] H1 Q) : tBM0 K T r to σ H Q := h
theorem isi_dictR {K : PySem.W.Frag} (hd : H a = some (dI S f)) (h : Q (.bl true) H) : rIsi K [.ref a, .ty "dict"] H Q := isi_dict hd h
/-! ### a dict that is walked is locked -/
theorem same_unlock {u : HO} {od : Obj} (h0 : H a = some u) (s : Same (upd H a (.frz od u)) H') : Same H (upd H' a u) := fun b x e => by
  by_cases z : b = a
  · subst z
    rw [h0] at e
    cases e
    exact upd_same
  · rw [upd_ne z]
    exact s b x (by rw [upd_ne z]; exact e)
theorem r_forD {tb : TS} {i : Nat} {td : TE} (hd : H a = some (dI S f)) (ht : ∀ H Q, Q (.ref a) H → td σ H Q)
    (h : ∀ od, ∃ Pv : Nat → St → Hp → Prop, Pv 0 σ (upd H a (.frz od (dI S f))) ∧ (∀ j σ H, j ≤ S.length → Pv j σ H → H a = some (.frz od (dI S f))) ∧
      (∀ j x σ H, S[j]? = some x → Pv j σ H → tb ⟨Pv (j + 1), fun v H' => H' a = some (.frz od (dI S f)) ∧ rt v (upd H' a (dI S f)), fun σ' H' => H' a = some (.frz od (dI S f)) ∧ nx σ' (upd H' a (dI S f)), Pv (j + 1)⟩ (σ.set i (some (.int x))) H) ∧
      (∀ σ H, Pv S.length σ H → nx σ (upd H a (dI S f)))) : tLock (tFor (iKeys td) (gName i) tb) ⟨nx, rt, bk, ct⟩ σ H := by
  refine ⟨a, _, hd, trivial, fun od => ?_⟩
  obtain ⟨Pv, p0, pg, ps, pd⟩ := h od
  refine ht _ _ ⟨a, od, rfl, .inl ⟨kvI S f, upd_same, ?_⟩⟩
  have e := kvI_len (S := S) (f := f)
  refine for_it (D := ⟨fun σ' H' => H' a = some (.frz od (dI S f)) ∧ nx σ' (upd H' a (dI S f)), fun v H' => H' a = some (.frz od (dI S f)) ∧ rt v (upd H' a (dI S f)), fun _ _ => False, fun _ _ => False⟩) walk_keys Pv p0 (fun j σ H hj p => pg j σ H (by rw [← e]; exact hj) p) (fun j x σ H H' hj p y => ?_) (fun σ H p => ?_)
  · obtain ⟨rfl, k, v, hk, rfl⟩ := y
    obtain ⟨x, hx, ek⟩ := map_get hk
    cases ek
    exact ps j x σ H' hx p
  · rw [e] at p
    exact ⟨pg _ _ _ (Nat.le_refl _) p, pd σ H p⟩
end
/-! ### while, with something kept in mind -/
section
variable {α : Type} {σ : St} {H : Hp} {nx bk ct : St → Hp → Prop} {rt : VK}
theorem r_whileG {c : TT} {tb : TS} (Pv : α → St → Hp → Prop) (μ : α → Nat) (g0 : α) (h0 : Pv g0 σ H)
    (hs : ∀ g σ H, Pv g σ H → c σ H fun b H1 => if b = true then ∃ N : St → Hp → Prop, (∀ σ' H', N σ' H' → ∃ m', m' < μ g ∧ ∃ g', m' = μ g' ∧ Pv g' σ' H') ∧ tb ⟨N, rt, nx, N⟩ σ H1 else nx σ H1) : tWhile c tb ⟨nx, rt, bk, ct⟩ σ H := by
  refine ⟨fun m σ H => ∃ g, m = μ g ∧ Pv g σ H, ⟨_, g0, rfl, h0⟩, ?_⟩
  rintro m σ H ⟨g, rfl, p⟩
  exact hs g σ H p
theorem r_wG {tb : TS} {Pv : α → St → Hp → Prop} {μ : α → Nat} {m : Nat} (h : tb ⟨fun σ' H' => ∃ g', Pv g' σ' H' ∧ μ g' < m, rt, nx, fun σ' H' => ∃ g', Pv g' σ' H' ∧ μ g' < m⟩ σ H) :
    ∃ N : St → Hp → Prop, (∀ σ' H', N σ' H' → ∃ m', m' < m ∧ ∃ g', m' = μ g' ∧ Pv g' σ' H') ∧ tb ⟨N, rt, nx, N⟩ σ H := ⟨_, fun _ _ ⟨g', p, l⟩ => ⟨_, l, g', rfl, p⟩, h⟩
end
/-! ### Rd carried on -/
section
variable {H H1 H' : Hp} {a p : Addr} {u o : HO}
theorem upd_id (h : H a = some u) : upd H a u = H := by
  funext b
  by_cases e : b = a
  · rw [e, upd_same, h]
  · rw [upd_ne e]
theorem rd_in (h : H a = some u) : Rd H a u := .inl h
theorem rd_frz {ob : Obj} (h : H a = some (.frz ob u)) : Rd H a u := .inr ⟨ob, h⟩
theorem rdb_ne (hn : a ≠ p) (h : Rd H a u) : Rd (upd H p o) a u := by
  unfold Rd
  rw [upd_ne hn]
  exact h
theorem ne_rd (h : Rd H a u) (h0 : Free H p) : a ≠ p := h.elim (fun e => ne_of_none e h0) fun ⟨_, e⟩ => ne_of_none e h0
theorem ne_rd' (h : Rd H p u) (h0 : Free H a) : a ≠ p := (ne_rd h h0).symm
theorem rdb_new (hp : Free H p) (h : Rd H a u) : Rd (upd H p o) a u := rdb_ne (ne_rd h hp) h
theorem rdb_same (s : Same H H') (h : Rd H a u) : Rd H' a u := same_rd s h
theorem ne_kind {x y : HO} (h1 : H a = some x) (h2 : H p = some y) (h : x ≠ y) : a ≠ p := fun e => h (by rw [e, h2] at h1; cases h1; rfl)
theorem upd_lock {D : Addr} {l v : HO} (h : H a = some u) (hD : D ≠ a) : upd (upd (upd H a v) D l) a u = upd H D l := by
  funext b
  by_cases h1 : b = a
  · subst h1
    rw [upd_same, upd_ne (Ne.symm hD), h]
  · rw [upd_ne h1]
    by_cases h2 : b = D
    · subst h2
      rw [upd_same, upd_same]
    · rw [upd_ne h2, upd_ne h2, upd_ne h1]
end
/-! ### comprehensions that leave the heap as it is -/
section
variable {K : PySem.W.Frag} {H : Hp} {Q : VK} {σ : St} {a : Addr} {tl te : TE} {tt : TT} {i : Nat}
theorem wipe1 : wipe σ [i] = σ.set i none := rfl
theorem r_lcD {S : List Int} {f : Int → V} (e : Int → V) (hd : H a = some (dI S f)) (ht : ∀ (H' : Hp) (Q : VK), Q (.ref a) H' → tl σ H' Q) (hn : S.length < sizeLine)
    (h2 : ∀ x ∈ S, ∀ (H' : Hp) (Q : VK), Q (e x) H' → te (σ.set i (some (.int x))) H' Q)
    (h : ∀ D, Free H D → Q (.ref D) (upd H D (.lst (S.map e)))) : tLockE (tLc (iKeys tl) (gName i) tYes te [i]) σ H Q := by
  refine ⟨a, _, hd, trivial, fun od => ?_⟩
  refine ht _ _ ⟨a, od, rfl, .inl ⟨kvI S f, upd_same, fun D hD => ?_⟩⟩
  have hDa : D ≠ a := fun z => by rw [z, upd_same] at hD; cases hD
  have hD0 : Free H D := by rw [upd_ne hDa] at hD; exact hD
  have el := kvI_len (S := S) (f := f)
  refine lc_it walk_keys (fun j H' => H' = upd (upd H a (.frz od (dI S f))) D (.lst ((S.take j).map e))) rfl (fun j H' _ q => ?_) (fun j x H' H'' hj q y => ?_) (fun H' q => ?_)
  · subst q
    rw [upd_ne (Ne.symm hDa)]
    exact upd_same
  · subst q
    obtain ⟨rfl, k, v, hk, rfl⟩ := y
    obtain ⟨n, hn', ek⟩ := map_get hk
    cases ek
    have hm : n ∈ S := List.mem_of_getElem? hn'
    have et : S.take (j + 1) = S.take j ++ [n] := by rw [List.take_succ, hn']; rfl
    rw [wipe1]
    show _ ∧ _
    have es : (σ.set i none).set i (some (.int n)) = σ.set i (some (.int n)) := List.set_set _
    refine ⟨by show List.set ((σ.set i none).set i (some (.int n))) _ _ = _; rw [es]; exact List.set_set _, ?_⟩
    show te ((σ.set i none).set i (some (.int n))) _ _
    rw [es]
    refine h2 n hm _ _ ⟨_, upd_same, ?_, ?_⟩
    · rw [List.length_map]
      refine Nat.lt_of_le_of_lt ?_ hn
      rw [List.length_take]
      exact Nat.min_le_right _ _
    · rw [upd_upd, et, List.map_append]
      rfl
  · subst q
    rw [el, List.take_length]
    refine ⟨by rw [upd_ne (Ne.symm hDa)]; exact upd_same, ?_⟩
    rw [upd_lock hd hDa]
    exact h D hD0
end
/-! Fm: min and max of a tuple of whole numbers. -/
section
open PyProof.Rows
variable {prog : Program} {w : World} {A : Around} {E : Value → Shared → Prop} {s : Shared} {l : Addr} {its : List Value} {ns : List Int} {Q : Value → Shared → Prop}
theorem tup_iter {xs : Array (Int × Tok)} {Q : Value → Shared → Prop} (hl : s.heap.IsTuple l (intItems xs))
    (h : ∀ s₂ : Shared, s₂ = { s with heap := s.heap.push { cls := .type "tuple_iterator", data := .fields #[.ref l, .int 0 0] } } →
      (s₂.heap.IsTupleIter s.heap.objs.size l 0 ∧ s₂.heap.IsTuple l (intItems xs)) → (∀ b ∈ [s.heap.objs.size, l], b < s₂.heap.objs.size) → l ≠ s.heap.objs.size → Q (.ref s.heap.objs.size) s₂) :
    wpAny (model prog w) A (pyIter (.ref l)) Q E s := by
  have hlt : l < s.heap.objs.size := by obtain ⟨_, e, _⟩ := hl; exact Heap.lt_size e
  refine wpAny_pyIter_tuple hl (h _ rfl ⟨⟨_, Heap.get?_push_size _ rfl, rfl, rfl⟩, hl.push _⟩ (fun b hb => ?_) (Nat.ne_of_lt hlt))
  show b < (s.heap.push _).objs.size
  rw [Heap.size_push]
  rcases List.mem_cons.mp hb with rfl | hb
  · exact Nat.lt_succ_self _
  · rcases List.mem_cons.mp hb with rfl | hb
    · exact Nat.lt_succ_of_lt hlt
    · cases hb
theorem tup_kept {h' : Heap} (hk : ∀ b o, b ∉ [s.heap.objs.size] → (s.heap.push { cls := .type "tuple_iterator", data := .fields #[.ref l, .int 0 0] }).get? b = some o → h'.get? b = some o) :
    ∀ b o, s.heap.get? b = some o → h'.get? b = some o := fun b o e => by
  refine hk b o (fun hm => ?_) (Heap.get?_push_of_some _ e)
  rcases List.mem_cons.mp hm with e1 | hm
  · exact absurd (e1 ▸ Heap.lt_size e) (Nat.lt_irrefl _)
  · cases hm
theorem maxT_raw (hh : A.handled = none) (hl : s.heap.IsTuple l its.toArray) (hi : IntsAre its ns) (hne : 0 < ns.length)
    (h : ∀ h' tk M t', (∀ b o, s.heap.get? b = some o → h'.get? b = some o) → M ∈ ns → (∀ a, a ∈ ns → a ≤ M) → Q (.int M t') { s with heap := h', toks := tk }) : wpAny (model prog w) A (call (.builtin "max") [.ref l]) Q E s := by
  obtain ⟨xs, e⟩ := hi.allInts.items
  have hn : numsOf (intItems xs).toList = ns := by rw [← e]; exact hi.numsOf
  rw [nums_intItems] at hn
  subst hn
  rw [e] at hl
  have hsz : 0 < xs.size := by simpa using hne
  refine call_max_walk (tup_iter hl fun s₂ e st hfp hlI => ?_)
  subst e
  refine ⟨_, _, _, _, _, _, _, rfl, Walks.tuple (A := A.in1) hh _ l hlI (intItems xs), st, hfp, by simpa [intItems] using hsz, CmpOf.ints_gt (numAt xs) (fun _ _ => intItems_at), fun v h' tk hP hk => ?_⟩
  have hv : (intItems xs)[argBest (fun i j => decide (numAt xs i > numAt xs j)) (xs.size - 1)]? = some v := by simpa [intItems] using hP
  obtain ⟨t, rfl⟩ := intItems_at hv
  obtain ⟨h1, h2⟩ := argBest_gt (numAt xs) (xs.size - 1)
  refine h h' tk _ t (tup_kept hk) ?_ fun a ha => ?_
  · rw [numAt_eq]; exact PySem.getD_mem (by rw [List.length_map, Array.length_toList]; omega)
  · obtain ⟨j, hj, rfl⟩ := mem_getD ha
    rw [List.length_map, Array.length_toList] at hj
    rw [← numAt_eq]; exact h2 j (by omega)
theorem minT_raw (hh : A.handled = none) (hl : s.heap.IsTuple l its.toArray) (hi : IntsAre its ns) (hne : 0 < ns.length)
    (h : ∀ h' tk M t', (∀ b o, s.heap.get? b = some o → h'.get? b = some o) → M ∈ ns → (∀ a, a ∈ ns → M ≤ a) → Q (.int M t') { s with heap := h', toks := tk }) : wpAny (model prog w) A (call (.builtin "min") [.ref l]) Q E s := by
  obtain ⟨xs, e⟩ := hi.allInts.items
  have hn : numsOf (intItems xs).toList = ns := by rw [← e]; exact hi.numsOf
  rw [nums_intItems] at hn
  subst hn
  rw [e] at hl
  have hsz : 0 < xs.size := by simpa using hne
  refine call_min_walk (tup_iter hl fun s₂ e st hfp hlI => ?_)
  subst e
  refine ⟨_, _, _, _, _, _, _, rfl, Walks.tuple (A := A.in1) hh _ l hlI (intItems xs), st, hfp, by simpa [intItems] using hsz, CmpOf.ints_lt (numAt xs) (fun _ _ => intItems_at), fun v h' tk hP hk => ?_⟩
  have hv : (intItems xs)[argBest (fun i j => decide (numAt xs i < numAt xs j)) (xs.size - 1)]? = some v := by simpa [intItems] using hP
  obtain ⟨t, rfl⟩ := intItems_at hv
  obtain ⟨h1, h2⟩ := argBest_lt (numAt xs) (xs.size - 1)
  refine h h' tk _ t (tup_kept hk) ?_ fun a ha => ?_
  · rw [numAt_eq]; exact PySem.getD_mem (by rw [List.length_map, Array.length_toList]; omega)
  · obtain ⟨j, hj, rfl⟩ := mem_getD ha
    rw [List.length_map, Array.length_toList] at hj
    rw [← numAt_eq]; exact h2 j (by omega)
end
section
open PyProof.Rows
variable {X : Cx}
def rMaxTp (K : PySem.W.Frag) : List V → Hp → VK → Prop := fun vs H Q => ∃ (a : Addr) (ns : List Int), vs = [V.ref a] ∧ SqT K H a (ns.map V.int) ∧ 0 < ns.length ∧ ∀ m, m ∈ ns → (∀ y, y ∈ ns → y ≤ m) → Q (.int m) H
def rMinTp (K : PySem.W.Frag) : List V → Hp → VK → Prop := fun vs H Q => ∃ (a : Addr) (ns : List Int), vs = [V.ref a] ∧ SqT K H a (ns.map V.int) ∧ 0 < ns.length ∧ ∀ m, m ∈ ns → (∀ y, y ∈ ns → m ≤ y) → Q (.int m) H
theorem cr_maxTp (hc : X.calm = true) : CallR X (.builtin "max") (rMaxTp X.K) := by
  intro pins s σ H vs us Q I r h
  obtain ⟨a, ns, rfl, hs, hne, q⟩ := h
  obtain ⟨its, rv, hl, _⟩ := I.tuple hs
  rw [Vals.ref1 r]
  exact maxT_raw (I.ok.hd hc) hl rv.ints hne fun h' tk m t' hk h1 h2 => ⟨.int _, H, I.kept hk, ⟨_, rfl⟩, q m h1 h2⟩
theorem cr_minTp (hc : X.calm = true) : CallR X (.builtin "min") (rMinTp X.K) := by
  intro pins s σ H vs us Q I r h
  obtain ⟨a, ns, rfl, hs, hne, q⟩ := h
  obtain ⟨its, rv, hl, _⟩ := I.tuple hs
  rw [Vals.ref1 r]
  exact minT_raw (I.ok.hd hc) hl rv.ints hne fun h' tk m t' hk h1 h2 => ⟨.int _, H, I.kept hk, ⟨_, rfl⟩, q m h1 h2⟩
end
/-! ### min(xs, key=len) of lists: one of them -/
section
open PyProof.Rows
variable {prog : Program} {w : World} {A : Around} {E : Value → Shared → Prop} {s : Shared} {l : Addr} {Q : Value → Shared → Prop}
theorem minLen_raw {as : List Addr} (hh : A.handled = none) (hl : s.heap.IsList l (as.map Value.ref).toArray) (hne : as ≠ []) (n : Addr → Nat) (hz : ∀ a ∈ as, ((n a : Nat) : Int) < 2 ^ 63) (hr : ∀ a ∈ as, ∃ its : Array Value, s.heap.IsList a its ∧ its.size = n a)
    (h : ∀ a h' tk, a ∈ as → (∀ b o, s.heap.get? b = some o → h'.get? b = some o) → Q (.ref a) { s with heap := h', toks := tk }) : wpAny (model prog w) A (call (.builtin "min") [.ref l] [(Str.ofString "key", .builtin "len")]) Q E s := by
  have hsz : (as.map Value.ref).toArray.size = as.length := by rw [List.size_toArray, List.length_map]
  refine call_min_walkKB (PySem.W.iter_listW (A := A.in1) hh hl fun s₂ e W st hfp hw hk => ?_)
  have hn : 0 < as.length := List.length_pos_iff.mpr hne
  let J : Shared → Prop := fun s' => ∃ h' tk, s' = { s with heap := h', toks := tk } ∧ ∀ b o, s.heap.get? b = some o → h'.get? b = some o
  let kf : Nat → Int := fun i => ((n (as.getD i 0) : Nat) : Int)
  have at_ : ∀ (i : Nat) (v : Value), (as.map Value.ref).toArray[i]? = some v → v = .ref (as.getD i 0) ∧ as.getD i 0 ∈ as := fun i v hv => by
    rw [List.getElem?_toArray, List.getElem?_map] at hv
    cases q : as[i]? with
    | none => rw [q] at hv; cases hv
    | some a =>
      rw [q] at hv
      cases hv
      have e1 : as.getD i 0 = a := by simp [q]
      rw [e1]
      exact ⟨rfl, List.mem_of_getElem? q⟩
  have mv : ∀ (wr : List Addr) (s1 s' : Shared), (∀ b o, s.heap.get? b = some o → b ∉ wr) → J s1 → Moved wr (fun a b => b = a) s1 s' → J s' := fun wr s1 s' hwr ⟨h1, t1, e1, k1⟩ m => by
    subst e1
    refine ⟨s'.heap, s'.toks, ?_, fun b o eb => m.heap b o (hwr b o eb) (k1 b o eb)⟩
    obtain ⟨hp, g, d, tk, os⟩ := s'
    have h1 : g = s.gens := m.gens
    have h2 : d = s.drawn := m.drawn
    have h3 : os = s.os := m.os
    subst h1 h2 h3
    rfl
  have hS : ∀ b o, s.heap.get? b = some o → b ∉ s₂.heap.objs.size :: [s.heap.objs.size] := fun b o eb hb => by
    rcases List.mem_cons.mp hb with z | z
    · have := Heap.lt_size (hk b o eb)
      rw [z] at this
      exact Nat.lt_irrefl _ this
    · exact hw b o eb z
  refine ⟨_, _, _, _, _, _, _, J, fun i k _ => ∃ t, k = .int (kf i) t, fun i j => decide (kf i < kf j), rfl, W, st, hfp, by rw [hsz]; exact hn, ⟨fun s1 s' j m => mv _ s1 s' hS j m, fun i k s1 s' v _ => v, fun i v s1 o Q1 E1 hi hv hj hst hso hq => ?_, fun i j ki kj s1 Q1 E1 hj hki hkj hq => ?_⟩, ?_, fun v s' hP ⟨h', tk, e', k'⟩ => ?_⟩
  · obtain ⟨rfl, hm⟩ := at_ i v hv
    obtain ⟨its, hi1, hi2⟩ := hr _ hm
    obtain ⟨h1, t1, rfl, k1⟩ := hj
    have hl1 : h1.IsList (as.getD i 0) its := by
      obtain ⟨o1, a1, a2⟩ := hi1
      exact ⟨o1, k1 _ _ a1, a2⟩
    refine Calls.call_len_list hl1 (by rw [hi2]; exact hz _ hm) ?_
    refine hq _ _ ⟨h1, _, rfl, k1⟩ (W.frame _ _ _ _ hst (by show t1 ≤ t1 + 1 + 1; omega) fun b _ o e => e) hso ⟨_, by rw [hi2]⟩ fun j k' v => v
  · obtain ⟨t, rfl⟩ := hki
    obtain ⟨u, rfl⟩ := hkj
    exact richCompare_gives (op := .Lt) (typeIs_int s1 _ t) (typeIs_int s1 _ u) F.slot_int_lt F.entry_int_lt (F.args_int_lt_2 _ _) (gives_int_lt _ _ t u) (fun x => nomatch x) hq
  · subst e
    exact ⟨_, _, rfl, hk⟩
  · subst e'
    obtain ⟨rfl, hm⟩ := at_ _ v hP
    exact h _ h' tk hm k'
end
def tMinLen (K : PySem.W.Frag) (ta : TA) : TE := fun σ H Q => ta σ H fun vs H1 => ∃ (a : Addr) (as : List Addr), vs = [.ref a] ∧ SqL K H1 a (as.map V.ref) ∧ as ≠ [] ∧ (∀ b ∈ as, ∃ xs, SqL K H1 b xs) ∧ ∀ b, b ∈ as → Q (.ref b) H1
section
open PyProof.Rows
variable {X : Cx} {p p2 pos kpos : Pos} {e : Expr} {ta : TA}
theorem vals_refs : ∀ {as : List Addr} {us : List Value}, Vals (as.map V.ref) us → us = as.map Value.ref
  | [], us, h => by
    rw [List.map_nil] at h
    cases h
    rfl
  | a :: as, us, h => by
    rw [List.map_cons] at h
    cases h with
    | cons r t =>
      cases r
      rw [vals_refs t, List.map_cons]
theorem pe_minLen (hc : X.calm = true) (hg : Gl X "min") (hm : X.mg "min" = none) (hgl : Gl X "len") (hml : X.mg "len" = none) (ha : PA X [e] ta)
    (he : backTo pos (starEach [e] X.env) = (false, eval e X.env) :: backTo pos (starEach [] X.env) := by rfl) (hpl : (backTo pos (starEach [e] X.env)).any (·.1) = false := by rfl) : PE X (.Call (.Name "min" p) [e] [⟨some "key", .Name "len" p2, kpos⟩] pos) (tMinLen X.K ta) := by
  refine ⟨fun pins s σ H Q I h => ?_⟩
  refine wpAny_Call_Name_kw (ld_blt I hg hm (u := .builtin "min") (by decide +kernel) ?_)
  refine PyProof.Rows.callWith_kw (thn (ha.run pos pins s σ H _ I h) fun us s1 ⟨vs, H1, I1, r1, q1⟩ => ?_) he hpl rfl rfl
  show wpAny _ _ (evalAll [(do let v ← eval (.Name "len" p2) X.env; standAt pos; pure v)]) _ _ s1
  refine wpAny_evalAll_cons (wpAny_bind (ld_blt I1 hgl hml (u := .builtin "len") (by decide +kernel) (wpAny_bind (wpAny_standAt (wpAny_pure (wpAny_evalAll_nil ?_))))))
  obtain ⟨a, as, rfl, hs, hne, hr, q⟩ := q1
  obtain ⟨its, rv, hl, hz⟩ := I1.list hs
  rw [Vals.ref1 r1]
  rw [vals_refs rv] at hl
  have hn := line63
  have ex : ∀ b, ∃ n : Nat, b ∈ as → (n : Int) < 2 ^ 63 ∧ ∃ its : Array Value, s1.heap.IsList b its ∧ its.size = n := fun b => by
    by_cases hb : b ∈ as
    · obtain ⟨xs, hx⟩ := hr b hb
      obtain ⟨its, rv, hl, hz⟩ := I1.list hx
      have hlen := rv.length
      exact ⟨its.length, fun _ => ⟨by omega, _, hl.isList, List.size_toArray ..⟩⟩
    · exact ⟨0, fun z => absurd z hb⟩
  show wpAny _ _ (call (.builtin "min") [.ref a] [(Str.ofString "key", .builtin "len")]) _ _ _
  refine minLen_raw (I1.ok.hd hc) hl.isList hne (fun b => (ex b).choose) (fun b hb => ((ex b).choose_spec hb).1) (fun b hb => ((ex b).choose_spec hb).2) fun b h' tk hb hk => ?_
  exact ⟨.ref b, H1, I1.kept hk, rfl, q b hb⟩
end
/-! Lp: loops by what is passed and what is left; lists of lists. -/
section
variable {σ : St} {H : Hp} {nx : St → Hp → Prop} {rt : VK} {K : PySem.W.Frag} {a : Addr}
/-- a walk over a list of values, by what is passed and what is left -/
theorem r_forV {xs : List V} {g : TG} {tb : TS} (hs : SqL K H a xs) (Pv : List V → List V → St → Hp → Prop) (h0 : Pv [] xs σ H) (hG : ∀ pre post σ H, xs = pre ++ post → Pv pre post σ H → SqL K H a xs)
    (hb : ∀ pre x post σ H, xs = pre ++ x :: post → Pv pre (x :: post) σ H → g x σ H fun σ2 H2 => tb ⟨Pv (pre ++ [x]) post, rt, nx, Pv (pre ++ [x]) post⟩ σ2 H2) (hd : ∀ σ H, Pv xs [] σ H → nx σ H) :
    ∃ a', V.ref a = .ref a' ∧ (∃ ys, SqL K H a' ys) ∧ ∃ W : Nat → Nat → St → Hp → Prop, (∃ m, W 0 m σ H) ∧ ∀ i m σ H, W i m σ H →
      ((Itl K a').stop i H ∧ nx σ H) ∨ ((Itl K a').go i H ∧ ∃ N : St → Hp → Prop, (∀ σ' H', N σ' H' → ∃ m', m' < m ∧ W (i + 1) m' σ' H') ∧ ∀ x H', (Itl K a').yld i H x H' → g x σ H' fun σ2 H2 => tb ⟨N, rt, nx, N⟩ σ2 H2) := by
  refine ⟨a, rfl, ⟨_, hs⟩, ?_⟩
  refine r_it (walk_list (xs := xs)) (fun i σ H => Pv (xs.take i) (xs.drop i) σ H) (by rw [List.take_zero, List.drop_zero]; exact h0) (fun i σ H _ p => hG _ _ σ H (List.take_append_drop i xs).symm p) (fun i x σ H H' hi p y => ?_) (fun σ H p => ?_)
  · obtain ⟨rfl, hx⟩ := y
    have e1 : xs.drop i = x :: xs.drop (i + 1) := by
      obtain ⟨hl, hx'⟩ := List.getElem?_eq_some_iff.mp hx
      rw [List.drop_eq_getElem_cons hl, hx']
    have e2 : xs.take (i + 1) = xs.take i ++ [x] := by rw [List.take_succ, hx]; rfl
    rw [e2]
    rw [e1] at p
    exact hb _ x _ σ H' (by rw [← e1, List.take_append_drop]) p
  · rw [List.take_length, List.drop_length] at p
    exact hd σ H p
/-- .. of ints -/
theorem r_forI {ns : List Int} {g : TG} {tb : TS} (hs : SqL K H a (ns.map V.int)) (Pv : List Int → List Int → St → Hp → Prop) (h0 : Pv [] ns σ H) (hG : ∀ pre post σ H, ns = pre ++ post → Pv pre post σ H → SqL K H a (ns.map V.int))
    (hb : ∀ pre x post σ H, ns = pre ++ x :: post → Pv pre (x :: post) σ H → g (.int x) σ H fun σ2 H2 => tb ⟨Pv (pre ++ [x]) post, rt, nx, Pv (pre ++ [x]) post⟩ σ2 H2) (hd : ∀ σ H, Pv ns [] σ H → nx σ H) :
    ∃ a', V.ref a = .ref a' ∧ (∃ ys, SqL K H a' ys) ∧ ∃ W : Nat → Nat → St → Hp → Prop, (∃ m, W 0 m σ H) ∧ ∀ i m σ H, W i m σ H →
      ((Itl K a').stop i H ∧ nx σ H) ∨ ((Itl K a').go i H ∧ ∃ N : St → Hp → Prop, (∀ σ' H', N σ' H' → ∃ m', m' < m ∧ W (i + 1) m' σ' H') ∧ ∀ x H', (Itl K a').yld i H x H' → g x σ H' fun σ2 H2 => tb ⟨N, rt, nx, N⟩ σ2 H2) := by
  refine ⟨a, rfl, ⟨_, hs⟩, ?_⟩
  refine r_it (walk_list (xs := ns.map V.int)) (fun i σ H => Pv (ns.take i) (ns.drop i) σ H) (by rw [List.take_zero, List.drop_zero]; exact h0) (fun i σ H _ p => hG _ _ σ H (List.take_append_drop i ns).symm p) (fun i v σ H H' hi p y => ?_) (fun σ H p => ?_)
  · obtain ⟨rfl, hv⟩ := y
    obtain ⟨x, hx, rfl⟩ := map_get hv
    have e1 : ns.drop i = x :: ns.drop (i + 1) := by
      obtain ⟨hl, hx'⟩ := List.getElem?_eq_some_iff.mp hx
      rw [List.drop_eq_getElem_cons hl, hx']
    have e2 : ns.take (i + 1) = ns.take i ++ [x] := by rw [List.take_succ, hx]; rfl
    rw [e2]
    rw [e1] at p
    exact hb _ x _ σ H' (by rw [← e1, List.take_append_drop]) p
  · rw [List.length_map, List.take_length, List.drop_length] at p
    exact hd σ H p
/-- .. of a tuple of values -/
theorem r_forT {xs : List V} {g : TG} {tb : TS} (hs : SqT K H a xs) (Pv : List V → List V → St → Hp → Prop) (h0 : Pv [] xs σ H) (hG : ∀ pre post σ H, xs = pre ++ post → Pv pre post σ H → SqT K H a xs)
    (hb : ∀ pre x post σ H, xs = pre ++ x :: post → Pv pre (x :: post) σ H → g x σ H fun σ2 H2 => tb ⟨Pv (pre ++ [x]) post, rt, nx, Pv (pre ++ [x]) post⟩ σ2 H2) (hd : ∀ σ H, Pv xs [] σ H → nx σ H) :
    ∃ a', V.ref a = .ref a' ∧ (∃ ys, SqT K H a' ys) ∧ ∃ W : Nat → Nat → St → Hp → Prop, (∃ m, W 0 m σ H) ∧ ∀ i m σ H, W i m σ H →
      ((Itt K a').stop i H ∧ nx σ H) ∨ ((Itt K a').go i H ∧ ∃ N : St → Hp → Prop, (∀ σ' H', N σ' H' → ∃ m', m' < m ∧ W (i + 1) m' σ' H') ∧ ∀ x H', (Itt K a').yld i H x H' → g x σ H' fun σ2 H2 => tb ⟨N, rt, nx, N⟩ σ2 H2) := by
  refine ⟨a, rfl, ⟨_, hs⟩, ?_⟩
  refine r_it (walk_tup (xs := xs)) (fun i σ H => Pv (xs.take i) (xs.drop i) σ H) (by rw [List.take_zero, List.drop_zero]; exact h0) (fun i σ H _ p => hG _ _ σ H (List.take_append_drop i xs).symm p) (fun i x σ H H' hi p y => ?_) (fun σ H p => ?_)
  · obtain ⟨rfl, hx⟩ := y
    have e1 : xs.drop i = x :: xs.drop (i + 1) := by
      obtain ⟨hl, hx'⟩ := List.getElem?_eq_some_iff.mp hx
      rw [List.drop_eq_getElem_cons hl, hx']
    have e2 : xs.take (i + 1) = xs.take i ++ [x] := by rw [List.take_succ, hx]; rfl
    rw [e2]
    rw [e1] at p
    exact hb _ x _ σ H' (by rw [← e1, List.take_append_drop]) p
  · rw [List.take_length, List.drop_length] at p
    exact hd σ H p
end
/-! ### lists of lists -/
inductive Refs (H : Hp) : List Addr → List (List Int) → Prop
  | nil : Refs H [] []
  | cons {a : Addr} {l : List Int} {as : List Addr} {ls : List (List Int)} (h : H a = some (.lst (l.map V.int))) (r : Refs H as ls) : Refs H (a :: as) (l :: ls)
section
variable {H H' : Hp} {as : List Addr} {ls : List (List Int)} {p : Addr} {o : HO}
theorem Refs.imp (h : Refs H as ls) (k : ∀ a ∈ as, ∀ u, H a = some u → H' a = some u) : Refs H' as ls := by
  induction h with
  | nil => exact .nil
  | cons h r ih => exact .cons (k _ List.mem_cons_self _ h) (ih fun a ha => k a (List.mem_cons_of_mem _ ha))
theorem Refs.same (h : Refs H as ls) (s : Same H H') : Refs H' as ls := h.imp fun a _ u e => s a u e
theorem Refs.upd (h : Refs H as ls) (k : ∀ a ∈ as, a ≠ p) : Refs (upd H p o) as ls := h.imp fun a ha u e => at_ne e (k a ha)
theorem Refs.len (h : Refs H as ls) : as.length = ls.length := by
  induction h with
  | nil => rfl
  | cons h r ih => rw [List.length_cons, List.length_cons, ih]
theorem Refs.snoc {a : Addr} {l : List Int} (h : Refs H as ls) (e : H a = some (.lst (l.map V.int))) : Refs H (as ++ [a]) (ls ++ [l]) := by
  induction h with
  | nil => exact .cons e .nil
  | cons h r ih => exact .cons h ih
theorem Refs.get (h : Refs H as ls) {i : Nat} {a : Addr} (e : as[i]? = some a) : ∃ l, ls[i]? = some l ∧ H a = some (.lst (l.map V.int)) := by
  induction h generalizing i with
  | nil => cases e
  | cons h r ih =>
    cases i with
    | zero => cases e; exact ⟨_, rfl, h⟩
    | succ i => exact ih e
theorem Refs.mem (h : Refs H as ls) {a : Addr} (e : a ∈ as) : ∃ l ∈ ls, H a = some (.lst (l.map V.int)) := by
  obtain ⟨i, hi⟩ := List.getElem?_of_mem e
  obtain ⟨l, hl, q⟩ := h.get hi
  exact ⟨l, List.mem_of_getElem? hl, q⟩
end
/-! ### two sorted lists of the same -/
theorem sorted_eq : ∀ {l m : List Int}, l.Perm m → l.Pairwise (· ≤ ·) → m.Pairwise (· ≤ ·) → l = m
  | [], m, h, _, _ => (List.nil_perm.mp h).symm ▸ rfl
  | x :: r, [], h, _, _ => absurd h.length_eq (by simp)
  | x :: r, y :: t, h, h1, h2 => by
    have e : x = y := by
      obtain ⟨a1, _⟩ := List.pairwise_cons.mp h1
      obtain ⟨b1, _⟩ := List.pairwise_cons.mp h2
      have hx : x ∈ y :: t := h.subset List.mem_cons_self
      have hy : y ∈ x :: r := h.symm.subset List.mem_cons_self
      rcases List.mem_cons.mp hx with q | q
      · exact q
      · rcases List.mem_cons.mp hy with q' | q'
        · exact q'.symm
        · exact Int.le_antisymm (a1 y q') (b1 x q)
    subst e
    rw [sorted_eq (List.Perm.cons_inv h) (List.pairwise_cons.mp h1).2 (List.pairwise_cons.mp h2).2]
/-! ### slices -/
def cutI (ns : List Int) (lo hi : Option Int) : List Int := (ns.drop (HT.sIx ns.length 0 lo)).take (HT.sIx ns.length ns.length hi - HT.sIx ns.length 0 lo)
theorem cutV_map {ns : List Int} {lo hi : Option Int} : cutV (ns.map V.int) lo hi = (cutI ns lo hi).map V.int := by
  unfold cutV cutI
  rw [List.length_map, List.map_take, List.map_drop]
section
variable {σ : St} {H : Hp} {Q : VK} {K : PySem.W.Frag}
theorem r_sl {r : V → Option Int → Option Int → Hp → VK → Prop} {te : TE} {tl th : TO} (h : te σ H fun x H1 => tl σ H1 fun l H2 => th σ H2 fun u H3 => r x l u H3 Q) : tSl r te tl th σ H Q := h
theorem r_noPart {R : Option Int → Hp → Prop} (h : R none H) : tNoPart σ H R := h
theorem r_part {R : Option Int → Hp → Prop} {t : TE} (h : t σ H fun x H1 => ∃ i, x = .int i ∧ R (some i) H1) : tPart t σ H R := h
theorem r_partI {i : Int} {P : Int → Prop} (h : P i) : ∃ j, V.int i = .int j ∧ P j := ⟨i, rfl, h⟩
def rRev (K : PySem.W.Frag) (x : V) (H : Hp) (Q : VK) : Prop := ∃ a xs, x = .ref a ∧ SqL K H a xs ∧ ∀ p, H p = none → Q (.ref p) (upd H p (.lst xs.reverse))
theorem r_revS {te : TE} (h : te σ H fun x H1 => rRev K x H1 Q) : tRevL K te σ H Q := h
theorem r_rev {a : Addr} {ns : List Int} (hs : SqL K H a (ns.map V.int)) (h : ∀ p, Free H p → Q (.ref p) (upd H p (.lst (ns.reverse.map V.int)))) : rRev K (.ref a) H Q :=
  ⟨a, _, rfl, hs, fun p hp => by rw [← List.map_reverse]; exact h p hp⟩
theorem r_lcO {tl : TE} {g : TG} {tt : TT} {te : TE} {vs : List Nat} (h : tl σ H fun x H1 => tLc (iList K (tC x)) g tt te vs σ H1 Q) : tLc (iList K tl) g tt te vs σ H Q := h
theorem r_slL {a : Addr} {ns : List Int} {lo hi : Option Int} (hs : SqL K H a (ns.map V.int)) (h : ∀ p, Free H p → Q (.ref p) (upd H p (.lst ((cutI ns lo hi).map V.int)))) : rSlL K (.ref a) lo hi H Q :=
  ⟨a, _, rfl, hs, fun p hp => by rw [cutV_map]; exact h p hp⟩
end
/-! Fx: defs that raise, try. -/
def adOf (mg : Str → Option Value) (x : Str) : Addr := match mg x with
  | some (.ref a) => a
  | _ => 0
theorem adOf_eq {mg : Str → Option Value} {x : Str} {a : Addr} (h : mg x = some (.ref a)) : adOf mg x = a := by unfold adOf; rw [h]
/-- a class of refusals as it stands -/
structure Exq (K : PySem.W.Frag) (mg : Str → Option Value) (x : Str) (C : Addr) : Prop where
  g : mg x = some (.ref C)
  q : PySem.W.excIn K C [.type "ValueError", .type "Exception", .type "BaseException", .type "object"] "ValueError.__new__" = true
  k : PySem.W.keepIn K (.ref C) = true
  b : PySem.W.subIn K (.ref C) (.type "BaseException") = some true
  t : PySem.W.typeIn K (.ref C) = some (.type "type")
  i : PySem.W.isClsIn K C = true
section
variable {K : PySem.W.Frag} {h : Heap} {mg : Str → Option Value} {x : Str} {C S : Addr}
theorem exq_mk (X : K.In h) (G : h.Ns mainGlobals mg) (a : PySem.W.nsIn K mainGlobals x = some (some (.ref C))) (q : PySem.W.excIn K C [.type "ValueError", .type "Exception", .type "BaseException", .type "object"] "ValueError.__new__" = true) (k : PySem.W.keepIn K (.ref C) = true)
    (b : PySem.W.subIn K (.ref C) (.type "BaseException") = some true) (t : PySem.W.typeIn K (.ref C) = some (.type "type")) (i : PySem.W.isClsIn K C = true) : Exq K mg x (adOf mg x) ∧ adOf mg x = C := by
  have g := PySem.W.mg_of X G a
  have e := adOf_eq g
  rw [e]
  exact ⟨⟨g, q, k, b, t, i⟩, rfl⟩
theorem exm_pair {c : Value} {b : Bool} (h1 : PySem.W.subIn K (.ref S) (.type "BaseException") = some true) (h2 : PySem.W.isClsIn K S = true) (h3 : PySem.W.typeIn K (.ref S) = some (.type "type")) (h4 : PySem.W.subIn K c (.ref S) = some b) :
    PySem.W.exmOne K c (.ref S) = some b := by
  unfold PySem.W.exmOne
  rw [h1]
  unfold PySem.W.isClsIn at h2
  simp only [PySem.W.kitCls, h3, h4, h2]
  rfl
end
/-- which handler takes which -/
def Exm (G : Gx) (L : List Str) : Prop := ∀ (i j : Nat) (x y : Str), L[i]? = some x → L[j]? = some y → PySem.W.exmOne G.K (.ref (G.ad x)) (.ref (G.ad y)) = some (decide (i = j))
def tRaise (E : XK) (C : Addr) : TS := fun _ _ H => E (.ref C) none H
def tTryM (G : Gx) (L : List (Str × TS)) (tb : WX → TS) : TS := fun D σ H => tb (wMany G.K (fun _ _ _ _ => False) D (L.map fun p => (Value.ref (G.ad p.1), fun _ _ _ => p.2))) D σ H
section
variable {σ : St} {H : Hp} {Q : VK} {D : Ends} {G : Gx}
theorem r_raise {E : XK} {C : Addr} (h : E (.ref C) none H) : tRaise E C D σ H := h
theorem r_callS {sp : Sp} {E : St → XK} {t : TA} (h : t σ H fun vs H1 => sp vs H1 Q (E σ)) : tCallS sp E t σ H Q := h
theorem wMany_hit {W : WX} {x : Str} {ts : TS} {d : Option Addr} : ∀ (L : List (Str × TS)) (i : Nat), L[i]? = some (x, ts) → (∀ j y, j ≤ i → (L.map Prod.fst)[j]? = some y → PySem.W.exmOne G.K (.ref (G.ad x)) (.ref (G.ad y)) = some (decide (i = j))) → ts D σ H →
    wMany G.K W D (L.map fun p => (Value.ref (G.ad p.1), fun _ _ _ => p.2)) (.ref (G.ad x)) d σ H
  | [], i, h, _, _ => by cases h
  | (y, u) :: r, 0, h, m, k => by
    cases h
    exact ⟨true, m 0 _ (Nat.le_refl _) rfl, fun _ _ _ => k, fun z => Bool.noConfusion z⟩
  | (y, u) :: r, i + 1, h, m, k => by
    refine ⟨false, m 0 y (Nat.zero_le _) rfl, fun z => Bool.noConfusion z, fun _ => wMany_hit r i h (fun j y' hj e => ?_) k⟩
    rw [m (j + 1) y' (Nat.succ_le_succ hj) e]
    congr 1
    exact decide_eq_decide.mpr ⟨fun q => by omega, fun q => by omega⟩
/-- the try whose body raises a class of the list -/
theorem hit {L : List (Str × TS)} {N : List Str} {x : Str} {ts : TS} {d : Option Addr} (X : Exm G N) (i : Nat) (h : L[i]? = some (x, ts)) (hN : L.map Prod.fst = N) (k : ts D σ H) :
    wMany G.K (fun _ _ _ _ => False) D (L.map fun p => (Value.ref (G.ad p.1), fun _ _ _ => p.2)) (.ref (G.ad x)) d σ H :=
  wMany_hit L i h (fun j y _ e => X i j x y (by rw [← hN, List.getElem?_map, h]; rfl) (by rw [← hN]; exact e)) k
end
section
variable {P : Program} {w : World} {K : PySem.W.Frag} {mg : Str → Option Value} {base : Heap}
theorem Df.ofX {x : Str} {st : Stmt} {N ps : List Str} {k : Nat} {sp : Sp} (F : FnIs K mg x st ps) (S : FnScope N ps (defScope st)) (len : ∀ vs H Q E, sp vs H Q E → vs.length = ps.length)
    (hbody : ∀ (f : Addr) (cdv : Value) (A : Around) (outer : List Env) (s : Shared) (H : Hp) (vs : List V) (Q : VK) (E : XK), Room k (A.deeper (PyProof.Rows.envOfC x (defScope st) s.heap.objs.size f cdv)) → sp vs H Q E →
      ∃ t, PSs (cxOf (L2.CX P w) P w K mg base N x (defScope st) f cdv A outer s H E) (defBody st) t ∧ t ⟨fun _ H' => Q .non H', Q, fun _ _ => False, fun _ _ => False⟩ (start N vs) H) : Df P w K mg base (L2.CX P w) x (k + 1) ps sp := by
  obtain ⟨f, fd, hm, hf, hb⟩ := F
  exact ⟨f, fd, hm, hf.kp, hb, hf.okX S len fun cdv A outer s H vs Q E hr h => hbody f cdv A outer s H vs Q E hr h⟩
end
section
variable {X : Cx} {CX : CXT} {j k : Nat} {ps : List Str} {sp : Sp} {E : St → XK} {x : Str} {p pos : Pos} {e : Expr} {es : List Expr} {t : TA}
theorem pe_dfS (D : Df X.prog X.w X.K X.mg X.base CX x k ps sp) (hr : Room j X.A) (hk : k ≤ j) (hx : ∀ σ, PassesAt CX X σ (E σ)) (ha : PA X (e :: es) t) (hg : Gl X x := by rfl) (hdb : (x == ("__debug__" : Str)) = false := by decide)
    (he : starEach (e :: es) X.env = (false, eval e X.env) :: starEach es X.env := by rfl) (hpl : (backTo pos (starEach es X.env)).any (·.1) = false := by rfl) : PE X (.Call (.Name x p) (e :: es) [] pos) (tCallS sp E t) := by
  obtain ⟨f, fd, hm, hkp, hb, ok⟩ := D
  exact pe_callS (ok.mono hk) (hr) hg hm hkp hb hx ha hdb he hpl
end
local macro_rules | `(tactic| walk_at "ne") => `(tactic| first
  | ((with_reducible refine ne_rd (H := ?Hb) (u := ?ub) ?h1 ?h0); (case h0 => with_reducible assumption); (case h1 => walk_at "rdx"))
  | ((with_reducible refine ne_rd' (H := ?Hb) (u := ?ub) ?h1 ?h0); (case h0 => with_reducible assumption); (case h1 => walk_at "rdx")))
local macro_rules | `(tactic| walk_at "rd1") => `(tactic| first
  | with_reducible assumption
  | ((with_reducible refine rdb_new ?hn ?_); (case hn => with_reducible assumption))
  | ((with_reducible refine rdb_ne ?hn ?_); (case hn => walk_at "ne"))
  | ((with_reducible refine rdb_same (H := ?Hb) ?hn ?_); (case hn => with_reducible assumption)))
local macro_rules | `(tactic| walk_at "rdx") => `(tactic| ((repeat walk_at "rd1"); done))
local macro_rules | `(tactic| walk_at "rd") => `(tactic| first
  | ((with_reducible refine rd_in ?hi); (case hi => walk_at "hp"))
  | walk_at "rdx"
  | ((with_reducible refine rd_frz (ob := ?ob) ?hi); (case hi => walk_at "hp")))
local macro_rules | `(tactic| walk_at "mem") => `(tactic| with_reducible assumption)
local macro_rules | `(tactic| walk_at "st") => `(tactic| first
  | with_reducible refine r_dgetS ?_
  | with_reducible refine r_dinS ?_
  | with_reducible refine r_dnotinS ?_
  | with_reducible refine r_dputS ?_
  | with_reducible refine r_bm0 ?_
  | ((with_reducible refine r_dget (S := ?S) (f := ?f) ?hd ?hm ?_); (case hd => walk_at "rd"); (case hm => walk_at "mem"))
  | ((with_reducible refine r_din (S := ?S) (f := ?f) ?hd ?_); (case hd => walk_at "rd"))
  | ((with_reducible refine r_dnotin (S := ?S) (f := ?f) ?hd ?_); (case hd => walk_at "rd"))
  | ((with_reducible refine r_lenD (S := ?S) (f := ?f) ?hd ?_); (case hd => walk_at "rd"))
  | ((with_reducible refine r_listD (S := ?S) (f := ?f) ?hd ?_); (case hd => walk_at "rd"))
  | ((with_reducible refine r_dictD (S := ?S) (f := ?f) ?hd ?_); (case hd => walk_at "rd"))
  | ((with_reducible refine r_dputW (S := ?S) (w := ?w) ?hd ?hl ?_); (case hd => walk_at "hp"); (case hl => walk_at "sz"))
  | ((with_reducible refine isi_dictR (S := ?S) (f := ?f) ?hd ?_); (case hd => walk_at "hp")))
/-! Wb: the makers of webs. -/
/-! ### other -/
def sp_l_other (G : Gx) : Sp := fun vs H Q _ => ∃ e : Int, vs = [.int e] ∧ Q (.int (ot e)) H
theorem len_l_other {G : Gx} : ∀ vs H Q E, sp_l_other G vs H Q E → vs.length = 1 := by rintro vs H Q E ⟨e, rfl, _⟩; rfl
/-! _law_other: slots _law_end -/
def t_l_other (G : Gx) : TS :=
  (tSeq (tIfS (tTest (tOp rEq (tOp rModI (tVar 0) (tC (.int 2))) (tC (.int 0)))) (tRet (tOp rAddI (tVar 0) (tC (.int 1)))) tNext)
  (tRet (tOp rSubI (tVar 0) (tC (.int 1)))))
theorem pure_l_other {G : Gx} {vs : List V} {H : Hp} {Q : VK} {E : XK} (h : sp_l_other G vs H Q E) : Body (t_l_other G) ["_law_end"] vs H Q := by
  obtain ⟨e, rfl, k⟩ := h
  show t_l_other G _ [some (.int e)] H
  unfold t_l_other
  unfold ot at k
  walk_at "go"
  refine iteI (fun h => ?_) (fun h => ?_)
  · walk_at "go"
    rw [if_pos h] at k
    exact k
  · walk_at "go"
    rw [if_neg h] at k
    exact k
theorem c_other {G : Gx} {e : Int} {H : Hp} {Q : VK} {E : XK} (h : Q (.int (ot e)) H) : sp_l_other G [.int e] H Q E := ⟨e, rfl, h⟩
/-! ### seat -/
def sp_l_seat (G : Gx) : Sp := fun vs H Q _ => ∃ (d t : Addr) (S : List Int) (w : Int → Int) (x y z : Int), vs = [.ref d, .ref t] ∧ H d = some (dW S w) ∧ SqT G.K H t [.int x, .int y, .int z] ∧ S.length ≤ 100000 ∧ Q .non (upd H d (dW (putS3 S x y z) (seatF w x y z)))
def sp_p_seat (G : Gx) : Sp := sp_l_seat G
theorem len_l_seat {G : Gx} : ∀ vs H Q E, sp_l_seat G vs H Q E → vs.length = 2 := by rintro vs H Q E ⟨d, t, S, w, x, y, z, rfl, _⟩; rfl
theorem len_p_seat {G : Gx} : ∀ vs H Q E, sp_p_seat G vs H Q E → vs.length = 2 := len_l_seat
/-! seat: slots web, ends -/
def t_p_seat (G : Gx) : TS :=
  (tSeq (sDPut (tVar 0) (tOp (rIxT G.K) (tVar 1) (tC (.int 0))) (tOp (rIxT G.K) (tVar 1) (tC (.int 1))))
  (tSeq (sDPut (tVar 0) (tOp (rIxT G.K) (tVar 1) (tC (.int 1))) (tOp (rIxT G.K) (tVar 1) (tC (.int 2))))
  (sDPut (tVar 0) (tOp (rIxT G.K) (tVar 1) (tC (.int 2))) (tOp (rIxT G.K) (tVar 1) (tC (.int 0))))))
theorem mut_tup {K : PySem.W.Frag} {H : Hp} {d t : Addr} {u v : HO} {xs : List V} (hd : H d = some u) (hm : Mut (some u)) (h : SqT K H t xs) : SqT K (upd H d v) t xs := keepT_mut hd hm keepT_refl h
theorem pure_p_seat {G : Gx} {vs : List V} {H : Hp} {Q : VK} {E : XK} (h : sp_p_seat G vs H Q E) : Body (t_p_seat G) ["web", "ends"] vs H Q := by
  obtain ⟨d, t, S, w, x, y, z, rfl, hd, ht, hl, k⟩ := h
  show t_p_seat G _ [some (.ref d), some (.ref t)] H
  unfold t_p_seat
  have l1 := len_putS (S := S) (k := x)
  have l2 := len_putS (S := putS S x) (k := y)
  have h1 : SqT G.K (upd H d (dW (putS S x) (fset w x y))) t [.int x, .int y, .int z] := mut_tup hd trivial ht
  have h2 : SqT G.K (upd (upd H d (dW (putS S x) (fset w x y))) d (dW (putS (putS S x) y) (fset (fset w x y) y z))) t [.int x, .int y, .int z] := mut_tup upd_same trivial h1
  walk_at "go"
  rw [upd_upd, upd_upd]
  exact k
/-! _law_seat: slots _law_web_here, _law_ends, _law_k -/
def t_l_seat (G : Gx) : TS :=
  (tFor (iRng1 (tCons (tC (.int 3)) tNil)) (gName 2)
  (sDPut (tVar 0) (tOp (rIxT G.K) (tVar 1) (tVar 2)) (tOp (rIxT G.K) (tVar 1) (tOp rModI (tOp rAddI (tVar 2) (tC (.int 1))) (tC (.int 3))))))
theorem pure_l_seat {G : Gx} {vs : List V} {H : Hp} {Q : VK} {E : XK} (h : sp_l_seat G vs H Q E) : Body (t_l_seat G) ["_law_web", "_law_ends", "_law_k"] vs H Q := by
  obtain ⟨d, t, S, w, x, y, z, rfl, hd, ht, hl, k⟩ := h
  show t_l_seat G _ [some (.ref d), some (.ref t), none] H
  unfold t_l_seat
  have l1 := len_putS (S := S) (k := x)
  have l2 := len_putS (S := putS S x) (k := y)
  walk_at "go"
  refine r_rng (by decide) (by decide) ?_
  refine r_it walk_range (fun i σ H' => (∃ o, σ = [some (.ref d), some (.ref t), o]) ∧ (i = 0 ∧ H' = H ∨ i = 1 ∧ H' = upd H d (dW (putS S x) (fset w x y)) ∨ i = 2 ∧ H' = upd H d (dW (putS (putS S x) y) (fset (fset w x y) y z)) ∨ i = 3 ∧ H' = upd H d (dW (putS3 S x y z) (seatF w x y z))))
    ⟨⟨_, rfl⟩, .inl ⟨rfl, rfl⟩⟩ (fun _ _ _ _ _ => trivial) (fun i v σ H1 H2 hi ⟨⟨o, es⟩, q⟩ ⟨e2, e3⟩ => ?_) (fun σ H1 ⟨_, q⟩ => ?_)
  · subst es e2 e3
    have ht' : ∀ u, SqT G.K (upd H d u) t [.int x, .int y, .int z] := fun u => mut_tup hd trivial ht
    rcases q with ⟨rfl, rfl⟩ | ⟨rfl, rfl⟩ | ⟨rfl, rfl⟩ | ⟨rfl, _⟩
    · walk_at "go"
      exact ⟨⟨_, rfl⟩, .inr (.inl ⟨rfl, rfl⟩)⟩
    · have h1 := ht' (dW (putS S x) (fset w x y))
      walk_at "go"
      rw [upd_upd]
      exact ⟨⟨_, rfl⟩, .inr (.inr (.inl ⟨rfl, rfl⟩))⟩
    · have h1 := ht' (dW (putS (putS S x) y) (fset (fset w x y) y z))
      walk_at "go"
      rw [upd_upd]
      exact ⟨⟨_, rfl⟩, .inr (.inr (.inr ⟨rfl, rfl⟩))⟩
    · exact absurd hi (by decide)
  · rcases q with ⟨z, _⟩ | ⟨z, _⟩ | ⟨z, _⟩ | ⟨_, rfl⟩
    · exact absurd z (by decide)
    · exact absurd z (by decide)
    · exact absurd z (by decide)
    · exact k
/-! ### combs -/
theorem prd_mod {c b : Int} (h0 : 0 ≤ b) (h1 : b < c) : (b - 1) % c = prd c b := by
  unfold prd
  split
  · rename_i e
    rw [e, show (0 : Int) - 1 = (c - 1) + c * (-1) by omega, Int.add_mul_emod_self_left, Int.emod_eq_of_lt (by omega) (by omega)]
  · exact Int.emod_eq_of_lt (by omega) (by omega)
theorem prd_mod' {c b : Int} (h0 : 0 ≤ b) (h1 : b < c) : (b + c - 1) % c = prd c b := by
  rw [← prd_mod h0 h1, show b + c - 1 = (b - 1) + c * 1 by omega, Int.add_mul_emod_self_left]
/-! comb_corners: slots row, col, rows, cols, own, left, above -/
def sp_p_comb (G : Gx) : Sp := fun vs H Q _ => ∃ (r c : Int), vs = [.int r, .int c] ∧ 0 < r ∧ r ≤ 1000 ∧ 0 < c ∧ c ≤ 1000 ∧ r * c ≤ 1000 ∧ ∀ p H', Same H H' → Free H p → H' p = some (dW (cS r c) (cN r c)) → Q (.ref p) H'
def sp_l_comb (G : Gx) : Sp := sp_p_comb G
theorem len_p_comb {G : Gx} : ∀ vs H Q E, sp_p_comb G vs H Q E → vs.length = 2 := by rintro vs H Q E ⟨r, c, rfl, _⟩; rfl
theorem len_l_comb {G : Gx} : ∀ vs H Q E, sp_l_comb G vs H Q E → vs.length = 2 := len_p_comb
/-! comb: slots rows, cols, web, row, col, ends -/
theorem comb_size {lf ab : Int → Int} {m : Nat} (h : m ≤ 1000) : (combD lf ab m).1.length ≤ 6000 := by
  have := comb_le (lf := lf) (ab := ab) m
  omega
abbrev cL (r c : Int) (m : Nat) : HO := dW (combD (lfO c) (abO r c) m).1 (combD (lfO c) (abO r c) m).2
/-! _law_comb: slots _law_rows, _law_cols, _law_web_here, _law_k, _law_row, _law_col, _law_left, _law_above -/
def t_l_comb (G : Gx) : TS :=
  (tSeq (tAsg tDNewK (gName 2))
  (tSeq (tFor (iRng1 (tCons (tOp rMulI (tVar 0) (tVar 1)) tNil)) (gName 3)
  (tSeq (tPar 4 5 (tCons (tOp rDivW (tVar 3) (tVar 1)) (tCons (tOp rModI (tVar 3) (tVar 1)) tNil)))
  (tSeq (tAsg (tOp rAddI (tOp rMulI (tVar 4) (tVar 1)) (tOp rModI (tOp rSubI (tOp rAddI (tVar 5) (tVar 1)) (tC (.int 1))) (tVar 1))) (gName 6))
  (tSeq (tAsg (tOp rAddI (tOp rMulI (tOp rModI (tOp rSubI (tOp rAddI (tVar 4) (tVar 0)) (tC (.int 1))) (tVar 0)) (tVar 1)) (tVar 5)) (gName 7))
  (tSeq (tDrop (tCall (sp_l_seat G) [] E0 (tCons (tVar 2) (tCons (tTup (tCons (tOp rMulI (tC (.int 6)) (tVar 3)) (tCons (tOp rAddI (tOp rMulI (tC (.int 6)) (tVar 3)) (tC (.int 2))) (tCons (tOp rAddI (tOp rMulI (tC (.int 6)) (tVar 3)) (tC (.int 4))) tNil)))) tNil))))
  (tDrop (tCall (sp_l_seat G) [] E0 (tCons (tVar 2) (tCons (tTup (tCons (tOp rAddI (tOp rMulI (tC (.int 6)) (tVar 3)) (tC (.int 1))) (tCons (tOp rAddI (tOp rMulI (tC (.int 6)) (tVar 6)) (tC (.int 3))) (tCons (tOp rAddI (tOp rMulI (tC (.int 6)) (tVar 7)) (tC (.int 5))) tNil)))) tNil)))))))))
  (tRet (tVar 2))))
theorem pure_l_comb {G : Gx} {vs : List V} {H : Hp} {Q : VK} {E : XK} (h : sp_l_comb G vs H Q E) : Body (t_l_comb G) ["_law_rows", "_law_cols", "_law_web", "_law_k", "_law_row", "_law_col", "_law_left", "_law_above"] vs H Q := by
  obtain ⟨r, c, rfl, r0, r1, c0, c1, rc1, k⟩ := h
  show t_l_comb G _ [some (.int r), some (.int c), none, none, none, none, none, none] H
  unfold t_l_comb
  have hM : ((r * c).toNat : Int) = r * c := Int.toNat_of_nonneg (Int.le_of_lt (Int.mul_pos r0 c0))
  walk_at "go"
  refine r_dnew (f := fun _ => .int 0) fun p hp => ?_
  walk_at "go"
  refine r_rng (by omega) (by omega) ?_
  refine r_it walk_range (fun i σ H' => (∃ o1 o2 o3 o4 o5, σ = [some (.int r), some (.int c), some (.ref p), o1, o2, o3, o4, o5]) ∧ Same H H' ∧ H' p = some (cL r c i))
    ⟨⟨_, _, _, _, _, rfl⟩, by walk_at "sm", upd_same⟩ (fun _ _ _ _ _ => trivial) (fun i v σ H1 H2 hi ⟨⟨o1, o2, o3, o4, o5, es⟩, s1, e1⟩ ⟨q2, q3⟩ => ?_) (fun σ H1 ⟨⟨o1, o2, o3, o4, o5, es⟩, s1, e1⟩ => ?_)
  · subst es q2 q3
    obtain ⟨⟨a0, a1⟩, ⟨b0, b1⟩, eab⟩ := rc (r := r) (k := (i : Int)) c0 (by omega) (by omega)
    have pa := prd_b a0 a1
    have pb := prd_b b0 b1
    dsimp only
    rw [Int.zero_add]
    walk_at "go"
    refine r_I (divW_le 1000 c0 (by omega) (by decide)) ?_
    walk_at "go"
    rw [prd_mod' b0 b1, prd_mod' a0 a1]
    have el : (i : Int) / c * c + prd c ((i : Int) % c) = lfO c i := rfl
    have ea : prd r ((i : Int) / c) * c + (i : Int) % c = abO r c i := rfl
    rw [el, ea]
    have hz := comb_size (lf := lfO c) (ab := abO r c) (m := i) (by omega)
    have hz3 := len_putS3 (S := (combD (lfO c) (abO r c) i).1) (x := 6 * (i : Int)) (y := 6 * (i : Int) + 2) (z := 6 * (i : Int) + 4)
    refine ⟨by walk_at "sz", fun t1 h1 => ?_⟩
    walk_at "go"
    refine ⟨p, t1, _, _, _, _, _, rfl, by walk_at "hp", SqT.of upd_same, by omega, ?_⟩
    have s2 := same_mut (o := dW (putS3 (combD (lfO c) (abO r c) i).1 (6 * (i : Int)) (6 * (i : Int) + 2) (6 * (i : Int) + 4)) (seatF (combD (lfO c) (abO r c) i).2 (6 * (i : Int)) (6 * (i : Int) + 2) (6 * (i : Int) + 4))) (same_new (o := .tup [.int (6 * (i : Int)), .int (6 * (i : Int) + 2), .int (6 * (i : Int) + 4)]) s1 h1) hp
    walk_at "go"
    refine ⟨by walk_at "sz", fun t2 h2 => ?_⟩
    walk_at "go"
    refine ⟨p, t2, _, _, _, _, _, rfl, at_new upd_same h2, SqT.of upd_same, by omega, ?_⟩
    exact ⟨⟨_, _, _, _, _, rfl⟩, same_mut (same_new s2 h2) hp, upd_same⟩
  · subst es
    walk_at "go"
    refine k p H1 s1 hp e1
local macro_rules | `(tactic| walk_at "st") => `(tactic| first
  | with_reducible refine c_other ?_)
/-! Wf: rims, floods, faults of webs. -/
/-! ### rim -/
def sp_l_rim (G : Gx) : Sp := fun vs H Q _ => ∃ (d : Addr) (S : List Int) (nx : Int → Int) (e : Int), vs = [.ref d, .int e] ∧ Rd H d (dW S nx) ∧ Map S ot nx ∧ e ∈ S ∧ S.length ≤ 100000 ∧
  ∀ (n : Nat) p H', Per (face ot nx) e n → Same H H' → Free H p → H' p = some (.lst ((rimO (face ot nx) e n).map V.int)) → Q (.ref p) H'
theorem len_l_rim {G : Gx} : ∀ vs H Q E, sp_l_rim G vs H Q E → vs.length = 2 := by rintro vs H Q E ⟨d, S, nx, e, rfl, _⟩; rfl
/-! _law_rim: slots _law_web_here, _law_end, _law_found, _law_k, _law_at -/
def t_l_rim (G : Gx) : TS :=
  (tSeq (tAsg (tLst (tCons (tVar 1) tNil)) (gName 2))
  (tSeq (tFor (iRng1 (tCons (tCB rLenD (tCons (tVar 0) tNil)) tNil)) (gName 3)
  (tSeq (tAsg (tDGet (tVar 0) (tCall (sp_l_other G) [] E0 (tCons (tOp (rIxL G.K) (tVar 2) (tUn rNegI (tC (.int 1)))) tNil))) (gName 4))
  (tSeq (tIfS (tTest (tOp rEq (tVar 4) (tVar 1))) (tRet (tVar 2)) tNext)
  (tDrop (tBM G.K "list" rAppend (tVar 2) (tCons (tVar 4) tNil))))))
  (tRet (tVar 2))))
theorem pure_l_rim {G : Gx} {vs : List V} {H : Hp} {Q : VK} {E : XK} (h : sp_l_rim G vs H Q E) : Body (t_l_rim G) ["_law_web", "_law_end", "_law_found", "_law_k", "_law_at"] vs H Q := by
  obtain ⟨d, S, nx, e, rfl, hd, M, he, hl, k⟩ := h
  show t_l_rim G _ [some (.ref d), some (.int e), none, none, none] H
  unfold t_l_rim
  obtain ⟨n, hn, P⟩ := per_ex M.perm he
  walk_at "go"
  refine ⟨by walk_at "sz", fun p hp => ?_⟩
  walk_at "go"
  refine r_rng (by omega) (by omega) ?_
  refine r_it walk_range (fun i σ H' => (∃ o1 o2, σ = [some (.ref d), some (.int e), some (.ref p), o1, o2]) ∧ Same H H' ∧ H' p = some (.lst ((rimO (face ot nx) e (i + 1)).map V.int)) ∧ i < n)
    ⟨⟨_, _, rfl⟩, by walk_at "sm", upd_same, P.pos⟩ (fun _ _ _ _ _ => trivial) (fun i v σ H1 H2 hi ⟨⟨o1, o2, es⟩, s1, e1, hin⟩ ⟨q2, q3⟩ => ?_) (fun σ H1 ⟨⟨o1, o2, es⟩, s1, e1, hin⟩ => ?_)
  · subst es q2 q3
    have hm := iter_mem M.perm he i
    have hm' := M.ca _ hm
    walk_at "go"
    refine r_ixL (v := .int (iter (face ot nx) i e)) (SqL.of e1) (by rw [rimO_succ, List.map_append]; exact atI_last _ _) ?_
    walk_at "go"
    refine iteI (fun h => ?_) (fun h => ?_)
    · walk_at "go"
      have en : n = i + 1 := by
        rcases Nat.lt_or_ge (i + 1) n with q | q
        · exact absurd (show iter (face ot nx) (i + 1) e = e from h) (P.first (i + 1) (Nat.succ_pos _) q)
        · omega
      rw [← en] at e1
      exact k n p _ P s1 hp e1
    · walk_at "go"
      refine r_app (xs := (rimO (face ot nx) e (i + 1)).map V.int) e1 (by rw [List.length_map, rimO_len]; exact size1000l (by omega)) ?_
      refine ⟨⟨_, _, rfl⟩, same_mut s1 hp, ?_, ?_⟩
      · rw [rimO_succ (n := i + 1), List.map_append]
        exact upd_same
      · rcases Nat.lt_or_ge (i + 1) n with q | q
        · exact q
        · exact absurd (show iter (face ot nx) (i + 1) e = e by rw [show i + 1 = n by omega]; exact P.ret) h
  · exact absurd hin (by show ¬ S.length < n; omega)
/-! ### is_web -/
def sp_l_is_web (G : Gx) : Sp := fun vs H Q _ => ∃ (f d : Addr) (S S' : List Int) (nx nx' : Int → Int), vs = [.ref f, .ref d] ∧ H f = some (dW S' nx') ∧ H d = some (dW S nx) ∧ f ≠ d ∧ S'.length = S.length ∧ S.length ≤ 100000 ∧ (∀ x ∈ S, x ∈ S' ∧ nx' x = nx x) ∧
  ∀ H', Same H H' → Q (.bl true) H'
theorem len_l_is_web {G : Gx} : ∀ vs H Q E, sp_l_is_web G vs H Q E → vs.length = 2 := by rintro vs H Q E ⟨f, d, S, S', nx, nx', rfl, _⟩; rfl
/-! _law_is_web: slots _law_found, _law_due, _law_end -/
def t_l_is_web (G : Gx) : TS :=
  (tSeq (tIfS (tOr (tNot (tB (tCB (rIsi G.K) (tCons (tVar 0) (tCons (tC (.ty "dict")) tNil))))) (tTest (tOp rNe (tCB rLenD (tCons (tVar 0) tNil)) (tCB rLenD (tCons (tVar 1) tNil))))) (tRet (tC (.bl false))) tNext)
  (tSeq (tLock (tFor (iKeys (tVar 1)) (gName 2)
  (tIfS (tOr (tB (tDNotIn (tVar 2) (tVar 0))) (tOr (tNot (tB (tCall (sp_l_whole G) [] E0 (tCons (tDGet (tVar 0) (tVar 2)) tNil)))) (tTest (tOp rNe (tDGet (tVar 0) (tVar 2)) (tDGet (tVar 1) (tVar 2)))))) (tRet (tC (.bl false))) tNext)))
  (tRet (tCB (rAll G.K) (tCons (tLockE (tLc (iKeys (tVar 0)) (gName 2) tYes (tCall (sp_l_whole G) [] E0 (tCons (tVar 2) tNil)) [2])) tNil)))))
theorem all_true {α : Type} (l : List α) : (l.map fun _ => true).all id = true := by
  induction l with
  | nil => rfl
  | cons x r ih => rw [List.map_cons, List.all_cons, ih]; rfl
theorem pure_l_is_web {G : Gx} {vs : List V} {H : Hp} {Q : VK} {E : XK} (h : sp_l_is_web G vs H Q E) : Body (t_l_is_web G) ["_law_found", "_law_due", "_law_end"] vs H Q := by
  obtain ⟨f, d, S, S', nx, nx', rfl, hf, hd, hne, hl, hz, hv, k⟩ := h
  show t_l_is_web G _ [some (.ref f), some (.ref d), none] H
  unfold t_l_is_web
  walk_at "go"
  refine iteNI (fun h => absurd (congrArg Int.ofNat hl) h) (fun _ => ?_)
  walk_at "go"
  refine r_forD hd (fun _ _ q => ⟨_, rfl, q⟩) fun od => ⟨fun j σ H' => (∃ o, σ = [some (.ref f), some (.ref d), o]) ∧ H' = upd H d (.frz od (dW S nx)), ⟨⟨_, rfl⟩, rfl⟩, ?_, ?_, ?_⟩
  · rintro j σ H' _ ⟨_, rfl⟩
    exact upd_same
  · rintro j x σ H' hj ⟨⟨o, rfl⟩, rfl⟩
    have hx : x ∈ S := List.mem_of_getElem? hj
    obtain ⟨m1, v1⟩ := hv x hx
    have e1 : upd H d (.frz od (dW S nx)) f = some (dW S' nx') := at_ne hf hne
    have r1 : Rd (upd H d (.frz od (dW S nx))) d (dW S nx) := rd_frz upd_same
    walk_at "go"
    rw [decide_eq_true m1]
    walk_at "go"
    refine iteNI (fun h => absurd v1 h) (fun _ => ?_)
    walk_at "go"
    exact ⟨⟨_, rfl⟩, rfl⟩
  · rintro σ H' ⟨⟨o, rfl⟩, rfl⟩
    rw [upd_upd, upd_id hd]
    walk_at "go"
    refine r_lcD (e := fun _ => .bl true) hf (fun _ _ q => ⟨_, rfl, q⟩) (size1000l (by omega)) (fun x hx H' Q q => ?_) (fun D hD => ?_)
    · walk_at "go"
      exact q
    · walk_at "go"
      refine r_all (bs := S'.map fun _ => true) (by rw [List.map_map]; exact SqL.of upd_same) ?_
      rw [all_true]
      exact k _ (by walk_at "sm")
/-! ### flood -/
/-! _law_flood: slots _law_found, _law_begin, _law_seen, _law_row, _law_at, _law_goal -/
structure Fl (S : List Int) (nx : Int → Int) (b : Int) (T R : List Int) : Prop where
  sub : ∀ x ∈ T, x ∈ S
  nd : T.Nodup
  beg : b ∈ T
  row : ∀ x ∈ R, x ∈ T
  rle : R.length ≤ T.length
  cl : ∀ x ∈ T, x ∈ R ∨ (nx x ∈ T ∧ ot x ∈ T)
theorem Fl.le {S : List Int} {nx : Int → Int} {b : Int} {T R : List Int} (F : Fl S nx b T R) : T.length ≤ S.length := sub_len F.nd F.sub
/-! ### count_rims -/
/-! _law_count_rims: slots _law_found, _law_passed, _law_many, _law_end, _law_at -/
/-! ### fault -/
/-! _law_fault: slots _law_found, _law_ends, _law_lone, _law_astray, _law_odd, _law_seen, _law_apart, _law_many, _law_end -/
/-! Wg: what the laws do to webs. -/
/-! ### corner, loop -/
def sp_l_corner (G : Gx) : Sp := fun vs H Q _ => ∃ (d : Addr) (S : List Int) (nx : Int → Int) (e : Int), vs = [.ref d, .int e] ∧ Rd H d (dW S nx) ∧ e ∈ S ∧ nx e ∈ S ∧ ∀ t, Free H t → Q (.ref t) (upd H t (.tup [.int e, .int (nx e), .int (nx (nx e))]))
theorem len_l_corner {G : Gx} : ∀ vs H Q E, sp_l_corner G vs H Q E → vs.length = 2 := by rintro vs H Q E ⟨d, S, nx, e, rfl, _⟩; rfl
/-! _law_corner: slots _law_web_here, _law_end -/
def t_l_corner (G : Gx) : TS :=
  (tRet (tTup (tCons (tVar 1) (tCons (tDGet (tVar 0) (tVar 1)) (tCons (tDGet (tVar 0) (tDGet (tVar 0) (tVar 1))) tNil)))))
theorem pure_l_corner {G : Gx} {vs : List V} {H : Hp} {Q : VK} {E : XK} (h : sp_l_corner G vs H Q E) : Body (t_l_corner G) ["_law_web_here", "_law_end"] vs H Q := by
  obtain ⟨d, S, nx, e, rfl, hd, he, hn, k⟩ := h
  show t_l_corner G _ [some (.ref d), some (.int e)] H
  unfold t_l_corner
  walk_at "go"
  exact ⟨by walk_at "sz", k⟩
def sp_l_loop (G : Gx) : Sp := fun vs H Q _ => ∃ (d : Addr) (S : List Int) (nx : Int → Int) (f : Int), vs = [.ref d, .int f] ∧ Rd H d (dW S nx) ∧ 2 * f ∈ S ∧ nx (2 * f) ∈ S ∧ ∀ (b : Bool) H', (b = true ↔ nx (2 * f) = ot (2 * f) ∨ nx (nx (2 * f)) = ot (2 * f)) → Same H H' → Q (.bl b) H'
theorem len_l_loop {G : Gx} : ∀ vs H Q E, sp_l_loop G vs H Q E → vs.length = 2 := by rintro vs H Q E ⟨d, S, nx, e, rfl, _⟩; rfl
/-! _law_loop: slots _law_web_here, _law_film -/
def t_l_loop (G : Gx) : TS :=
  (tRet (tOp (rIn G.K false) (tOp rAddI (tOp rMulI (tC (.int 2)) (tVar 1)) (tC (.int 1))) (tCall (sp_l_corner G) [] E0 (tCons (tVar 0) (tCons (tOp rMulI (tC (.int 2)) (tVar 1)) tNil)))))
theorem inV3 (k x y z : Int) : inV (.int k) [.int x, .int y, .int z] = true ↔ (x = k ∨ y = k ∨ z = k) := by
  rw [show [V.int x, V.int y, V.int z] = [x, y, z].map V.int from rfl, inV_ints]
  simp
theorem pure_l_loop {G : Gx} {vs : List V} {H : Hp} {Q : VK} {E : XK} (h : sp_l_loop G vs H Q E) : Body (t_l_loop G) ["_law_web_here", "_law_film"] vs H Q := by
  obtain ⟨d, S, nx, f, rfl, hd, he, hn, k⟩ := h
  show t_l_loop G _ [some (.ref d), some (.int f)] H
  unfold t_l_loop
  walk_at "go"
  refine ⟨d, S, nx, 2 * f, rfl, hd, he, hn, fun t ht => ?_⟩
  walk_at "go"
  refine k _ _ ?_ (by walk_at "sm")
  rw [if_neg Bool.false_ne_true, inV3, ot_even]
  constructor
  · rintro (h | h | h)
    · omega
    · exact .inl h
    · exact .inr h
  · rintro (h | h)
    · exact .inr (.inl h)
    · exact .inr (.inr h)
/-! ### push -/
def pushB (nx : Int → Int) (e : Int) (b : Bool) : Int → Int := if b = true then pullF nx e else pushF nx e
def sp_l_push (G : Gx) : Sp := fun vs H Q _ => ∃ (d : Addr) (S : List Int) (nx : Int → Int) (f : Int) (b : Bool), vs = [.ref d, .int f, .bl b] ∧ Rd H d (dW S nx) ∧ Map S ot nx ∧ 2 * f ∈ S ∧ S.length ≤ 90000 ∧ ∀ p H', Same H H' → Free H p → H' p = some (dW S (pushB nx (2 * f) b)) → Q (.ref p) H'
theorem len_l_push {G : Gx} : ∀ vs H Q E, sp_l_push G vs H Q E → vs.length = 3 := by rintro vs H Q E ⟨d, S, nx, f, b, rfl, _⟩; rfl
/-! _law_push: slots _law_web_here, _law_film, _law_back, _law_e, _law_a, _law_b, _law_o, _law_c, _law_d, _law_made -/
def t_l_push (G : Gx) : TS :=
  (tSeq (tAsg (tCall (sp_l_corner G) [] E0 (tCons (tVar 0) (tCons (tOp rMulI (tC (.int 2)) (tVar 1)) tNil))) (gTup G.K 3 (gCons (gName 3) (gCons (gName 4) (gCons (gName 5) gNil)))))
  (tSeq (tAsg (tCall (sp_l_corner G) [] E0 (tCons (tVar 0) (tCons (tOp rAddI (tOp rMulI (tC (.int 2)) (tVar 1)) (tC (.int 1))) tNil))) (gTup G.K 3 (gCons (gName 6) (gCons (gName 7) (gCons (gName 8) gNil)))))
  (tSeq (tAsg (tCB rDictRd (tCons (tVar 0) tNil)) (gName 9))
  (tSeq (tIfS (tB (tVar 2)) (tSeq (tDrop (tCall (sp_l_seat G) [] E0 (tCons (tVar 9) (tCons (tTup (tCons (tVar 3) (tCons (tVar 8) (tCons (tVar 4) tNil)))) tNil))))
  (tDrop (tCall (sp_l_seat G) [] E0 (tCons (tVar 9) (tCons (tTup (tCons (tVar 6) (tCons (tVar 5) (tCons (tVar 7) tNil)))) tNil))))) (tSeq (tDrop (tCall (sp_l_seat G) [] E0 (tCons (tVar 9) (tCons (tTup (tCons (tVar 3) (tCons (tVar 5) (tCons (tVar 7) tNil)))) tNil))))
  (tDrop (tCall (sp_l_seat G) [] E0 (tCons (tVar 9) (tCons (tTup (tCons (tVar 6) (tCons (tVar 8) (tCons (tVar 4) tNil)))) tNil))))))
  (tRet (tVar 9))))))
theorem putS3_in {S : List Int} {x y z : Int} (hx : x ∈ S) (hy : y ∈ S) (hz : z ∈ S) : putS3 S x y z = S := by
  unfold putS3
  rw [putS_in hx, putS_in hy, putS_in hz]
theorem pure_l_push {G : Gx} {vs : List V} {H : Hp} {Q : VK} {E : XK} (h : sp_l_push G vs H Q E) : Body (t_l_push G) ["_law_web_here", "_law_film", "_law_back", "_law_e", "_law_a", "_law_b", "_law_o", "_law_c", "_law_d", "_law_made"] vs H Q := by
  obtain ⟨d, S, nx, f, bk, rfl, hd, M, he, hl, k⟩ := h
  show t_l_push G _ [some (.ref d), some (.int f), some (.bl bk), none, none, none, none, none, none, none] H
  unfold t_l_push
  have ho : 2 * f + 1 ∈ S := by have := M.ca _ he; rwa [ot_even] at this
  have ha := M.cn _ he
  have hb := M.cn _ ha
  have hc := M.cn _ ho
  have hd' := M.cn _ hc
  walk_at "go"
  refine ⟨d, S, nx, 2 * f, rfl, hd, he, ha, fun t1 h1 => ?_⟩
  refine g_tup (SqT.of upd_same) rfl ?_
  walk_at "go"
  refine ⟨d, S, nx, 2 * f + 1, rfl, by walk_at "rd", ho, hc, fun t2 h2 => ?_⟩
  refine g_tup (SqT.of upd_same) rfl ?_
  walk_at "go"
  intro p hp
  walk_at "go"
  have s1 : Same H (upd (upd (upd H t1 (.tup [.int (2 * f), .int (nx (2 * f)), .int (nx (nx (2 * f)))])) t2 (.tup [.int (2 * f + 1), .int (nx (2 * f + 1)), .int (nx (nx (2 * f + 1)))])) p (dW S nx)) := by walk_at "sm"
  have e1 : (upd (upd (upd H t1 (.tup [.int (2 * f), .int (nx (2 * f)), .int (nx (nx (2 * f)))])) t2 (.tup [.int (2 * f + 1), .int (nx (2 * f + 1)), .int (nx (nx (2 * f + 1)))])) p (dW S nx)) p = some (dW S nx) := upd_same
  have hp0 : Free H p := by walk_at "fr"
  generalize upd (upd (upd H t1 (.tup [.int (2 * f), .int (nx (2 * f)), .int (nx (nx (2 * f)))])) t2 (.tup [.int (2 * f + 1), .int (nx (2 * f + 1)), .int (nx (nx (2 * f + 1)))])) p (dW S nx) = H1 at s1 e1 ⊢
  clear hp h1 h2
  have seat : ∀ (H1 : Hp) (w : Int → Int) (x y z : Int) (Q : VK) (u : Addr), Same H H1 → H1 p = some (dW S w) → x ∈ S → y ∈ S → z ∈ S → Free H1 u → (∀ H2, Same H H2 → H2 p = some (dW S (seatF w x y z)) → Q .non H2) → sp_l_seat G [.ref p, .ref u] (upd H1 u (.tup [.int x, .int y, .int z])) Q E0 := by
    intro H1 w x y z Q u s1 e1 hx hy hz hu k
    refine ⟨p, u, S, w, x, y, z, rfl, by walk_at "hp", SqT.of upd_same, by omega, ?_⟩
    rw [putS3_in hx hy hz]
    exact k _ (same_mut (same_new s1 hu) hp0) upd_same
  cases bk with
  | true =>
    walk_at "go"
    refine ⟨by walk_at "sz", fun u hu => ?_⟩
    walk_at "go"
    refine seat _ _ _ _ _ _ _ s1 e1 he hd' ha hu fun H2 s2 e2 => ?_
    walk_at "go"
    refine ⟨by walk_at "sz", fun u hu => ?_⟩
    walk_at "go"
    refine seat _ _ _ _ _ _ _ s2 e2 ho hb hc hu fun H3 s3 e3 => ?_
    walk_at "go"
    refine k p _ s3 hp0 ?_
    unfold pushB pullF
    rw [if_pos rfl, ot_even]
    exact e3
  | false =>
    walk_at "go"
    refine ⟨by walk_at "sz", fun u hu => ?_⟩
    walk_at "go"
    refine seat _ _ _ _ _ _ _ s1 e1 he hb hc hu fun H2 s2 e2 => ?_
    walk_at "go"
    refine ⟨by walk_at "sz", fun u hu => ?_⟩
    walk_at "go"
    refine seat _ _ _ _ _ _ _ s2 e2 ho hd' ha hu fun H3 s3 e3 => ?_
    walk_at "go"
    refine k p _ s3 hp0 ?_
    unfold pushB pushF
    rw [if_neg Bool.false_ne_true, ot_even]
    exact e3
/-! ### one_bubble -/
def sp_l_one_bubble (G : Gx) : Sp := fun vs H Q _ => ∃ (d : Addr) (S : List Int) (nx : Int → Int) (f : Int), vs = [.ref d, .int f] ∧ Rd H d (dW S nx) ∧ Map S ot nx ∧ 2 * f ∈ S ∧ S.length ≤ 100000 ∧ ∀ (b : Bool) H', (b = true ↔ Rim S nx (2 * f) (ot (2 * f))) → Same H H' → Q (.bl b) H'
theorem len_l_one_bubble {G : Gx} : ∀ vs H Q E, sp_l_one_bubble G vs H Q E → vs.length = 2 := by rintro vs H Q E ⟨d, S, nx, e, rfl, _⟩; rfl
/-! _law_one_bubble: slots _law_web_here, _law_film -/
def t_l_one_bubble (G : Gx) : TS :=
  (tRet (tOp (rIn G.K false) (tOp rAddI (tOp rMulI (tC (.int 2)) (tVar 1)) (tC (.int 1))) (tCall (sp_l_rim G) [] E0 (tCons (tVar 0) (tCons (tOp rMulI (tC (.int 2)) (tVar 1)) tNil)))))
theorem all_flat (l : List Int) : (l.map V.int).all flatV = true := by
  induction l with
  | nil => rfl
  | cons x r ih => rw [List.map_cons, List.all_cons, ih]; rfl
theorem inV_mem (k : Int) (l : List Int) : inV (.int k) (l.map V.int) = true ↔ k ∈ l := by
  rw [inV_ints]
  simp
theorem pure_l_one_bubble {G : Gx} {vs : List V} {H : Hp} {Q : VK} {E : XK} (h : sp_l_one_bubble G vs H Q E) : Body (t_l_one_bubble G) ["_law_web_here", "_law_film"] vs H Q := by
  obtain ⟨d, S, nx, f, rfl, hd, M, he, hl, k⟩ := h
  show t_l_one_bubble G _ [some (.ref d), some (.int f)] H
  unfold t_l_one_bubble
  walk_at "go"
  refine ⟨d, S, nx, 2 * f, rfl, hd, M, he, hl, fun n p H1 P s1 f1 e1 => ?_⟩
  walk_at "go"
  refine r_inL (SqL.of e1) rfl (all_flat _) ?_
  refine k _ _ ?_ s1
  rw [if_neg Bool.false_ne_true, inV_mem, rim_mem M.perm he P, ot_even]
/-! ### blow -/
def sp_l_blow (G : Gx) : Sp := fun vs H Q _ => ∃ (d : Addr) (S : List Int) (nx : Int → Int) (e f : Int), vs = [.ref d, .int e, .int f] ∧ Rd H d (dW S nx) ∧ Map S ot nx ∧ e ∈ S ∧ (∀ x ∈ S, x < 2 * f) ∧ S.length ≤ 90000 ∧ ∀ p H', Same H H' → Free H p → H' p = some (dW (blowS S (2 * f)) (blowF nx e (2 * f))) → Q (.ref p) H'
theorem len_l_blow {G : Gx} : ∀ vs H Q E, sp_l_blow G vs H Q E → vs.length = 3 := by rintro vs H Q E ⟨d, S, nx, e, f, rfl, _⟩; rfl
/-! _law_blow: slots _law_web_here, _law_end, _law_first, _law_e, _law_a, _law_b, _law_made, _law_new -/
def t_l_blow (G : Gx) : TS :=
  (tSeq (tAsg (tCall (sp_l_corner G) [] E0 (tCons (tVar 0) (tCons (tVar 1) tNil))) (gTup G.K 3 (gCons (gName 3) (gCons (gName 4) (gCons (gName 5) gNil)))))
  (tSeq (tAsg (tCB rDictRd (tCons (tVar 0) tNil)) (gName 6))
  (tSeq (tAsg (tOp rMulI (tC (.int 2)) (tVar 2)) (gName 7))
  (tSeq (tDrop (tCall (sp_l_seat G) [] E0 (tCons (tVar 6) (tCons (tTup (tCons (tVar 3) (tCons (tVar 7) (tCons (tOp rAddI (tVar 7) (tC (.int 5))) tNil)))) tNil))))
  (tSeq (tDrop (tCall (sp_l_seat G) [] E0 (tCons (tVar 6) (tCons (tTup (tCons (tVar 4) (tCons (tOp rAddI (tVar 7) (tC (.int 2))) (tCons (tOp rAddI (tVar 7) (tC (.int 1))) tNil)))) tNil))))
  (tSeq (tDrop (tCall (sp_l_seat G) [] E0 (tCons (tVar 6) (tCons (tTup (tCons (tVar 5) (tCons (tOp rAddI (tVar 7) (tC (.int 4))) (tCons (tOp rAddI (tVar 7) (tC (.int 3))) tNil)))) tNil))))
  (tRet (tVar 6))))))))
theorem putS3_1 {S : List Int} {x y z : Int} (hx : x ∈ S) (hy : y ∉ S) (hz : z ∉ S) (hyz : z ≠ y) : putS3 S x y z = S ++ [y, z] := by
  unfold putS3
  rw [putS_in hx, putS_out hy, putS_out (fun h => (List.mem_append.mp h).elim hz fun q => hyz (List.mem_singleton.mp q)), List.append_assoc]
  rfl
theorem pure_l_blow {G : Gx} {vs : List V} {H : Hp} {Q : VK} {E : XK} (h : sp_l_blow G vs H Q E) : Body (t_l_blow G) ["_law_web_here", "_law_end", "_law_first", "_law_e", "_law_a", "_law_b", "_law_made", "_law_new"] vs H Q := by
  obtain ⟨d, S, nx, e, f, rfl, hd, M, he, hL, hl, k⟩ := h
  show t_l_blow G _ [some (.ref d), some (.int e), some (.int f), none, none, none, none, none] H
  unfold t_l_blow
  have ha := M.cn _ he
  have hb := M.cn _ ha
  have no : ∀ i : Int, 0 ≤ i → 2 * f + i ∉ S := fun i hi q => by have := hL _ q; omega
  walk_at "go"
  refine ⟨d, S, nx, e, rfl, hd, he, ha, fun t1 h1 => ?_⟩
  refine g_tup (SqT.of upd_same) rfl ?_
  walk_at "go"
  intro p hp
  walk_at "go"
  have s1 : Same H (upd (upd H t1 (.tup [.int e, .int (nx e), .int (nx (nx e))])) p (dW S nx)) := by walk_at "sm"
  have e1 : (upd (upd H t1 (.tup [.int e, .int (nx e), .int (nx (nx e))])) p (dW S nx)) p = some (dW S nx) := upd_same
  have hp0 : Free H p := by walk_at "fr"
  generalize upd (upd H t1 (.tup [.int e, .int (nx e), .int (nx (nx e))])) p (dW S nx) = H1 at s1 e1 ⊢
  clear hp h1
  have seat : ∀ (H1 : Hp) (T : List Int) (w : Int → Int) (x y z : Int) (Q : VK) (u : Addr), Same H H1 → H1 p = some (dW T w) → T.length ≤ 100000 → Free H1 u → (∀ H2, Same H H2 → H2 p = some (dW (putS3 T x y z) (seatF w x y z)) → Q .non H2) → sp_l_seat G [.ref p, .ref u] (upd H1 u (.tup [.int x, .int y, .int z])) Q E0 := by
    intro H1 T w x y z Q u s1 e1 hT hu k
    exact ⟨p, u, T, w, x, y, z, rfl, by walk_at "hp", SqT.of upd_same, hT, k _ (same_mut (same_new s1 hu) hp0) upd_same⟩
  have q1 : putS3 S e (2 * f) (2 * f + 5) = S ++ [2 * f, 2 * f + 5] := putS3_1 he (fun q => by have := hL _ q; omega) (no 5 (by decide)) (by omega)
  have q2 : putS3 (S ++ [2 * f, 2 * f + 5]) (nx e) (2 * f + 2) (2 * f + 1) = S ++ [2 * f, 2 * f + 5, 2 * f + 2, 2 * f + 1] := by
    rw [putS3_1 (List.mem_append.mpr (.inl ha)) (fun q => ?_) (fun q => ?_) (by omega), List.append_assoc]
    · rfl
    · rcases List.mem_append.mp q with q | q
      · exact no 2 (by decide) q
      · simp only [List.mem_cons, List.not_mem_nil, or_false] at q
        omega
    · rcases List.mem_append.mp q with q | q
      · exact no 1 (by decide) q
      · simp only [List.mem_cons, List.not_mem_nil, or_false] at q
        omega
  have q3 : putS3 (S ++ [2 * f, 2 * f + 5, 2 * f + 2, 2 * f + 1]) (nx (nx e)) (2 * f + 4) (2 * f + 3) = S ++ [2 * f, 2 * f + 5, 2 * f + 2, 2 * f + 1, 2 * f + 4, 2 * f + 3] := by
    rw [putS3_1 (List.mem_append.mpr (.inl hb)) (fun q => ?_) (fun q => ?_) (by omega), List.append_assoc]
    · rfl
    · rcases List.mem_append.mp q with q | q
      · exact no 4 (by decide) q
      · simp only [List.mem_cons, List.not_mem_nil, or_false] at q
        omega
    · rcases List.mem_append.mp q with q | q
      · exact no 3 (by decide) q
      · simp only [List.mem_cons, List.not_mem_nil, or_false] at q
        omega
  walk_at "go"
  refine ⟨by walk_at "sz", fun u hu => ?_⟩
  walk_at "go"
  refine seat _ _ _ _ _ _ _ _ s1 e1 (by omega) hu fun H2 s2 e2 => ?_
  rw [q1] at e2
  walk_at "go"
  refine ⟨by walk_at "sz", fun u2 hu2 => ?_⟩
  walk_at "go"
  refine seat _ _ _ _ _ _ _ _ s2 e2 (by rw [List.length_append]; simp only [List.length_cons, List.length_nil]; omega) hu2 fun H3 s3 e3 => ?_
  rw [q2] at e3
  walk_at "go"
  refine ⟨by walk_at "sz", fun u3 hu3 => ?_⟩
  walk_at "go"
  refine seat _ _ _ _ _ _ _ _ s3 e3 (by rw [List.length_append]; simp only [List.length_cons, List.length_nil]; omega) hu3 fun H4 s4 e4 => ?_
  rw [q3] at e4
  walk_at "go"
  exact k p _ s4 hp0 e4
/-! ### part -/
def sp_l_part (G : Gx) : Sp := fun vs H Q _ => ∃ (d : Addr) (S : List Int) (nx : Int → Int) (one two f : Int), vs = [.ref d, .int one, .int two, .int f] ∧ Rd H d (dW S nx) ∧ Map S ot nx ∧ one ∈ S ∧ two ∈ S ∧ one / 2 ≠ two / 2 ∧ (∀ x ∈ S, x < 2 * f) ∧ S.length ≤ 90000 ∧
  ∀ (S' : List Int) p H', S'.Nodup → (∀ z, z ∈ S' ↔ z ∈ blowS S (2 * f)) → Same H H' → Free H p → H' p = some (dW S' (partF nx one two (2 * f))) → Q (.ref p) H'
theorem len_l_part {G : Gx} : ∀ vs H Q E, sp_l_part G vs H Q E → vs.length = 4 := by rintro vs H Q E ⟨d, S, nx, e, t, f, rfl, _⟩; rfl
/-! _law_part: slots _law_web_here, _law_one, _law_two, _law_first, _law_made, _law_new, _law_p, _law_half, _law_away, _law_x, _law_y -/
def t_l_part (G : Gx) : TS :=
  (tSeq (tAsg (tCB rDictRd (tCons (tVar 0) tNil)) (gName 4))
  (tSeq (tAsg (tOp rMulI (tC (.int 2)) (tVar 3)) (gName 5))
  (tSeq (tFor (iTup G.K (tTup (tCons (tTup (tCons (tCall (sp_l_other G) [] E0 (tCons (tVar 1) tNil)) (tCons (tOp rAddI (tVar 5) (tC (.int 1))) tNil))) (tCons (tTup (tCons (tCall (sp_l_other G) [] E0 (tCons (tVar 2) tNil)) (tCons (tOp rAddI (tVar 5) (tC (.int 3))) tNil))) tNil)))) (gTup G.K 2 (gCons (gName 6) (gCons (gName 7) gNil)))
  (tSeq (tAsg (tCall (sp_l_corner G) [] E0 (tCons (tVar 4) (tCons (tVar 6) tNil))) (gTup G.K 3 (gCons (gName 8) (gCons (gName 9) (gCons (gName 10) gNil)))))
  (tSeq (tDrop (tCall (sp_l_seat G) [] E0 (tCons (tVar 4) (tCons (tTup (tCons (tVar 7) (tCons (tVar 9) (tCons (tVar 10) tNil)))) tNil))))
  (tDrop (tCall (sp_l_seat G) [] E0 (tCons (tVar 4) (tCons (tTup (tCons (tVar 6) (tCons (tOp rAddI (tOp rAddI (tVar 5) (tC (.int 4))) (tOp rDivW (tOp rSubI (tVar 7) (tVar 5)) (tC (.int 2)))) (tCons (tOp rSubI (tVar 7) (tC (.int 1))) tNil)))) tNil)))))))
  (tRet (tVar 4)))))
theorem pure_l_part {G : Gx} {vs : List V} {H : Hp} {Q : VK} {E : XK} (h : sp_l_part G vs H Q E) : Body (t_l_part G) ["_law_web_here", "_law_one", "_law_two", "_law_first", "_law_made", "_law_new", "_law_p", "_law_half", "_law_away", "_law_x", "_law_y"] vs H Q := by
  obtain ⟨d, S, nx, one, two, f, rfl, hd, M, h1, h2, hf, hL, hl, k⟩ := h
  show t_l_part G _ [some (.ref d), some (.int one), some (.int two), some (.int f), none, none, none, none, none, none, none] H
  unfold t_l_part
  obtain ⟨PV, PX, PY⟩ := part_seat M h1 h2 hf hL
  have hp := M.ca _ h1
  have hq := M.ca _ h2
  have ha := M.cn _ hp
  have hb := M.cn _ ha
  walk_at "go"
  intro p hpf
  walk_at "go"
  refine ⟨by walk_at "sz", fun t1 ht1 => ?_⟩
  walk_at "go"
  refine ⟨by walk_at "sz", fun t2 ht2 => ?_⟩
  walk_at "go"
  refine ⟨by walk_at "sz", fun t ht => ?_⟩
  refine ⟨t, rfl, ⟨_, SqT.of upd_same⟩, ?_⟩
  have s0 : Same H (upd (upd (upd (upd H p (dW S nx)) t1 (.tup [.int (ot one), .int (2 * f + 1)])) t2 (.tup [.int (ot two), .int (2 * f + 3)])) t (.tup [.ref t1, .ref t2])) := by walk_at "sm"
  have a0 : (upd (upd (upd (upd H p (dW S nx)) t1 (.tup [.int (ot one), .int (2 * f + 1)])) t2 (.tup [.int (ot two), .int (2 * f + 3)])) t (.tup [.ref t1, .ref t2])) p = some (dW S nx) := by walk_at "hp"
  have b0 : (upd (upd (upd (upd H p (dW S nx)) t1 (.tup [.int (ot one), .int (2 * f + 1)])) t2 (.tup [.int (ot two), .int (2 * f + 3)])) t (.tup [.ref t1, .ref t2])) t1 = some (.tup [.int (ot one), .int (2 * f + 1)]) := by walk_at "hp"
  have c0 : (upd (upd (upd (upd H p (dW S nx)) t1 (.tup [.int (ot one), .int (2 * f + 1)])) t2 (.tup [.int (ot two), .int (2 * f + 3)])) t (.tup [.ref t1, .ref t2])) t2 = some (.tup [.int (ot two), .int (2 * f + 3)]) := by walk_at "hp"
  have d0 : (upd (upd (upd (upd H p (dW S nx)) t1 (.tup [.int (ot one), .int (2 * f + 1)])) t2 (.tup [.int (ot two), .int (2 * f + 3)])) t (.tup [.ref t1, .ref t2])) t = some (.tup [.ref t1, .ref t2]) := upd_same
  generalize upd (upd (upd (upd H p (dW S nx)) t1 (.tup [.int (ot one), .int (2 * f + 1)])) t2 (.tup [.int (ot two), .int (2 * f + 3)])) t (.tup [.ref t1, .ref t2]) = H1 at s0 a0 b0 c0 d0 ⊢
  clear ht ht2 ht1
  have l1 := len_putS3 (S := S) (x := 2 * f + 1) (y := nx (ot one)) (z := nx (nx (ot one)))
  have l2 := len_putS3 (S := putS3 S (2 * f + 1) (nx (ot one)) (nx (nx (ot one)))) (x := ot one) (y := 2 * f + 4) (z := 2 * f)
  have m1 : ∀ z, z ∈ (putS3 (putS3 S (2 * f + 1) (nx (ot one)) (nx (nx (ot one)))) (ot one) (2 * f + 4) (2 * f)) ↔ z ∈ S ∨ z = 2 * f + 1 ∨ z = 2 * f + 4 ∨ z = 2 * f := fun z => by
    rw [mem_putS3, mem_putS3]
    constructor
    · rintro ((h | h | h | h) | h | h | h)
      · exact .inl h
      · exact .inr (.inl h)
      · exact .inl (h ▸ ha)
      · exact .inl (h ▸ hb)
      · exact .inl (h ▸ hp)
      · exact .inr (.inr (.inl h))
      · exact .inr (.inr (.inr h))
    · rintro (h | h | h | h)
      · exact .inl (.inl h)
      · exact .inl (.inr (.inl h))
      · exact .inr (.inr (.inl h))
      · exact .inr (.inr (.inr h))
  have g1 : (halfF nx (ot one) (2 * f + 1) (2 * f + 4) (2 * f)) (ot two) ∈ (putS3 (putS3 S (2 * f + 1) (nx (ot one)) (nx (nx (ot one)))) (ot one) (2 * f + 4) (2 * f)) := (m1 _).mpr (PX.imp id .inl)
  have g2 : (halfF nx (ot one) (2 * f + 1) (2 * f + 4) (2 * f)) ((halfF nx (ot one) (2 * f + 1) (2 * f + 4) (2 * f)) (ot two)) ∈ (putS3 (putS3 S (2 * f + 1) (nx (ot one)) (nx (nx (ot one)))) (ot one) (2 * f + 4) (2 * f)) := (m1 _).mpr (PY.imp id .inl)
  have l3 := len_putS3 (S := (putS3 (putS3 S (2 * f + 1) (nx (ot one)) (nx (nx (ot one)))) (ot one) (2 * f + 4) (2 * f))) (x := 2 * f + 3) (y := (halfF nx (ot one) (2 * f + 1) (2 * f + 4) (2 * f)) (ot two)) (z := (halfF nx (ot one) (2 * f + 1) (2 * f + 4) (2 * f)) ((halfF nx (ot one) (2 * f + 1) (2 * f + 4) (2 * f)) (ot two)))
  refine r_it walk_tup (fun l σ H' => (∃ o6 o7 o8 o9 o10, σ = [some (.ref d), some (.int one), some (.int two), some (.int f), some (.ref p), some (.int (2 * f)), o6, o7, o8, o9, o10]) ∧ Same H H' ∧ SqT G.K H' t [.ref t1, .ref t2] ∧ SqT G.K H' t1 [.int (ot one), .int (2 * f + 1)] ∧ SqT G.K H' t2 [.int (ot two), .int (2 * f + 3)] ∧
      (l = 0 ∧ H' p = some (dW S nx) ∨ l = 1 ∧ H' p = some (dW (putS3 (putS3 S (2 * f + 1) (nx (ot one)) (nx (nx (ot one)))) (ot one) (2 * f + 4) (2 * f)) (halfF nx (ot one) (2 * f + 1) (2 * f + 4) (2 * f))) ∨ l = 2 ∧ H' p = some (dW (putS3 (putS3 (putS3 (putS3 S (2 * f + 1) (nx (ot one)) (nx (nx (ot one)))) (ot one) (2 * f + 4) (2 * f)) (2 * f + 3) ((halfF nx (ot one) (2 * f + 1) (2 * f + 4) (2 * f)) (ot two)) ((halfF nx (ot one) (2 * f + 1) (2 * f + 4) (2 * f)) ((halfF nx (ot one) (2 * f + 1) (2 * f + 4) (2 * f)) (ot two)))) (ot two) (2 * f + 5) (2 * f + 2)) (halfF (halfF nx (ot one) (2 * f + 1) (2 * f + 4) (2 * f)) (ot two) (2 * f + 3) (2 * f + 5) (2 * f + 2)))))
    ⟨⟨_, _, _, _, _, rfl⟩, s0, SqT.of d0, SqT.of b0, SqT.of c0, .inl ⟨rfl, a0⟩⟩ (fun _ _ _ _ z => z.2.2.1) (fun l v σ H6 H7 hl' ⟨⟨o6, o7, o8, o9, o10, es⟩, s6, a6, b6, c6, q⟩ ⟨q2, q3⟩ => ?_) (fun σ H6 ⟨⟨o6, o7, o8, o9, o10, es⟩, s6, a6, b6, c6, q⟩ => ?_)
  · subst es q2
    rcases q with ⟨rfl, e6⟩ | ⟨rfl, e6⟩ | ⟨rfl, e6⟩
    · cases q3
      refine g_tup b6 rfl ?_
      walk_at "go"
      · skip
        refine ⟨p, _, _, ot one, rfl, rd_in e6, hp, ha, fun tc htc => ?_⟩
        refine g_tup (SqT.of upd_same) rfl ?_
        walk_at "go"
        refine ⟨by walk_at "sz", fun u1 hu1 => ?_⟩
        walk_at "go"
        refine ⟨p, u1, _, _, _, _, _, rfl, at_new (at_new e6 htc) hu1, SqT.of upd_same, by omega, ?_⟩
        have k1 : ∀ b xs, SqT G.K H7 b xs → SqT G.K (upd (upd (upd H7 tc (.tup [.int (ot one), .int (nx (ot one)), .int (nx (nx (ot one)))])) u1 (.tup [.int (2 * f + 1), .int (nx (ot one)), .int (nx (nx (ot one)))])) p (dW (putS3 S (2 * f + 1) (nx (ot one)) (nx (nx (ot one)))) (seatF nx (2 * f + 1) (nx (ot one)) (nx (nx (ot one)))))) b xs := fun b xs q =>
          mut_tup (at_new (at_new e6 htc) hu1) trivial (same_tup (same_new (same_new (Same.refl _) htc) hu1) q)
        have s7 : Same H (upd (upd (upd H7 tc (.tup [.int (ot one), .int (nx (ot one)), .int (nx (nx (ot one)))])) u1 (.tup [.int (2 * f + 1), .int (nx (ot one)), .int (nx (nx (ot one)))])) p (dW (putS3 S (2 * f + 1) (nx (ot one)) (nx (nx (ot one)))) (seatF nx (2 * f + 1) (nx (ot one)) (nx (nx (ot one)))))) := same_mut (same_new (same_new s6 htc) hu1) hpf
        have e7 : (upd (upd (upd H7 tc (.tup [.int (ot one), .int (nx (ot one)), .int (nx (nx (ot one)))])) u1 (.tup [.int (2 * f + 1), .int (nx (ot one)), .int (nx (nx (ot one)))])) p (dW (putS3 S (2 * f + 1) (nx (ot one)) (nx (nx (ot one)))) (seatF nx (2 * f + 1) (nx (ot one)) (nx (nx (ot one)))))) p = some (dW (putS3 S (2 * f + 1) (nx (ot one)) (nx (nx (ot one)))) (seatF nx (2 * f + 1) (nx (ot one)) (nx (nx (ot one))))) := upd_same
        generalize upd (upd (upd H7 tc (.tup [.int (ot one), .int (nx (ot one)), .int (nx (nx (ot one)))])) u1 (.tup [.int (2 * f + 1), .int (nx (ot one)), .int (nx (nx (ot one)))])) p (dW (putS3 S (2 * f + 1) (nx (ot one)) (nx (nx (ot one)))) (seatF nx (2 * f + 1) (nx (ot one)) (nx (nx (ot one))))) = H8 at k1 s7 e7 ⊢
        walk_at "go"
        rw [show 2 * f + 4 + (2 * f + 1 - 2 * f) / 2 = 2 * f + 4 by omega, show 2 * f + 1 - 1 = 2 * f by omega]
        refine ⟨by walk_at "sz", fun u2 hu2 => ?_⟩
        walk_at "go"
        refine ⟨p, u2, _, _, _, _, _, rfl, at_new e7 hu2, SqT.of upd_same, by omega, ?_⟩
        have k2 : ∀ b xs, SqT G.K H8 b xs → SqT G.K (upd (upd H8 u2 (.tup [.int (ot one), .int (2 * f + 4), .int (2 * f)])) p (dW (putS3 (putS3 S (2 * f + 1) (nx (ot one)) (nx (nx (ot one)))) (ot one) (2 * f + 4) (2 * f)) (halfF nx (ot one) (2 * f + 1) (2 * f + 4) (2 * f)))) b xs := fun b xs q => mut_tup (at_new e7 hu2) trivial (same_tup (same_new (Same.refl _) hu2) q)
        exact ⟨⟨_, _, _, _, _, rfl⟩, same_mut (same_new s7 hu2) hpf, k2 _ _ (k1 _ _ a6), k2 _ _ (k1 _ _ b6), k2 _ _ (k1 _ _ c6), .inr (.inl ⟨rfl, upd_same⟩)⟩
    · cases q3
      refine g_tup c6 rfl ?_
      walk_at "go"
      · skip
        refine ⟨p, _, _, ot two, rfl, rd_in e6, (m1 _).mpr (.inl hq), g1, fun tc htc => ?_⟩
        refine g_tup (SqT.of upd_same) rfl ?_
        walk_at "go"
        refine ⟨by walk_at "sz", fun u1 hu1 => ?_⟩
        walk_at "go"
        refine ⟨p, u1, _, _, _, _, _, rfl, at_new (at_new e6 htc) hu1, SqT.of upd_same, by omega, ?_⟩
        have k1 : ∀ b xs, SqT G.K H7 b xs → SqT G.K (upd (upd (upd H7 tc (.tup [.int (ot two), .int ((halfF nx (ot one) (2 * f + 1) (2 * f + 4) (2 * f)) (ot two)), .int ((halfF nx (ot one) (2 * f + 1) (2 * f + 4) (2 * f)) ((halfF nx (ot one) (2 * f + 1) (2 * f + 4) (2 * f)) (ot two)))])) u1 (.tup [.int (2 * f + 3), .int ((halfF nx (ot one) (2 * f + 1) (2 * f + 4) (2 * f)) (ot two)), .int ((halfF nx (ot one) (2 * f + 1) (2 * f + 4) (2 * f)) ((halfF nx (ot one) (2 * f + 1) (2 * f + 4) (2 * f)) (ot two)))])) p (dW (putS3 (putS3 (putS3 S (2 * f + 1) (nx (ot one)) (nx (nx (ot one)))) (ot one) (2 * f + 4) (2 * f)) (2 * f + 3) ((halfF nx (ot one) (2 * f + 1) (2 * f + 4) (2 * f)) (ot two)) ((halfF nx (ot one) (2 * f + 1) (2 * f + 4) (2 * f)) ((halfF nx (ot one) (2 * f + 1) (2 * f + 4) (2 * f)) (ot two)))) (seatF (halfF nx (ot one) (2 * f + 1) (2 * f + 4) (2 * f)) (2 * f + 3) ((halfF nx (ot one) (2 * f + 1) (2 * f + 4) (2 * f)) (ot two)) ((halfF nx (ot one) (2 * f + 1) (2 * f + 4) (2 * f)) ((halfF nx (ot one) (2 * f + 1) (2 * f + 4) (2 * f)) (ot two)))))) b xs := fun b xs q =>
          mut_tup (at_new (at_new e6 htc) hu1) trivial (same_tup (same_new (same_new (Same.refl _) htc) hu1) q)
        have s7 : Same H (upd (upd (upd H7 tc (.tup [.int (ot two), .int ((halfF nx (ot one) (2 * f + 1) (2 * f + 4) (2 * f)) (ot two)), .int ((halfF nx (ot one) (2 * f + 1) (2 * f + 4) (2 * f)) ((halfF nx (ot one) (2 * f + 1) (2 * f + 4) (2 * f)) (ot two)))])) u1 (.tup [.int (2 * f + 3), .int ((halfF nx (ot one) (2 * f + 1) (2 * f + 4) (2 * f)) (ot two)), .int ((halfF nx (ot one) (2 * f + 1) (2 * f + 4) (2 * f)) ((halfF nx (ot one) (2 * f + 1) (2 * f + 4) (2 * f)) (ot two)))])) p (dW (putS3 (putS3 (putS3 S (2 * f + 1) (nx (ot one)) (nx (nx (ot one)))) (ot one) (2 * f + 4) (2 * f)) (2 * f + 3) ((halfF nx (ot one) (2 * f + 1) (2 * f + 4) (2 * f)) (ot two)) ((halfF nx (ot one) (2 * f + 1) (2 * f + 4) (2 * f)) ((halfF nx (ot one) (2 * f + 1) (2 * f + 4) (2 * f)) (ot two)))) (seatF (halfF nx (ot one) (2 * f + 1) (2 * f + 4) (2 * f)) (2 * f + 3) ((halfF nx (ot one) (2 * f + 1) (2 * f + 4) (2 * f)) (ot two)) ((halfF nx (ot one) (2 * f + 1) (2 * f + 4) (2 * f)) ((halfF nx (ot one) (2 * f + 1) (2 * f + 4) (2 * f)) (ot two)))))) := same_mut (same_new (same_new s6 htc) hu1) hpf
        have e7 : (upd (upd (upd H7 tc (.tup [.int (ot two), .int ((halfF nx (ot one) (2 * f + 1) (2 * f + 4) (2 * f)) (ot two)), .int ((halfF nx (ot one) (2 * f + 1) (2 * f + 4) (2 * f)) ((halfF nx (ot one) (2 * f + 1) (2 * f + 4) (2 * f)) (ot two)))])) u1 (.tup [.int (2 * f + 3), .int ((halfF nx (ot one) (2 * f + 1) (2 * f + 4) (2 * f)) (ot two)), .int ((halfF nx (ot one) (2 * f + 1) (2 * f + 4) (2 * f)) ((halfF nx (ot one) (2 * f + 1) (2 * f + 4) (2 * f)) (ot two)))])) p (dW (putS3 (putS3 (putS3 S (2 * f + 1) (nx (ot one)) (nx (nx (ot one)))) (ot one) (2 * f + 4) (2 * f)) (2 * f + 3) ((halfF nx (ot one) (2 * f + 1) (2 * f + 4) (2 * f)) (ot two)) ((halfF nx (ot one) (2 * f + 1) (2 * f + 4) (2 * f)) ((halfF nx (ot one) (2 * f + 1) (2 * f + 4) (2 * f)) (ot two)))) (seatF (halfF nx (ot one) (2 * f + 1) (2 * f + 4) (2 * f)) (2 * f + 3) ((halfF nx (ot one) (2 * f + 1) (2 * f + 4) (2 * f)) (ot two)) ((halfF nx (ot one) (2 * f + 1) (2 * f + 4) (2 * f)) ((halfF nx (ot one) (2 * f + 1) (2 * f + 4) (2 * f)) (ot two)))))) p = some (dW (putS3 (putS3 (putS3 S (2 * f + 1) (nx (ot one)) (nx (nx (ot one)))) (ot one) (2 * f + 4) (2 * f)) (2 * f + 3) ((halfF nx (ot one) (2 * f + 1) (2 * f + 4) (2 * f)) (ot two)) ((halfF nx (ot one) (2 * f + 1) (2 * f + 4) (2 * f)) ((halfF nx (ot one) (2 * f + 1) (2 * f + 4) (2 * f)) (ot two)))) (seatF (halfF nx (ot one) (2 * f + 1) (2 * f + 4) (2 * f)) (2 * f + 3) ((halfF nx (ot one) (2 * f + 1) (2 * f + 4) (2 * f)) (ot two)) ((halfF nx (ot one) (2 * f + 1) (2 * f + 4) (2 * f)) ((halfF nx (ot one) (2 * f + 1) (2 * f + 4) (2 * f)) (ot two))))) := upd_same
        generalize upd (upd (upd H7 tc (.tup [.int (ot two), .int ((halfF nx (ot one) (2 * f + 1) (2 * f + 4) (2 * f)) (ot two)), .int ((halfF nx (ot one) (2 * f + 1) (2 * f + 4) (2 * f)) ((halfF nx (ot one) (2 * f + 1) (2 * f + 4) (2 * f)) (ot two)))])) u1 (.tup [.int (2 * f + 3), .int ((halfF nx (ot one) (2 * f + 1) (2 * f + 4) (2 * f)) (ot two)), .int ((halfF nx (ot one) (2 * f + 1) (2 * f + 4) (2 * f)) ((halfF nx (ot one) (2 * f + 1) (2 * f + 4) (2 * f)) (ot two)))])) p (dW (putS3 (putS3 (putS3 S (2 * f + 1) (nx (ot one)) (nx (nx (ot one)))) (ot one) (2 * f + 4) (2 * f)) (2 * f + 3) ((halfF nx (ot one) (2 * f + 1) (2 * f + 4) (2 * f)) (ot two)) ((halfF nx (ot one) (2 * f + 1) (2 * f + 4) (2 * f)) ((halfF nx (ot one) (2 * f + 1) (2 * f + 4) (2 * f)) (ot two)))) (seatF (halfF nx (ot one) (2 * f + 1) (2 * f + 4) (2 * f)) (2 * f + 3) ((halfF nx (ot one) (2 * f + 1) (2 * f + 4) (2 * f)) (ot two)) ((halfF nx (ot one) (2 * f + 1) (2 * f + 4) (2 * f)) ((halfF nx (ot one) (2 * f + 1) (2 * f + 4) (2 * f)) (ot two))))) = H8 at k1 s7 e7 ⊢
        walk_at "go"
        rw [show 2 * f + 4 + (2 * f + 3 - 2 * f) / 2 = 2 * f + 5 by omega, show 2 * f + 3 - 1 = 2 * f + 2 by omega]
        refine ⟨by walk_at "sz", fun u2 hu2 => ?_⟩
        walk_at "go"
        refine ⟨p, u2, _, _, _, _, _, rfl, at_new e7 hu2, SqT.of upd_same, by omega, ?_⟩
        have k2 : ∀ b xs, SqT G.K H8 b xs → SqT G.K (upd (upd H8 u2 (.tup [.int (ot two), .int (2 * f + 5), .int (2 * f + 2)])) p (dW (putS3 (putS3 (putS3 (putS3 S (2 * f + 1) (nx (ot one)) (nx (nx (ot one)))) (ot one) (2 * f + 4) (2 * f)) (2 * f + 3) ((halfF nx (ot one) (2 * f + 1) (2 * f + 4) (2 * f)) (ot two)) ((halfF nx (ot one) (2 * f + 1) (2 * f + 4) (2 * f)) ((halfF nx (ot one) (2 * f + 1) (2 * f + 4) (2 * f)) (ot two)))) (ot two) (2 * f + 5) (2 * f + 2)) (halfF (halfF nx (ot one) (2 * f + 1) (2 * f + 4) (2 * f)) (ot two) (2 * f + 3) (2 * f + 5) (2 * f + 2)))) b xs := fun b xs q => mut_tup (at_new e7 hu2) trivial (same_tup (same_new (Same.refl _) hu2) q)
        exact ⟨⟨_, _, _, _, _, rfl⟩, same_mut (same_new s7 hu2) hpf, k2 _ _ (k1 _ _ a6), k2 _ _ (k1 _ _ b6), k2 _ _ (k1 _ _ c6), .inr (.inr ⟨rfl, upd_same⟩)⟩
    · exact absurd hl' (Nat.lt_irrefl 2)
  · rcases q with ⟨z, _⟩ | ⟨z, _⟩ | ⟨_, e6⟩
    · exact absurd (show (2 : Nat) = 0 from z) (by decide)
    · exact absurd (show (2 : Nat) = 1 from z) (by decide)
    · subst es
      walk_at "go"
      have m2 : ∀ z, z ∈ (putS3 (putS3 (putS3 (putS3 S (2 * f + 1) (nx (ot one)) (nx (nx (ot one)))) (ot one) (2 * f + 4) (2 * f)) (2 * f + 3) ((halfF nx (ot one) (2 * f + 1) (2 * f + 4) (2 * f)) (ot two)) ((halfF nx (ot one) (2 * f + 1) (2 * f + 4) (2 * f)) ((halfF nx (ot one) (2 * f + 1) (2 * f + 4) (2 * f)) (ot two)))) (ot two) (2 * f + 5) (2 * f + 2)) ↔ z ∈ blowS S (2 * f) := fun z => by
        rw [mem_putS3, mem_putS3, m1, mem_blowS]
        unfold New6
        constructor
        · rintro (((h | h | h | h) | h | h | h) | h | h | h)
          · exact .inl h
          · exact .inr (by omega)
          · exact .inr (by omega)
          · exact .inr (by omega)
          · exact .inr (by omega)
          · rw [h]; exact PX.imp id fun z => by omega
          · rw [h]; exact PY.imp id fun z => by omega
          · exact .inl (h ▸ hq)
          · exact .inr (by omega)
          · exact .inr (by omega)
        · rintro (h | h)
          · exact .inl (.inl (.inl h))
          · rcases h with h | h | h | h | h | h
            · exact .inl (.inl (.inr (by omega)))
            · exact .inl (.inl (.inr (by omega)))
            · exact .inr (.inr (.inr h))
            · exact .inl (.inr (.inl h))
            · exact .inl (.inl (.inr (by omega)))
            · exact .inr (.inr (.inl h))
      refine k (putS3 (putS3 (putS3 (putS3 S (2 * f + 1) (nx (ot one)) (nx (nx (ot one)))) (ot one) (2 * f + 4) (2 * f)) (2 * f + 3) ((halfF nx (ot one) (2 * f + 1) (2 * f + 4) (2 * f)) (ot two)) ((halfF nx (ot one) (2 * f + 1) (2 * f + 4) (2 * f)) ((halfF nx (ot one) (2 * f + 1) (2 * f + 4) (2 * f)) (ot two)))) (ot two) (2 * f + 5) (2 * f + 2)) p H6 (nd_putS3 (nd_putS3 (nd_putS3 (nd_putS3 M.nd)))) m2 s6 hpf ?_
      exact e6.trans (congrArg some (dI_congr fun z hz => congrArg V.int (PV z (mem_blowS.mp ((m2 z).mp hz)))))
/-! ### mended -/
theorem r_cut1 {K : PySem.W.Frag} {σ : St} {H : Hp} {Q : VK} {a : Addr} {x y z : V} {i : Nat} (hv : σ[i]? = some (some (.ref a))) (hs : SqT K H a [x, y, z]) (h : ∀ p, Free H p → Q (.ref p) (upd H p (.tup [y, z]))) : tSl (rSlT K) (tVar i) (tPart (tC (.int 1))) tNoPart σ H Q :=
  ⟨_, hv, 1, rfl, a, _, rfl, hs, fun q => absurd (show (1 : Nat) = 0 from q.1) (by decide), h⟩
theorem r_min2T {K : PySem.W.Frag} {H : Hp} {Q : VK} {p : Addr} {y z : Int} (hs : SqT K H p [.int y, .int z]) (h : Q (.int (min y z)) H) : rMinTp K [.ref p] H Q := by
  refine ⟨p, [y, z], rfl, hs, Nat.zero_lt_succ _, fun m hm hle => ?_⟩
  have h1 := hle y List.mem_cons_self
  have h2 := hle z (List.mem_cons_of_mem _ List.mem_cons_self)
  have e : m = min y z := by
    simp only [List.mem_cons, List.not_mem_nil, or_false] at hm
    omega
  rw [e]
  exact h
theorem r_max2T {K : PySem.W.Frag} {H : Hp} {Q : VK} {p : Addr} {y z : Int} (hs : SqT K H p [.int y, .int z]) (h : Q (.int (max y z)) H) : rMaxTp K [.ref p] H Q := by
  refine ⟨p, [y, z], rfl, hs, Nat.zero_lt_succ _, fun m hm hle => ?_⟩
  have h1 := hle y List.mem_cons_self
  have h2 := hle z (List.mem_cons_of_mem _ List.mem_cons_self)
  have e : m = max y z := by
    simp only [List.mem_cons, List.not_mem_nil, or_false] at hm
    omega
  rw [e]
  exact h
theorem fset_id {f : Int → Int} {k v : Int} (h : f k = v) : fset f k v = f := funext fun x => by
  unfold fset
  by_cases q : x = k
  · rw [if_pos q, q, h]
  · rw [if_neg q]
def sp_l_mended (G : Gx) : Sp := fun vs H Q _ => ∃ (d : Addr) (S : List Int) (al nx : Int → Int) (t : Int), vs = [.ref d, .int t] ∧ H d = some (dW S nx) ∧ Mend S al nx t (mX nx t) (mY nx t) (ot (mY nx t)) ∧ S.length ≤ 90000 ∧
  ∀ (S' : List Int) p H', S'.Nodup → (∀ z, z ∈ S' ↔ z ∈ m1S S nx t) → Same H H' → Free H p → H' p = some (dW S' (m1N nx t)) → Q (.ref p) H'
theorem len_l_mended {G : Gx} : ∀ vs H Q E, sp_l_mended G vs H Q E → vs.length = 2 := by rintro vs H Q E ⟨d, S, al, nx, t, rfl, _⟩; rfl
/-! _law_mended: slots _law_web_here, _law_end, _law_left, _law_x, _law_y, _law_gone, _law_made, _law_at, _law_goal -/
def t_l_mended (G : Gx) : TS :=
  (tSeq (tAsg (tCall (sp_l_corner G) [] E0 (tCons (tVar 0) (tCons (tVar 1) tNil))) (gName 2))
  (tSeq (tPar 3 4 (tCons (tCB (rMinTp G.K) (tCons (tSl (rSlT G.K) (tVar 2) (tPart (tC (.int 1))) tNoPart) tNil)) (tCons (tCB (rMaxTp G.K) (tCons (tSl (rSlT G.K) (tVar 2) (tPart (tC (.int 1))) tNoPart) tNil)) tNil)))
  (tSeq (tAsg (tCall (sp_l_other G) [] E0 (tCons (tVar 4) tNil)) (gName 5))
  (tSeq (tAsg tDNewK (gName 6))
  (tSeq (tLock (tFor (iKeys (tVar 0)) (gName 7)
  (tIfS (tTest (tOp (rIn G.K true) (tVar 7) (tVar 2))) (tSeq (tAsg (tDGet (tVar 0) (tVar 7)) (gName 8))
  (tSeq (tIfS (tTest (tOp rEq (tVar 8) (tVar 5))) (tAsg (tVar 3) (gName 8)) tNext)
  (tIfS (tTest (tOp rEq (tVar 7) (tVar 5))) (sDPut (tVar 6) (tVar 3) (tVar 8)) (sDPut (tVar 6) (tVar 7) (tVar 8))))) tNext)))
  (tRet (tVar 6)))))))
theorem pure_l_mended {G : Gx} {vs : List V} {H : Hp} {Q : VK} {E : XK} (h : sp_l_mended G vs H Q E) : Body (t_l_mended G) ["_law_web_here", "_law_end", "_law_left", "_law_x", "_law_y", "_law_gone", "_law_made", "_law_at", "_law_goal"] vs H Q := by
  obtain ⟨d, S, al, nx, t, rfl, hd, D, hl, k⟩ := h
  show t_l_mended G _ [some (.ref d), some (.int t), none, none, none, none, none, none, none] H
  unfold t_l_mended
  have M := D.M
  have ha := M.cn _ D.ht
  have hb := M.cn _ ha
  walk_at "go"
  refine ⟨d, S, nx, t, rfl, rd_in hd, D.ht, ha, fun lt hlt => ?_⟩
  walk_at "go"
  refine r_cut1 rfl (SqT.of upd_same) fun p1 hp1 => ?_
  walk_at "go"
  refine r_min2T (SqT.of upd_same) ?_
  walk_at "go"
  refine r_cut1 rfl (by walk_at "sq") fun p2 hp2 => ?_
  walk_at "go"
  refine r_max2T (SqT.of upd_same) ?_
  walk_at "go"
  have s1 : Same H (upd (upd (upd H lt (.tup [.int t, .int (nx t), .int (nx (nx t))])) p1 (.tup [.int (nx t), .int (nx (nx t))])) p2 (.tup [.int (nx t), .int (nx (nx t))])) := by walk_at "sm"
  have e1 : (upd (upd (upd H lt (.tup [.int t, .int (nx t), .int (nx (nx t))])) p1 (.tup [.int (nx t), .int (nx (nx t))])) p2 (.tup [.int (nx t), .int (nx (nx t))])) lt = some (.tup [.int t, .int (nx t), .int (nx (nx t))]) := by walk_at "hp"
  generalize upd (upd (upd H lt (.tup [.int t, .int (nx t), .int (nx (nx t))])) p1 (.tup [.int (nx t), .int (nx (nx t))])) p2 (.tup [.int (nx t), .int (nx (nx t))]) = H1 at s1 e1 ⊢
  clear hp1 hp2 hlt
  rw [show min (nx t) (nx (nx t)) = mX nx t from rfl, show max (nx t) (nx (nx t)) = mY nx t from rfl]
  have hd1 := s1 d _ hd
  have ltd : lt ≠ d := ne_kind e1 hd1 (by intro z; cases z)
  have Fx := D.facts
  refine r_dnew (f := fun x => .int (m1N nx t x)) fun p hp => ?_
  have hp00 : Free H p := s1.free hp
  have npd : p ≠ d := fun z => by rw [z] at hp; unfold Free at hp; rw [hd1] at hp; cases hp
  have hd2 : upd H1 p (dW [] (m1N nx t)) d = some (dW S nx) := at_ne hd1 (Ne.symm npd)
  walk_at "go"
  refine r_forD hd2 (fun _ _ q => ⟨_, rfl, q⟩) fun od => ?_
  have hpd : Free (upd H1 d (.frz od (dW S nx))) p := by unfold Free; rw [upd_ne npd]; exact hp
  have sm : Same (upd H1 d (.frz od (dW S nx))) (upd (upd H1 p (dW [] (m1N nx t))) d (.frz od (dW S nx))) := fun b x e => by
    by_cases z : b = d
    · subst z
      rw [upd_same] at e ⊢
      exact e
    · rw [upd_ne z] at e ⊢
      exact at_new e hp
  have cor : ∀ a : Int, (a ≠ t ∧ a ≠ nx t ∧ a ≠ nx (nx t)) ↔ (a ≠ t ∧ a ≠ mX nx t ∧ a ≠ mY nx t) := fun a => by
    rcases mXY nx t with ⟨q1, q2⟩ | ⟨q1, q2⟩
    · rw [q1, q2]
    · rw [q1, q2]
      exact ⟨fun ⟨x, y, z⟩ => ⟨x, z, y⟩, fun ⟨x, y, z⟩ => ⟨x, z, y⟩⟩
  have hX : mX nx t ∈ S := by
    rcases mXY nx t with ⟨q1, q2⟩ | ⟨q1, q2⟩
    · rw [q1]; exact ha
    · rw [q1]; exact hb
  have vals : ∀ a ∈ S, a ≠ mX nx t → a ≠ ot (mY nx t) → m1N nx t a = if nx a = ot (mY nx t) then mX nx t else nx a := fun a _ h1 _ => by
    unfold m1N mendN
    rw [if_neg h1]
  have valx : m1N nx t (mX nx t) = nx (ot (mY nx t)) := by
    unfold m1N mendN
    rw [if_pos rfl]
  change ∃ Pv : Nat → St → Hp → Prop, _
  generalize hgX : mX nx t = X at *
  generalize hgY : mY nx t = Y at *
  generalize hgg : ot Y = g at *
  refine ⟨fun j σ H' => ∃ (K : List Int) (o7 o8 : Option V), σ = [some (.ref d), some (.int t), some (.ref lt), some (.int X), some (.int Y), some (.int g), some (.ref p), o7, o8] ∧ Same (upd H1 d (.frz od (dW S nx))) H' ∧ H' p = some (dW K (m1N nx t)) ∧ K.Nodup ∧ K.length ≤ j ∧
      ∀ z, z ∈ K ↔ ∃ i a, i < j ∧ S[i]? = some a ∧ (a ≠ t ∧ a ≠ X ∧ a ≠ Y) ∧ z = if a = g then X else a, ⟨[], _, _, rfl, sm, at_ne upd_same npd, .nil, Nat.zero_le _, fun z => ⟨fun h => absurd h List.not_mem_nil, fun ⟨i, a, h, _⟩ => absurd h (Nat.not_lt_zero _)⟩⟩, ?_, ?_, ?_⟩
  · rintro j σ H' _ ⟨K, o7, o8, _, s1, _⟩
    exact s1 d _ upd_same
  · rintro j a σ H' hj ⟨K, o7, o8, rfl, s2, e2, nd, kl, mem⟩
    have haS : a ∈ S := List.mem_of_getElem? hj
    have hjl : j < S.length := (List.getElem?_eq_some_iff.mp hj).1
    have hd3 : Rd H' d (dW S nx) := rd_frz (s2 d _ upd_same)
    have e3 : H' lt = some (.tup [.int t, .int (nx t), .int (nx (nx t))]) := s2 lt _ (at_ne e1 ltd)
    have old : ∀ z, (∃ i b, i < j + 1 ∧ S[i]? = some b ∧ (b ≠ t ∧ b ≠ X ∧ b ≠ Y) ∧ z = if b = g then X else b) ↔ z ∈ K ∨ ((a ≠ t ∧ a ≠ X ∧ a ≠ Y) ∧ z = if a = g then X else a) := fun z => by
      rw [mem]
      constructor
      · rintro ⟨i, b, hi, hb', c, e⟩
        by_cases q : i = j
        · subst q
          rw [hj] at hb'
          cases hb'
          exact .inr ⟨c, e⟩
        · exact .inl ⟨i, b, by omega, hb', c, e⟩
      · rintro (⟨i, b, hi, hb', c, e⟩ | ⟨c, e⟩)
        · exact ⟨i, b, by omega, hb', c, e⟩
        · exact ⟨j, a, by omega, hj, c, e⟩
    walk_at "go"
    refine iteB (fun h => ?_) (fun h => ?_)
    · rw [if_pos rfl, Bool.not_eq_true'] at h
      have ho : a ≠ t ∧ a ≠ X ∧ a ≠ Y := by
        refine (cor a).mp ?_
        have q : ¬ (t = a ∨ nx t = a ∨ nx (nx t) = a) := fun z => by rw [(inV3 a t (nx t) (nx (nx t))).mpr z] at h; cases h
        exact ⟨fun z => q (.inl z.symm), fun z => q (.inr (.inl z.symm)), fun z => q (.inr (.inr z.symm))⟩
      have fin : ∀ (key : Int) (o8 : Option V), key = (if a = g then X else a) → ∃ (K' : List Int) (o7' o8' : Option V), [some (V.ref d), some (.int t), some (.ref lt), some (.int X), some (.int Y), some (.int g), some (.ref p), some (.int a), o8] = [some (.ref d), some (.int t), some (.ref lt), some (.int X), some (.int Y), some (.int g), some (.ref p), o7', o8'] ∧
          Same (upd H1 d (.frz od (dW S nx))) (upd H' p (dW (putS K key) (m1N nx t))) ∧ upd H' p (dW (putS K key) (m1N nx t)) p = some (dW K' (m1N nx t)) ∧ K'.Nodup ∧ K'.length ≤ j + 1 ∧ ∀ z, z ∈ K' ↔ ∃ i a, i < j + 1 ∧ S[i]? = some a ∧ (a ≠ t ∧ a ≠ X ∧ a ≠ Y) ∧ z = if a = g then X else a := fun key o8 hk =>
        ⟨putS K key, _, _, rfl, same_mut s2 hpd, upd_same, nd_putS nd, by have := len_putS (S := K) (k := key); omega, fun z => by
          rw [mem_putS, old, hk]
          exact ⟨fun q => q.imp id fun q => ⟨ho, q⟩, fun q => q.imp id fun q => q.2⟩⟩
      have hzK : K.length < sizeLine := size1000l (by omega)
      walk_at "go"
      refine iteI (fun c1 => ?_) (fun c1 => ?_)
      · walk_at "go"
        refine iteI (fun c2 => absurd (c1.trans c2.symm) (M.n1 a haS)) (fun c2 => ?_)
        walk_at "go"
        rw [fset_id (show m1N nx t a = X by rw [vals a haS ho.2.1 c2, if_pos c1])]
        exact fin a _ (by rw [if_neg c2])
      · walk_at "go"
        refine iteI (fun c2 => ?_) (fun c2 => ?_)
        · walk_at "go"
          rw [fset_id (show m1N nx t X = nx a by rw [valx, c2])]
          exact fin X _ (by rw [if_pos c2])
        · walk_at "go"
          rw [fset_id (show m1N nx t a = nx a by rw [vals a haS ho.2.1 c2, if_neg c1])]
          exact fin a _ (by rw [if_neg c2])
    · rw [if_pos rfl, Bool.not_eq_false'] at h
      have hno : ¬ (a ≠ t ∧ a ≠ X ∧ a ≠ Y) := fun q => by
        obtain ⟨q1, q2, q3⟩ := (cor a).mpr q
        rcases (inV3 a t (nx t) (nx (nx t))).mp h with z | z | z
        · exact q1 z.symm
        · exact q2 z.symm
        · exact q3 z.symm
      walk_at "go"
      refine ⟨K, _, _, rfl, s2, e2, nd, by omega, fun z => ?_⟩
      rw [old]
      exact ⟨.inl, fun q => q.elim id fun q => absurd q.1 hno⟩
  · rintro σ H' ⟨K, o7, o8, rfl, s2, e2, nd, kl, mem⟩
    walk_at "go"
    refine k K p _ nd (fun z => ?_) (s1.trans (same_unlock hd1 s2)) hp00 (at_ne e2 npd)
    rw [mem]
    unfold m1S
    rw [hgY, hgg, mem_mendS]
    constructor
    · rintro ⟨i, a, hi, ha', ⟨c1, c2, c3⟩, rfl⟩
      by_cases q : a = g
      · rw [if_pos q]
        exact ⟨hX, fun z => Fx.tx z.symm, Fx.xy, fun z => D.gx z.symm⟩
      · rw [if_neg q]
        exact ⟨List.mem_of_getElem? ha', c1, c3, q⟩
    · rintro ⟨hz, z1, z2, z3⟩
      by_cases q : z = X
      · obtain ⟨i, hi⟩ := List.getElem?_of_mem Fx.hg
        exact ⟨i, g, (List.getElem?_eq_some_iff.mp hi).1, hi, ⟨Fx.gt, D.gx, D.gy⟩, by rw [if_pos rfl]; exact q⟩
      · obtain ⟨i, hi⟩ := List.getElem?_of_mem hz
        exact ⟨i, z, (List.getElem?_eq_some_iff.mp hi).1, hi, ⟨z1, q, z2⟩, by rw [if_neg z3]⟩
/-! Wi: a film taken out. -/
theorem r_lcT {K : PySem.W.Frag} {H : Hp} {Q : VK} {σ : St} {a : Addr} {tl te : TE} {tt : TT} {i : Nat} {ns : List Int} (p : Int → Bool) (e : Int → V) (hs : SqT K H a (ns.map V.int)) (ht : ∀ Q : VK, Q (.ref a) H → tl σ H Q) (hn : ns.length < sizeLine)
    (h1 : ∀ x ∈ ns, ∀ (D : Addr) (u : HO), Free H D → ∀ R : Bool → Hp → Prop, R (p x) (upd H D u) → tt (σ.set i (some (.int x))) (upd H D u) R)
    (h2 : ∀ x ∈ ns, p x = true → ∀ (D : Addr) (u : HO), Free H D → ∀ Q : VK, Q (e x) (upd H D u) → te (σ.set i (some (.int x))) (upd H D u) Q)
    (h : ∀ D, Free H D → Q (.ref D) (upd H D (.lst ((ns.filter p).map e)))) : tLc (iTup K tl) (gName i) tt te [i] σ H Q := by
  refine ht _ ⟨a, rfl, ⟨_, hs⟩, fun D hD => ?_⟩
  refine lc_tup (xs := ns.map V.int) (fun j H' => H' = upd H D (.lst (((ns.take j).filter p).map e))) rfl (fun j H' _ q => ?_) (fun j x H' hx q => ?_) (fun H' q => ?_)
  · subst q
    exact same_tup (same_new (Same.refl H) hD) hs
  · subst q
    obtain ⟨n, hj, rfl⟩ := map_get hx
    have hm : n ∈ ns := List.mem_of_getElem? hj
    have et : ns.take (j + 1) = ns.take j ++ [n] := by rw [List.take_succ, hj]; rfl
    rw [wipe1]
    show _ ∧ _
    have es : (σ.set i none).set i (some (.int n)) = σ.set i (some (.int n)) := List.set_set _
    refine ⟨by rw [es]; exact List.set_set _, ?_⟩
    rw [es]
    refine h1 n hm D _ hD _ ?_
    cases hp : p n with
    | true =>
      rw [if_pos rfl]
      refine h2 n hm hp D _ hD _ ⟨_, upd_same, ?_, ?_⟩
      · rw [List.length_map]
        refine Nat.lt_of_le_of_lt (Nat.le_trans (List.length_filter_le _ _) ?_) hn
        rw [List.length_take]
        exact Nat.min_le_right _ _
      · rw [upd_upd, et, List.filter_append, List.map_append]
        simp [hp]
    | false =>
      rw [if_neg Bool.false_ne_true, et, List.filter_append]
      simp [hp]
  · subst q
    rw [List.length_map, List.take_length]
    exact h D hD
def Looped (nx : Int → Int) (e : Int) : Prop := nx e = ot e ∨ nx (nx e) = ot e
instance {nx : Int → Int} {e : Int} : Decidable (Looped nx e) := by unfold Looped; exact inferInstance
def wS (S : List Int) (nx : Int → Int) (e : Int) : List Int := if Looped nx e then burstLS S nx e else burstS S nx e
def wN (nx : Int → Int) (e : Int) : Int → Int := if Looped nx e then burstLN nx e else burstN nx e
def sp_l_without (G : Gx) : Sp := fun vs H Q _ => ∃ (d : Addr) (S : List Int) (nx : Int → Int) (f : Int), vs = [.ref d, .int f] ∧ H d = some (dW S nx) ∧ Web S nx ∧ 2 * f ∈ S ∧ (Looped nx (2 * f) ∨ ¬ Rim S nx (2 * f) (ot (2 * f))) ∧ S.length ≤ 90000 ∧
  ∀ (S' : List Int) p H', S'.Nodup → (∀ z, z ∈ S' ↔ z ∈ wS S nx (2 * f)) → Same H H' → Free H p → H' p = some (dW S' (wN nx (2 * f))) → Q (.ref p) H'
theorem len_l_without {G : Gx} : ∀ vs H Q E, sp_l_without G vs H Q E → vs.length = 2 := by rintro vs H Q E ⟨d, S, nx, t, rfl, _⟩; rfl
/-! _law_without: slots _law_web_here, _law_film, _law_left, _law_made, _law_at, _law_third -/
def t_l_without (G : Gx) : TS :=
  (tSeq (tAsg (tCall (sp_l_corner G) [] E0 (tCons (tVar 0) (tCons (tOp rMulI (tC (.int 2)) (tVar 1)) tNil))) (gName 2))
  (tSeq (tIfS (tTest (tOp (rIn G.K true) (tOp rAddI (tOp rMulI (tC (.int 2)) (tVar 1)) (tC (.int 1))) (tVar 2))) (tRet (tCall (sp_l_mended G) [] E0 (tCons (tCall (sp_l_mended G) [] E0 (tCons (tVar 0) (tCons (tOp rMulI (tC (.int 2)) (tVar 1)) tNil))) (tCons (tOp rAddI (tOp rMulI (tC (.int 2)) (tVar 1)) (tC (.int 1))) tNil)))) tNext)
  (tSeq (tAsg tDNewK (gName 3))
  (tSeq (tLock (tFor (iKeys (tVar 0)) (gName 4)
  (tIfS (tTest (tOp (rIn G.K true) (tVar 4) (tVar 2))) (sDPut (tVar 3) (tVar 4) (tDGet (tVar 0) (tVar 4))) tNext)))
  (tSeq (tAsg (tOp (rIxL G.K) (tLc (iTup G.K (tVar 2)) (gName 4) (tTest (tOp rNe (tOp rDivW (tVar 4) (tC (.int 2))) (tVar 1))) (tVar 4) [4]) (tC (.int 0))) (gName 5))
  (tRet (tCall (sp_l_mended G) [] E0 (tCons (tVar 3) (tCons (tCall (sp_l_other G) [] E0 (tCons (tVar 5) tNil)) tNil)))))))))
theorem nd_len_le {S T : List Int} (nd : S.Nodup) (h : ∀ z ∈ S, z ∈ T) : S.length ≤ T.length := sub_len nd h
theorem pure_l_without {G : Gx} {vs : List V} {H : Hp} {Q : VK} {E : XK} (h : sp_l_without G vs H Q E) : Body (t_l_without G) ["_law_web_here", "_law_film", "_law_left", "_law_made", "_law_at", "_law_third"] vs H Q := by
  obtain ⟨d, S, nx, f, rfl, hd, W, he, hc, hl, k⟩ := h
  show t_l_without G _ [some (.ref d), some (.int f), none, none, none, none] H
  unfold t_l_without
  have M := W.map
  have ha := M.cn _ he
  have hb := M.cn _ ha
  walk_at "go"
  refine ⟨d, S, nx, 2 * f, rfl, rd_in hd, he, ha, fun lt hlt => ?_⟩
  have s1 : Same H (upd H lt (.tup [.int (2 * f), .int (nx (2 * f)), .int (nx (nx (2 * f)))])) := by walk_at "sm"
  have e1 : upd H lt (.tup [.int (2 * f), .int (nx (2 * f)), .int (nx (nx (2 * f)))]) lt = some (.tup [.int (2 * f), .int (nx (2 * f)), .int (nx (nx (2 * f)))]) := upd_same
  have hlt0 : Free H lt := hlt
  generalize upd H lt (.tup [.int (2 * f), .int (nx (2 * f)), .int (nx (nx (2 * f)))]) = H1 at s1 e1 ⊢
  clear hlt
  have hd1 := s1 d _ hd
  walk_at "go"
  refine iteB (fun h => ?_) (fun h => ?_)
  · rw [if_pos rfl, Bool.not_eq_true'] at h
    have hno : ¬ Looped nx (2 * f) := fun z => by
      unfold Looped at z
      rw [ot_even] at z
      rw [(inV3 _ _ _ _).mpr (.inr z)] at h
      cases h
    have B := burst_web W he (fun z => hno (.inl z)) (fun z => hno (.inr z)) (hc.resolve_left hno)
    have D1 := B.D1
    have D2 := B.D2
    walk_at "go"
    refine ⟨d, S, _, nx, 2 * f, rfl, hd1, D1, hl, fun S1 p1 H2 nd1 m1 s2 f2 e2 => ?_⟩
    walk_at "go"
    rw [← ot_even]
    refine ⟨p1, S1, _, _, ot (2 * f), rfl, e2, D2.sameS nd1 m1, ?_, fun S2 p2 H3 nd2 m2 s3 f3 e3 => ?_⟩
    · have := nd_len_le (T := S) nd1 fun z hz => by
        have q := (m1 z).mp hz
        unfold m1S at q
        exact (mem_mendS.mp q).1
      omega
    · refine k S2 p2 H3 nd2 (fun z => ?_) ((s1.trans s2).trans s3) (s1.free (s2.free f3)) ?_
      · unfold wS
        rw [if_neg hno, m2]
        unfold burstS
        exact mem_m1S m1
      · unfold wN
        rw [if_neg hno]
        exact e3
  · rw [if_pos rfl, Bool.not_eq_false'] at h
    have hlo : Looped nx (2 * f) := by
      rcases (inV3 _ _ _ _).mp h with z | z | z
      · omega
      · exact .inl (by rw [z, ot_even])
      · exact .inr (by rw [z, ot_even])
    have B := burstL_web W he hlo
    walk_at "go"
    refine r_dnew (f := fun x => .int (nx x)) fun p hp => ?_
    have hp0 : Free H p := s1.free hp
    have npd : p ≠ d := fun z => by rw [z] at hp; unfold Free at hp; rw [hd1] at hp; cases hp
    have hd2 : upd H1 p (dW [] nx) d = some (dW S nx) := at_ne hd1 (Ne.symm npd)
    have ltd : lt ≠ d := ne_kind e1 hd1 (by intro z; cases z)
    walk_at "go"
    refine r_forD hd2 (fun _ _ q => ⟨_, rfl, q⟩) fun od => ?_
    have hpd : Free (upd H1 d (.frz od (dW S nx))) p := by unfold Free; rw [upd_ne npd]; exact hp
    have sm : Same (upd H1 d (.frz od (dW S nx))) (upd (upd H1 p (dW [] nx)) d (.frz od (dW S nx))) := fun b x e => by
      by_cases z : b = d
      · subst z
        rw [upd_same] at e ⊢
        exact e
      · rw [upd_ne z] at e ⊢
        exact at_new e hp
    refine ⟨fun j σ H' => ∃ (K : List Int) (o4 : Option V), σ = [some (.ref d), some (.int f), some (.ref lt), some (.ref p), o4, none] ∧ Same (upd H1 d (.frz od (dW S nx))) H' ∧ H' p = some (dW K nx) ∧ K.Nodup ∧ K.length ≤ j ∧
        ∀ z, z ∈ K ↔ ∃ i, i < j ∧ S[i]? = some z ∧ (z ≠ 2 * f ∧ z ≠ nx (2 * f) ∧ z ≠ nx (nx (2 * f))), ⟨[], _, rfl, sm, at_ne upd_same npd, .nil, Nat.zero_le _, fun z => ⟨fun h => absurd h List.not_mem_nil, fun ⟨i, h, _⟩ => absurd h (Nat.not_lt_zero _)⟩⟩, ?_, ?_, ?_⟩
    · rintro j σ H' _ ⟨K, o4, _, s2, _⟩
      exact s2 d _ upd_same
    · rintro j a σ H' hj ⟨K, o4, rfl, s2, e2, nd, kl, mem⟩
      have haS : a ∈ S := List.mem_of_getElem? hj
      have hjl : j < S.length := (List.getElem?_eq_some_iff.mp hj).1
      have hd3 : Rd H' d (dW S nx) := rd_frz (s2 d _ upd_same)
      have e3 : H' lt = some (.tup [.int (2 * f), .int (nx (2 * f)), .int (nx (nx (2 * f)))]) := s2 lt _ (at_ne e1 ltd)
      have hzK : K.length < sizeLine := size1000l (by omega)
      have old : ∀ z, (∃ i, i < j + 1 ∧ S[i]? = some z ∧ (z ≠ 2 * f ∧ z ≠ nx (2 * f) ∧ z ≠ nx (nx (2 * f)))) ↔ z ∈ K ∨ ((a ≠ 2 * f ∧ a ≠ nx (2 * f) ∧ a ≠ nx (nx (2 * f))) ∧ z = a) := fun z => by
        rw [mem]
        constructor
        · rintro ⟨i, hi, hb', c⟩
          by_cases q : i = j
          · subst q
            rw [hj] at hb'
            cases hb'
            exact .inr ⟨c, rfl⟩
          · exact .inl ⟨i, by omega, hb', c⟩
        · rintro (⟨i, hi, hb', c⟩ | ⟨c, rfl⟩)
          · exact ⟨i, by omega, hb', c⟩
          · exact ⟨j, by omega, hj, c⟩
      walk_at "go"
      refine iteB (fun h => ?_) (fun h => ?_)
      · rw [if_pos rfl, Bool.not_eq_true'] at h
        have ho : a ≠ 2 * f ∧ a ≠ nx (2 * f) ∧ a ≠ nx (nx (2 * f)) := by
          have q : ¬ (2 * f = a ∨ nx (2 * f) = a ∨ nx (nx (2 * f)) = a) := fun z => by rw [(inV3 _ _ _ _).mpr z] at h; cases h
          exact ⟨fun z => q (.inl z.symm), fun z => q (.inr (.inl z.symm)), fun z => q (.inr (.inr z.symm))⟩
        walk_at "go"
        rw [fset_id rfl]
        refine ⟨putS K a, _, rfl, same_mut s2 hpd, upd_same, nd_putS nd, by have := len_putS (S := K) (k := a); omega, fun z => ?_⟩
        rw [mem_putS, old]
        exact ⟨fun q => q.imp id fun q => ⟨ho, q⟩, fun q => q.imp id fun q => q.2⟩
      · rw [if_pos rfl, Bool.not_eq_false'] at h
        have hno : ¬ (a ≠ 2 * f ∧ a ≠ nx (2 * f) ∧ a ≠ nx (nx (2 * f))) := fun ⟨q1, q2, q3⟩ => by
          rcases (inV3 _ _ _ _).mp h with z | z | z
          · exact q1 z.symm
          · exact q2 z.symm
          · exact q3 z.symm
        walk_at "go"
        refine ⟨K, _, rfl, s2, e2, nd, by omega, fun z => ?_⟩
        rw [old]
        exact ⟨.inl, fun q => q.elim id fun q => absurd q.1 hno⟩
    · rintro σ H' ⟨K, o4, rfl, s2, e2, nd, kl, mem⟩
      have s3 : Same H1 (upd H' d (dW S nx)) := same_unlock hd1 s2
      have e4 : upd H' d (dW S nx) p = some (dW K nx) := at_ne e2 npd
      have e5 := s3 lt _ e1
      generalize upd H' d (dW S nx) = H2 at s3 e4 e5 ⊢
      have mK : ∀ z, z ∈ K ↔ z ∈ loopS S nx (2 * f) := fun z => by
        rw [mem]
        unfold loopS loopT
        rw [List.mem_filter, decide_eq_true_eq]
        have cor : (z ≠ 2 * f ∧ z ≠ nx (2 * f) ∧ z ≠ nx (nx (2 * f))) ↔ (z ≠ 2 * f ∧ z ≠ ot (2 * f) ∧ z ≠ if nx (2 * f) = ot (2 * f) then nx (nx (2 * f)) else nx (2 * f)) := by
          by_cases c : nx (2 * f) = ot (2 * f)
          · rw [if_pos c, c]
          · rw [if_neg c, hlo.resolve_left c]
            exact ⟨fun ⟨x, y, w⟩ => ⟨x, w, y⟩, fun ⟨x, y, w⟩ => ⟨x, w, y⟩⟩
        rw [← cor]
        constructor
        · rintro ⟨i, _, hi, c⟩
          exact ⟨List.mem_of_getElem? hi, c⟩
        · rintro ⟨hz, c⟩
          obtain ⟨i, hi⟩ := List.getElem?_of_mem hz
          exact ⟨i, (List.getElem?_eq_some_iff.mp hi).1, hi, c⟩
      have third : [2 * f, nx (2 * f), nx (nx (2 * f))].filter (fun x => !decide (x / 2 = f)) = [loopT nx (2 * f)] := by
        have d0 : decide (2 * f / 2 = f) = true := decide_eq_true (by omega)
        have dv : ∀ x, x ≠ 2 * f → x ≠ ot (2 * f) → decide (x / 2 = f) = false := fun x h1 h2 => decide_eq_false fun q => by rw [ot_even] at h2; omega
        have do_ : decide (ot (2 * f) / 2 = f) = true := decide_eq_true (by rw [ot_even]; omega)
        unfold loopT
        by_cases c : nx (2 * f) = ot (2 * f)
        · have d2 := dv (nx (nx (2 * f))) (M.n2 he) (by rw [← c]; exact M.n1 _ ha)
          rw [if_pos c]
          rw [c] at d2 ⊢
          simp only [List.filter_cons, List.filter_nil, d0, do_, d2]
          rfl
        · have c2 := hlo.resolve_left c
          have d1 := dv (nx (2 * f)) (M.n1 _ he) c
          rw [if_neg c, c2]
          simp only [List.filter_cons, List.filter_nil, d0, do_, d1]
          rfl
      walk_at "go"
      refine r_lcT (ns := [2 * f, nx (2 * f), nx (nx (2 * f))]) (p := fun x => !decide (x / 2 = f)) (e := V.int) (SqT.of e5) (fun _ q => ⟨_, rfl, q⟩) (by show 3 < sizeLine; decide) (fun x hx D u hD R q => ?_) (fun x hx _ D u hD Q q => ?_) (fun D hD => ?_)
      · walk_at "go"
        rw [show decide (V.int (x / 2) = V.int f) = decide (x / 2 = f) from decide_eq_decide.mpr ⟨fun h => V.int.inj h, fun h => by rw [h]⟩]
        exact q
      · walk_at "go"
        exact q
      · rw [third]
        walk_at "go"
        have e6 : upd H2 D (.lst ([loopT nx (2 * f)].map V.int)) p = some (dW K nx) := at_new e4 hD
        refine ⟨p, K, _, nx, ot (loopT nx (2 * f)), rfl, e6, B.D.sameS nd mK, by omega, fun S2 p2 H3 nd2 m2 s4 f4 e7 => ?_⟩
        have s5 := same_new (o := .lst ([loopT nx (2 * f)].map V.int)) (Same.refl H2) hD
        walk_at "go"
        refine k S2 p2 H3 nd2 (fun z => ?_) (((s1.trans s3).trans s5).trans s4) (s1.free (s3.free (s5.free f4))) ?_
        · unfold wS
          rw [if_pos hlo, m2]
          unfold burstLS
          exact mem_m1S mK
        · unfold wN
          rw [if_pos hlo]
          exact e7
/-! Wj: all rims. -/
open Classical in
noncomputable def rimL (f : Int → Int) (x : Int) : List Int := if h : ∃ n, Per f x n then rimO f x (Classical.choose h) else []
theorem rimL_eq {f : Int → Int} {x : Int} {n : Nat} (P : Per f x n) : rimL f x = rimO f x n := by
  unfold rimL
  have h : ∃ n, Per f x n := ⟨n, P⟩
  rw [dif_pos h, per_unique (Classical.choose_spec h) P]
def putL (P l : List Int) : List Int := l.foldl putS P
theorem mem_putL {l : List Int} : ∀ {P : List Int} {x : Int}, x ∈ putL P l ↔ x ∈ P ∨ x ∈ l := by
  unfold putL
  induction l with
  | nil => intro P x; simp
  | cons y r ih =>
    intro P x
    rw [List.foldl_cons, ih, mem_putS, List.mem_cons]
    exact or_assoc
theorem nd_putL {l : List Int} : ∀ {P : List Int}, P.Nodup → (putL P l).Nodup := by
  unfold putL
  induction l with
  | nil => intro P h; exact h
  | cons y r ih => intro P h; rw [List.foldl_cons]; exact ih (nd_putS h)
theorem putL_snoc {P l : List Int} {x : Int} : putL P (l ++ [x]) = putS (putL P l) x := by
  unfold putL
  rw [List.foldl_append]
  rfl
noncomputable def rimsG (f : Int → Int) : List Int → List Int → List (List Int)
  | [], _ => []
  | e :: r, P => if e ∈ P then rimsG f r P else rimL f e :: rimsG f r (putL P (rimL f e))
theorem rimsG_mem {f : Int → Int} : ∀ {es P : List Int} {l : List Int}, l ∈ rimsG f es P → ∃ e ∈ es, l = rimL f e
  | [], _, _, h => absurd h List.not_mem_nil
  | e :: r, P, l, h => by
    unfold rimsG at h
    split at h
    · obtain ⟨e', h1, h2⟩ := rimsG_mem h
      exact ⟨e', List.mem_cons_of_mem _ h1, h2⟩
    · rcases List.mem_cons.mp h with q | q
      · exact ⟨e, List.mem_cons_self, q⟩
      · obtain ⟨e', h1, h2⟩ := rimsG_mem q
        exact ⟨e', List.mem_cons_of_mem _ h1, h2⟩
theorem rimsG_ne {f : Int → Int} {e : Int} {r : List Int} : rimsG f (e :: r) [] ≠ [] := by
  unfold rimsG
  rw [if_neg List.not_mem_nil]
  exact fun h => nomatch h
structure Srt (S es : List Int) : Prop where
  perm : es.Perm S
  le : es.Pairwise (· ≤ ·)
theorem Srt.of {S S' es es' : List Int} (h : Srt S es) (h' : Srt S' es') (p : S.Perm S') : es = es' := sorted_eq ((h.perm.trans p).trans h'.perm.symm) h.le h'.le
def sp_l_rims (G : Gx) : Sp := fun vs H Q _ => ∃ (d : Addr) (S : List Int) (nx : Int → Int), vs = [.ref d] ∧ Rd H d (dW S nx) ∧ Map S ot nx ∧ S.length ≤ 100000 ∧
  ∀ (es : List Int) (as : List Addr) p H', Srt S es → Same H H' → Free H p → H' p = some (.lst (as.map V.ref)) → Refs H' as (rimsG (face ot nx) es []) → (∀ a ∈ as, Free H a ∧ a ≠ p) → as.Nodup → Q (.ref p) H'
theorem len_l_rims {G : Gx} : ∀ vs H Q E, sp_l_rims G vs H Q E → vs.length = 1 := by rintro vs H Q E ⟨d, S, nx, rfl, _⟩; rfl
/-! _law_rims: slots _law_web_here, _law_found, _law_passed, _law_end, _law_at -/
def t_l_rims (G : Gx) : TS :=
  (tSeq (tAsg (tLst tNil) (gName 1))
  (tSeq (tAsg tDNewK (gName 2))
  (tSeq (tFor (iList G.K (tCB (rSortedI G.K) (tCons (tCB rListRd (tCons (tVar 0) tNil)) tNil))) (gName 3)
  (tIfS (tB (tDNotIn (tVar 3) (tVar 2))) (tSeq (tDrop (tBM G.K "list" rAppend (tVar 1) (tCons (tCall (sp_l_rim G) [] E0 (tCons (tVar 0) (tCons (tVar 3) tNil))) tNil)))
  (tFor (iList G.K (tOp (rIxL G.K) (tVar 1) (tUn rNegI (tC (.int 1))))) (gName 4)
  (sDPut (tVar 2) (tVar 4) (tC (.bl true))))) tNext))
  (tRet (tVar 1)))))
theorem pure_l_rims {G : Gx} {vs : List V} {H : Hp} {Q : VK} {E : XK} (h : sp_l_rims G vs H Q E) : Body (t_l_rims G) ["_law_web_here", "_law_found", "_law_passed", "_law_end", "_law_at"] vs H Q := by
  obtain ⟨d, S, nx, rfl, hd, M, hl, k⟩ := h
  show t_l_rims G _ [some (.ref d), none, none, none, none] H
  unfold t_l_rims
  walk_at "go"
  refine ⟨by walk_at "sz", fun p hp => ?_⟩
  walk_at "go"
  refine r_dnew (f := fun _ => .bl true) fun q hq => ?_
  walk_at "go"
  intro l hl0
  walk_at "go"
  refine r_sorted (SqL.of upd_same) fun es lr hp1 hp2 hlr => ?_
  have hes : Srt S es := ⟨hp1, hp2⟩
  have s1 : Same H (upd (upd (upd (upd H p (.lst [])) q (dI [] fun _ => .bl true)) l (.lst (S.map V.int))) lr (.lst (es.map V.int))) := by walk_at "sm"
  have e1 : (upd (upd (upd (upd H p (.lst [])) q (dI [] fun _ => .bl true)) l (.lst (S.map V.int))) lr (.lst (es.map V.int))) p = some (.lst []) := by walk_at "hp"
  have e2 : (upd (upd (upd (upd H p (.lst [])) q (dI [] fun _ => .bl true)) l (.lst (S.map V.int))) lr (.lst (es.map V.int))) q = some (dI [] fun _ => .bl true) := by walk_at "hp"
  have e3 : (upd (upd (upd (upd H p (.lst [])) q (dI [] fun _ => .bl true)) l (.lst (S.map V.int))) lr (.lst (es.map V.int))) lr = some (.lst (es.map V.int)) := upd_same
  have hp0 : Free H p := hp
  have hq0 : Free H q := by walk_at "fr"
  have npq : p ≠ q := ne_fresh upd_same hq
  have nlp : lr ≠ p := ne_fresh' (u := .lst []) (by walk_at "hp") hlr
  have nlq : lr ≠ q := ne_fresh' (u := dI [] fun _ => .bl true) (by walk_at "hp") hlr
  generalize upd (upd (upd (upd H p (.lst [])) q (dI [] fun _ => .bl true)) l (.lst (S.map V.int))) lr (.lst (es.map V.int)) = H1 at s1 e1 e2 e3 ⊢
  clear hp hq hl0 hlr
  refine r_forI (SqL.of e3) (fun pre post σ H' => ∃ (o3 o4 : Option V) (as : List Addr) (P : List Int) (ls : List (List Int)), σ = [some (.ref d), some (.ref p), some (.ref q), o3, o4] ∧ Same H H' ∧ H' p = some (.lst (as.map V.ref)) ∧ H' q = some (dI P fun _ => .bl true) ∧ H' lr = some (.lst (es.map V.int)) ∧
      Refs H' as ls ∧ rimsG (face ot nx) es [] = ls ++ rimsG (face ot nx) post P ∧ (∀ a ∈ as, Free H a ∧ a ≠ p ∧ a ≠ q ∧ a ≠ lr) ∧ as.Nodup ∧ P.Nodup ∧ (∀ x ∈ P, x ∈ S) ∧ as.length ≤ pre.length)
    ⟨_, _, [], [], [], rfl, s1, e1, e2, e3, .nil, rfl, fun a h => absurd h List.not_mem_nil, .nil, .nil, fun a h => absurd h List.not_mem_nil, Nat.zero_le _⟩ (fun pre post σ H' _ ⟨o3, o4, as, P, ls, _, _, _, _, e, _⟩ => SqL.of e) ?_ ?_
  · rintro pre x post σ H' hes' ⟨o3, o4, as, P, ls, rfl, s2, f1, f2, f3, rf, rg, fr, nda, ndp, sub, la⟩
    have hxS : x ∈ S := hp1.subset (by rw [hes']; exact List.mem_append.mpr (.inr List.mem_cons_self))
    have hd' : Rd H' d (dW S nx) := same_rd s2 hd
    have hel : es.length = S.length := hp1.length_eq
    have hpl : pre.length < S.length := by rw [← hel, hes', List.length_append, List.length_cons]; omega
    walk_at "go"
    refine iteN (fun hn => ?_) (fun hi => ?_)
    · walk_at "go"
      refine ⟨d, S, nx, x, rfl, hd', M, hxS, hl, fun n b H2 P2 s3 fb e4 => ?_⟩
      have g1 := s3 _ _ f1
      have g2 := s3 _ _ f2
      have g3 := s3 _ _ f3
      have nbp : b ≠ p := fun z => by rw [z] at fb; unfold Free at fb; rw [f1] at fb; cases fb
      have nbq : b ≠ q := fun z => by rw [z] at fb; unfold Free at fb; rw [f2] at fb; cases fb
      have nbl : b ≠ lr := fun z => by rw [z] at fb; unfold Free at fb; rw [f3] at fb; cases fb
      have nba : b ∉ as := fun z => by
        obtain ⟨l', _, q'⟩ := rf.mem z
        unfold Free at fb
        rw [q'] at fb
        cases fb
      have fb0 : Free H b := s2.free fb
      have hnl := per_le M.perm hxS P2
      have rl := rimL_eq P2
      have rls : ∀ y ∈ rimL (face ot nx) x, y ∈ S := fun y hy => by rw [rl] at hy; exact rim_sub M.perm hxS hy
      rw [← rl] at e4
      have rll : (rimL (face ot nx) x).length ≤ S.length := by rw [rl, rimO_len]; exact hnl
      refine r_nil ?_
      refine r_app (xs := as.map V.ref) g1 (by rw [List.length_map]; exact size1000l (by omega)) ?_
      have s4 : Same H (upd H2 p (.lst (as.map V.ref ++ [.ref b]))) := same_mut (s2.trans s3) hp0
      have h1 : (upd H2 p (.lst (as.map V.ref ++ [.ref b]))) p = some (.lst ((as ++ [b]).map V.ref)) := by rw [List.map_append]; exact upd_same
      have h2 : (upd H2 p (.lst (as.map V.ref ++ [.ref b]))) q = some (dI P fun _ => .bl true) := at_ne g2 (Ne.symm npq)
      have h3 : (upd H2 p (.lst (as.map V.ref ++ [.ref b]))) lr = some (.lst (es.map V.int)) := at_ne g3 nlp
      have h4 : (upd H2 p (.lst (as.map V.ref ++ [.ref b]))) b = some (.lst ((rimL (face ot nx) x).map V.int)) := at_ne e4 nbp
      have r2 : Refs (upd H2 p (.lst (as.map V.ref ++ [.ref b]))) (as ++ [b]) (ls ++ [rimL (face ot nx) x]) := ((rf.same s3).upd fun a ha => (fr a ha).2.1).snoc h4
      have fr2 : ∀ a ∈ as ++ [b], Free H a ∧ a ≠ p ∧ a ≠ q ∧ a ≠ lr := fun a ha => by
        rcases List.mem_append.mp ha with z | z
        · exact fr a z
        · rw [List.mem_singleton.mp z]; exact ⟨fb0, nbp, nbq, nbl⟩
      generalize upd H2 p (.lst (as.map V.ref ++ [.ref b])) = H3 at s4 h1 h2 h3 h4 r2 ⊢
      walk_at "go"
      refine r_ixL (v := .ref b) (SqL.of h1) (by rw [List.map_append]; exact atI_last _ _) ?_
      refine r_forI (SqL.of h4) (fun pre2 post2 σ H' => ∃ (o4 : Option V), σ = [some (.ref d), some (.ref p), some (.ref q), some (.int x), o4] ∧ Same H H' ∧ H' p = some (.lst ((as ++ [b]).map V.ref)) ∧ H' q = some (dI (putL P pre2) fun _ => .bl true) ∧ H' lr = some (.lst (es.map V.int)) ∧
          Refs H' (as ++ [b]) (ls ++ [rimL (face ot nx) x]) ∧ H' b = some (.lst ((rimL (face ot nx) x).map V.int)))
        ⟨_, rfl, s4, h1, h2, h3, r2, h4⟩ (fun pre post σ H' _ ⟨o4, _, _, _, _, _, _, e⟩ => SqL.of e) ?_ ?_
      · rintro pre2 y post2 σ H4 e5 ⟨o4, rfl, t1, t2, t3, t4, t5, t6⟩
        have sub2 : ∀ z ∈ putL P pre2, z ∈ S := fun z hz => (mem_putL.mp hz).elim (sub z) fun h => rls z (by rw [e5]; exact List.mem_append.mpr (.inl h))
        have lz : (putL P pre2).length ≤ S.length := sub_len (nd_putL ndp) sub2
        walk_at "go"
        refine r_dputT t3 (size1000l (by omega)) ?_
        rw [← putL_snoc]
        exact ⟨_, rfl, same_mut t1 hq0, at_ne t2 npq, upd_same, at_ne t4 nlq, t5.upd fun a ha => (fr2 a ha).2.2.1, at_ne t6 nbq⟩
      · rintro σ H4 ⟨o4, rfl, t1, t2, t3, t4, t5, t6⟩
        refine ⟨_, _, as ++ [b], _, ls ++ [rimL (face ot nx) x], rfl, t1, t2, t3, t4, t5, ?_, fr2, ?_, nd_putL ndp, fun z hz => (mem_putL.mp hz).elim (sub z) (rls z), ?_⟩
        · rw [rg]
          conv => lhs; unfold rimsG
          rw [if_neg hn, List.append_assoc]
          rfl
        · refine List.nodup_append.mpr ⟨nda, List.Pairwise.cons (fun _ z => nomatch z) .nil, fun a ha c hc => ?_⟩
          rw [List.mem_singleton.mp hc]
          exact fun z => nba (z ▸ ha)
        · rw [List.length_append, List.length_append]
          simp only [List.length_singleton]
          omega
    · walk_at "go"
      refine ⟨_, _, as, P, ls, rfl, s2, f1, f2, f3, rf, ?_, fr, nda, ndp, sub, by rw [List.length_append]; omega⟩
      rw [rg]
      conv => lhs; unfold rimsG
      rw [if_pos hi]
  · rintro σ H' ⟨o3, o4, as, P, ls, rfl, s2, f1, f2, f3, rf, rg, fr, nda, ndp, sub, la⟩
    walk_at "go"
    have e9 : rimsG (face ot nx) es [] = ls := by rw [rg]; unfold rimsG; rw [List.append_nil]
    rw [← e9] at rf
    exact k es as p H' hes s2 hp0 f1 rf (fun a ha => ⟨(fr a ha).1, (fr a ha).2.1⟩) nda
/-! Wk: webs drawn. -/
theorem at_mod {l : List Int} (hne : l ≠ []) (w : Int) : ∃ y ∈ l, atI (l.map V.int) (w % ((l.map V.int).length : Int)) = some (.int y) := by
  have h0 : 0 < l.length := List.length_pos_iff.mpr hne
  rw [List.length_map]
  have h1 := Int.emod_nonneg w (show (l.length : Int) ≠ 0 by omega)
  have h2 := Int.emod_lt_of_pos w (show 0 < (l.length : Int) by omega)
  obtain ⟨j, hj⟩ := Int.eq_ofNat_of_zero_le h1
  rw [hj] at h2 ⊢
  have hjl : j < l.length := by omega
  refine ⟨l[j], List.getElem_mem hjl, atI_nat ?_⟩
  rw [List.getElem?_map, List.getElem?_eq_getElem hjl]
  rfl
theorem rimL_ne {S : List Int} {f : Int → Int} (Pm : Perm1 S f) {x : Int} (hx : x ∈ S) : rimL f x ≠ [] := by
  obtain ⟨n, _, P⟩ := per_ex Pm hx
  rw [rimL_eq P]
  exact fun z => absurd (congrArg List.length z) (by rw [rimO_len]; have := P.pos; simp; omega)
theorem rimL_sub {S : List Int} {f : Int → Int} (Pm : Perm1 S f) {x y : Int} (hx : x ∈ S) (hy : y ∈ rimL f x) : y ∈ S := by
  obtain ⟨n, _, P⟩ := per_ex Pm hx
  rw [rimL_eq P] at hy
  exact rim_sub Pm hx hy
theorem rimL_mem {S : List Int} {f : Int → Int} (Pm : Perm1 S f) {x y : Int} (hx : x ∈ S) : y ∈ rimL f x ↔ Eqv (fstep S f) x y := by
  obtain ⟨n, _, P⟩ := per_ex Pm hx
  rw [rimL_eq P]
  exact rim_mem Pm hx P
theorem r_minLen {K : PySem.W.Frag} {ta : TA} {σ : St} {H : Hp} {Q : VK} (h : ta σ H fun vs H1 => ∃ (a : Addr) (as : List Addr), vs = [.ref a] ∧ SqL K H1 a (as.map V.ref) ∧ as ≠ [] ∧ (∀ b ∈ as, ∃ xs, SqL K H1 b xs) ∧ ∀ b, b ∈ as → Q (.ref b) H1) : tMinLen K ta σ H Q := h
theorem len_blowS {S : List Int} {L : Int} : (blowS S L).length = S.length + 6 := by unfold blowS; rw [List.length_append]; rfl
structure Drawn (S : List Int) (nx : Int → Int) (f : Int) : Prop where
  web : Web S nx
  lt : ∀ x ∈ S, x < 2 * f
  len : S.length ≤ 345
  f0 : 0 ≤ f
theorem Drawn.same {S S' : List Int} {nx : Int → Int} {f : Int} (D : Drawn S nx f) (nd : S'.Nodup) (h : ∀ z, z ∈ S' ↔ z ∈ S) : Drawn S' nx f :=
  ⟨D.web.same nd h fun _ _ => rfl, fun x hx => D.lt x ((h x).mp hx), Nat.le_trans (sub_len nd fun z hz => (h z).mp hz) D.len, D.f0⟩
def sp_l_step (G : Gx) : Sp := fun vs H Q _ => ∃ (d : Addr) (S : List Int) (nx : Int → Int) (f c : Int), vs = [.ref d, .int f, .int c] ∧ H d = some (dW S nx) ∧ Drawn S nx f ∧
  ∀ (t p : Addr) (S' : List Int) (nx' : Int → Int) (f' : Int) H', Same H H' → H' t = some (.tup [.ref p, .int f']) → H' p = some (dW S' nx') → Drawn S' nx' f' → f' ≤ f + 3 → Q (.ref t) H'
theorem len_l_step {G : Gx} : ∀ vs H Q E, sp_l_step G vs H Q E → vs.length = 3 := by rintro vs H Q E ⟨d, S, nx, f, c, rfl, _⟩; rfl
/-! _law_step: slots _law_web_here, _law_first, _law_cell_here, _law_what, _law_pick, _law_walk, _law_ends, _law_end, _law_one, _law_film, _law_two -/
def t_l_step (G : Gx) : TS :=
  (tSeq (tAsg (tCall (sp_l_digits G) [] E0 (tCons (tVar 2) (tCons (tLst (tCons (tC (.int 8)) (tCons (tC (.int 4001)) (tCons (tC (.int 4003)) tNil)))) tNil))) (gUnl G.K 3 (gCons (gName 3) (gCons (gName 4) (gCons (gName 5) gNil)))))
  (tSeq (tAsg (tCB (rSortedI G.K) (tCons (tCB rListRd (tCons (tVar 0) tNil)) tNil)) (gName 6))
  (tSeq (tAsg (tOp (rIxL G.K) (tVar 6) (tOp rModI (tVar 4) (tCB (rLenSeq G.K) (tCons (tVar 6) tNil)))) (gName 7))
  (tCut (tIfS (tTest (tOp rEq (tVar 3) (tC (.int 7)))) (tSeq (tAsg (tMinLen G.K (tCons (tCall (sp_l_rims G) [] E0 (tCons (tVar 0) tNil)) tNil)) (gName 8))
  (tAsg (tOp (rIxL G.K) (tVar 8) (tOp rModI (tVar 5) (tCB (rLenSeq G.K) (tCons (tVar 8) tNil)))) (gName 7))) tNext)
  (tSeq (tAsg (tOp rDivW (tVar 7) (tC (.int 2))) (gName 9))
  (tCut (tIfS (tAnd (tTest (tOp (rIn G.K false) (tVar 3) (tTup (tCons (tC (.int 0)) (tCons (tC (.int 1)) (tCons (tC (.int 2)) (tCons (tC (.int 7)) tNil))))))) (tNot (tB (tCall (sp_l_loop G) [] E0 (tCons (tVar 0) (tCons (tVar 9) tNil)))))) (tRet (tTup (tCons (tCall (sp_l_push G) [] E0 (tCons (tVar 0) (tCons (tVar 9) (tCons (tOp rEq (tVar 3) (tC (.int 2))) tNil)))) (tCons (tVar 1) tNil)))) tNext)
  (tCut (tIfS (tAnd (tTest (tOp (rIn G.K false) (tVar 3) (tTup (tCons (tC (.int 3)) (tCons (tC (.int 6)) tNil))))) (tNot (tB (tCall (sp_l_one_bubble G) [] E0 (tCons (tVar 0) (tCons (tVar 9) tNil)))))) (tRet (tTup (tCons (tCall (sp_l_without G) [] E0 (tCons (tVar 0) (tCons (tVar 9) tNil))) (tCons (tVar 1) tNil)))) tNext)
  (tCut (tIfS (tAnd (tTest (tOp rEq (tVar 3) (tC (.int 4)))) (tTest (tOp rLtI (tCB rLenD (tCons (tVar 0) tNil)) (tC (.int 340))))) (tRet (tTup (tCons (tCall (sp_l_blow G) [] E0 (tCons (tVar 0) (tCons (tVar 7) (tCons (tVar 1) tNil)))) (tCons (tOp rAddI (tVar 1) (tC (.int 3))) tNil)))) tNext)
  (tCut (tIfS (tAnd (tTest (tOp rEq (tVar 3) (tC (.int 5)))) (tTest (tOp rLtI (tCB rLenD (tCons (tVar 0) tNil)) (tC (.int 340))))) (tSeq (tAsg (tCall (sp_l_rim G) [] E0 (tCons (tVar 0) (tCons (tVar 7) tNil))) (gName 8))
  (tSeq (tAsg (tOp (rIxL G.K) (tVar 8) (tOp rModI (tVar 5) (tCB (rLenSeq G.K) (tCons (tVar 8) tNil)))) (gName 10))
  (tIfS (tTest (tOp rNe (tOp rDivW (tVar 10) (tC (.int 2))) (tVar 9))) (tRet (tTup (tCons (tCall (sp_l_part G) [] E0 (tCons (tVar 0) (tCons (tVar 7) (tCons (tVar 10) (tCons (tVar 1) tNil))))) (tCons (tOp rAddI (tVar 1) (tC (.int 3))) tNil)))) tNext))) tNext)
  (tRet (tTup (tCons (tVar 0) (tCons (tVar 1) tNil)))))))))))))
theorem pure_l_step {G : Gx} {vs : List V} {H : Hp} {Q : VK} {E : XK} (h : sp_l_step G vs H Q E) : Body (t_l_step G) ["_law_web_here", "_law_first", "_law_cell_here", "_law_what", "_law_pick", "_law_walk", "_law_ends", "_law_end", "_law_one", "_law_film", "_law_two"] vs H Q := by
  obtain ⟨d, S, nx, f, c, rfl, hd, D, k⟩ := h
  show t_l_step G _ [some (.ref d), some (.int f), some (.int c), none, none, none, none, none, none, none, none] H
  unfold t_l_step
  have W := D.web
  have M := W.map
  have hl : S.length ≤ 100000 := by have := D.len; omega
  have f0 := D.f0
  have hl9 : S.length ≤ 90000 := by have := D.len; omega
  walk_at "go"
  refine ⟨by walk_at "sz", fun p hp => ?_⟩
  walk_at "go"
  refine c_digits3 (by walk_at "sq") (by decide) (by decide) (by decide) (fun d0 d1 d2 q H1 ed a0 b0 a1 b1 a2 b2 s1 hq e1 => ?_)
  refine g_unl (SqL.of e1) rfl ?_
  have s2 : Same H H1 := same_tr s1 (same_new (Same.refl H) hp)
  clear e1 hq ed s1 hp
  walk_at "go"
  intro l hl0
  walk_at "go"
  refine r_sorted (SqL.of upd_same) fun es lr hp1 hp2 hlr => ?_
  have nes : es ≠ [] := fun z => W.ne (by rw [z] at hp1; exact List.nil_perm.mp hp1)
  walk_at "go"
  obtain ⟨y0, hy0, at0⟩ := at_mod nes d1
  have y0S := hp1.subset hy0
  refine r_I (by show (0 : Int) < _; rw [List.length_map]; have := List.length_pos_iff.mpr nes; omega) ?_
  refine r_ixL (SqL.of upd_same) at0 ?_
  have s3 : Same H (upd (upd H1 l (.lst (S.map V.int))) lr (.lst (es.map V.int))) := by walk_at "sm"
  generalize upd (upd H1 l (.lst (S.map V.int))) lr (.lst (es.map V.int)) = H2 at s3 ⊢
  clear hl0 hlr s2
  refine r_cut (fun σ H' => ∃ (o8 : Option V) (e : Int), σ = [some (.ref d), some (.int f), some (.int c), some (.int d0), some (.int d1), some (.int d2), some (.ref lr), some (.int e), o8, none, none] ∧ e ∈ S ∧ Same H H') ?_ ?_
  · walk_at "go"
    refine iteI (fun h => ?_) (fun h => ?_)
    · walk_at "go"
      refine r_minLen ?_
      walk_at "go"
      refine ⟨d, S, nx, rfl, rd_in (s3 d _ hd), M, hl, fun es2 as p2 H3 he2 s4 f4 e4 rf fr nda => ?_⟩
      have ne2 : es2 ≠ [] := fun z => W.ne (by have := he2.perm; rw [z] at this; exact List.nil_perm.mp this)
      have nas : as ≠ [] := fun z => by
        have q1 := rf.len
        obtain ⟨x, r, rfl⟩ := List.exists_cons_of_ne_nil ne2
        rw [z] at q1
        exact rimsG_ne (List.length_eq_zero_iff.mp q1.symm)
      refine r_nil ?_
      refine ⟨p2, as, rfl, SqL.of e4, nas, fun b hb => ?_, fun b hb => ?_⟩
      · obtain ⟨l', _, q⟩ := rf.mem hb
        exact ⟨_, SqL.of q⟩
      · obtain ⟨l', hl', q⟩ := rf.mem hb
        obtain ⟨x, hx, rfl⟩ := rimsG_mem hl'
        have hxS := he2.perm.subset hx
        obtain ⟨y, hy, at1⟩ := at_mod (rimL_ne M.perm hxS) d2
        walk_at "go"
        refine r_I (by show (0 : Int) < _; rw [List.length_map]; have := List.length_pos_iff.mpr (rimL_ne M.perm hxS); omega) ?_
        refine r_ixL (SqL.of q) at1 ?_
        walk_at "go"
        exact ⟨_, _, rfl, rimL_sub M.perm hxS hy, s3.trans s4⟩
    · walk_at "go"
      exact ⟨_, _, rfl, y0S, s3⟩
  rintro σ H3 ⟨o8, e, rfl, heS, s4⟩
  clear s3 hy0 at0 y0S
  have he2 : 2 * (e / 2) ∈ S := by
    rcases ot_or (x := 2 * (e / 2)) (y := e) (by omega) with q | q
    · rw [q]; exact heS
    · rw [q]; exact M.ca e heS
  walk_at "go"
  refine r_cut (fun σ H' => σ = [some (.ref d), some (.int f), some (.int c), some (.int d0), some (.int d1), some (.int d2), some (.ref lr), some (.int e), o8, some (.int (e / 2)), none] ∧ Same H H') ?_ ?_
  · walk_at "go"
    refine ⟨by walk_at "sz", fun t ht => ?_⟩
    walk_at "go"
    refine iteB (fun h => ?_) (fun h => ?_)
    · walk_at "go"
      refine ⟨d, S, nx, e / 2, rfl, rd_in (at_new (s4 d _ hd) ht), he2, M.cn _ he2, fun b H4 hb s5 => ?_⟩
      have s6 : Same H H4 := same_tr s5 (same_new s4 ht)
      walk_at "go"
      refine iteNB (fun hb0 => ?_) (fun hb1 => ?_)
      · have nl : ¬ (nx (2 * (e / 2)) = ot (2 * (e / 2)) ∨ nx (nx (2 * (e / 2))) = ot (2 * (e / 2))) := fun z => by rw [hb.mpr z] at hb0; cases hb0
        walk_at "go"
        refine ⟨d, S, nx, e / 2, _, rfl, rd_in (s6 d _ hd), M, he2, hl9, fun p5 H5 s7 f7 e7 => ?_⟩
        walk_at "go"
        refine ⟨by walk_at "sz", fun t2 ht2 => ?_⟩
        refine k t2 p5 S _ f _ (by walk_at "sm") upd_same (at_new e7 ht2) ⟨?_, D.lt, D.len, f0⟩ (by omega)
        unfold pushB
        split
        · exact pull_web W he2 (fun z => nl (.inl z)) (fun z => nl (.inr z))
        · exact push_web W he2 (fun z => nl (.inl z)) (fun z => nl (.inr z))
      · walk_at "go"
        exact ⟨rfl, s6⟩
    · walk_at "go"
      exact ⟨rfl, same_new s4 ht⟩
  rintro σ H4 ⟨rfl, s5⟩
  refine r_cut (fun σ H' => σ = [some (.ref d), some (.int f), some (.int c), some (.int d0), some (.int d1), some (.int d2), some (.ref lr), some (.int e), o8, some (.int (e / 2)), none] ∧ Same H H') ?_ ?_
  · walk_at "go"
    refine ⟨by walk_at "sz", fun t ht => ?_⟩
    walk_at "go"
    refine iteB (fun h => ?_) (fun h => ?_)
    · walk_at "go"
      refine ⟨d, S, nx, e / 2, rfl, rd_in (at_new (s5 d _ hd) ht), M, he2, hl, fun b H5 hb s6 => ?_⟩
      have s7 : Same H H5 := same_tr s6 (same_new s5 ht)
      walk_at "go"
      refine iteNB (fun hb0 => ?_) (fun hb1 => ?_)
      · have nr : ¬ Rim S nx (2 * (e / 2)) (ot (2 * (e / 2))) := fun z => by rw [hb.mpr z] at hb0; cases hb0
        walk_at "go"
        refine ⟨d, S, nx, e / 2, rfl, s7 d _ hd, W, he2, .inr nr, hl9, fun S5 p5 H6 nd5 m5 s8 f8 e8 => ?_⟩
        walk_at "go"
        refine ⟨by walk_at "sz", fun t2 ht2 => ?_⟩
        have DD : Drawn (wS S nx (2 * (e / 2))) (wN nx (2 * (e / 2))) f := by
          unfold wS wN
          by_cases hlo : Looped nx (2 * (e / 2))
          · rw [if_pos hlo, if_pos hlo]
            have B := burstL_web W he2 hlo
            refine ⟨B.web, fun x hx => ?_, by have := B.len; have := D.len; omega, f0⟩
            unfold burstLS m1S at hx
            have q := (mem_mendS.mp hx).1
            unfold loopS at q
            exact D.lt x (List.mem_filter.mp q).1
          · rw [if_neg hlo, if_neg hlo]
            have B := burst_web W he2 (fun z => hlo (.inl z)) (fun z => hlo (.inr z)) nr
            refine ⟨B.web, fun x hx => ?_, by have := B.len; have := D.len; omega, f0⟩
            unfold burstS m1S at hx
            exact D.lt x (mem_mendS.mp (mem_mendS.mp hx).1).1
        exact k t2 p5 S5 _ f _ (by walk_at "sm") upd_same (at_new e8 ht2) (DD.same nd5 m5) (by omega)
      · walk_at "go"
        exact ⟨rfl, s7⟩
    · walk_at "go"
      exact ⟨rfl, same_new s5 ht⟩
  clear s4 s5
  rintro σ H4 ⟨rfl, s5⟩
  have hd4 := s5 d _ hd
  refine r_cut (fun σ H' => σ = [some (.ref d), some (.int f), some (.int c), some (.int d0), some (.int d1), some (.int d2), some (.ref lr), some (.int e), o8, some (.int (e / 2)), none] ∧ Same H H') ?_ ?_
  · walk_at "go"
    refine iteI (fun h => ?_) (fun h => ?_)
    · walk_at "go"
      refine iteD (fun h => ?_) (fun h => ?_)
      · walk_at "go"
        refine ⟨d, S, nx, e, f, rfl, rd_in hd4, M, heS, D.lt, hl9, fun p5 H6 s8 f8 e8 => ?_⟩
        walk_at "go"
        refine ⟨by walk_at "sz", fun t2 ht2 => ?_⟩
        obtain ⟨B1, B2⟩ := blow_web W heS D.lt (by omega) (by omega)
        refine k t2 p5 _ _ (f + 3) _ (by walk_at "sm") upd_same (at_new e8 ht2) ⟨B1, fun x hx => ?_, by omega, by omega⟩ (by omega)
        rcases mem_blowS.mp hx with q | q
        · have := D.lt x q; omega
        · unfold New6 at q; omega
      · walk_at "go"
        exact ⟨rfl, s5⟩
    · walk_at "go"
      exact ⟨rfl, s5⟩
  clear s5 hd4
  rintro σ H4 ⟨rfl, s5⟩
  have hd4 := s5 d _ hd
  refine r_cut (fun σ H' => ∃ o8 o10, σ = [some (.ref d), some (.int f), some (.int c), some (.int d0), some (.int d1), some (.int d2), some (.ref lr), some (.int e), o8, some (.int (e / 2)), o10] ∧ Same H H') ?_ ?_
  · walk_at "go"
    refine iteI (fun h => ?_) (fun h => ?_)
    · walk_at "go"
      refine iteD (fun h => ?_) (fun h => ?_)
      · walk_at "go"
        refine ⟨d, S, nx, e, rfl, rd_in hd4, M, heS, hl, fun n p5 H6 P s8 f8 e8 => ?_⟩
        rw [← rimL_eq P] at e8
        obtain ⟨y, hy, at1⟩ := at_mod (rimL_ne M.perm heS) d2
        have yS := rimL_sub M.perm heS hy
        walk_at "go"
        refine r_I (by show (0 : Int) < _; rw [List.length_map]; have := List.length_pos_iff.mpr (rimL_ne M.perm heS); omega) ?_
        refine r_ixL (SqL.of e8) at1 ?_
        walk_at "go"
        refine iteNI (fun h => ?_) (fun h => ?_)
        · walk_at "go"
          refine ⟨d, S, nx, e, y, f, rfl, rd_in (s8 d _ hd4), M, heS, yS, fun z => h z.symm, D.lt, hl9, fun S5 p6 H7 nd5 m5 s9 f9 e9 => ?_⟩
          walk_at "go"
          refine ⟨by walk_at "sz", fun t2 ht2 => ?_⟩
          obtain ⟨B1, B2⟩ := part_web W heS yS (fun z => h z.symm) ((rimL_mem M.perm heS).mp hy) D.lt (by omega) (by omega)
          have DD : Drawn (blowS S (2 * f)) (partF nx e y (2 * f)) (f + 3) := ⟨B1, fun x hx => by
            rcases mem_blowS.mp hx with q | q
            · have := D.lt x q; omega
            · unfold New6 at q; omega, by rw [len_blowS]; omega, by omega⟩
          exact k t2 p6 _ _ (f + 3) _ (by walk_at "sm") upd_same (at_new e9 ht2) (DD.same nd5 m5) (by omega)
        · walk_at "go"
          exact ⟨_, _, rfl, s5.trans s8⟩
      · walk_at "go"
        exact ⟨_, _, rfl, s5⟩
    · walk_at "go"
      exact ⟨_, _, rfl, s5⟩
  clear s5 hd4
  rintro σ H4 ⟨o8, o10, rfl, s5⟩
  walk_at "go"
  refine ⟨by walk_at "sz", fun t2 ht2 => ?_⟩
  exact k t2 d S nx f _ (by walk_at "sm") upd_same (at_new (s5 d _ hd) ht2) D (by omega)
/-! Iso: a web with other numbers. -/
structure Iso (S : List Int) (nx : Int → Int) (S' : List Int) (nx' : Int → Int) (g h : Int → Int) : Prop where
  gm : ∀ x ∈ S, g x ∈ S'
  hm : ∀ y ∈ S', h y ∈ S
  hg : ∀ x ∈ S, h (g x) = x
  gh : ∀ y ∈ S', g (h y) = y
  go : ∀ x ∈ S, g (ot x) = ot (g x)
  gn : ∀ x ∈ S, g (nx x) = nx' (g x)
section
variable {S S' : List Int} {nx nx' g h : Int → Int}
theorem Iso.symm (I : Iso S nx S' nx' g h) (M : Map S ot nx) : Iso S' nx' S nx h g :=
  ⟨I.hm, I.gm, I.gh, I.hg, fun y hy => by
    have e := I.go (h y) (I.hm y hy)
    rw [I.gh y hy] at e
    rw [← e, I.hg _ (M.ca _ (I.hm y hy))], fun y hy => by
    have e := I.gn (h y) (I.hm y hy)
    rw [I.gh y hy] at e
    rw [← e, I.hg _ (M.cn _ (I.hm y hy))]⟩
theorem Iso.map (I : Iso S nx S' nx' g h) (M : Map S ot nx) (nd : S'.Nodup) : Map S' ot nx' := by
  have J := I.symm M
  have ca : ∀ y ∈ S', ot y ∈ S' := fun y hy => by
    have e := I.go (h y) (I.hm y hy)
    rw [I.gh y hy] at e
    rw [← e]
    exact I.gm _ (M.ca _ (I.hm y hy))
  have ev : ∀ y ∈ S', nx' y = g (nx (h y)) := fun y hy => by
    have e := I.gn (h y) (I.hm y hy)
    rw [I.gh y hy] at e
    exact e.symm
  have cn : ∀ y ∈ S', nx' y ∈ S' := fun y hy => by
    rw [ev y hy]
    exact I.gm _ (M.cn _ (I.hm y hy))
  refine ⟨nd, ca, cn, fun y _ => ot_ot y, fun y hy => ?_, fun y hy z => ?_⟩
  · have hS := I.hm y hy
    rw [ev y hy, ← I.gn _ (M.cn _ hS), ← I.gn _ (M.cn _ (M.cn _ hS)), M.n3 _ hS, I.gh y hy]
  · rw [ev y hy] at z
    have q := congrArg h z
    rw [I.hg _ (M.cn _ (I.hm y hy))] at q
    exact M.n1 _ (I.hm y hy) q
theorem Iso.face (I : Iso S nx S' nx' g h) (M : Map S ot nx) {x : Int} (hx : x ∈ S) : g (face ot nx x) = face ot nx' (g x) := by
  show g (nx (ot x)) = nx' (ot (g x))
  rw [I.gn _ (M.ca x hx), I.go x hx]
theorem Iso.web (I : Iso S nx S' nx' g h) (W : Web S nx) (nd : S'.Nodup) (pos : ∀ y ∈ S', 0 ≤ y) (len : S'.length = S.length) : Web S' nx' := by
  have M := W.map
  have M' := I.map M nd
  have J := I.symm M
  obtain ⟨n, cl, e6⟩ := W.eul
  refine ⟨M', fun z => ?_, fun x hx y hy => ?_, ⟨n, ?_, by rw [len]; exact e6⟩, pos⟩
  · rw [z] at len
    exact W.ne (List.length_eq_zero_iff.mp len.symm)
  · have c := W.conn _ (I.hm x hx) _ (I.hm y hy)
    have c' : Eqv (cs S' ot nx') (g (h x)) (g (h y)) := Eqv.map (f := g) (fun u v ⟨hu, e⟩ => by
      rcases e with e | e
      · exact .step ⟨I.gm u hu, .inl (by rw [e, I.go u hu])⟩
      · exact .step ⟨I.gm u hu, .inr (by rw [e, I.gn u hu])⟩) c
    rw [I.gh x hx, I.gh y hy] at c'
    exact c'
  · exact cls_maps g h (fun x y ⟨hx, e⟩ => .step ⟨I.gm x hx, by rw [e, I.face M hx]⟩) (fun x y ⟨hx, e⟩ => .step ⟨I.hm x hx, by rw [e, J.face M' hx]⟩) I.gm I.hm (fun x hx => by rw [I.gh x hx]; exact .refl _) (fun x hx => by rw [I.hg x hx]; exact .refl _) cl
end
/-! ### the product by a prime -/
local macro_rules | `(tactic| walk_at "st") => `(tactic| first
  | with_reducible refine r_sl ?_
  | with_reducible refine r_noPart ?_
  | with_reducible refine r_part ?_
  | with_reducible refine r_partI ?_
  | with_reducible refine r_revS ?_
  | ((with_reducible refine r_rev (ns := ?ns) ?hs ?_); (case hs => walk_at "sq"))
  | ((with_reducible refine r_slL (ns := ?ns) ?hs ?_); (case hs => walk_at "sq")))
/-! Wl: drawn webs. -/
/-! _law_web: slots _law_script, _law_most, _law_rows, _law_cols, _law_big, _law_web_here, _law_first, _law_cell_here -/
/-! ### renumbered -/
/-! _law_renumbered: slots _law_web_here, _law_cell_here, _law_kind, _law_by, _law_turn, _law_goal, _law_end, _law_new, _law_made -/
/-! ### drawn -/
/-! _law_drawn_web: slots _law_script, _law_most -/
/-! Wm: corners. -/
inductive RefO (H : Hp) : List Addr → List HO → Prop
  | nil : RefO H [] []
  | cons {a : Addr} {o : HO} {as : List Addr} {os : List HO} (h : H a = some o) (r : RefO H as os) : RefO H (a :: as) (o :: os)
section
variable {H H' : Hp} {as : List Addr} {os : List HO} {p : Addr} {o : HO}
theorem RefO.imp (h : RefO H as os) (k : ∀ a ∈ as, ∀ u, H a = some u → H' a = some u) : RefO H' as os := by
  induction h with
  | nil => exact .nil
  | cons h r ih => exact .cons (k _ List.mem_cons_self _ h) (ih fun a ha => k a (List.mem_cons_of_mem _ ha))
theorem RefO.same (h : RefO H as os) (s : Same H H') : RefO H' as os := h.imp fun a _ u e => s a u e
theorem RefO.upd (h : RefO H as os) (k : ∀ a ∈ as, a ≠ p) : RefO (upd H p o) as os := h.imp fun a ha u e => at_ne e (k a ha)
theorem RefO.len (h : RefO H as os) : as.length = os.length := by
  induction h with
  | nil => rfl
  | cons h r ih => rw [List.length_cons, List.length_cons, ih]
theorem RefO.snoc {a : Addr} (h : RefO H as os) (e : H a = some o) : RefO H (as ++ [a]) (os ++ [o]) := by
  induction h with
  | nil => exact .cons e .nil
  | cons h r ih => exact .cons h ih
theorem RefO.get (h : RefO H as os) {i : Nat} {a : Addr} (e : as[i]? = some a) : ∃ o, os[i]? = some o ∧ H a = some o := by
  induction h generalizing i with
  | nil => cases e
  | cons h r ih =>
    cases i with
    | zero => cases e; exact ⟨_, rfl, h⟩
    | succ i => exact ih e
end
/-! ### a comprehension over two lists of refs, side by side, each turn a True -/
/-! ### other -/
def sp_p_other (G : Gx) : Sp := sp_l_other G
theorem len_p_other {G : Gx} : ∀ vs H Q E, sp_p_other G vs H Q E → vs.length = 1 := len_l_other
/-! other: slots end -/
def t_p_other (G : Gx) : TS :=
  (tRet (tOp rSubI (tOp rAddI (tVar 0) (tC (.int 1))) (tOp rMulI (tC (.int 2)) (tOp rModI (tVar 0) (tC (.int 2))))))
theorem pure_p_other {G : Gx} {vs : List V} {H : Hp} {Q : VK} {E : XK} (h : sp_p_other G vs H Q E) : Body (t_p_other G) ["end"] vs H Q := by
  obtain ⟨e, rfl, k⟩ := h
  show t_p_other G _ [some (.int e)] H
  unfold t_p_other
  walk_at "go"
  rw [show e + 1 - 2 * (e % 2) = ot e by unfold ot; split <;> omega]
  exact k
theorem c_otherP {G : Gx} {e : Int} {H : Hp} {Q : VK} {E : XK} (h : Q (.int (ot e)) H) : sp_p_other G [.int e] H Q E := ⟨e, rfl, h⟩
local macro_rules | `(tactic| walk_at "st") => `(tactic| first
  | with_reducible refine c_otherP ?_
  | with_reducible refine r_raise ?_
  | with_reducible refine r_callS ?_)
/-! ### corner -/
def tup3 (nx : Int → Int) (e : Int) : HO := .tup [.int e, .int (nx e), .int (nx (nx e))]
def sp_p_corner (G : Gx) : Sp := fun vs H Q E => ∃ (d : Addr) (S : List Int) (nx : Int → Int) (e : Int), vs = [.ref d, .int e] ∧ Rd H d (dW S nx) ∧ (∀ x ∈ S, nx x ∈ S) ∧ (e ∈ S → ∀ t, Free H t → Q (.ref t) (upd H t (tup3 nx e))) ∧ (e ∉ S → E (.ref (G.ad "NoEnd")) none H)
theorem len_p_corner {G : Gx} : ∀ vs H Q E, sp_p_corner G vs H Q E → vs.length = 2 := by rintro vs H Q E ⟨d, S, nx, e, rfl, _⟩; rfl
/-! corner: slots web, end -/
def t_p_corner (G : Gx) (E : XK) : TS :=
  (tSeq (tIfS (tB (tDNotIn (tVar 1) (tVar 0))) (tRaise E (G.ad "NoEnd")) tNext)
  (tRet (tTup (tCons (tVar 1) (tCons (tDGet (tVar 0) (tVar 1)) (tCons (tDGet (tVar 0) (tDGet (tVar 0) (tVar 1))) tNil))))))
theorem pure_p_corner {G : Gx} {vs : List V} {H : Hp} {Q : VK} {E : XK} (h : sp_p_corner G vs H Q E) : Body (t_p_corner G E) ["web", "end"] vs H Q := by
  obtain ⟨d, S, nx, e, rfl, hd, cn, k1, k2⟩ := h
  show t_p_corner G E _ [some (.ref d), some (.int e)] H
  unfold t_p_corner
  walk_at "go"
  refine iteN (fun hn => ?_) (fun hi => ?_)
  · walk_at "go"
    exact k2 hn
  · have hn := cn e hi
    walk_at "go"
    exact ⟨by walk_at "sz", k1 hi⟩
/-! ### corners -/
/-! corners: slots web, found, end, one -/
/-! _law_corners: slots _law_web_here, _law_found, _law_end, _law_one -/
/-! ### is_corner, are_corners -/
/-! _law_is_corner: slots _law_found, _law_due, _law_end -/
/-! _law_are_corners: slots _law_found, _law_due, _law_one, _law_two -/
/-! ### turned dict, free -/
/-! _law_turned_dict: slots _law_web_here, _law_made, _law_end -/
/-! _law_free: slots _law_web_here -/
/-! Wn: the program's rims. -/
def sp_p_rim (G : Gx) : Sp := fun vs H Q E => ∃ (d : Addr) (S : List Int) (nx : Int → Int) (e : Int), vs = [.ref d, .int e] ∧ Rd H d (dW S nx) ∧ Map S ot nx ∧ S.length ≤ 100000 ∧
  (e ∈ S → ∀ p H', Same H H' → Free H p → H' p = some (.lst ((rimL (face ot nx) e).map V.int)) → Q (.ref p) H') ∧ (e ∉ S → E (.ref (G.ad "NoEnd")) none H)
theorem len_p_rim {G : Gx} : ∀ vs H Q E, sp_p_rim G vs H Q E → vs.length = 2 := by rintro vs H Q E ⟨d, S, nx, e, rfl, _⟩; rfl
/-! rim: slots web, end, found, at -/
def t_p_rim (G : Gx) (E : XK) : TS :=
  (tSeq (tIfS (tB (tDNotIn (tVar 1) (tVar 0))) (tRaise E (G.ad "NoEnd")) tNext)
  (tSeq (tAsg (tLst (tCons (tVar 1) tNil)) (gName 2))
  (tSeq (tAsg (tDGet (tVar 0) (tCall (sp_p_other G) [] E0 (tCons (tVar 1) tNil))) (gName 3))
  (tSeq (tWhile (tTest (tOp rNe (tVar 3) (tVar 1))) (tSeq (tDrop (tBM G.K "list" rAppend (tVar 2) (tCons (tVar 3) tNil)))
  (tAsg (tDGet (tVar 0) (tCall (sp_p_other G) [] E0 (tCons (tVar 3) tNil))) (gName 3))))
  (tRet (tVar 2))))))
theorem pure_p_rim {G : Gx} {vs : List V} {H : Hp} {Q : VK} {E : XK} (h : sp_p_rim G vs H Q E) : Body (t_p_rim G E) ["web", "end", "found", "at"] vs H Q := by
  obtain ⟨d, S, nx, e, rfl, hd, M, hl, k1, k2⟩ := h
  show t_p_rim G E _ [some (.ref d), some (.int e), none, none] H
  unfold t_p_rim
  walk_at "go"
  refine iteN (fun hn => ?_) (fun he => ?_)
  · walk_at "go"
    exact k2 hn
  obtain ⟨n, hn, P⟩ := per_ex M.perm he
  have hot := M.ca e he
  walk_at "go"
  refine ⟨by walk_at "sz", fun p hp => ?_⟩
  walk_at "go"
  refine r_whileG (α := Nat) (fun i σ H' => σ = [some (.ref d), some (.int e), some (.ref p), some (.int (iter (face ot nx) (i + 1) e))] ∧ Same H H' ∧ H' p = some (.lst ((rimO (face ot nx) e (i + 1)).map V.int)) ∧ i < n)
    (fun i => n - i) 0 ⟨rfl, by walk_at "sm", upd_same, P.pos⟩ ?_
  rintro i σ H1 ⟨rfl, s1, e1, hin⟩
  have hd1 : Rd H1 d (dW S nx) := same_rd s1 hd
  have hm := iter_mem M.perm he (i + 1)
  have hm' := M.ca _ hm
  have sz : ((rimO (face ot nx) e (i + 1)).map V.int).length < sizeLine := by rw [List.length_map, rimO_len]; exact size1000l (by omega)
  walk_at "go"
  refine iteNI (fun h => ?_) (fun h => ?_)
  · refine r_wG ?_
    walk_at "go"
    refine r_app e1 sz ?_
    have hd2 : Rd (upd H1 p (.lst ((rimO (face ot nx) e (i + 1)).map V.int ++ [.int (iter (face ot nx) (i + 1) e)]))) d (dW S nx) := same_rd (same_mut s1 hp) hd
    walk_at "go"
    refine ⟨i + 1, ⟨rfl, same_mut s1 hp, by rw [rimO_succ (n := i + 1), List.map_append]; exact upd_same, ?_⟩, by omega⟩
    rcases Nat.lt_or_ge (i + 1) n with q | q
    · exact q
    · exact absurd (show iter (face ot nx) (i + 1) e = e by rw [show i + 1 = n by omega]; exact P.ret) h
  · have en : n = i + 1 := by
      rcases Nat.lt_or_ge (i + 1) n with q | q
      · exact absurd h (P.first (i + 1) (Nat.succ_pos _) q)
      · omega
    walk_at "go"
    rw [← en, ← rimL_eq P] at e1
    exact k1 he p _ s1 hp e1
/-! rims: slots web, found, passed, end, one, at -/
/-! ### are_ends, are_rims -/
/-! _law_are_ends: slots _law_found, _law_due, _law_end -/
/-! _law_are_rims: slots _law_found, _law_due, _law_one, _law_two -/
/-! Wq: the program's deeds at a web. -/
theorem two_ot {S : List Int} {nx : Int → Int} (M : Map S ot nx) {f : Int} (h : 2 * f ∈ S) : 2 * f + 1 ∈ S := by
  have := M.ca _ h
  rwa [ot_even] at this
theorem r_lcOT {K : PySem.W.Frag} {σ : St} {H : Hp} {Q : VK} {tl : TE} {g : TG} {tt : TT} {te : TE} {vs : List Nat} (h : tl σ H fun x H1 => tLc (iTup K (tC x)) g tt te vs σ H1 Q) : tLc (iTup K tl) g tt te vs σ H Q := h
def sp_p_looped (G : Gx) : Sp := fun vs H Q _ => ∃ (d : Addr) (S : List Int) (nx : Int → Int) (f : Int), vs = [.ref d, .int f] ∧ Rd H d (dW S nx) ∧ (∀ x ∈ S, nx x ∈ S) ∧ 2 * f ∈ S ∧ ∀ (b : Bool) H', (b = true ↔ Looped nx (2 * f)) → Same H H' → Q (.bl b) H'
theorem len_p_looped {G : Gx} : ∀ vs H Q E, sp_p_looped G vs H Q E → vs.length = 2 := by rintro vs H Q E ⟨d, S, nx, e, rfl, _⟩; rfl
/-! looped: slots web, film -/
def t_p_looped (G : Gx) : TS :=
  (tRet (tOp (rIn G.K false) (tOp rAddI (tOp rMulI (tC (.int 2)) (tVar 1)) (tC (.int 1))) (tCall (sp_p_corner G) [] E0 (tCons (tVar 0) (tCons (tOp rMulI (tC (.int 2)) (tVar 1)) tNil)))))
theorem pure_p_looped {G : Gx} {vs : List V} {H : Hp} {Q : VK} {E : XK} (h : sp_p_looped G vs H Q E) : Body (t_p_looped G) ["web", "film"] vs H Q := by
  obtain ⟨d, S, nx, f, rfl, hd, cn, he, k⟩ := h
  show t_p_looped G _ [some (.ref d), some (.int f)] H
  unfold t_p_looped
  walk_at "go"
  refine ⟨d, S, nx, 2 * f, rfl, hd, cn, fun _ t ht => ?_, fun z => absurd he z⟩
  refine r_inT (SqT.of (xs := [.int (2 * f), .int (nx (2 * f)), .int (nx (nx (2 * f)))]) upd_same) rfl rfl ?_
  refine k _ _ ?_ (by walk_at "sm")
  rw [if_neg Bool.false_ne_true, inV3]
  unfold Looped
  rw [ot_even]
  constructor
  · rintro (h | h | h)
    · omega
    · exact .inl h
    · exact .inr h
  · rintro (h | h)
    · exact .inr (.inl h)
    · exact .inr (.inr h)
def sp_p_film_there (G : Gx) : Sp := fun vs H Q E => ∃ (d : Addr) (S : List Int) (nx : Int → Int) (f : Int), vs = [.ref d, .int f] ∧ Rd H d (dW S nx) ∧ (2 * f ∈ S → Q .non H) ∧ (2 * f ∉ S → E (.ref (G.ad "NoFilm")) none H)
theorem len_p_film_there {G : Gx} : ∀ vs H Q E, sp_p_film_there G vs H Q E → vs.length = 2 := by rintro vs H Q E ⟨d, S, nx, e, rfl, _⟩; rfl
/-! film_there: slots web, film -/
def t_p_film_there (G : Gx) (E : XK) : TS :=
  (tIfS (tB (tDNotIn (tOp rMulI (tC (.int 2)) (tVar 1)) (tVar 0))) (tRaise E (G.ad "NoFilm")) tNext)
theorem pure_p_film_there {G : Gx} {vs : List V} {H : Hp} {Q : VK} {E : XK} (h : sp_p_film_there G vs H Q E) : Body (t_p_film_there G E) ["web", "film"] vs H Q := by
  obtain ⟨d, S, nx, f, rfl, hd, k1, k2⟩ := h
  show t_p_film_there G E _ [some (.ref d), some (.int f)] H
  unfold t_p_film_there
  walk_at "go"
  refine iteN (fun hn => ?_) (fun hi => ?_)
  · walk_at "go"
    exact k2 hn
  · walk_at "go"
    exact k1 hi
def sp_p_two_corners (G : Gx) : Sp := fun vs H Q E => ∃ (d : Addr) (S : List Int) (nx : Int → Int) (f : Int), vs = [.ref d, .int f] ∧ Rd H d (dW S nx) ∧ Map S ot nx ∧ (2 * f ∉ S → E (.ref (G.ad "NoFilm")) none H) ∧ (2 * f ∈ S → Looped nx (2 * f) → ∀ H', Same H H' → E (.ref (G.ad "Looped")) none H') ∧
  (2 * f ∈ S → ¬ Looped nx (2 * f) → ∀ t t1 t2 H', Same H H' → H' t = some (.tup [.ref t1, .ref t2]) → H' t1 = some (tup3 nx (2 * f)) → H' t2 = some (tup3 nx (2 * f + 1)) → Q (.ref t) H')
theorem len_p_two_corners {G : Gx} : ∀ vs H Q E, sp_p_two_corners G vs H Q E → vs.length = 2 := by rintro vs H Q E ⟨d, S, nx, e, rfl, _⟩; rfl
/-! two_corners: slots web, film -/
def t_p_two_corners (G : Gx) (E : XK) : TS :=
  (tSeq (tDrop (tCall (sp_p_film_there G) [] E (tCons (tVar 0) (tCons (tVar 1) tNil))))
  (tSeq (tIfS (tB (tCall (sp_p_looped G) [] E0 (tCons (tVar 0) (tCons (tVar 1) tNil)))) (tRaise E (G.ad "Looped")) tNext)
  (tRet (tTup (tCons (tCall (sp_p_corner G) [] E (tCons (tVar 0) (tCons (tOp rMulI (tC (.int 2)) (tVar 1)) tNil))) (tCons (tCall (sp_p_corner G) [] E (tCons (tVar 0) (tCons (tOp rAddI (tOp rMulI (tC (.int 2)) (tVar 1)) (tC (.int 1))) tNil))) tNil))))))
theorem pure_p_two_corners {G : Gx} {vs : List V} {H : Hp} {Q : VK} {E : XK} (h : sp_p_two_corners G vs H Q E) : Body (t_p_two_corners G E) ["web", "film"] vs H Q := by
  obtain ⟨d, S, nx, f, rfl, hd, M, k1, k2, k3⟩ := h
  show t_p_two_corners G E _ [some (.ref d), some (.int f)] H
  unfold t_p_two_corners
  walk_at "go"
  refine ⟨d, S, nx, f, rfl, hd, fun hi => ?_, k1⟩
  have ho := two_ot M hi
  walk_at "go"
  refine ⟨d, S, nx, f, rfl, hd, M.cn, hi, fun b H1 hb s1 => ?_⟩
  have hd1 : Rd H1 d (dW S nx) := same_rd s1 hd
  walk_at "go"
  refine iteB (fun h => ?_) (fun h => ?_)
  · walk_at "go"
    exact k2 hi (hb.mp h) _ s1
  · have hno : ¬ Looped nx (2 * f) := fun z => by rw [hb.mpr z] at h; cases h
    walk_at "go"
    refine ⟨d, S, nx, 2 * f, rfl, hd1, M.cn, fun _ t1 h1 => ?_, fun z => absurd hi z⟩
    walk_at "go"
    refine ⟨d, S, nx, 2 * f + 1, rfl, by walk_at "rd", M.cn, fun _ t2 h2 => ?_, fun z => absurd ho z⟩
    walk_at "go"
    refine ⟨by walk_at "sz", fun t h3 => ?_⟩
    exact k3 hi hno t t1 t2 _ (by walk_at "sm") upd_same (by walk_at "hp") (by walk_at "hp")
/-! ### pushed, pulled -/
def spPush (G : Gx) (F : (Int → Int) → Int → Int → Int) : Sp := fun vs H Q E => ∃ (d : Addr) (S : List Int) (nx : Int → Int) (f : Int), vs = [.ref d, .int f] ∧ Rd H d (dW S nx) ∧ Map S ot nx ∧ S.length ≤ 90000 ∧ (2 * f ∉ S → E (.ref (G.ad "NoFilm")) none H) ∧ (2 * f ∈ S → Looped nx (2 * f) → ∀ H', Same H H' → E (.ref (G.ad "Looped")) none H') ∧
  (2 * f ∈ S → ¬ Looped nx (2 * f) → ∀ p H', Same H H' → Free H p → H' p = some (dW S (F nx (2 * f))) → Q (.ref p) H')
def sp_p_pushed (G : Gx) : Sp := spPush G pushF
def sp_p_pulled (G : Gx) : Sp := spPush G pullF
theorem len_p_pushed {G : Gx} : ∀ vs H Q E, sp_p_pushed G vs H Q E → vs.length = 2 := by rintro vs H Q E ⟨d, S, nx, e, rfl, _⟩; rfl
theorem len_p_pulled {G : Gx} : ∀ vs H Q E, sp_p_pulled G vs H Q E → vs.length = 2 := by rintro vs H Q E ⟨d, S, nx, e, rfl, _⟩; rfl
theorem c_seatS {G : Gx} {H0 H1 : Hp} {p u : Addr} {T : List Int} {w : Int → Int} {x y z : Int} {Q : VK} {E : XK} (s1 : Same H0 H1) (hp0 : Free H0 p) (e1 : H1 p = some (dW T w)) (hT : T.length ≤ 100000) (hu : Free H1 u)
    (k : ∀ H2, Same H0 H2 → H2 p = some (dW (putS3 T x y z) (seatF w x y z)) → Q .non H2) : sp_p_seat G [.ref p, .ref u] (upd H1 u (.tup [.int x, .int y, .int z])) Q E :=
  ⟨p, u, T, w, x, y, z, rfl, at_new e1 hu, SqT.of upd_same, hT, k _ (same_mut (same_new s1 hu) hp0) upd_same⟩
theorem c_seatI {G : Gx} {H0 H1 : Hp} {p u : Addr} {T : List Int} {w : Int → Int} {x y z : Int} {Q : VK} {E : XK} (s1 : Same H0 H1) (hp0 : Free H0 p) (e1 : H1 p = some (dW T w)) (hT : T.length ≤ 100000) (hx : x ∈ T) (hy : y ∈ T) (hz : z ∈ T) (hu : Free H1 u)
    (k : ∀ H2, Same H0 H2 → H2 p = some (dW T (seatF w x y z)) → Q .non H2) : sp_p_seat G [.ref p, .ref u] (upd H1 u (.tup [.int x, .int y, .int z])) Q E :=
  c_seatS s1 hp0 e1 hT hu fun H2 s e => k H2 s (by rw [putS3_in hx hy hz] at e; exact e)
/-! pushed: slots web, film, e, a, b, o, c, d, made -/
def t_p_pushed (G : Gx) (E : XK) : TS :=
  (tSeq (tAsg (tCall (sp_p_two_corners G) [] E (tCons (tVar 0) (tCons (tVar 1) tNil))) (gTup G.K 2 (gCons (gTup G.K 3 (gCons (gName 2) (gCons (gName 3) (gCons (gName 4) gNil)))) (gCons (gTup G.K 3 (gCons (gName 5) (gCons (gName 6) (gCons (gName 7) gNil)))) gNil))))
  (tSeq (tAsg (tCB rDictRd (tCons (tVar 0) tNil)) (gName 8))
  (tSeq (tDrop (tCall (sp_p_seat G) [] E0 (tCons (tVar 8) (tCons (tTup (tCons (tVar 2) (tCons (tVar 4) (tCons (tVar 6) tNil)))) tNil))))
  (tSeq (tDrop (tCall (sp_p_seat G) [] E0 (tCons (tVar 8) (tCons (tTup (tCons (tVar 5) (tCons (tVar 7) (tCons (tVar 3) tNil)))) tNil))))
  (tRet (tVar 8))))))
theorem pure_p_pushed {G : Gx} {vs : List V} {H : Hp} {Q : VK} {E : XK} (h : sp_p_pushed G vs H Q E) : Body (t_p_pushed G E) ["web", "film", "e", "a", "b", "o", "c", "d", "made"] vs H Q := by
  obtain ⟨d, S, nx, f, rfl, hd, M, hl, k1, k2, k3⟩ := h
  show t_p_pushed G E _ [some (.ref d), some (.int f), none, none, none, none, none, none, none] H
  unfold t_p_pushed
  walk_at "go"
  refine ⟨d, S, nx, f, rfl, hd, M, k1, k2, fun hi hno t t1 t2 H1 s1 e1 e2 e3 => ?_⟩
  have ho := two_ot M hi
  refine g_tup (SqT.of e1) rfl ?_
  refine g_cons (g_tup (SqT.of e2) rfl ?_)
  refine g_cons (g_name (g_cons (g_name (g_cons (g_name (g_nil ?_))))))
  refine g_cons (g_tup (SqT.of e3) rfl ?_)
  refine g_cons (g_name (g_cons (g_name (g_cons (g_name (g_nil ?_))))))
  refine g_nil ?_
  have hd1 : Rd H1 d (dW S nx) := same_rd s1 hd
  have hl1 : S.length ≤ 100000 := by omega
  dsimp only [List.set]
  walk_at "go"
  intro p hp
  have hp0 : Free H p := s1.free hp
  have s2 := same_new (o := dW S nx) s1 hp
  have f2 : upd H1 p (dW S nx) p = some (dW S nx) := upd_same
  generalize upd H1 p (dW S nx) = H2 at s2 f2 ⊢
  have ha := M.cn _ hi
  have hb := M.cn _ ha
  have hc := M.cn _ ho
  have hd' := M.cn _ hc
  walk_at "go"
  refine ⟨by walk_at "sz", fun u hu => ?_⟩
  walk_at "go"
  refine c_seatI s2 hp0 f2 hl1 hi hb hc hu fun H3 s3 f3 => ?_
  walk_at "go"
  refine ⟨by walk_at "sz", fun u2 hu2 => ?_⟩
  walk_at "go"
  refine c_seatI s3 hp0 f3 hl1 ho hd' ha hu2 fun H4 s4 f4 => ?_
  walk_at "go"
  refine k3 hi hno p _ s4 hp0 ?_
  unfold pushF
  rw [ot_even]
  exact f4
/-! pulled: slots web, film, e, a, b, o, c, d, made -/
def t_p_pulled (G : Gx) (E : XK) : TS :=
  (tSeq (tAsg (tCall (sp_p_two_corners G) [] E (tCons (tVar 0) (tCons (tVar 1) tNil))) (gTup G.K 2 (gCons (gTup G.K 3 (gCons (gName 2) (gCons (gName 3) (gCons (gName 4) gNil)))) (gCons (gTup G.K 3 (gCons (gName 5) (gCons (gName 6) (gCons (gName 7) gNil)))) gNil))))
  (tSeq (tAsg (tCB rDictRd (tCons (tVar 0) tNil)) (gName 8))
  (tSeq (tDrop (tCall (sp_p_seat G) [] E0 (tCons (tVar 8) (tCons (tTup (tCons (tVar 2) (tCons (tVar 7) (tCons (tVar 3) tNil)))) tNil))))
  (tSeq (tDrop (tCall (sp_p_seat G) [] E0 (tCons (tVar 8) (tCons (tTup (tCons (tVar 5) (tCons (tVar 4) (tCons (tVar 6) tNil)))) tNil))))
  (tRet (tVar 8))))))
theorem pure_p_pulled {G : Gx} {vs : List V} {H : Hp} {Q : VK} {E : XK} (h : sp_p_pulled G vs H Q E) : Body (t_p_pulled G E) ["web", "film", "e", "a", "b", "o", "c", "d", "made"] vs H Q := by
  obtain ⟨d, S, nx, f, rfl, hd, M, hl, k1, k2, k3⟩ := h
  show t_p_pulled G E _ [some (.ref d), some (.int f), none, none, none, none, none, none, none] H
  unfold t_p_pulled
  walk_at "go"
  refine ⟨d, S, nx, f, rfl, hd, M, k1, k2, fun hi hno t t1 t2 H1 s1 e1 e2 e3 => ?_⟩
  have ho := two_ot M hi
  refine g_tup (SqT.of e1) rfl ?_
  refine g_cons (g_tup (SqT.of e2) rfl ?_)
  refine g_cons (g_name (g_cons (g_name (g_cons (g_name (g_nil ?_))))))
  refine g_cons (g_tup (SqT.of e3) rfl ?_)
  refine g_cons (g_name (g_cons (g_name (g_cons (g_name (g_nil ?_))))))
  refine g_nil ?_
  have hd1 : Rd H1 d (dW S nx) := same_rd s1 hd
  have hl1 : S.length ≤ 100000 := by omega
  dsimp only [List.set]
  walk_at "go"
  intro p hp
  have hp0 : Free H p := s1.free hp
  have s2 := same_new (o := dW S nx) s1 hp
  have f2 : upd H1 p (dW S nx) p = some (dW S nx) := upd_same
  generalize upd H1 p (dW S nx) = H2 at s2 f2 ⊢
  have ha := M.cn _ hi
  have hb := M.cn _ ha
  have hc := M.cn _ ho
  have hd' := M.cn _ hc
  walk_at "go"
  refine ⟨by walk_at "sz", fun u hu => ?_⟩
  walk_at "go"
  refine c_seatI s2 hp0 f2 hl1 hi hd' ha hu fun H3 s3 f3 => ?_
  walk_at "go"
  refine ⟨by walk_at "sz", fun u2 hu2 => ?_⟩
  walk_at "go"
  refine c_seatI s3 hp0 f3 hl1 ho hb hc hu2 fun H4 s4 f4 => ?_
  walk_at "go"
  refine k3 hi hno p _ s4 hp0 ?_
  unfold pullF
  rw [ot_even]
  exact f4
/-! ### blown -/
def sp_p_blown (G : Gx) : Sp := fun vs H Q E => ∃ (d : Addr) (S : List Int) (nx : Int → Int) (e f : Int), vs = [.ref d, .int e, .int f] ∧ Rd H d (dW S nx) ∧ Map S ot nx ∧ (∀ x ∈ S, x < 2 * f) ∧ S.length ≤ 90000 ∧ (e ∉ S → E (.ref (G.ad "NoEnd")) none H) ∧
  (e ∈ S → ∀ p H', Same H H' → Free H p → H' p = some (dW (blowS S (2 * f)) (blowF nx e (2 * f))) → Q (.ref p) H')
theorem len_p_blown {G : Gx} : ∀ vs H Q E, sp_p_blown G vs H Q E → vs.length = 3 := by rintro vs H Q E ⟨d, S, nx, e, f, rfl, _⟩; rfl
theorem blow_keys {S : List Int} {e a b L : Int} (he : e ∈ S) (ha : a ∈ S) (hb : b ∈ S) (hL : ∀ x ∈ S, x < L) : putS3 S e L (L + 5) = S ++ [L, L + 5] ∧ putS3 (S ++ [L, L + 5]) a (L + 2) (L + 1) = S ++ [L, L + 5, L + 2, L + 1] ∧
    putS3 (S ++ [L, L + 5, L + 2, L + 1]) b (L + 4) (L + 3) = blowS S L := by
  have no : ∀ i : Int, 0 ≤ i → L + i ∉ S := fun i hi q => by have := hL _ q; omega
  refine ⟨putS3_1 he (fun q => by have := hL _ q; omega) (no 5 (by decide)) (by omega), ?_, ?_⟩
  · rw [putS3_1 (List.mem_append.mpr (.inl ha)) (fun q => ?_) (fun q => ?_) (by omega), List.append_assoc]
    · rfl
    · rcases List.mem_append.mp q with q | q
      · exact no 2 (by decide) q
      · simp only [List.mem_cons, List.not_mem_nil, or_false] at q
        omega
    · rcases List.mem_append.mp q with q | q
      · exact no 1 (by decide) q
      · simp only [List.mem_cons, List.not_mem_nil, or_false] at q
        omega
  · rw [putS3_1 (List.mem_append.mpr (.inl hb)) (fun q => ?_) (fun q => ?_) (by omega), List.append_assoc]
    · rfl
    · rcases List.mem_append.mp q with q | q
      · exact no 4 (by decide) q
      · simp only [List.mem_cons, List.not_mem_nil, or_false] at q
        omega
    · rcases List.mem_append.mp q with q | q
      · exact no 3 (by decide) q
      · simp only [List.mem_cons, List.not_mem_nil, or_false] at q
        omega
/-! blown: slots web, end, first, e, a, b, made, low -/
def t_p_blown (G : Gx) (E : XK) : TS :=
  (tSeq (tAsg (tCall (sp_p_corner G) [] E (tCons (tVar 0) (tCons (tVar 1) tNil))) (gTup G.K 3 (gCons (gName 3) (gCons (gName 4) (gCons (gName 5) gNil)))))
  (tSeq (tAsg (tCB rDictRd (tCons (tVar 0) tNil)) (gName 6))
  (tSeq (tAsg (tOp rMulI (tC (.int 2)) (tVar 2)) (gName 7))
  (tSeq (tDrop (tCall (sp_p_seat G) [] E0 (tCons (tVar 6) (tCons (tTup (tCons (tVar 3) (tCons (tVar 7) (tCons (tOp rAddI (tVar 7) (tC (.int 5))) tNil)))) tNil))))
  (tSeq (tDrop (tCall (sp_p_seat G) [] E0 (tCons (tVar 6) (tCons (tTup (tCons (tVar 4) (tCons (tOp rAddI (tVar 7) (tC (.int 2))) (tCons (tOp rAddI (tVar 7) (tC (.int 1))) tNil)))) tNil))))
  (tSeq (tDrop (tCall (sp_p_seat G) [] E0 (tCons (tVar 6) (tCons (tTup (tCons (tVar 5) (tCons (tOp rAddI (tVar 7) (tC (.int 4))) (tCons (tOp rAddI (tVar 7) (tC (.int 3))) tNil)))) tNil))))
  (tRet (tVar 6))))))))
theorem pure_p_blown {G : Gx} {vs : List V} {H : Hp} {Q : VK} {E : XK} (h : sp_p_blown G vs H Q E) : Body (t_p_blown G E) ["web", "end", "first", "e", "a", "b", "made", "low"] vs H Q := by
  obtain ⟨d, S, nx, e, f, rfl, hd, M, hL, hl, k1, k2⟩ := h
  show t_p_blown G E _ [some (.ref d), some (.int e), some (.int f), none, none, none, none, none] H
  unfold t_p_blown
  walk_at "go"
  refine ⟨d, S, nx, e, rfl, hd, M.cn, fun he t1 h1 => ?_, k1⟩
  refine g_tup (SqT.of (xs := [.int e, .int (nx e), .int (nx (nx e))]) upd_same) rfl ?_
  have s1 : Same H (upd H t1 (tup3 nx e)) := same_new (Same.refl _) h1
  generalize upd H t1 (tup3 nx e) = H1 at s1 ⊢
  have hd1 : Rd H1 d (dW S nx) := same_rd s1 hd
  walk_at "go"
  intro p hp
  have hp0 : Free H p := s1.free hp
  have s2 := same_new (o := dW S nx) s1 hp
  have f2 : upd H1 p (dW S nx) p = some (dW S nx) := upd_same
  generalize upd H1 p (dW S nx) = H2 at s2 f2 ⊢
  have ha := M.cn _ he
  have hb := M.cn _ ha
  obtain ⟨q1, q2, q3⟩ := blow_keys he ha hb hL
  walk_at "go"
  refine ⟨by walk_at "sz", fun u hu => ?_⟩
  walk_at "go"
  refine c_seatS s2 hp0 f2 (by omega) hu fun H3 s3 f3 => ?_
  rw [q1] at f3
  walk_at "go"
  refine ⟨by walk_at "sz", fun u2 hu2 => ?_⟩
  walk_at "go"
  refine c_seatS s3 hp0 f3 (by rw [List.length_append]; simp only [List.length_cons, List.length_nil]; omega) hu2 fun H4 s4 f4 => ?_
  rw [q2] at f4
  walk_at "go"
  refine ⟨by walk_at "sz", fun u3 hu3 => ?_⟩
  walk_at "go"
  refine c_seatS s4 hp0 f4 (by rw [List.length_append]; simp only [List.length_cons, List.length_nil]; omega) hu3 fun H5 s5 f5 => ?_
  rw [q3] at f5
  walk_at "go"
  exact k2 he p _ s5 hp0 f5
/-! ### put_in_place, mend -/
def sp_p_put_in_place (G : Gx) : Sp := fun vs H Q _ => ∃ (d : Addr) (T : List Int) (w : Int → Int) (e g : Int), vs = [.ref d, .int e, .int g] ∧ H d = some (dW T w) ∧ e ∈ T ∧ g ∈ T ∧ w g ∈ T ∧ w (w g) ∈ T ∧ T.length ≤ 90000 ∧ Q .non (upd H d (dW (T.filter fun z => decide (z ≠ g)) (fset (fset w e (w g)) (w (w g)) e)))
theorem len_p_put_in_place {G : Gx} : ∀ vs H Q E, sp_p_put_in_place G vs H Q E → vs.length = 3 := by rintro vs H Q E ⟨d, T, w, e, g, rfl, _⟩; rfl
/-! put_in_place: slots web, end, gone, after, ahead -/
def t_p_put_in_place (G : Gx) : TS :=
  (tSeq (tAsg (tDGet (tVar 0) (tVar 2)) (gName 3))
  (tSeq (tAsg (tDGet (tVar 0) (tVar 3)) (gName 4))
  (tSeq (sDPut (tVar 0) (tVar 1) (tVar 3))
  (tSeq (sDPut (tVar 0) (tVar 4) (tVar 1))
  (tDrop (tDPop1 (tVar 0) (tVar 2)))))))
theorem pure_p_put_in_place {G : Gx} {vs : List V} {H : Hp} {Q : VK} {E : XK} (h : sp_p_put_in_place G vs H Q E) : Body (t_p_put_in_place G) ["web", "end", "gone", "after", "ahead"] vs H Q := by
  obtain ⟨d, T, w, e, g, rfl, hd, he, hg, hp, hq, hl, k⟩ := h
  show t_p_put_in_place G _ [some (.ref d), some (.int e), some (.int g), none, none] H
  unfold t_p_put_in_place
  have hl1 : T.length < sizeLine := size1000l (by omega)
  walk_at "go"
  rw [putS_in he]
  have e2 : upd H d (dW T (fset w e (w g))) d = some (dW T (fset w e (w g))) := upd_same
  generalize hw : upd H d (dW T (fset w e (w g))) = H2 at e2 ⊢
  walk_at "go"
  rw [putS_in hq]
  have e3 : upd H2 d (dW T (fset (fset w e (w g)) (w (w g)) e)) d = some (dW T (fset (fset w e (w g)) (w (w g)) e)) := upd_same
  refine r_dpop ?_
  walk_at "go"
  refine ⟨d, rfl, isD_I (rd_in e3), ?_⟩
  walk_at "go"
  refine r_dpop1 e3 hg ?_
  rw [upd_upd, ← hw, upd_upd]
  exact k
def sp_p_mend (G : Gx) : Sp := fun vs H Q _ => ∃ (d : Addr) (S : List Int) (al nx : Int → Int) (t : Int), vs = [.ref d, .int t] ∧ H d = some (dW S nx) ∧ Mend S al nx t (mX nx t) (mY nx t) (ot (mY nx t)) ∧ S.length ≤ 90000 ∧ Q .non (upd H d (dW (m1S S nx t) (m1N nx t)))
theorem len_p_mend {G : Gx} : ∀ vs H Q E, sp_p_mend G vs H Q E → vs.length = 2 := by rintro vs H Q E ⟨d, S, al, nx, t, rfl, _⟩; rfl
/-! mend: slots web, end, one, two, kept, lost -/
def t_p_mend (G : Gx) : TS :=
  (tSeq (tPar 2 3 (tCons (tDGet (tVar 0) (tVar 1)) (tCons (tDGet (tVar 0) (tDGet (tVar 0) (tVar 1))) tNil)))
  (tSeq (tPar 4 5 (tCons (tCB rMin2 (tCons (tVar 2) (tCons (tVar 3) tNil))) (tCons (tCB rMax2 (tCons (tVar 2) (tCons (tVar 3) tNil))) tNil)))
  (tSeq (tDrop (tDPop1 (tVar 0) (tVar 1)))
  (tSeq (tDrop (tDPop1 (tVar 0) (tVar 5)))
  (tDrop (tCall (sp_p_put_in_place G) [] E0 (tCons (tVar 0) (tCons (tVar 4) (tCons (tCall (sp_p_other G) [] E0 (tCons (tVar 5) tNil)) tNil)))))))))
theorem pure_p_mend {G : Gx} {vs : List V} {H : Hp} {Q : VK} {E : XK} (h : sp_p_mend G vs H Q E) : Body (t_p_mend G) ["web", "end", "one", "two", "kept", "lost"] vs H Q := by
  obtain ⟨d, S, al, nx, t, rfl, hd, D, hl, k⟩ := h
  show t_p_mend G _ [some (.ref d), some (.int t), none, none, none, none] H
  unfold t_p_mend
  have M := D.M
  have ha := M.cn _ D.ht
  have hb := M.cn _ ha
  have F := D.facts
  have ht := D.ht
  have hy := D.hy
  walk_at "go"
  rw [show (if nx (nx t) < nx t then nx (nx t) else nx t) = mX nx t by unfold mX; split <;> omega, show (if nx (nx t) > nx t then nx (nx t) else nx t) = mY nx t by unfold mY; split <;> omega]
  unfold m1S m1N at k
  generalize mX nx t = X at *
  generalize mY nx t = Y at *
  generalize hg : ot Y = g at *
  refine r_dpop ?_
  walk_at "go"
  refine ⟨d, rfl, isD_I (rd_in hd), ?_⟩
  walk_at "go"
  refine r_dpop1 hd ht ?_
  have e2 : upd H d (dW (S.filter fun x => decide (x ≠ t)) nx) d = some (dW (S.filter fun x => decide (x ≠ t)) nx) := upd_same
  generalize hw : upd H d (dW (S.filter fun x => decide (x ≠ t)) nx) = H2 at e2 ⊢
  have hy2 : Y ∈ S.filter fun x => decide (x ≠ t) := List.mem_filter.mpr ⟨hy, decide_eq_true (Ne.symm F.ty)⟩
  walk_at "go"
  refine r_dpop ?_
  walk_at "go"
  refine ⟨d, rfl, isD_I (rd_in e2), ?_⟩
  walk_at "go"
  refine r_dpop1 e2 hy2 ?_
  have eT : ((S.filter fun x => decide (x ≠ t)).filter fun x => decide (x ≠ Y)) = S.filter fun x => decide (x ≠ t ∧ x ≠ Y) := by
    rw [List.filter_filter]
    refine List.filter_congr fun x _ => ?_
    by_cases h1 : x = t <;> by_cases h2 : x = Y <;> simp [h1, h2]
  rw [eT]
  have mT : ∀ z, z ∈ S → z ≠ t → z ≠ Y → z ∈ S.filter fun x => decide (x ≠ t ∧ x ≠ Y) := fun z h1 h2 h3 => List.mem_filter.mpr ⟨h1, decide_eq_true ⟨h2, h3⟩⟩
  walk_at "go"
  rw [hg]
  refine ⟨d, _, nx, X, g, rfl, upd_same, mT X F.hx (Ne.symm F.tx) F.xy, mT g F.hg F.gt D.gy, mT _ F.hp F.pt F.py, mT _ F.hq F.qt F.qy, ?_, ?_⟩
  · have := List.length_filter_le (fun x => decide (x ≠ t ∧ x ≠ Y)) S
    omega
  rw [upd_upd, ← hw, upd_upd]
  have eK : ((S.filter fun x => decide (x ≠ t ∧ x ≠ Y)).filter fun z => decide (z ≠ g)) = mendS S t Y g := by
    unfold mendS
    rw [List.filter_filter]
    refine List.filter_congr fun x _ => ?_
    by_cases h1 : x = t <;> by_cases h2 : x = Y <;> by_cases h3 : x = g <;> simp [h1, h2, h3]
  rw [eK]
  have eV : dW (mendS S t Y g) (fset (fset nx X (nx g)) (nx (nx g)) X) = dW (mendS S t Y g) (mendN nx X g) := dI_congr fun z hz => congrArg V.int (by
    have hzS := (mem_mendS.mp hz).1
    by_cases q : z = nx (nx g)
    · rw [q, fset_same]
      unfold mendN
      rw [if_neg F.qx, if_pos F.qg]
    · rw [fset_ne q]
      by_cases x : z = X
      · rw [x, fset_same]
        unfold mendN
        rw [if_pos rfl]
      · rw [fset_ne x]
        unfold mendN
        rw [if_neg x, if_neg fun h => q (M.ninj hzS F.hq (h.trans F.qg.symm))])
  rw [eV]
  exact k
/-! ### without, burst -/
def sp_p_without (G : Gx) : Sp := fun vs H Q _ => ∃ (d : Addr) (S : List Int) (nx : Int → Int) (f : Int), vs = [.ref d, .int f] ∧ Rd H d (dW S nx) ∧ Web S nx ∧ 2 * f ∈ S ∧ (Looped nx (2 * f) ∨ ¬ Rim S nx (2 * f) (ot (2 * f))) ∧ S.length ≤ 90000 ∧
  ∀ (S' : List Int) p H', S'.Nodup → (∀ z, z ∈ S' ↔ z ∈ wS S nx (2 * f)) → Same H H' → Free H p → H' p = some (dW S' (wN nx (2 * f))) → Q (.ref p) H'
theorem len_p_without {G : Gx} : ∀ vs H Q E, sp_p_without G vs H Q E → vs.length = 2 := by rintro vs H Q E ⟨d, S, nx, f, rfl, _⟩; rfl
/-! without: slots web, film, made, low, left, end -/
def t_p_without (G : Gx) : TS :=
  (tSeq (tAsg (tCB rDictRd (tCons (tVar 0) tNil)) (gName 2))
  (tSeq (tAsg (tOp rMulI (tC (.int 2)) (tVar 1)) (gName 3))
  (tSeq (tIfS (tNot (tB (tCall (sp_p_looped G) [] E0 (tCons (tVar 0) (tCons (tVar 1) tNil))))) (tSeq (tDrop (tCall (sp_p_mend G) [] E0 (tCons (tVar 2) (tCons (tVar 3) tNil))))
  (tSeq (tDrop (tCall (sp_p_mend G) [] E0 (tCons (tVar 2) (tCons (tOp rAddI (tVar 3) (tC (.int 1))) tNil))))
  (tRet (tVar 2)))) tNext)
  (tSeq (tAsg (tOp (rIxL G.K) (tLc (iTup G.K (tCall (sp_p_corner G) [] E0 (tCons (tVar 0) (tCons (tVar 3) tNil)))) (gName 5) (tTest (tOp rNe (tOp rDivW (tVar 5) (tC (.int 2))) (tVar 1))) (tVar 5) [5]) (tC (.int 0))) (gName 4))
  (tSeq (tFor (iTup G.K (tTup (tCons (tVar 3) (tCons (tOp rAddI (tVar 3) (tC (.int 1))) (tCons (tVar 4) tNil))))) (gName 5)
  (tDrop (tDPop1 (tVar 2) (tVar 5))))
  (tSeq (tDrop (tCall (sp_p_mend G) [] E0 (tCons (tVar 2) (tCons (tCall (sp_p_other G) [] E0 (tCons (tVar 4) tNil)) tNil))))
  (tRet (tVar 2))))))))
theorem m1S_nd {S : List Int} {nx : Int → Int} {t : Int} (h : S.Nodup) : (m1S S nx t).Nodup := h.filter _
theorem m1S_len {S : List Int} {nx : Int → Int} {t : Int} : (m1S S nx t).length ≤ S.length := List.length_filter_le _ _
theorem loop_third {S : List Int} {nx : Int → Int} {f : Int} (M : Map S ot nx) (he : 2 * f ∈ S) (hlo : Looped nx (2 * f)) : [2 * f, nx (2 * f), nx (nx (2 * f))].filter (fun x => !decide (x / 2 = f)) = [loopT nx (2 * f)] := by
  have ha := M.cn _ he
  have d0 : decide (2 * f / 2 = f) = true := decide_eq_true (by omega)
  have dv : ∀ x, x ≠ 2 * f → x ≠ ot (2 * f) → decide (x / 2 = f) = false := fun x h1 h2 => decide_eq_false fun q => by rw [ot_even] at h2; omega
  have do_ : decide (ot (2 * f) / 2 = f) = true := decide_eq_true (by rw [ot_even]; omega)
  unfold loopT
  by_cases c : nx (2 * f) = ot (2 * f)
  · have d2 := dv (nx (nx (2 * f))) (M.n2 he) (by rw [← c]; exact M.n1 _ ha)
    rw [if_pos c]
    rw [c] at d2 ⊢
    simp only [List.filter_cons, List.filter_nil, d0, do_, d2]
    rfl
  · have c2 := hlo.resolve_left c
    have d1 := dv (nx (2 * f)) (M.n1 _ he) c
    rw [if_neg c, c2]
    simp only [List.filter_cons, List.filter_nil, d0, do_, d1]
    rfl
theorem pure_p_without {G : Gx} {vs : List V} {H : Hp} {Q : VK} {E : XK} (h : sp_p_without G vs H Q E) : Body (t_p_without G) ["web", "film", "made", "low", "left", "end"] vs H Q := by
  obtain ⟨d, S, nx, f, rfl, hd, W, he, hc, hl, k⟩ := h
  show t_p_without G _ [some (.ref d), some (.int f), none, none, none, none] H
  unfold t_p_without
  have M := W.map
  have ha := M.cn _ he
  have hb := M.cn _ ha
  walk_at "go"
  intro p hp
  have s1 : Same H (upd H p (dW S nx)) := same_new (Same.refl _) hp
  have e1 : upd H p (dW S nx) p = some (dW S nx) := upd_same
  generalize upd H p (dW S nx) = H1 at s1 e1 ⊢
  walk_at "go"
  refine ⟨d, S, nx, f, rfl, same_rd s1 hd, M.cn, he, fun b H2 hb s2 => ?_⟩
  have e2 := s2 _ _ e1
  have s3 := s1.trans s2
  walk_at "go"
  refine iteNB (fun h => ?_) (fun h => ?_)
  · have hno : ¬ Looped nx (2 * f) := fun z => by rw [hb.mpr z] at h; cases h
    have B := burst_web W he (fun z => hno (.inl z)) (fun z => hno (.inr z)) (hc.resolve_left hno)
    have D1 := B.D1
    have D2 := B.D2
    walk_at "go"
    refine ⟨p, S, _, nx, 2 * f, rfl, e2, D1, hl, ?_⟩
    walk_at "go"
    rw [← ot_even]
    refine ⟨p, _, _, _, ot (2 * f), rfl, upd_same, D2, Nat.le_trans m1S_len hl, ?_⟩
    rw [upd_upd]
    walk_at "go"
    refine k (m1S (m1S S nx (2 * f)) (m1N nx (2 * f)) (ot (2 * f))) p _ (m1S_nd (m1S_nd M.nd)) (fun z => ?_) (same_mut s3 hp) hp ?_
    · unfold wS burstS
      rw [if_neg hno]
    · unfold wN
      rw [if_neg hno]
      exact upd_same
  · have hlo := hb.mp h
    have B := burstL_web W he hlo
    walk_at "go"
    refine r_lcOT ?_
    walk_at "go"
    refine ⟨d, S, nx, 2 * f, rfl, same_rd s3 hd, M.cn, fun _ t1 h1 => ?_, fun z => absurd he z⟩
    have s4 : Same H (upd H2 t1 (tup3 nx (2 * f))) := same_new s3 h1
    have e3 : upd H2 t1 (tup3 nx (2 * f)) p = some (dW S nx) := at_new e2 h1
    have e4 : upd H2 t1 (tup3 nx (2 * f)) t1 = some (.tup ([2 * f, nx (2 * f), nx (nx (2 * f))].map V.int)) := upd_same
    generalize upd H2 t1 (tup3 nx (2 * f)) = H3 at s4 e3 e4 ⊢
    refine r_lcT (ns := [2 * f, nx (2 * f), nx (nx (2 * f))]) (p := fun x => !decide (x / 2 = f)) (e := V.int) (SqT.of e4) (fun _ q => q) (by show 3 < sizeLine; decide) (fun x hx D u hD R q => ?_) (fun x hx _ D u hD Q q => ?_) (fun D hD => ?_)
    · walk_at "go"
      rw [show decide (V.int (x / 2) = V.int f) = decide (x / 2 = f) from decide_eq_decide.mpr ⟨fun h => V.int.inj h, fun h => by rw [h]⟩]
      exact q
    · walk_at "go"
      exact q
    rw [loop_third M he hlo]
    have s5 : Same H (upd H3 D (.lst ([loopT nx (2 * f)].map V.int))) := same_new s4 hD
    have e5 : upd H3 D (.lst ([loopT nx (2 * f)].map V.int)) p = some (dW S nx) := at_new e3 hD
    have e6 : upd H3 D (.lst ([loopT nx (2 * f)].map V.int)) D = some (.lst [.int (loopT nx (2 * f))]) := upd_same
    generalize upd H3 D (.lst ([loopT nx (2 * f)].map V.int)) = H4 at s5 e5 e6 ⊢
    have hT : loopT nx (2 * f) ∈ S ∧ loopT nx (2 * f) ≠ 2 * f ∧ loopT nx (2 * f) ≠ ot (2 * f) := by
      unfold loopT
      by_cases c : nx (2 * f) = ot (2 * f)
      · rw [if_pos c]
        exact ⟨M.cn _ ha, M.n2 he, by rw [← c]; exact M.n1 _ ha⟩
      · rw [if_neg c]
        exact ⟨ha, M.n1 _ he, c⟩
    obtain ⟨hT1, hT2, hT3⟩ := hT
    walk_at "go"
    refine ⟨by walk_at "sz", fun t2 h2 => ?_⟩
    have nt2 : p ≠ t2 := ne_fresh e5 h2
    have e7 : upd H4 t2 (.tup [.int (2 * f), .int (2 * f + 1), .int (loopT nx (2 * f))]) t2 = some (.tup [.int (2 * f), .int (2 * f + 1), .int (loopT nx (2 * f))]) := upd_same
    refine r_forT (SqT.of e7) (fun pre post σ H' => ∃ (o5 : Option V), σ = [some (.ref d), some (.int f), some (.ref p), some (.int (2 * f)), some (.int (loopT nx (2 * f))), o5] ∧ Same H H' ∧ H' t2 = some (.tup [.int (2 * f), .int (2 * f + 1), .int (loopT nx (2 * f))]) ∧ H' p = some (dW (S.filter fun z => decide (V.int z ∉ pre)) nx))
      ⟨_, rfl, same_new s5 h2, e7, by rw [at_ne e5 nt2]; congr 2; exact (List.filter_eq_self.mpr fun _ _ => decide_eq_true List.not_mem_nil).symm⟩ (fun _ _ _ _ _ ⟨_, _, _, e, _⟩ => SqT.of e) ?_ ?_
    · rintro pre v post σ H5 es ⟨o5, rfl, s6, e8, e9⟩
      have hv : v ∈ [V.int (2 * f), .int (2 * f + 1), .int (loopT nx (2 * f))] := by rw [es]; exact List.mem_append.mpr (.inr List.mem_cons_self)
      have ndv : [V.int (2 * f), .int (2 * f + 1), .int (loopT nx (2 * f))].Nodup := by
        rw [ot_even] at hT3
        refine List.nodup_cons.mpr ⟨fun z => ?_, List.nodup_cons.mpr ⟨fun z => ?_, List.Pairwise.cons (fun _ z => nomatch z) .nil⟩⟩
        · simp only [List.mem_cons, List.not_mem_nil, or_false, V.int.injEq] at z
          omega
        · simp only [List.mem_cons, List.not_mem_nil, or_false, V.int.injEq] at z
          exact hT3 z.symm
      obtain ⟨z, rfl, hz⟩ : ∃ z, v = .int z ∧ z ∈ S := by
        simp only [List.mem_cons, List.not_mem_nil, or_false] at hv
        rcases hv with rfl | rfl | rfl
        · exact ⟨_, rfl, he⟩
        · exact ⟨_, rfl, two_ot M he⟩
        · exact ⟨_, rfl, hT1⟩
      have nz : V.int z ∉ pre := fun q => by
        rw [es] at ndv
        exact (List.nodup_append.mp ndv).2.2 _ q _ List.mem_cons_self rfl
      walk_at "go"
      refine r_dpop ?_
      walk_at "go"
      refine ⟨p, rfl, isD_I (rd_in e9), ?_⟩
      walk_at "go"
      refine r_dpop1 (Q := fun _ H' => ∃ (o5 : Option V), [some (V.ref d), some (.int f), some (.ref p), some (.int (2 * f)), some (.int (loopT nx (2 * f))), some (.int z)] = [some (.ref d), some (.int f), some (.ref p), some (.int (2 * f)), some (.int (loopT nx (2 * f))), o5] ∧ Same H H' ∧ H' t2 = some (.tup [.int (2 * f), .int (2 * f + 1), .int (loopT nx (2 * f))]) ∧ H' p = some (dW (S.filter fun x => decide (V.int x ∉ pre ++ [V.int z])) nx)) e9 (List.mem_filter.mpr ⟨hz, decide_eq_true nz⟩) ?_
      refine ⟨_, rfl, same_mut s6 hp, at_ne e8 (Ne.symm nt2), ?_⟩
      rw [upd_same, List.filter_filter]
      congr 2
      refine List.filter_congr fun x _ => ?_
      by_cases q1 : x = z
      · simp [q1]
      · by_cases q2 : V.int x ∈ pre
        · simp [q1, q2]
        · simp [q1, q2]
    · rintro σ H5 ⟨o5, rfl, s6, e8, e9⟩
      have eL : (S.filter fun z => decide (V.int z ∉ [V.int (2 * f), .int (2 * f + 1), .int (loopT nx (2 * f))])) = loopS S nx (2 * f) := by
        unfold loopS
        refine List.filter_congr fun x _ => decide_eq_decide.mpr ?_
        rw [ot_even]
        simp only [List.mem_cons, List.not_mem_nil, or_false, V.int.injEq, not_or]
      rw [eL] at e9
      walk_at "go"
      refine ⟨p, _, _, nx, ot (loopT nx (2 * f)), rfl, e9, B.D, Nat.le_trans (List.length_filter_le _ _) hl, ?_⟩
      walk_at "go"
      refine k (burstLS S nx (2 * f)) p _ (m1S_nd (M.nd.filter _)) (fun z => ?_) (same_mut s6 hp) hp ?_
      · unfold wS
        rw [if_pos hlo]
      · unfold wN burstLN burstLS
        rw [if_pos hlo]
        exact upd_same
def sp_p_burst (G : Gx) : Sp := fun vs H Q E => ∃ (d : Addr) (S : List Int) (nx : Int → Int) (f : Int), vs = [.ref d, .int f] ∧ Rd H d (dW S nx) ∧ Web S nx ∧ S.length ≤ 90000 ∧ (2 * f ∉ S → E (.ref (G.ad "NoFilm")) none H) ∧ (2 * f ∈ S → Rim S nx (2 * f) (ot (2 * f)) → ∀ H', Same H H' → E (.ref (G.ad "OneBubble")) none H') ∧
  (2 * f ∈ S → ¬ Rim S nx (2 * f) (ot (2 * f)) → ∀ (S' : List Int) p H', S'.Nodup → (∀ z, z ∈ S' ↔ z ∈ wS S nx (2 * f)) → Same H H' → Free H p → H' p = some (dW S' (wN nx (2 * f))) → Q (.ref p) H')
theorem len_p_burst {G : Gx} : ∀ vs H Q E, sp_p_burst G vs H Q E → vs.length = 2 := by rintro vs H Q E ⟨d, S, nx, f, rfl, _⟩; rfl
/-! burst: slots web, film -/
def t_p_burst (G : Gx) (E : XK) : TS :=
  (tSeq (tDrop (tCall (sp_p_film_there G) [] E (tCons (tVar 0) (tCons (tVar 1) tNil))))
  (tSeq (tIfS (tTest (tOp (rIn G.K false) (tOp rAddI (tOp rMulI (tC (.int 2)) (tVar 1)) (tC (.int 1))) (tCall (sp_p_rim G) [] E (tCons (tVar 0) (tCons (tOp rMulI (tC (.int 2)) (tVar 1)) tNil))))) (tRaise E (G.ad "OneBubble")) tNext)
  (tRet (tCall (sp_p_without G) [] E0 (tCons (tVar 0) (tCons (tVar 1) tNil))))))
theorem pure_p_burst {G : Gx} {vs : List V} {H : Hp} {Q : VK} {E : XK} (h : sp_p_burst G vs H Q E) : Body (t_p_burst G E) ["web", "film"] vs H Q := by
  obtain ⟨d, S, nx, f, rfl, hd, W, hl, k1, k2, k3⟩ := h
  show t_p_burst G E _ [some (.ref d), some (.int f)] H
  unfold t_p_burst
  have M := W.map
  walk_at "go"
  refine ⟨d, S, nx, f, rfl, hd, fun he => ?_, k1⟩
  walk_at "go"
  refine ⟨d, S, nx, 2 * f, rfl, hd, M, by omega, fun _ p H1 s1 f1 e1 => ?_, fun z => absurd he z⟩
  refine r_inL (SqL.of e1) rfl (all_flat _) ?_
  walk_at "go"
  refine iteB (fun h => ?_) (fun h => ?_)
  · rw [if_neg Bool.false_ne_true, inV_mem, rimL_mem M.perm he, ← ot_even] at h
    walk_at "go"
    exact k2 he h _ s1
  · have hr : ¬ Rim S nx (2 * f) (ot (2 * f)) := fun z => by
      rw [if_neg Bool.false_ne_true, (inV_mem _ _).mpr ((rimL_mem M.perm he).mpr (by rw [← ot_even]; exact z))] at h
      cases h
    walk_at "go"
    exact ⟨d, S, nx, f, rfl, same_rd s1 hd, W, he, .inr hr, hl, fun S' p' H2 nd m s2 f2 e2 => k3 he hr S' p' H2 nd m (s1.trans s2) (s1.free f2) e2⟩
/-! PartQ: a bubble parted, in the program's order. -/
def hv1 (w : Int → Int) (p h : Int) : Int → Int := fset (fset w h (w p)) (w (w p)) h
theorem hv1_at {w : Int → Int} {p h z : Int} : hv1 w p h z = if z = w (w p) then h else if z = h then w p else w z := rfl
theorem part_prog {S : List Int} {nx : Int → Int} {one two L : Int} (M : Map S ot nx) (h1 : one ∈ S) (h2 : two ∈ S) (hf : one / 2 ≠ two / 2) (hL : ∀ x ∈ S, x < L) :
    (∀ z, z ∈ S ∨ New6 L z → seatF (seatF (hv1 (hv1 nx (ot one) (L + 1)) (ot two) (L + 3)) (ot one) (L + 4) L) (ot two) (L + 5) (L + 2) z = partF nx one two L z) ∧
    (hv1 nx (ot one) (L + 1) (ot two) ∈ S ∨ hv1 nx (ot one) (L + 1) (ot two) = L + 1) ∧
    (hv1 nx (ot one) (L + 1) (hv1 nx (ot one) (L + 1) (ot two)) ∈ S ∨ hv1 nx (ot one) (L + 1) (hv1 nx (ot one) (L + 1) (ot two)) = L + 1) := by
  have hp := M.ca one h1
  have hq := M.ca two h2
  have hpq : ot one ≠ ot two := fun e => hf (by rw [← ot_div one, ← ot_div two, e])
  unfold partF
  generalize ot one = p at hp hpq ⊢
  generalize ot two = q at hq hpq ⊢
  have ha := M.cn p hp
  have hb := M.cn _ ha
  have bp := M.n3 p hp
  have n1 := M.n1 p hp
  have n2 := M.n2 hp
  have n3 := M.n1 _ ha
  have ninj : ∀ {x y}, x ∈ S → y ∈ S → nx x = nx y → x = y := fun hx hy e => M.ninj hx hy e
  have l1 := hL p hp
  have l2 := hL q hq
  have l3 := hL _ ha
  have l4 := hL _ hb
  have sub : ∀ v, subP p q L v = if v = p then L + 1 else if v = q then L + 3 else v := fun _ => rfl
  -- the values behind both halvings
  have key : (∀ z ∈ S, z ≠ p → z ≠ q → hv1 (hv1 nx p (L + 1)) q (L + 3) z = subP p q L (nx z)) ∧ hv1 (hv1 nx p (L + 1)) q (L + 3) (L + 1) = subP p q L (nx p) ∧ hv1 (hv1 nx p (L + 1)) q (L + 3) (L + 3) = subP p q L (nx q) ∧
      (hv1 nx p (L + 1) q ∈ S ∨ hv1 nx p (L + 1) q = L + 1) ∧ (hv1 nx p (L + 1) (hv1 nx p (L + 1) q) ∈ S ∨ hv1 nx p (L + 1) (hv1 nx p (L + 1) q) = L + 1) := by
    by_cases c1 : q = nx p
    · have a1 : hv1 nx p (L + 1) q = nx (nx p) := by rw [hv1_at, c1, if_neg (Ne.symm n3), if_neg (by omega)]
      have b1 : hv1 nx p (L + 1) (nx (nx p)) = L + 1 := by rw [hv1_at, if_pos rfl]
      have W : ∀ z, hv1 (hv1 nx p (L + 1)) q (L + 3) z = if z = L + 1 then L + 3 else if z = L + 3 then nx (nx p) else hv1 nx p (L + 1) z := fun z => by rw [hv1_at (w := hv1 nx p (L + 1)), a1, b1]
      refine ⟨fun z hz z1 z2 => ?_, ?_, ?_, .inl (by rw [a1]; exact hb), .inr (by rw [a1, b1])⟩
      · have lz := hL z hz
        rw [W, if_neg (by omega), if_neg (by omega), hv1_at, sub]
        by_cases e : z = nx (nx p)
        · rw [if_pos e, e, bp, if_pos rfl]
        · rw [if_neg e, if_neg (by omega), if_neg (fun x => e (ninj hz hb (x.trans bp.symm))), if_neg (fun x => z1 (ninj hz hp (x.trans c1)))]
      · rw [W, if_pos rfl, sub, if_neg n1, if_pos c1.symm]
      · rw [W, if_neg (by omega), if_pos rfl, sub, c1, if_neg n2, if_neg n3]
    · by_cases c2 : q = nx (nx p)
      · have a1 : hv1 nx p (L + 1) q = L + 1 := by rw [hv1_at, if_pos c2]
        have b1 : hv1 nx p (L + 1) (L + 1) = nx p := by rw [hv1_at, if_neg (by omega), if_pos rfl]
        have W : ∀ z, hv1 (hv1 nx p (L + 1)) q (L + 3) z = if z = nx p then L + 3 else if z = L + 3 then L + 1 else hv1 nx p (L + 1) z := fun z => by rw [hv1_at (w := hv1 nx p (L + 1)), a1, b1]
        refine ⟨fun z hz z1 z2 => ?_, ?_, ?_, .inr a1, .inl (by rw [a1, b1]; exact ha)⟩
        · have lz := hL z hz
          rw [W]
          by_cases e : z = nx p
          · rw [if_pos e, e, sub, if_neg n2, if_pos c2.symm]
          · rw [if_neg e, if_neg (by omega), hv1_at, sub, if_neg (by rw [← c2]; exact z2), if_neg (by omega), if_neg (fun x => z2 (by rw [c2]; exact ninj hz hb (x.trans bp.symm))), if_neg (fun x => e (ninj hz ha (x.trans c2)))]
        · rw [W, if_neg (by omega), if_neg (by omega), b1, sub, if_neg n1, if_neg (fun x => c1 x.symm)]
        · rw [W, if_neg (by omega), if_pos rfl, sub, c2, bp, if_pos rfl]
      · have hc := M.cn q hq
        have hd := M.cn _ hc
        have dq := M.n3 q hq
        have lc := hL _ hc
        have ld := hL _ hd
        have cb : nx q ≠ nx (nx p) := fun x => c1 (ninj hq ha x)
        have cp : nx q ≠ p := fun x => c2 (ninj hq hb (x.trans bp.symm))
        have a1 : hv1 nx p (L + 1) q = nx q := by rw [hv1_at, if_neg c2, if_neg (by omega)]
        have b1 : hv1 nx p (L + 1) (nx q) = nx (nx q) := by rw [hv1_at, if_neg cb, if_neg (by omega)]
        have W : ∀ z, hv1 (hv1 nx p (L + 1)) q (L + 3) z = if z = nx (nx q) then L + 3 else if z = L + 3 then nx q else hv1 nx p (L + 1) z := fun z => by rw [hv1_at (w := hv1 nx p (L + 1)), a1, b1]
        refine ⟨fun z hz z1 z2 => ?_, ?_, ?_, .inl (by rw [a1]; exact hc), .inl (by rw [a1, b1]; exact hd)⟩
        · have lz := hL z hz
          rw [W]
          by_cases e : z = nx (nx q)
          · rw [if_pos e, e, dq, sub, if_neg (Ne.symm hpq), if_pos rfl]
          · rw [if_neg e, if_neg (by omega), hv1_at, sub]
            by_cases e2 : z = nx (nx p)
            · rw [if_pos e2, e2, bp, if_pos rfl]
            · rw [if_neg e2, if_neg (by omega), if_neg (fun x => e2 (ninj hz hb (x.trans bp.symm))), if_neg (fun x => e (ninj hz hd (x.trans dq.symm)))]
        · rw [W, if_neg (by omega), if_neg (by omega), hv1_at, if_neg (by omega), if_pos rfl, sub, if_neg n1, if_neg (fun x => c1 x.symm)]
        · rw [W, if_neg (by omega), if_pos rfl, sub, if_neg cp, if_neg (M.n1 q hq)]
  obtain ⟨k1, k2, k3, k4, k5⟩ := key
  generalize hv1 (hv1 nx p (L + 1)) q (L + 3) = w2 at k1 k2 k3 ⊢
  refine ⟨fun z hz => ?_, k4, k5⟩
  by_cases zp : z = p
  · rw [zp, seat_o hpq (by omega) (by omega), seat_1 (by omega) (by omega), if_pos rfl]
  by_cases zq : z = q
  · rw [zq, seat_1 (by omega) (by omega), if_neg (Ne.symm hpq), if_pos rfl]
  rw [if_neg zp, if_neg zq]
  rcases hz with hz | hz
  · have lz := hL z hz
    rw [seat_o zq (by omega) (by omega), seat_o zp (by omega) (by omega), if_neg (by omega), if_neg (by omega), if_neg (by omega), if_neg (by omega), if_neg (by omega), if_neg (by omega)]
    exact k1 z hz zp zq
  · rcases hz with e | e | e | e | e | e
    · rw [e, if_pos rfl, seat_o (by omega) (by omega) (by omega), seat_3]
    · rw [e, if_neg (by omega), if_pos rfl, seat_o (by omega) (by omega) (by omega), seat_o (by omega) (by omega) (by omega)]
      exact k2
    · rw [e, if_neg (by omega), if_neg (by omega), if_pos rfl, seat_3]
    · rw [e, if_neg (by omega), if_neg (by omega), if_neg (by omega), if_pos rfl, seat_o (by omega) (by omega) (by omega), seat_o (by omega) (by omega) (by omega)]
      exact k3
    · rw [e, if_neg (by omega), if_neg (by omega), if_neg (by omega), if_neg (by omega), if_pos rfl, seat_o (by omega) (by omega) (by omega), seat_2 (by omega)]
    · rw [e, if_neg (by omega), if_neg (by omega), if_neg (by omega), if_neg (by omega), if_neg (by omega), if_pos rfl, seat_2 (by omega)]
/-! Wr: a bubble parted; all deeds by orders. -/
def sp_p_halved (G : Gx) : Sp := fun vs H Q _ => ∃ (d : Addr) (T : List Int) (w : Int → Int) (e h : Int), vs = [.ref d, .int e, .int h] ∧ H d = some (dW T w) ∧ ot e ∈ T ∧ w (ot e) ∈ T ∧ T.length ≤ 90100 ∧ Q .non (upd H d (dW (putS (putS T (h + 1)) (w (w (ot e)))) (hv1 w (ot e) (h + 1))))
theorem len_p_halved {G : Gx} : ∀ vs H Q E, sp_p_halved G vs H Q E → vs.length = 3 := by rintro vs H Q E ⟨d, T, w, e, h, rfl, _⟩; rfl
/-! halved: slots web, end, far, gone, after, ahead -/
def t_p_halved (G : Gx) : TS :=
  (tSeq (tAsg (tCall (sp_p_other G) [] E0 (tCons (tVar 1) tNil)) (gName 3))
  (tSeq (tAsg (tDGet (tVar 0) (tVar 3)) (gName 4))
  (tSeq (tAsg (tDGet (tVar 0) (tVar 4)) (gName 5))
  (tSeq (sDPut (tVar 0) (tOp rAddI (tVar 2) (tC (.int 1))) (tVar 4))
  (sDPut (tVar 0) (tVar 5) (tOp rAddI (tVar 2) (tC (.int 1))))))))
theorem pure_p_halved {G : Gx} {vs : List V} {H : Hp} {Q : VK} {E : XK} (h : sp_p_halved G vs H Q E) : Body (t_p_halved G) ["web", "end", "far", "gone", "after", "ahead"] vs H Q := by
  obtain ⟨d, T, w, e, h, rfl, hd, h1, h2, hl, k⟩ := h
  show t_p_halved G _ [some (.ref d), some (.int e), some (.int h), none, none, none] H
  unfold t_p_halved
  have l1 := len_putS (S := T) (k := h + 1)
  have hl1 : T.length < sizeLine := size1000l (by omega)
  have hl2 : (putS T (h + 1)).length < sizeLine := size1000l (by omega)
  walk_at "go"
  rw [upd_upd]
  exact k
def sp_p_parted (G : Gx) : Sp := fun vs H Q E => ∃ (d : Addr) (S : List Int) (nx : Int → Int) (one two f : Int), vs = [.ref d, .int one, .int two, .int f] ∧ Rd H d (dW S nx) ∧ Map S ot nx ∧ (∀ x ∈ S, x < 2 * f) ∧ S.length ≤ 90000 ∧
  (¬ (one ∈ S ∧ two ∈ S) → E (.ref (G.ad "NoEnd")) none H) ∧ (one ∈ S → two ∈ S → ¬ Rim S nx one two → ∀ H', Same H H' → E (.ref (G.ad "NotOne")) none H') ∧ (one ∈ S → two ∈ S → Rim S nx one two → one / 2 = two / 2 → ∀ H', Same H H' → E (.ref (G.ad "SameFilm")) none H') ∧
  (one ∈ S → two ∈ S → Rim S nx one two → one / 2 ≠ two / 2 → ∀ (S' : List Int) p H', S'.Nodup → (∀ z, z ∈ S' ↔ z ∈ blowS S (2 * f)) → Same H H' → Free H p → H' p = some (dW S' (partF nx one two (2 * f))) → Q (.ref p) H')
theorem len_p_parted {G : Gx} : ∀ vs H Q E, sp_p_parted G vs H Q E → vs.length = 4 := by rintro vs H Q E ⟨d, S, nx, e, t, f, rfl, _⟩; rfl
/-! parted: slots web, one, two, first, made, low -/
def t_p_parted (G : Gx) (E : XK) : TS :=
  (tSeq (tIfS (tOr (tB (tDNotIn (tVar 1) (tVar 0))) (tB (tDNotIn (tVar 2) (tVar 0)))) (tRaise E (G.ad "NoEnd")) tNext)
  (tSeq (tIfS (tTest (tOp (rIn G.K true) (tVar 2) (tCall (sp_p_rim G) [] E (tCons (tVar 0) (tCons (tVar 1) tNil))))) (tRaise E (G.ad "NotOne")) tNext)
  (tSeq (tIfS (tTest (tOp rEq (tOp rDivW (tVar 1) (tC (.int 2))) (tOp rDivW (tVar 2) (tC (.int 2))))) (tRaise E (G.ad "SameFilm")) tNext)
  (tSeq (tAsg (tCB rDictRd (tCons (tVar 0) tNil)) (gName 4))
  (tSeq (tAsg (tOp rMulI (tC (.int 2)) (tVar 3)) (gName 5))
  (tSeq (tDrop (tCall (sp_p_halved G) [] E0 (tCons (tVar 4) (tCons (tVar 1) (tCons (tVar 5) tNil)))))
  (tSeq (tDrop (tCall (sp_p_halved G) [] E0 (tCons (tVar 4) (tCons (tVar 2) (tCons (tOp rAddI (tVar 5) (tC (.int 2))) tNil)))))
  (tSeq (tDrop (tCall (sp_p_seat G) [] E0 (tCons (tVar 4) (tCons (tTup (tCons (tCall (sp_p_other G) [] E0 (tCons (tVar 1) tNil)) (tCons (tOp rAddI (tVar 5) (tC (.int 4))) (tCons (tVar 5) tNil)))) tNil))))
  (tSeq (tDrop (tCall (sp_p_seat G) [] E0 (tCons (tVar 4) (tCons (tTup (tCons (tCall (sp_p_other G) [] E0 (tCons (tVar 2) tNil)) (tCons (tOp rAddI (tVar 5) (tC (.int 5))) (tCons (tOp rAddI (tVar 5) (tC (.int 2))) tNil)))) tNil))))
  (tRet (tVar 4)))))))))))
theorem pure_p_parted {G : Gx} {vs : List V} {H : Hp} {Q : VK} {E : XK} (h : sp_p_parted G vs H Q E) : Body (t_p_parted G E) ["web", "one", "two", "first", "made", "low"] vs H Q := by
  obtain ⟨d, S, nx, one, two, f, rfl, hd, M, hL, hl, k1, k2, k3, k4⟩ := h
  show t_p_parted G E _ [some (.ref d), some (.int one), some (.int two), some (.int f), none, none] H
  unfold t_p_parted
  walk_at "go"
  refine iteN (fun hn => ?_) (fun h1 => ?_)
  · walk_at "go"
    exact k1 fun z => hn z.1
  walk_at "go"
  refine iteN (fun hn => ?_) (fun h2 => ?_)
  · walk_at "go"
    exact k1 fun z => hn z.2
  walk_at "go"
  refine ⟨d, S, nx, one, rfl, hd, M, by omega, fun _ p H1 s1 f1 e1 => ?_, fun z => absurd h1 z⟩
  refine r_inL (SqL.of e1) rfl (all_flat _) ?_
  walk_at "go"
  rw [if_pos rfl]
  refine iteNB (fun h => ?_) (fun h => ?_)
  · have hr : ¬ Rim S nx one two := fun z => by
      rw [(inV_mem _ _).mpr ((rimL_mem M.perm h1).mpr z)] at h
      cases h
    walk_at "go"
    exact k2 h1 h2 hr _ s1
  have hr : Rim S nx one two := (rimL_mem M.perm h1).mp ((inV_mem _ _).mp h)
  have hd1 : Rd H1 d (dW S nx) := same_rd s1 hd
  walk_at "go"
  refine iteI (fun h => ?_) (fun hf => ?_)
  · walk_at "go"
    exact k3 h1 h2 hr h _ s1
  obtain ⟨PV, PX, PY⟩ := part_prog M h1 h2 hf hL
  have hp := M.ca _ h1
  have hq := M.ca _ h2
  have ha := M.cn _ hp
  have hb := M.cn _ ha
  walk_at "go"
  intro m hm
  have hm0 : Free H m := s1.free hm
  have s2 := same_new (o := dW S nx) s1 hm
  have e2 : upd H1 m (dW S nx) m = some (dW S nx) := upd_same
  generalize upd H1 m (dW S nx) = H2 at s2 e2 ⊢
  walk_at "go"
  refine ⟨m, S, nx, one, 2 * f, rfl, e2, hp, ha, by omega, ?_⟩
  have kb : putS (putS S (2 * f + 1)) (nx (nx (ot one))) = S ++ [2 * f + 1] := by
    rw [putS_out (S := S) (k := 2 * f + 1) fun z => by have := hL _ z; omega, putS_in (List.mem_append.mpr (.inl hb))]
  rw [kb]
  have s3 := same_mut (o := dW (S ++ [2 * f + 1]) (hv1 nx (ot one) (2 * f + 1))) s2 hm0
  have e3 : upd H2 m (dW (S ++ [2 * f + 1]) (hv1 nx (ot one) (2 * f + 1))) m = some (dW (S ++ [2 * f + 1]) (hv1 nx (ot one) (2 * f + 1))) := upd_same
  generalize upd H2 m (dW (S ++ [2 * f + 1]) (hv1 nx (ot one) (2 * f + 1))) = H3 at s3 e3 ⊢
  have inT : ∀ v, (v ∈ S ∨ v = 2 * f + 1) → v ∈ S ++ [2 * f + 1] := fun v h => List.mem_append.mpr (h.imp id List.mem_singleton.mpr)
  walk_at "go"
  refine ⟨m, _, _, two, 2 * f + 2, rfl, e3, inT _ (.inl hq), inT _ PX, by rw [List.length_append, List.length_singleton]; omega, ?_⟩
  have kc : putS (putS (S ++ [2 * f + 1]) (2 * f + 2 + 1)) (hv1 nx (ot one) (2 * f + 1) (hv1 nx (ot one) (2 * f + 1) (ot two))) = S ++ [2 * f + 1, 2 * f + 3] := by
    rw [show 2 * f + 2 + 1 = 2 * f + 3 by omega, putS_out (S := S ++ [2 * f + 1]) (k := 2 * f + 3) fun z => ?_, putS_in (List.mem_append.mpr (.inl (inT _ PY))), List.append_assoc]
    · rfl
    · rcases List.mem_append.mp z with z | z
      · have := hL _ z; omega
      · have := List.mem_singleton.mp z; omega
  rw [kc, show 2 * f + 2 + 1 = 2 * f + 3 by omega]
  have s4 := same_mut (o := dW (S ++ [2 * f + 1, 2 * f + 3]) (hv1 (hv1 nx (ot one) (2 * f + 1)) (ot two) (2 * f + 3))) s3 hm0
  have e4 : upd H3 m (dW (S ++ [2 * f + 1, 2 * f + 3]) (hv1 (hv1 nx (ot one) (2 * f + 1)) (ot two) (2 * f + 3))) m = some (dW (S ++ [2 * f + 1, 2 * f + 3]) (hv1 (hv1 nx (ot one) (2 * f + 1)) (ot two) (2 * f + 3))) := upd_same
  generalize upd H3 m (dW (S ++ [2 * f + 1, 2 * f + 3]) (hv1 (hv1 nx (ot one) (2 * f + 1)) (ot two) (2 * f + 3))) = H4 at s4 e4 ⊢
  have nd4 : (S ++ [2 * f + 1, 2 * f + 3]).Nodup := by
    rw [← kc]
    exact nd_putS (nd_putS (by rw [← kb]; exact nd_putS (nd_putS M.nd)))
  have l4 : (S ++ [2 * f + 1, 2 * f + 3]).length = S.length + 2 := by rw [List.length_append]; rfl
  walk_at "go"
  refine ⟨by walk_at "sz", fun u hu => ?_⟩
  walk_at "go"
  refine c_seatS s4 hm0 e4 (by omega) hu fun H5 s5 e5 => ?_
  have l5 := len_putS3 (S := S ++ [2 * f + 1, 2 * f + 3]) (x := ot one) (y := 2 * f + 4) (z := 2 * f)
  walk_at "go"
  refine ⟨by walk_at "sz", fun u2 hu2 => ?_⟩
  walk_at "go"
  refine c_seatS s5 hm0 e5 (by omega) hu2 fun H6 s6 e6 => ?_
  walk_at "go"
  have m2 : ∀ z, z ∈ putS3 (putS3 (S ++ [2 * f + 1, 2 * f + 3]) (ot one) (2 * f + 4) (2 * f)) (ot two) (2 * f + 5) (2 * f + 2) ↔ z ∈ blowS S (2 * f) := fun z => by
    rw [mem_putS3, mem_putS3, List.mem_append, mem_blowS]
    unfold New6
    simp only [List.mem_cons, List.not_mem_nil, or_false]
    constructor
    · rintro (((h | h | h) | h | h | h) | h | h | h)
      · exact .inl h
      · exact .inr (by omega)
      · exact .inr (by omega)
      · exact .inl (h ▸ hp)
      · exact .inr (by omega)
      · exact .inr (by omega)
      · exact .inl (h ▸ hq)
      · exact .inr (by omega)
      · exact .inr (by omega)
    · rintro (h | h | h | h | h | h | h)
      · exact .inl (.inl (.inl h))
      · exact .inl (.inr (.inr (.inr h)))
      · exact .inl (.inl (.inr (.inl h)))
      · exact .inr (.inr (.inr h))
      · exact .inl (.inl (.inr (.inr h)))
      · exact .inl (.inr (.inr (.inl h)))
      · exact .inr (.inr (.inl h))
  refine k4 h1 h2 hr hf _ m H6 (nd_putS3 (nd_putS3 nd4)) m2 s6 hm0 ?_
  exact e6.trans (congrArg some (dI_congr fun z hz => congrArg V.int (PV z (mem_blowS.mp ((m2 z).mp hz)))))
/-! ### pick -/
/-! _law_pick: slots _law_web_here, _law_cell_here, _law_pick_here, _law_kind, _law_ends -/
/-! Ws: deeds by orders, as the laws do them. -/
theorem iteDt {c A B : Prop} [Decidable c] (h : c) (k : A) : if decide c = true then A else B := by rw [decide_eq_true h, if_pos rfl]; exact k
theorem iteDf {c A B : Prop} [Decidable c] (h : ¬ c) (k : B) : if decide c = true then A else B := by rw [decide_eq_false h, if_neg Bool.false_ne_true]; exact k
theorem iteNDt {c A B : Prop} [Decidable c] (h : c) (k : B) : if (!decide c) = true then A else B := by rw [decide_eq_true h]; exact iteNt k
theorem iteNDf {c A B : Prop} [Decidable c] (h : ¬ c) (k : A) : if (!decide c) = true then A else B := by rw [decide_eq_false h]; exact iteNf k
local macro_rules | `(tactic| walk_at "st") => `(tactic| first
  | ((with_reducible refine iteDt ?hc ?_); (case hc => (with_reducible rfl)))
  | ((with_reducible refine iteDf ?hc ?_); (case hc => decide +kernel))
  | ((with_reducible refine iteNDt ?hc ?_); (case hc => (with_reducible rfl)))
  | ((with_reducible refine iteNDf ?hc ?_); (case hc => decide +kernel)))
inductive Ord where
  | push (f : Int)
  | pull (f : Int)
  | burst (f : Int)
  | part (o t f : Int)
  | blow (e f : Int)
def Ord.vals : Ord → List V
  | .push f => [.str "push", .int f]
  | .pull f => [.str "pull", .int f]
  | .burst f => [.str "burst", .int f]
  | .part o t f => [.str "part", .int o, .int t, .int f]
  | .blow e f => [.str "blow", .int e, .int f]
/-- new films stand above all -/
def Ord.ok (S : List Int) : Ord → Prop
  | .part _ _ f => ∀ x ∈ S, x < 2 * f
  | .blow _ f => ∀ x ∈ S, x < 2 * f
  | _ => True
open Classical in
noncomputable def wordF (S : List Int) (nx : Int → Int) : Ord → Str
  | .push f => if 2 * f ∉ S then "film" else if Looped nx (2 * f) then "looped" else ""
  | .pull f => if 2 * f ∉ S then "film" else if Looped nx (2 * f) then "looped" else ""
  | .burst f => if 2 * f ∉ S then "film" else if Rim S nx (2 * f) (ot (2 * f)) then "one bubble" else ""
  | .part o t f => if ¬ (o ∈ S ∧ t ∈ S) then "end" else if ¬ Rim S nx o t then "not one" else if o / 2 = t / 2 then "same film" else ""
  | .blow e f => if e ∉ S then "end" else ""
noncomputable def moveS (S : List Int) (nx : Int → Int) : Ord → List Int
  | .push _ => S
  | .pull _ => S
  | .burst f => wS S nx (2 * f)
  | .part _ _ f => blowS S (2 * f)
  | .blow _ f => blowS S (2 * f)
noncomputable def moveN (nx : Int → Int) : Ord → Int → Int
  | .push f => pushF nx (2 * f)
  | .pull f => pullF nx (2 * f)
  | .burst f => wN nx (2 * f)
  | .part o t f => partF nx o t (2 * f)
  | .blow e f => blowF nx e (2 * f)
section
variable {S : List Int} {nx : Int → Int} {f o t e : Int}
theorem w_film1 (h : 2 * f ∉ S) : wordF S nx (.push f) = "film" ∧ wordF S nx (.pull f) = "film" ∧ wordF S nx (.burst f) = "film" := by
  unfold wordF
  simp only [h, not_false_eq_true, if_true, and_self]
theorem w_loop (h : 2 * f ∈ S) (l : Looped nx (2 * f)) : wordF S nx (.push f) = "looped" ∧ wordF S nx (.pull f) = "looped" := by
  unfold wordF
  simp only [h, l, not_true_eq_false, if_false, if_true, and_self]
theorem w_push (h : 2 * f ∈ S) (l : ¬ Looped nx (2 * f)) : wordF S nx (.push f) = "" ∧ wordF S nx (.pull f) = "" := by
  unfold wordF
  simp only [h, l, not_true_eq_false, if_false, and_self]
theorem w_one (h : 2 * f ∈ S) (l : Rim S nx (2 * f) (ot (2 * f))) : wordF S nx (.burst f) = "one bubble" := by
  unfold wordF
  simp only [h, l, not_true_eq_false, if_false, if_true]
theorem w_burst (h : 2 * f ∈ S) (l : ¬ Rim S nx (2 * f) (ot (2 * f))) : wordF S nx (.burst f) = "" := by
  unfold wordF
  simp only [h, l, not_true_eq_false, if_false]
theorem w_end (h : ¬ (o ∈ S ∧ t ∈ S)) : wordF S nx (.part o t f) = "end" := by
  unfold wordF
  dsimp only
  rw [if_pos h]
theorem w_notone (h1 : o ∈ S) (h2 : t ∈ S) (h : ¬ Rim S nx o t) : wordF S nx (.part o t f) = "not one" := by
  unfold wordF
  dsimp only
  rw [if_neg (fun z => z ⟨h1, h2⟩), if_pos h]
theorem w_same (h1 : o ∈ S) (h2 : t ∈ S) (h : Rim S nx o t) (g : o / 2 = t / 2) : wordF S nx (.part o t f) = "same film" := by
  unfold wordF
  dsimp only
  rw [if_neg (fun z => z ⟨h1, h2⟩), if_neg (fun z => z h), if_pos g]
theorem w_part (h1 : o ∈ S) (h2 : t ∈ S) (h : Rim S nx o t) (g : o / 2 ≠ t / 2) : wordF S nx (.part o t f) = "" := by
  unfold wordF
  dsimp only
  rw [if_neg (fun z => z ⟨h1, h2⟩), if_neg (fun z => z h), if_neg g]
theorem w_noend (h : e ∉ S) : wordF S nx (.blow e f) = "end" := by
  unfold wordF
  dsimp only
  rw [if_pos h]
theorem w_blow (h : e ∈ S) : wordF S nx (.blow e f) = "" := by
  unfold wordF
  dsimp only
  rw [if_neg (fun z => z h)]
end
theorem blow_nd {S : List Int} {L : Int} (nd : S.Nodup) (hL : ∀ x ∈ S, x < L) : (blowS S L).Nodup := by
  unfold blowS
  refine List.nodup_append.mpr ⟨nd, nodup6 L, fun a ha b hb z => ?_⟩
  have := hL a ha
  simp only [List.mem_cons, List.not_mem_nil, or_false] at hb
  omega
/-! ### move -/
def Made (H H' : Hp) (S : List Int) (nx : Int → Int) (o : Ord) (v : V) : Prop :=
  (wordF S nx o = "" → ∃ p S', v = .ref p ∧ Free H p ∧ S'.Nodup ∧ (∀ z, z ∈ S' ↔ z ∈ moveS S nx o) ∧ H' p = some (dW S' (moveN nx o))) ∧ (wordF S nx o ≠ "" → v = .non)
def sp_l_move (G : Gx) : Sp := fun vs H Q _ => ∃ (d t : Addr) (S : List Int) (nx : Int → Int) (o : Ord), vs = [.ref d, .ref t] ∧ Rd H d (dW S nx) ∧ SqT G.K H t o.vals ∧ Web S nx ∧ o.ok S ∧ S.length ≤ 90000 ∧
  ∀ r v H', Same H H' → H' r = some (.tup [.str (wordF S nx o), v]) → Made H H' S nx o v → Q (.ref r) H'
theorem len_l_move {G : Gx} : ∀ vs H Q E, sp_l_move G vs H Q E → vs.length = 2 := by rintro vs H Q E ⟨d, t, S, nx, o, rfl, _⟩; rfl
abbrev SIX : List Str := ["NoFilm", "NoEnd", "Looped", "OneBubble", "NotOne", "SameFilm"]
/-! _law_move: slots _law_web_here, _law_order, _law_word, _law_made -/
def t_l_move (G : Gx) : TS :=
  (tSeq (tAsg (tC (.str "")) (gName 2))
  (tSeq (tAsg (tC .non) (gName 3))
  (tSeq (tTryM G [("NoFilm", (tAsg (tC (.str "film")) (gName 2))), ("NoEnd", (tAsg (tC (.str "end")) (gName 2))), ("Looped", (tAsg (tC (.str "looped")) (gName 2))), ("OneBubble", (tAsg (tC (.str "one bubble")) (gName 2))), ("NotOne", (tAsg (tC (.str "not one")) (gName 2))), ("SameFilm", (tAsg (tC (.str "same film")) (gName 2)))] fun W => (tIfS (tTest (tOp rEq (tOp (rIxT G.K) (tVar 1) (tC (.int 0))) (tC (.str "push")))) (tAsg (tCallS (sp_p_pushed G) (WE W) (tCons (tVar 0) (tCons (tOp (rIxT G.K) (tVar 1) (tC (.int 1))) tNil))) (gName 3)) (tIfS (tTest (tOp rEq (tOp (rIxT G.K) (tVar 1) (tC (.int 0))) (tC (.str "pull")))) (tAsg (tCallS (sp_p_pulled G) (WE W) (tCons (tVar 0) (tCons (tOp (rIxT G.K) (tVar 1) (tC (.int 1))) tNil))) (gName 3)) (tIfS (tTest (tOp rEq (tOp (rIxT G.K) (tVar 1) (tC (.int 0))) (tC (.str "burst")))) (tAsg (tCallS (sp_p_burst G) (WE W) (tCons (tVar 0) (tCons (tOp (rIxT G.K) (tVar 1) (tC (.int 1))) tNil))) (gName 3)) (tIfS (tTest (tOp rEq (tOp (rIxT G.K) (tVar 1) (tC (.int 0))) (tC (.str "part")))) (tAsg (tCallS (sp_p_parted G) (WE W) (tCons (tVar 0) (tCons (tOp (rIxT G.K) (tVar 1) (tC (.int 1))) (tCons (tOp (rIxT G.K) (tVar 1) (tC (.int 2))) (tCons (tOp (rIxT G.K) (tVar 1) (tC (.int 3))) tNil))))) (gName 3)) (tAsg (tCallS (sp_p_blown G) (WE W) (tCons (tVar 0) (tCons (tOp (rIxT G.K) (tVar 1) (tC (.int 1))) (tCons (tOp (rIxT G.K) (tVar 1) (tC (.int 2))) tNil)))) (gName 3)))))))
  (tRet (tTup (tCons (tVar 2) (tCons (tVar 3) tNil)))))))
theorem made_no {H H' : Hp} {S : List Int} {nx : Int → Int} {o : Ord} {w : Str} (e : wordF S nx o = w) (h : w ≠ "") : Made H H' S nx o .non := ⟨fun z => absurd (e.symm.trans z) h, fun _ => rfl⟩
theorem made_of {H H' : Hp} {S S' : List Int} {nx : Int → Int} {o : Ord} {p : Addr} (e : wordF S nx o = "") (f : Free H p) (nd : S'.Nodup) (m : ∀ z, z ∈ S' ↔ z ∈ moveS S nx o) (h : H' p = some (dW S' (moveN nx o))) : Made H H' S nx o (.ref p) := ⟨fun _ => ⟨p, S', rfl, f, nd, m, h⟩, fun z => absurd e z⟩
theorem pure_l_move {G : Gx} {vs : List V} {H : Hp} {Q : VK} {E : XK} (X : Exm G SIX) (h : sp_l_move G vs H Q E) : Body (t_l_move G) ["_law_web_here", "_law_order", "_law_word", "_law_made"] vs H Q := by
  obtain ⟨d, t, S, nx, o, rfl, hd, ht, W, ok, hl, k⟩ := h
  show t_l_move G _ [some (.ref d), some (.ref t), none, none] H
  unfold t_l_move
  have M := W.map
  have out : ∀ (i : Nat) (w : Str) (H' : Hp), Same H H' → wordF S nx o = w → w ≠ "" → [V.str w, .non].length ≤ sizeLine ∧ ∀ p, Free H' p → Q (.ref p) (upd H' p (.tup [.str w, .non])) := fun i w H' s e hw => by
    refine ⟨by walk_at "sz", fun r hr => ?_⟩
    exact k r .non _ (same_new s hr) (by rw [e]; exact upd_same) (made_no e hw)
  have fin : ∀ (p : Addr) (S' : List Int) (H' : Hp), Same H H' → wordF S nx o = "" → Free H p → S'.Nodup → (∀ z, z ∈ S' ↔ z ∈ moveS S nx o) → H' p = some (dW S' (moveN nx o)) →
      [V.str "", .ref p].length ≤ sizeLine ∧ ∀ r, Free H' r → Q (.ref r) (upd H' r (.tup [.str "", .ref p])) := fun p S' H' s e f nd m h => by
    refine ⟨by walk_at "sz", fun r hr => ?_⟩
    exact k r (.ref p) _ (same_new s hr) (by rw [e]; exact upd_same) (made_of e f nd m (at_new h hr))
  walk_at "go"
  unfold tTryM
  cases o with
  | push f =>
    have ht' : SqT G.K H t [.str "push", .int f] := ht
    walk_at "go"
    refine ⟨d, S, nx, f, rfl, hd, M, hl, fun hn => ?_, fun hi hlo H1 s1 => ?_, fun hi hno p H1 s1 f1 e1 => ?_⟩
    · refine hit X 0 rfl rfl ?_
      walk_at "go"
      exact out 0 "film" _ (Same.refl _) (w_film1 hn).1 (by decide)
    · refine hit X 2 rfl rfl ?_
      walk_at "go"
      exact out 0 "looped" _ s1 (w_loop hi hlo).1 (by decide)
    · walk_at "go"
      exact fin p S H1 s1 (w_push hi hno).1 f1 M.nd (fun _ => Iff.rfl) e1
  | pull f =>
    have ht' : SqT G.K H t [.str "pull", .int f] := ht
    walk_at "go"
    refine ⟨d, S, nx, f, rfl, hd, M, hl, fun hn => ?_, fun hi hlo H1 s1 => ?_, fun hi hno p H1 s1 f1 e1 => ?_⟩
    · refine hit X 0 rfl rfl ?_
      walk_at "go"
      exact out 0 "film" _ (Same.refl _) (w_film1 hn).2.1 (by decide)
    · refine hit X 2 rfl rfl ?_
      walk_at "go"
      exact out 0 "looped" _ s1 (w_loop hi hlo).2 (by decide)
    · walk_at "go"
      exact fin p S H1 s1 (w_push hi hno).2 f1 M.nd (fun _ => Iff.rfl) e1
  | burst f =>
    have ht' : SqT G.K H t [.str "burst", .int f] := ht
    walk_at "go"
    refine ⟨d, S, nx, f, rfl, hd, W, hl, fun hn => ?_, fun hi hlo H1 s1 => ?_, fun hi hno S' p H1 nd m s1 f1 e1 => ?_⟩
    · refine hit X 0 rfl rfl ?_
      walk_at "go"
      exact out 0 "film" _ (Same.refl _) (w_film1 hn).2.2 (by decide)
    · refine hit X 3 rfl rfl ?_
      walk_at "go"
      exact out 0 "one bubble" _ s1 (w_one hi hlo) (by decide)
    · walk_at "go"
      exact fin p S' H1 s1 (w_burst hi hno) f1 nd m e1
  | part o t2 f =>
    have ht' : SqT G.K H t [.str "part", .int o, .int t2, .int f] := ht
    walk_at "go"
    refine ⟨d, S, nx, o, t2, f, rfl, hd, M, ok, hl, fun hn => ?_, fun h1 h2 hno H1 s1 => ?_, fun h1 h2 hr he H1 s1 => ?_, fun h1 h2 hr he S' p H1 nd m s1 f1 e1 => ?_⟩
    · refine hit X 1 rfl rfl ?_
      walk_at "go"
      exact out 0 "end" _ (Same.refl _) (w_end hn) (by decide)
    · refine hit X 4 rfl rfl ?_
      walk_at "go"
      exact out 0 "not one" _ s1 (w_notone h1 h2 hno) (by decide)
    · refine hit X 5 rfl rfl ?_
      walk_at "go"
      exact out 0 "same film" _ s1 (w_same h1 h2 hr he) (by decide)
    · walk_at "go"
      exact fin p S' H1 s1 (w_part h1 h2 hr he) f1 nd m e1
  | blow e f =>
    have ht' : SqT G.K H t [.str "blow", .int e, .int f] := ht
    walk_at "go"
    refine ⟨d, S, nx, e, f, rfl, hd, M, ok, hl, fun hn => ?_, fun hi p H1 s1 f1 e1 => ?_⟩
    · refine hit X 1 rfl rfl ?_
      walk_at "go"
      exact out 0 "end" _ (Same.refl _) (w_noend hn) (by decide)
    · walk_at "go"
      exact fin p (blowS S (2 * f)) H1 s1 (w_blow hi) f1 (blow_nd M.nd ok) (fun _ => Iff.rfl) e1
/-! ### move_word -/
/-! _law_move_word: slots _law_web_here, _law_order, _law_name, _law_one -/
/-! ### moved -/
def sp_l_moved (G : Gx) : Sp := fun vs H Q _ => ∃ (d t : Addr) (S : List Int) (nx : Int → Int) (o : Ord), vs = [.ref d, .ref t] ∧ H d = some (dW S nx) ∧ SqT G.K H t o.vals ∧ Web S nx ∧ o.ok S ∧ wordF S nx o = "" ∧ S.length ≤ 90000 ∧
  ∀ S' p H', S'.Nodup → (∀ z, z ∈ S' ↔ z ∈ moveS S nx o) → Same H H' → Free H p → H' p = some (dW S' (moveN nx o)) → Q (.ref p) H'
theorem len_l_moved {G : Gx} : ∀ vs H Q E, sp_l_moved G vs H Q E → vs.length = 2 := by rintro vs H Q E ⟨d, t, S, nx, o, rfl, _⟩; rfl
section
variable {S : List Int} {nx : Int → Int} {f o t e : Int}
theorem i_push (h : wordF S nx (.push f) = "") : 2 * f ∈ S ∧ ¬ Looped nx (2 * f) := by
  by_cases h1 : 2 * f ∈ S
  · refine ⟨h1, fun z => ?_⟩
    rw [(w_loop h1 z).1] at h
    exact absurd h (by decide)
  · rw [(w_film1 h1).1] at h
    exact absurd h (by decide)
theorem i_pull (h : wordF S nx (.pull f) = "") : 2 * f ∈ S ∧ ¬ Looped nx (2 * f) := by
  by_cases h1 : 2 * f ∈ S
  · refine ⟨h1, fun z => ?_⟩
    rw [(w_loop h1 z).2] at h
    exact absurd h (by decide)
  · rw [(w_film1 h1).2.1] at h
    exact absurd h (by decide)
theorem i_burst (h : wordF S nx (.burst f) = "") : 2 * f ∈ S ∧ ¬ Rim S nx (2 * f) (ot (2 * f)) := by
  by_cases h1 : 2 * f ∈ S
  · refine ⟨h1, fun z => ?_⟩
    rw [w_one h1 z] at h
    exact absurd h (by decide)
  · rw [(w_film1 h1).2.2] at h
    exact absurd h (by decide)
theorem i_part (h : wordF S nx (.part o t f) = "") : o ∈ S ∧ t ∈ S ∧ Rim S nx o t ∧ o / 2 ≠ t / 2 := by
  by_cases h1 : o ∈ S ∧ t ∈ S
  · by_cases h2 : Rim S nx o t
    · refine ⟨h1.1, h1.2, h2, fun z => ?_⟩
      rw [w_same h1.1 h1.2 h2 z] at h
      exact absurd h (by decide)
    · rw [w_notone h1.1 h1.2 h2] at h
      exact absurd h (by decide)
  · rw [w_end h1] at h
    exact absurd h (by decide)
theorem i_blow (h : wordF S nx (.blow e f) = "") : e ∈ S := by
  by_cases h1 : e ∈ S
  · exact h1
  · rw [w_noend h1] at h
    exact absurd h (by decide)
end
/-! _law_moved: slots _law_web_here, _law_order -/
def t_l_moved (G : Gx) : TS :=
  (tSeq (tIfS (tOr (tTest (tOp rEq (tOp (rIxT G.K) (tVar 1) (tC (.int 0))) (tC (.str "push")))) (tTest (tOp rEq (tOp (rIxT G.K) (tVar 1) (tC (.int 0))) (tC (.str "pull"))))) (tRet (tCall (sp_l_push G) [] E0 (tCons (tVar 0) (tCons (tOp (rIxT G.K) (tVar 1) (tC (.int 1))) (tCons (tOp rEq (tOp (rIxT G.K) (tVar 1) (tC (.int 0))) (tC (.str "pull"))) tNil))))) tNext)
  (tSeq (tIfS (tTest (tOp rEq (tOp (rIxT G.K) (tVar 1) (tC (.int 0))) (tC (.str "burst")))) (tRet (tCall (sp_l_without G) [] E0 (tCons (tVar 0) (tCons (tOp (rIxT G.K) (tVar 1) (tC (.int 1))) tNil)))) tNext)
  (tSeq (tIfS (tTest (tOp rEq (tOp (rIxT G.K) (tVar 1) (tC (.int 0))) (tC (.str "part")))) (tRet (tCall (sp_l_part G) [] E0 (tCons (tVar 0) (tCons (tOp (rIxT G.K) (tVar 1) (tC (.int 1))) (tCons (tOp (rIxT G.K) (tVar 1) (tC (.int 2))) (tCons (tOp (rIxT G.K) (tVar 1) (tC (.int 3))) tNil)))))) tNext)
  (tRet (tCall (sp_l_blow G) [] E0 (tCons (tVar 0) (tCons (tOp (rIxT G.K) (tVar 1) (tC (.int 1))) (tCons (tOp (rIxT G.K) (tVar 1) (tC (.int 2))) tNil))))))))
theorem pure_l_moved {G : Gx} {vs : List V} {H : Hp} {Q : VK} {E : XK} (h : sp_l_moved G vs H Q E) : Body (t_l_moved G) ["_law_web_here", "_law_order"] vs H Q := by
  obtain ⟨d, t, S, nx, o, rfl, hd, ht, W, ok, hw, hl, k⟩ := h
  show t_l_moved G _ [some (.ref d), some (.ref t)] H
  unfold t_l_moved
  have M := W.map
  cases o with
  | push f =>
    have ht' : SqT G.K H t [.str "push", .int f] := ht
    obtain ⟨h1, h2⟩ := i_push hw
    walk_at "go"
    refine ⟨d, S, nx, f, _, rfl, rd_in hd, M, h1, hl, fun p H1 s1 f1 e1 => ?_⟩
    rw [show decide (V.str "push" = V.str "pull") = false by decide +kernel] at e1
    exact k S p H1 M.nd (fun _ => Iff.rfl) s1 f1 e1
  | pull f =>
    have ht' : SqT G.K H t [.str "pull", .int f] := ht
    obtain ⟨h1, h2⟩ := i_pull hw
    walk_at "go"
    refine ⟨d, S, nx, f, _, rfl, rd_in hd, M, h1, hl, fun p H1 s1 f1 e1 => ?_⟩
    rw [show decide (V.str "pull" = V.str "pull") = true by decide +kernel] at e1
    exact k S p H1 M.nd (fun _ => Iff.rfl) s1 f1 e1
  | burst f =>
    have ht' : SqT G.K H t [.str "burst", .int f] := ht
    obtain ⟨h1, h2⟩ := i_burst hw
    walk_at "go"
    exact ⟨d, S, nx, f, rfl, hd, W, h1, .inr h2, hl, k⟩
  | part o t2 f =>
    have ht' : SqT G.K H t [.str "part", .int o, .int t2, .int f] := ht
    obtain ⟨h1, h2, h3, h4⟩ := i_part hw
    walk_at "go"
    exact ⟨d, S, nx, o, t2, f, rfl, rd_in hd, M, h1, h2, h4, ok, hl, k⟩
  | blow e f =>
    have ht' : SqT G.K H t [.str "blow", .int e, .int f] := ht
    have h1 := i_blow hw
    walk_at "go"
    exact ⟨d, S, nx, e, f, rfl, rd_in hd, M, h1, ok, hl, fun p H1 s1 f1 e1 => k _ p H1 (blow_nd M.nd ok) (fun _ => Iff.rfl) s1 f1 e1⟩
/-! ### move_right -/
/-! _law_move_right: slots _law_web_here, _law_order, _law_handed, _law_word, _law_made, _law_due -/
theorem same_len {S T : List Int} (h1 : S.Nodup) (h2 : T.Nodup) (h : ∀ z, z ∈ S ↔ z ∈ T) : S.length = T.length := Nat.le_antisymm (sub_len h1 fun z hz => (h z).mp hz) (sub_len h2 fun z hz => (h z).mpr hz)
theorem move_len {S : List Int} {nx : Int → Int} {o : Ord} : (moveS S nx o).length ≤ S.length + 6 := by
  cases o with
  | push f => exact Nat.le_add_right _ _
  | pull f => exact Nat.le_add_right _ _
  | burst f =>
    show (wS S nx (2 * f)).length ≤ S.length + 6
    unfold wS
    split
    · unfold burstLS
      exact Nat.le_trans m1S_len (Nat.le_trans (List.length_filter_le _ _) (Nat.le_add_right _ _))
    · unfold burstS
      exact Nat.le_trans m1S_len (Nat.le_trans m1S_len (Nat.le_add_right _ _))
  | part o t f => show (blowS S (2 * f)).length ≤ _; rw [len_blowS]; exact Nat.le_refl _
  | blow e f => show (blowS S (2 * f)).length ≤ _; rw [len_blowS]; exact Nat.le_refl _
/-! RimT: all rims together are all ends, once each. -/
theorem rimL_nd {S : List Int} {f : Int → Int} (Pm : Perm1 S f) {x : Int} (hx : x ∈ S) : (rimL f x).Nodup := by
  obtain ⟨n, _, P⟩ := per_ex Pm hx
  rw [rimL_eq P]
  exact rim_nd Pm hx P
/-! ### a comprehension over a list that leaves the heap as it is -/
theorem r_yes1 {σ : St} {H : Hp} {R : Bool → Hp → Prop} (h : R true H) : tYes σ H R := h
theorem r_lcG {K : PySem.W.Frag} {H : Hp} {Q : VK} {σ : St} {a : Addr} {tl te : TE} {i : Nat} {xs ys : List V} (hs : SqL K H a xs) (hl : xs.length = ys.length) (hn : xs.length < sizeLine) (ht : ∀ Q : VK, Q (.ref a) H → tl σ H Q)
    (h2 : ∀ (k : Nat) x y, xs[k]? = some x → ys[k]? = some y → ∀ (D : Addr) (u : HO), Free H D → ∀ Q : VK, Q y (upd H D u) → te (σ.set i (some x)) (upd H D u) Q)
    (h : ∀ D, Free H D → Q (.ref D) (upd H D (.lst ys))) : tLc (iList K tl) (gName i) tYes te [i] σ H Q := by
  refine ht _ ⟨a, rfl, ⟨_, hs⟩, fun D hD => ?_⟩
  refine lc_list (xs := xs) (fun j H' => H' = upd H D (.lst (ys.take j))) rfl (fun j H' _ q => ?_) (fun j x H' hx q => ?_) (fun H' q => ?_)
  · subst q
    exact lst_same (same_new (Same.refl H) hD) hs
  · subst q
    have hj : j < ys.length := by rw [← hl]; exact (List.getElem?_eq_some_iff.mp hx).1
    have hy : ys[j]? = some ys[j] := List.getElem?_eq_getElem hj
    have et : ys.take (j + 1) = ys.take j ++ [ys[j]] := by rw [List.take_succ, hy]; rfl
    rw [wipe1]
    have es : (σ.set i none).set i (some x) = σ.set i (some x) := List.set_set _
    refine ⟨by rw [es]; exact List.set_set _, ?_⟩
    rw [es]
    refine r_yes1 ?_
    rw [if_pos rfl]
    refine h2 j x _ hx hy D _ hD _ ⟨_, upd_same, ?_, ?_⟩
    · rw [List.length_take]
      omega
    · rw [upd_upd, et]
  · subst q
    rw [hl, List.take_length]
    exact h D hD
/-! PushT: a push taken back, twice, four times. -/
section
variable {S : List Int} {nx : Int → Int} {e o a b c d : Int}
def sw (e z : Int) : Int := if z = e then ot e else if z = ot e then e else z
end
/-! CntT: how long a rim is, and what a deed makes of it. -/
noncomputable def eqB (S : List Int) (f : Int → Int) (x y : Int) : Bool := @decide (Eqv (fstep S f) x y) (Classical.propDecidable _)
theorem eqB_iff {S : List Int} {f : Int → Int} {x y : Int} : eqB S f x y = true ↔ Eqv (fstep S f) x y := by
  unfold eqB
  exact @decide_eq_true_iff _ (Classical.propDecidable _)
/-- from an end of S one stays in S -/
theorem eqv_mem {S : List Int} {f : Int → Int} (Pm : Perm1 S f) {x y : Int} (hx : x ∈ S) (e : Eqv (fstep S f) x y) : y ∈ S := by
  obtain ⟨n, _, rfl⟩ := eqv_iter Pm hx e
  exact iter_mem Pm hx n
/-- a rim's length, counted over all ends -/
theorem rim_cnt {S : List Int} {f : Int → Int} (Pm : Perm1 S f) (nd : S.Nodup) {x : Int} (hx : x ∈ S) : (rimL f x).length = S.countP (eqB S f x) := by
  rw [List.countP_eq_length_filter]
  refine Nat.le_antisymm (sub_len (rimL_nd Pm hx) fun y hy => ?_) (sub_len (nd.filter _) fun y hy => ?_)
  · exact List.mem_filter.mpr ⟨rimL_sub Pm hx hy, eqB_iff.mpr ((rimL_mem Pm hx).mp hy)⟩
  · exact (rimL_mem Pm hx).mpr (eqB_iff.mp (List.mem_filter.mp hy).2)
structure Fold (S : List Int) (f : Int → Int) (S' : List Int) (f' : Int → Int) (φ ψ : Int → Int) : Prop where
  fwd : ∀ u ∈ S', Eqv (fstep S f) (φ u) (φ (f' u))
  bwd : ∀ u ∈ S, Eqv (fstep S' f') (ψ u) (ψ (f u))
  back : ∀ y ∈ S', φ y ∈ S → Eqv (fstep S' f') (ψ (φ y)) y
theorem Fold.iff {S S' : List Int} {f f' φ ψ : Int → Int} (F : Fold S f S' f' φ ψ) (Pm : Perm1 S f) {x y : Int} (hx : x ∈ S) (hx1 : Eqv (fstep S f) (φ x) x) (hx2 : Eqv (fstep S' f') (ψ x) x) (hy : y ∈ S') : Eqv (fstep S' f') x y ↔ Eqv (fstep S f) x (φ y) := by
  constructor
  · intro e
    exact hx1.symm.trans (Eqv.map (f := φ) (fun u v ⟨hu, q⟩ => by rw [q]; exact F.fwd u hu) e)
  · intro e
    have h := Eqv.map (f := ψ) (fun u v ⟨hu, q⟩ => by rw [q]; exact F.bwd u hu) e
    exact (hx2.symm.trans h).trans (F.back y hy (eqv_mem Pm hx e))
/-- .. so its length behind the deed is counted by what stood ahead -/
theorem Fold.len {S S' : List Int} {f f' φ ψ : Int → Int} (F : Fold S f S' f' φ ψ) (Pm : Perm1 S f) (Pm' : Perm1 S' f') (nd' : S'.Nodup) {x : Int} (hx : x ∈ S) (hx' : x ∈ S') (hx1 : Eqv (fstep S f) (φ x) x) (hx2 : Eqv (fstep S' f') (ψ x) x) :
    (rimL f' x).length = S'.countP fun y => eqB S f x (φ y) := by
  rw [rim_cnt Pm' nd' hx']
  exact List.countP_congr fun y hy => by rw [eqB_iff, eqB_iff]; exact F.iff Pm hx hx1 hx2 hy
/-! ### a bubble blown -/
def blowP (e a b L z : Int) : Int := if z = L then a else if z = L + 2 then b else if z = L + 4 then e else if z = L + 1 then L + 1 else if z = L + 3 then L + 1 else if z = L + 5 then L + 1 else z
theorem blow_fold {S : List Int} {nx nx' : Int → Int} {e a b L : Int} (M : Map S ot nx) (M' : Map (blowS S L) ot nx') (V : BlowV S nx nx' e a b L) (hL : ∀ x ∈ S, x < L) (h2 : L % 2 = 0) : Fold S (face ot nx) (blowS S L) (face ot nx') (blowP e a b L) id := by
  obtain ⟨o0, o1, o2, o3, o4, o5⟩ := ot_L h2
  have ph0 : blowP e a b L L = a := by unfold blowP; rw [if_pos rfl]
  have ph2 : blowP e a b L (L + 2) = b := by unfold blowP; rw [if_neg (by omega), if_pos rfl]
  have ph4 : blowP e a b L (L + 4) = e := by unfold blowP; rw [if_neg (by omega), if_neg (by omega), if_pos rfl]
  have ph1 : blowP e a b L (L + 1) = L + 1 := by unfold blowP; rw [if_neg (by omega), if_neg (by omega), if_neg (by omega), if_pos rfl]
  have ph3 : blowP e a b L (L + 3) = L + 1 := by unfold blowP; rw [if_neg (by omega), if_neg (by omega), if_neg (by omega), if_neg (by omega), if_pos rfl]
  have ph5 : blowP e a b L (L + 5) = L + 1 := by unfold blowP; rw [if_neg (by omega), if_neg (by omega), if_neg (by omega), if_neg (by omega), if_neg (by omega), if_pos rfl]
  have phS : ∀ z ∈ S, blowP e a b L z = z := fun z hz => by
    have := hL z hz
    unfold blowP
    rw [if_neg (by omega), if_neg (by omega), if_neg (by omega), if_neg (by omega), if_neg (by omega), if_neg (by omega)]
  have memS : ∀ z ∈ S, z ∈ blowS S L := fun z hz => mem_blowS.mpr (.inl hz)
  have memN : ∀ z, New6 L z → z ∈ blowS S L := fun z hz => mem_blowS.mpr (.inr hz)
  have st : ∀ z, z ∈ blowS S L → Eqv (fstep (blowS S L) (face ot nx')) z (face ot nx' z) := fun z hz => .step ⟨hz, rfl⟩
  refine ⟨fun u hu => ?_, fun u hu => ?_, fun y hy hp => ?_⟩
  · show Eqv _ _ (blowP e a b L (nx' (ot u)))
    rcases mem_blowS.mp hu with hu | hu
    · have hou := M.ca u hu
      rw [phS u hu]
      have s0 : Eqv (fstep S (face ot nx)) u (nx (ot u)) := .step ⟨hu, rfl⟩
      by_cases c1 : ot u = e
      · rw [c1, V.v_e, ph0]
        rw [c1, V.ea] at s0
        exact s0
      by_cases c2 : ot u = a
      · rw [c2, V.v_a, ph2]
        rw [c2, V.ab] at s0
        exact s0
      by_cases c3 : ot u = b
      · rw [c3, V.v_b, ph4]
        rw [c3, V.be] at s0
        exact s0
      rw [V.v_o _ hou c1 c2 c3, phS _ (M.cn _ hou)]
      exact s0
    · rcases hu with h | h | h | h | h | h
      · rw [h, o0, V.v_1, ph0, phS a V.ha]; exact .refl _
      · rw [h, o1, V.v_0, ph1, ph5]; exact .refl _
      · rw [h, o2, V.v_3, ph2, phS b V.hb]; exact .refl _
      · rw [h, o3, V.v_2, ph3, ph1]; exact .refl _
      · rw [h, o4, V.v_5, ph4, phS e V.he]; exact .refl _
      · rw [h, o5, V.v_4, ph5, ph3]; exact .refl _
  · show Eqv _ u (nx (ot u))
    have hou := M.ca u hu
    have s0 := st u (memS u hu)
    by_cases c1 : ot u = e
    · have s1 := st L (memN L (.inl rfl))
      rw [show face ot nx' u = L by show nx' (ot u) = L; rw [c1, V.v_e]] at s0
      rw [show face ot nx' L = a by show nx' (ot L) = a; rw [o0, V.v_1]] at s1
      rw [c1, V.ea]
      exact s0.trans s1
    by_cases c2 : ot u = a
    · have s1 := st (L + 2) (memN _ (by unfold New6; omega))
      rw [show face ot nx' u = L + 2 by show nx' (ot u) = L + 2; rw [c2, V.v_a]] at s0
      rw [show face ot nx' (L + 2) = b by show nx' (ot (L + 2)) = b; rw [o2, V.v_3]] at s1
      rw [c2, V.ab]
      exact s0.trans s1
    by_cases c3 : ot u = b
    · have s1 := st (L + 4) (memN _ (by unfold New6; omega))
      rw [show face ot nx' u = L + 4 by show nx' (ot u) = L + 4; rw [c3, V.v_b]] at s0
      rw [show face ot nx' (L + 4) = e by show nx' (ot (L + 4)) = e; rw [o4, V.v_5]] at s1
      rw [c3, V.be]
      exact s0.trans s1
    rw [show face ot nx' u = nx (ot u) by show nx' (ot u) = _; exact V.v_o _ hou c1 c2 c3] at s0
    exact s0
  · show Eqv _ (blowP e a b L y) y
    rcases mem_blowS.mp hy with hy' | hy'
    · rw [phS y hy']; exact .refl _
    · rcases hy' with h | h | h | h | h | h
      · subst h
        have s1 := st y hy
        rw [show face ot nx' y = a by show nx' (ot y) = a; rw [o0, V.v_1]] at s1
        rw [ph0]; exact s1.symm
      · rw [h, ph1] at hp; have := hL _ hp; omega
      · rw [h] at hy ⊢
        have s1 := st _ hy
        rw [show face ot nx' (L + 2) = b by show nx' (ot (L + 2)) = b; rw [o2, V.v_3]] at s1
        rw [ph2]; exact s1.symm
      · rw [h, ph3] at hp; have := hL _ hp; omega
      · rw [h] at hy ⊢
        have s1 := st _ hy
        rw [show face ot nx' (L + 4) = e by show nx' (ot (L + 4)) = e; rw [o4, V.v_5]] at s1
        rw [ph4]; exact s1.symm
      · rw [h, ph5] at hp; have := hL _ hp; omega
/-! ### a film turned -/
structure Turn (S : List Int) (nx nx' : Int → Int) (e o a b c d u v : Int) : Prop where
  F : Film S nx e o a b c d
  uv : (u = e ∧ v = o) ∨ (u = o ∧ v = e)
  tb : nx' b = c
  td : nx' d = a
  ta : nx' a = u
  tc : nx' c = v
  tu : nx' (ot u) = b
  tv : nx' (ot v) = d
  off : ∀ z ∈ S, ¬ Six e o a b c d z → nx' z = nx z
theorem turn_fold {S : List Int} {nx nx' : Int → Int} {e o a b c d u v : Int} (T : Turn S nx nx' e o a b c d u v) : Fold S (face ot nx) S (face ot nx') (fun z => if z = u then b else if z = v then d else z) (fun z => if z = e then c else if z = o then a else z) := by
  have F := T.F
  have M := F.M
  have nu : ∀ {z}, z ≠ e → z ≠ o → z ≠ u ∧ z ≠ v := fun {z} h1 h2 => by
    rcases T.uv with ⟨h, h'⟩ | ⟨h, h'⟩
    · rw [h, h']; exact ⟨h1, h2⟩
    · rw [h, h']; exact ⟨h2, h1⟩
  have un : ∀ {z}, z ≠ u → z ≠ v → z ≠ e ∧ z ≠ o := fun {z} h1 h2 => by
    rcases T.uv with ⟨h, h'⟩ | ⟨h, h'⟩
    · rw [h] at h1; rw [h'] at h2; exact ⟨h1, h2⟩
    · rw [h] at h1; rw [h'] at h2; exact ⟨h2, h1⟩
  have nuv : u ≠ v := by
    rcases T.uv with ⟨h, h'⟩ | ⟨h, h'⟩
    · rw [h, h']; exact F.n_eo
    · rw [h, h']; exact Ne.symm F.n_eo
  have uS : u ∈ S := by
    rcases T.uv with ⟨h, _⟩ | ⟨h, _⟩
    · rw [h]; exact F.he
    · rw [h]; exact F.ho
  have vS : v ∈ S := by
    rcases T.uv with ⟨_, h⟩ | ⟨_, h⟩
    · rw [h]; exact F.ho
    · rw [h]; exact F.he
  have ph : ∀ {z}, z ≠ e → z ≠ o → (if z = u then b else if z = v then d else z) = z := fun h1 h2 => by
    obtain ⟨h3, h4⟩ := nu h1 h2
    rw [if_neg h3, if_neg h4]
  have ps : ∀ {z}, z ≠ e → z ≠ o → (if z = e then c else if z = o then a else z) = z := fun h1 h2 => by rw [if_neg h1, if_neg h2]
  have st : ∀ z, z ∈ S → Eqv (fstep S (face ot nx)) z (nx (ot z)) := fun z hz => .step ⟨hz, rfl⟩
  have st' : ∀ z, z ∈ S → Eqv (fstep S (face ot nx')) z (nx' (ot z)) := fun z hz => .step ⟨hz, rfl⟩
  have ao := Ne.symm F.n_oa
  have ae := Ne.symm F.n_ea
  have bo := Ne.symm F.n_ob
  have be := Ne.symm F.n_eb
  have co := Ne.symm F.n_oc
  have ce := Ne.symm F.n_ec
  have d_o := Ne.symm F.n_od
  have de := Ne.symm F.n_ed
  have se := st e F.he
  rw [F.eo, F.oc] at se
  have so := st o F.ho
  rw [F.oe, F.ea] at so
  -- an end whose other end is none of the six
  have other : ∀ z ∈ S, z ≠ e → z ≠ o → ot z ≠ a → ot z ≠ b → ot z ≠ c → ot z ≠ d → nx' (ot z) = nx (ot z) ∧ nx (ot z) ≠ e ∧ nx (ot z) ≠ o := fun z hz z1 z2 h1 h2 h3 h4 => by
    have hoz := M.ca z hz
    have h5 : ot z ≠ e := fun q => z2 (by rw [← ot_ot z, q, F.eo])
    have h6 : ot z ≠ o := fun q => z1 (by rw [← ot_ot z, q, F.oe])
    refine ⟨T.off _ hoz ?_, fun q => h2 (M.ninj hoz F.hb (q.trans F.be.symm)), fun q => h4 (M.ninj hoz F.hd (q.trans F.do_.symm))⟩
    rintro (q | q | q | q | q | q)
    · exact h5 q
    · exact h6 q
    · exact h1 q
    · exact h2 q
    · exact h3 q
    · exact h4 q
  refine ⟨fun z hz => ?_, fun z hz => ?_, fun y hy _ => ?_⟩
  · show Eqv _ (if z = u then b else if z = v then d else z) (if nx' (ot z) = u then b else if nx' (ot z) = v then d else nx' (ot z))
    by_cases z1 : z = u
    · rw [if_pos z1, z1, T.tu, ph be bo]; exact .refl _
    by_cases z2 : z = v
    · rw [if_neg z1, if_pos z2, z2, T.tv, ph de d_o]; exact .refl _
    obtain ⟨z3, z4⟩ := un z1 z2
    rw [if_neg z1, if_neg z2]
    have s0 := st z hz
    by_cases c1 : ot z = b
    · rw [c1, T.tb, ph ce co]
      rw [c1, F.be] at s0
      exact s0.trans se
    by_cases c2 : ot z = d
    · rw [c2, T.td, ph ae ao]
      rw [c2, F.do_] at s0
      exact s0.trans so
    by_cases c3 : ot z = a
    · rw [c3, T.ta, if_pos rfl]
      rw [c3, F.ab] at s0
      exact s0
    by_cases c4 : ot z = c
    · rw [c4, T.tc, if_neg (Ne.symm nuv), if_pos rfl]
      rw [c4, F.cd] at s0
      exact s0
    obtain ⟨q1, q2, q3⟩ := other z hz z3 z4 c3 c1 c4 c2
    rw [q1, ph q2 q3]
    exact s0
  · show Eqv _ (if z = e then c else if z = o then a else z) (if nx (ot z) = e then c else if nx (ot z) = o then a else nx (ot z))
    by_cases z1 : z = e
    · rw [if_pos z1, z1, F.eo, F.oc, ps ce co]; exact .refl _
    by_cases z2 : z = o
    · rw [if_neg z1, if_pos z2, z2, F.oe, F.ea, ps ae ao]; exact .refl _
    rw [if_neg z1, if_neg z2]
    have s0 := st' z hz
    by_cases c1 : ot z = b
    · rw [c1, F.be, if_pos rfl]
      rw [c1, T.tb] at s0
      exact s0
    by_cases c2 : ot z = d
    · rw [c2, F.do_, if_neg (Ne.symm F.n_eo), if_pos rfl]
      rw [c2, T.td] at s0
      exact s0
    by_cases c3 : ot z = a
    · rw [c3, F.ab, ps be bo]
      rw [c3, T.ta] at s0
      have s1 := st' u uS
      rw [T.tu] at s1
      exact s0.trans s1
    by_cases c4 : ot z = c
    · rw [c4, F.cd, ps de d_o]
      rw [c4, T.tc] at s0
      have s1 := st' v vS
      rw [T.tv] at s1
      exact s0.trans s1
    obtain ⟨q1, q2, q3⟩ := other z hz z1 z2 c3 c1 c4 c2
    rw [ps q2 q3, ← q1]
    exact s0
  · show Eqv _ (if (if y = u then b else if y = v then d else y) = e then c else if (if y = u then b else if y = v then d else y) = o then a else (if y = u then b else if y = v then d else y)) y
    by_cases z1 : y = u
    · rw [if_pos z1, ps be bo, z1]
      have s1 := st' u uS
      rw [T.tu] at s1
      exact s1.symm
    by_cases z2 : y = v
    · rw [if_neg z1, if_pos z2, ps de d_o, z2]
      have s1 := st' v vS
      rw [T.tv] at s1
      exact s1.symm
    obtain ⟨z3, z4⟩ := un z1 z2
    rw [if_neg z1, if_neg z2, ps z3 z4]
    exact .refl _
theorem push_turn {S : List Int} {nx : Int → Int} {e o a b c d : Int} (F : Film S nx e o a b c d) : Turn S nx (pushF nx e) e o a b c d o e := by
  obtain ⟨⟨v1, v2, v3, v4, v5, v6⟩, vo⟩ := push_vals F
  exact ⟨F, .inr ⟨rfl, rfl⟩, v2, v5, v6, v3, by rw [F.oe]; exact v1, by rw [F.eo]; exact v4, fun z _ h => vo z h⟩
theorem pull_turn {S : List Int} {nx : Int → Int} {e o a b c d : Int} (F : Film S nx e o a b c d) : Turn S nx (pullF nx e) e o a b c d e o := by
  obtain ⟨⟨v1, v2, v3, v4, v5, v6⟩, vo⟩ := pull_vals F
  exact ⟨F, .inl ⟨rfl, rfl⟩, v5, v2, v3, v6, by rw [F.eo]; exact v4, by rw [F.oe]; exact v1, fun z _ h => vo z h⟩
/-! Wt: labels of rims, and tallies by them. -/
/-! ### label -/
/-! _law_label: slots _law_web_here, _law_found, _law_one, _law_end -/
/-! ### tallies -/
/-! MendT: how long rims are behind a burst. -/
noncomputable def mendP (nx : Int → Int) (t x y g : Int) : Int → Int := fun z => if z = y then nx g else if z = g then x else if z = t then (if nx t = x then x else nx g) else z
theorem mend_fold {S : List Int} {al nx : Int → Int} {t x y g : Int} (D : Mend S al nx t x y g) : Fold S (face al nx) (mendS S t y g) (face al (mendN nx x g)) id (mendP nx t x y g) := by
  have M := D.M
  have F := D.facts
  have M' := mend_map D
  have ag : al g = y := by rw [← D.yg]; exact M.aa y D.hy
  have st : ∀ z, z ∈ S → Eqv (fstep S (face al nx)) z (nx (al z)) := fun z hz => .step ⟨hz, rfl⟩
  have st' : ∀ z, z ∈ mendS S t y g → Eqv (fstep (mendS S t y g) (face al (mendN nx x g))) z (mendN nx x g (al z)) := fun z hz => .step ⟨hz, rfl⟩
  have sy := st y D.hy
  rw [D.yg] at sy
  have sg := st g F.hg
  rw [ag] at sg
  have stt := st t D.ht
  rw [D.tt] at stt
  have gx := D.gx
  have gy := D.gy
  have Py : mendP nx t x y g y = nx g := by unfold mendP; rw [if_pos rfl]
  have Pg : mendP nx t x y g g = x := by unfold mendP; rw [if_neg gy, if_pos rfl]
  have Pt : mendP nx t x y g t = if nx t = x then x else nx g := by unfold mendP; rw [if_neg F.ty, if_neg (Ne.symm F.gt), if_pos rfl]
  have Po : ∀ {z}, z ≠ t → z ≠ y → z ≠ g → mendP nx t x y g z = z := fun h1 h2 h3 => by unfold mendP; rw [if_neg h2, if_neg h3, if_neg h1]
  refine ⟨fun u hu => ?_, fun u hu => ?_, fun z hz _ => ?_⟩
  · show Eqv _ u (mendN nx x g (al u))
    have huS := (mem_mendS.mp hu).1
    have s0 := st u huS
    by_cases c1 : al u = x
    · rw [c1, mendN_x]
      rw [c1] at s0
      rcases D.cor with ⟨h1, h2, h3⟩ | ⟨h1, h2, h3⟩
      · rw [h2] at s0
        exact s0.trans sy
      · rw [h3] at s0
        rw [h1] at stt
        exact (s0.trans stt).trans sy
    by_cases c2 : nx (al u) = g
    · rw [mendN_q c1 c2]
      rw [c2] at s0
      rcases D.cor with ⟨h1, h2, h3⟩ | ⟨h1, h2, h3⟩
      · rw [h3] at sg
        rw [h1] at stt
        exact (s0.trans sg).trans stt
      · rw [h2] at sg
        exact s0.trans sg
    rw [mendN_o c1 c2]
    exact s0
  · show Eqv _ (mendP nx t x y g u) (mendP nx t x y g (nx (al u)))
    by_cases u1 : u = y
    · rw [u1, D.yg, Py, Po F.pt F.py F.pg]; exact .refl _
    by_cases u2 : u = g
    · rw [u2, ag, Pg]
      rcases D.cor with ⟨h1, h2, h3⟩ | ⟨h1, h2, h3⟩
      · rw [h3, Pt, if_pos h1]; exact .refl _
      · rw [h2, Po (Ne.symm F.tx) F.xy (Ne.symm gx)]; exact .refl _
    by_cases u3 : u = t
    · rw [u3, D.tt, Pt]
      rcases D.cor with ⟨h1, h2, h3⟩ | ⟨h1, h2, h3⟩
      · rw [if_pos h1, h1, Po (Ne.symm F.tx) F.xy (Ne.symm gx)]; exact .refl _
      · rw [if_neg (by rw [h1]; exact Ne.symm F.xy), h1, Py]; exact .refl _
    have hu' : u ∈ mendS S t y g := mem_mendS.mpr ⟨hu, u3, u1, u2⟩
    have hw := mem_mendS.mp (M'.ca u hu')
    rw [Po u3 u1 u2]
    have s0 := st' u hu'
    by_cases c1 : al u = x
    · rw [c1, mendN_x] at s0
      rw [c1]
      rcases D.cor with ⟨h1, h2, h3⟩ | ⟨h1, h2, h3⟩
      · rw [h2, Py]; exact s0
      · rw [h3, Pt, if_neg (by rw [h1]; exact Ne.symm F.xy)]; exact s0
    by_cases c2 : nx (al u) = g
    · rw [mendN_q c1 c2] at s0
      rw [c2, Pg]
      exact s0
    rw [mendN_o c1 c2] at s0
    have hwS := M.ca u hu
    have e1 : nx (al u) ≠ t := fun z => by
      rcases D.cor with ⟨h1, h2, h3⟩ | ⟨h1, h2, h3⟩
      · exact hw.2.2.1 (M.ninj hwS D.hy (z.trans h3.symm))
      · exact c1 (M.ninj hwS F.hx (z.trans h3.symm))
    have e2 : nx (al u) ≠ y := fun z => by
      rcases D.cor with ⟨h1, h2, h3⟩ | ⟨h1, h2, h3⟩
      · exact c1 (M.ninj hwS F.hx (z.trans h2.symm))
      · exact hw.2.1 (M.ninj hwS D.ht (z.trans h1.symm))
    rw [Po e1 e2 c2]
    exact s0
  · show Eqv _ (mendP nx t x y g z) z
    obtain ⟨_, h1, h2, h3⟩ := mem_mendS.mp hz
    rw [Po h1 h2 h3]
    exact .refl _
theorem mend_iff {S : List Int} {al nx : Int → Int} {t x y g : Int} (D : Mend S al nx t x y g) {u v : Int} (hu : u ∈ mendS S t y g) (hv : v ∈ mendS S t y g) : Eqv (fstep (mendS S t y g) (face al (mendN nx x g))) u v ↔ Eqv (fstep S (face al nx)) u v := by
  obtain ⟨h, h1, h2, h3⟩ := mem_mendS.mp hu
  have := (mend_fold D).iff (x := u) (y := v) D.M.perm h (.refl _) (by unfold mendP; rw [if_neg h2, if_neg h3, if_neg h1]; exact .refl _) hv
  exact this
/-! ### both bubbles of a film as one -/
theorem cut_rel {S : List Int} {nx : Int → Int} {e : Int} (M : Map S ot nx) (he : e ∈ S) (hr : ¬ Rim S nx e (ot e)) {x y : Int} :
    Eqv (fstep S (face (cutA ot e (ot e)) nx)) x y ↔ Rim S nx x y ∨ ((Rim S nx x e ∨ Rim S nx x (ot e)) ∧ (Rim S nx y e ∨ Rim S nx y (ot e))) := by
  have ho := M.ca e he
  rw [cut_face (nx := nx) (al := ot) rfl (ot_ot e)]
  have Pm := M.perm
  have j := swap_join Pm he ho hr
  have p1 : ∀ {x y}, Eqv (fstep S (swapF (face ot nx) e (ot e))) x y ↔ Eqv (plusPair (fstep S (face ot nx)) e (ot e)) x y := fun {x y} => by
    rw [swap_pair (f := face ot nx) he ho]
    constructor
    · exact Eqv.mono fun u v q => .step (.inl q)
    · exact Eqv.mono fun u v q => q.elim (fun q => .step q) fun ⟨q1, q2⟩ => by rw [q1, q2]; exact j
  rw [p1]
  constructor
  · exact eqv_pair
  · have up : ∀ {u v}, Rim S nx u v → Eqv (plusPair (fstep S (face ot nx)) e (ot e)) u v := fun h => Eqv.mono (fun u v q => .step (.inl q)) h
    have eo : Eqv (plusPair (fstep S (face ot nx)) e (ot e)) e (ot e) := .step (.inr ⟨rfl, rfl⟩)
    rintro (h | ⟨h1, h2⟩)
    · exact up h
    · have a1 : Eqv (plusPair (fstep S (face ot nx)) e (ot e)) x e := h1.elim (fun q => up q) (fun q => (up q).trans eo.symm)
      have a2 : Eqv (plusPair (fstep S (face ot nx)) e (ot e)) y e := h2.elim (fun q => up q) (fun q => (up q).trans eo.symm)
      exact a1.trans a2.symm
/-! Ya: deeds at far corners: plain law. -/
/-! ### the ends that a deed touches -/
def sixL (nx : Int → Int) (e : Int) : List Int := [e, nx e, nx (nx e), ot e, nx (ot e), nx (nx (ot e))]
def corL (nx : Int → Int) (e : Int) : List Int := [e, nx e, nx (nx e)]
def touL (nx : Int → Int) : Ord → List Int
  | .push f => sixL nx (2 * f)
  | .pull f => sixL nx (2 * f)
  | .burst f => sixL nx (2 * f) ++ (sixL nx (2 * f)).flatMap fun z => corL nx (ot z)
  | .part _ _ _ => []
  | .blow e _ => corL nx e
def New (o : Ord) (z : Int) : Prop := match o with
  | .blow _ f => New6 (2 * f) z
  | _ => False
/-- a deed that may be drawn -/
def Fre (S : List Int) (nx : Int → Int) : Ord → Prop
  | .push f => 2 * f ∈ S ∧ ¬ Looped nx (2 * f)
  | .pull f => 2 * f ∈ S ∧ ¬ Looped nx (2 * f)
  | .burst f => 2 * f ∈ S ∧ ¬ Looped nx (2 * f) ∧ ¬ Rim S nx (2 * f) (ot (2 * f))
  | .part _ _ _ => False
  | .blow e _ => e ∈ S
theorem mem_sixL {nx : Int → Int} {e z : Int} : z ∈ sixL nx e ↔ Six e (ot e) (nx e) (nx (nx e)) (nx (ot e)) (nx (nx (ot e))) z := by
  unfold sixL Six
  simp only [List.mem_cons, List.not_mem_nil, or_false]
  omega
theorem mem_corL {nx : Int → Int} {e z : Int} : z ∈ corL nx e ↔ z = e ∨ z = nx e ∨ z = nx (nx e) := by
  unfold corL
  simp only [List.mem_cons, List.not_mem_nil, or_false]
theorem mem_bur {nx : Int → Int} {f z : Int} : z ∈ touL nx (.burst f) ↔ z ∈ sixL nx (2 * f) ∨ ∃ y ∈ sixL nx (2 * f), z ∈ corL nx (ot y) := by
  unfold touL
  rw [List.mem_append, List.mem_flatMap]
structure Clo (S : List Int) (nx : Int → Int) (T : List Int) : Prop where
  sub : ∀ z ∈ T, z ∈ S
  nxt : ∀ z ∈ T, nx z ∈ T
theorem Clo.back {S T : List Int} {nx : Int → Int} (C : Clo S nx T) (M : Map S ot nx) {z : Int} (hz : z ∈ S) (h : nx z ∈ T) : z ∈ T := by
  rw [← M.n3 z hz]
  exact C.nxt _ (C.nxt _ h)
theorem clo_cor {S : List Int} {nx : Int → Int} (M : Map S ot nx) {e : Int} (he : e ∈ S) : Clo S nx (corL nx e) := by
  have ha := M.cn e he
  have hb := M.cn _ ha
  have h3 := M.n3 e he
  refine ⟨fun z hz => ?_, fun z hz => ?_⟩
  · rcases mem_corL.mp hz with rfl | rfl | rfl
    · exact he
    · exact ha
    · exact hb
  · rw [mem_corL]
    rcases mem_corL.mp hz with rfl | rfl | rfl
    · exact .inr (.inl rfl)
    · exact .inr (.inr rfl)
    · exact .inl h3
theorem clo_six {S : List Int} {nx : Int → Int} (M : Map S ot nx) {e : Int} (he : e ∈ S) : Clo S nx (sixL nx e) := by
  have C1 := clo_cor M he
  have C2 := clo_cor M (M.ca e he)
  have e1 : sixL nx e = corL nx e ++ corL nx (ot e) := rfl
  rw [e1]
  refine ⟨fun z hz => ?_, fun z hz => ?_⟩
  · exact (List.mem_append.mp hz).elim (C1.sub z) (C2.sub z)
  · exact List.mem_append.mpr ((List.mem_append.mp hz).imp (C1.nxt z) (C2.nxt z))
theorem fre_clo {S : List Int} {nx : Int → Int} {o : Ord} (M : Map S ot nx) (h : Fre S nx o) : Clo S nx (touL nx o) := by
  cases o with
  | push f => exact clo_six M h.1
  | pull f => exact clo_six M h.1
  | blow e f => exact clo_cor M h
  | part a b c => exact h.elim
  | burst f =>
    have C := clo_six M h.1
    refine ⟨fun z hz => ?_, fun z hz => ?_⟩
    · rcases mem_bur.mp hz with q | ⟨y, hy, q⟩
      · exact C.sub z q
      · exact (clo_cor M (M.ca _ (C.sub y hy))).sub z q
    · rw [mem_bur]
      rcases mem_bur.mp hz with q | ⟨y, hy, q⟩
      · exact .inl (C.nxt z q)
      · exact .inr ⟨y, hy, (clo_cor M (M.ca _ (C.sub y hy))).nxt z q⟩
/-! ### a deed changes what it touches alone -/
/-- two webs that are the same at some ends -/
def Agr (T S S2 : List Int) (nx nx2 : Int → Int) : Prop := ∀ z ∈ T, z ∈ S ∧ z ∈ S2 ∧ nx2 z = nx z
structure Loc (T : List Int) (N : Int → Prop) (A A' B B' : List Int) (a' b b' : Int → Int) : Prop where
  mS : ∀ z, z ∈ T ∨ N z → (z ∈ B' ↔ z ∈ A')
  vS : ∀ z, z ∈ T ∨ N z → b' z = a' z
  mO : ∀ z, z ∉ T → ¬ N z → (z ∈ B' ↔ z ∈ B)
  vO : ∀ z, z ∉ T → ¬ N z → z ∈ B → b' z = b z
theorem loop_agr {T S S2 : List Int} {nx nx2 : Int → Int} {e : Int} (ag : Agr T S S2 nx nx2) (h1 : e ∈ T) (h2 : nx e ∈ T) : Looped nx2 e ↔ Looped nx e := by
  unfold Looped
  rw [(ag e h1).2.2, (ag _ h2).2.2]
theorem six_agr {S S2 : List Int} {nx nx2 : Int → Int} {e : Int} (ag : Agr (sixL nx e) S S2 nx nx2) : nx2 e = nx e ∧ nx2 (nx e) = nx (nx e) ∧ nx2 (ot e) = nx (ot e) ∧ nx2 (nx (ot e)) = nx (nx (ot e)) := by
  have m : ∀ z, Six e (ot e) (nx e) (nx (nx e)) (nx (ot e)) (nx (nx (ot e))) z → nx2 z = nx z := fun z h => (ag z (mem_sixL.mpr h)).2.2
  exact ⟨m _ (.inl rfl), m _ (.inr (.inr (.inl rfl))), m _ (.inr (.inl rfl)), m _ (.inr (.inr (.inr (.inr (.inl rfl)))))⟩
theorem push_loc {S S2 : List Int} {nx nx2 : Int → Int} {e : Int} (M : Map S ot nx) (M2 : Map S2 ot nx2) (he : e ∈ S) (hl : ¬ Looped nx e) (ag : Agr (sixL nx e) S S2 nx nx2) (b : Bool) :
    (∀ z ∈ sixL nx e, pushB nx2 e b z = pushB nx e b z) ∧ ∀ z, z ∉ sixL nx e → pushB nx2 e b z = nx2 z := by
  obtain ⟨i1, i2, i3, i4⟩ := six_agr ag
  have F := film_of M he (fun z => hl (.inl z)) (fun z => hl (.inr z))
  have he2 : e ∈ S2 := (ag e (mem_sixL.mpr (.inl rfl))).2.1
  have hl2 : ¬ Looped nx2 e := fun z => hl ((loop_agr ag (mem_sixL.mpr (.inl rfl)) (mem_sixL.mpr (.inr (.inr (.inl rfl))))).mp z)
  have F2 := film_of M2 he2 (fun z => hl2 (.inl z)) (fun z => hl2 (.inr z))
  rw [i1, i2, i3, i4] at F2
  cases b with
  | true =>
    obtain ⟨v, w⟩ := pull_vals F
    obtain ⟨v2, w2⟩ := pull_vals F2
    refine ⟨fun z hz => ?_, fun z hz => w2 z fun q => hz (mem_sixL.mpr q)⟩
    show pullF nx2 e z = pullF nx e z
    rcases mem_sixL.mp hz with q | q | q | q | q | q
    · rw [q, v.1, v2.1]
    · rw [q, v.2.2.2.1, v2.2.2.2.1]
    · rw [q, v.2.2.1, v2.2.2.1]
    · rw [q, v.2.2.2.2.1, v2.2.2.2.2.1]
    · rw [q, v.2.2.2.2.2, v2.2.2.2.2.2]
    · rw [q, v.2.1, v2.2.1]
  | false =>
    obtain ⟨v, w⟩ := push_vals F
    obtain ⟨v2, w2⟩ := push_vals F2
    refine ⟨fun z hz => ?_, fun z hz => w2 z fun q => hz (mem_sixL.mpr q)⟩
    show pushF nx2 e z = pushF nx e z
    rcases mem_sixL.mp hz with q | q | q | q | q | q
    · rw [q, v.1, v2.1]
    · rw [q, v.2.2.2.1, v2.2.2.2.1]
    · rw [q, v.2.2.2.2.2, v2.2.2.2.2.2]
    · rw [q, v.2.1, v2.2.1]
    · rw [q, v.2.2.1, v2.2.2.1]
    · rw [q, v.2.2.2.2.1, v2.2.2.2.2.1]
/-- a corner mended, at both -/
theorem mend_loc {T S2 : List Int} {nx nx2 : Int → Int} {x g : Int} (hx : x ∈ T) (hg : g ∈ T) (ag : ∀ z ∈ T, nx2 z = nx z) (out : ∀ z ∈ S2, z ∉ T → nx2 z ∉ T) :
    (∀ z ∈ T, mendN nx2 x g z = mendN nx x g z) ∧ ∀ z ∈ S2, z ∉ T → mendN nx2 x g z = nx2 z := by
  refine ⟨fun z hz => ?_, fun z h2 hz => ?_⟩
  · unfold mendN
    rw [ag g hg, ag z hz]
  · unfold mendN
    rw [if_neg (fun q : z = x => hz (by rw [q]; exact hx)), if_neg (fun q : nx2 z = g => out z h2 hz (by rw [q]; exact hg))]
theorem burst_loc {S S2 : List Int} {nx nx2 : Int → Int} {f : Int} (M : Map S ot nx) (M2 : Map S2 ot nx2) (he : 2 * f ∈ S) (hl : ¬ Looped nx (2 * f)) (ag : Agr (touL nx (.burst f)) S S2 nx nx2) :
    Loc (touL nx (.burst f)) (fun _ => False) S (burstS S nx (2 * f)) S2 (burstS S2 nx2 (2 * f)) (burstN nx (2 * f)) nx2 (burstN nx2 (2 * f)) := by
  have Fm := film_of M he (fun z => hl (.inl z)) (fun z => hl (.inr z))
  have CT : Clo S nx (touL nx (.burst f)) := by
    have C := clo_six M he
    refine ⟨fun z hz => ?_, fun z hz => ?_⟩
    · rcases mem_bur.mp hz with q | ⟨y, hy, q⟩
      · exact C.sub z q
      · exact (clo_cor M (M.ca _ (C.sub y hy))).sub z q
    · rw [mem_bur]
      rcases mem_bur.mp hz with q | ⟨y, hy, q⟩
      · exact .inl (C.nxt z q)
      · exact .inr ⟨y, hy, (clo_cor M (M.ca _ (C.sub y hy))).nxt z q⟩
  have inT : ∀ z, Six (2 * f) (ot (2 * f)) (nx (2 * f)) (nx (nx (2 * f))) (nx (ot (2 * f))) (nx (nx (ot (2 * f)))) z → z ∈ touL nx (.burst f) := fun z h => mem_bur.mpr (.inl (mem_sixL.mpr h))
  have otT : ∀ z, Six (2 * f) (ot (2 * f)) (nx (2 * f)) (nx (nx (2 * f))) (nx (ot (2 * f))) (nx (nx (ot (2 * f)))) z → ot z ∈ touL nx (.burst f) := fun z h => mem_bur.mpr (.inr ⟨z, mem_sixL.mpr h, mem_corL.mpr (.inl rfl)⟩)
  generalize touL nx (.burst f) = T at *
  have ag' : ∀ z ∈ T, nx2 z = nx z := fun z hz => (ag z hz).2.2
  have out : ∀ z ∈ S2, z ∉ T → nx2 z ∉ T := fun z h2 hz q => hz (by
    have e1 := ag' _ q
    have q1 := CT.nxt _ q
    rw [← e1] at q1
    have e2 := ag' _ q1
    have q2 := CT.nxt _ q1
    rw [← e2, M2.n3 z h2] at q2
    exact q2)
  generalize 2 * f = e at *
  generalize hO : ot e = o at *
  have hT := inT e (.inl rfl)
  have aT := inT _ (.inr (.inr (.inl rfl)))
  -- the first corner
  have x1 : mX nx2 e = mX nx e := by unfold mX; rw [ag' e hT, ag' _ aT]
  have y1 : mY nx2 e = mY nx e := by unfold mY; rw [ag' e hT, ag' _ aT]
  have xy : (mX nx e = nx e ∨ mX nx e = nx (nx e)) ∧ (mY nx e = nx e ∨ mY nx e = nx (nx e)) := by
    rcases mXY nx e with ⟨p, q⟩ | ⟨p, q⟩
    · exact ⟨.inl p, .inr q⟩
    · exact ⟨.inr p, .inl q⟩
  have hx : mX nx e ∈ T ∧ ot (mX nx e) ∈ T := by
    rcases xy.1 with q | q
    · rw [q]; exact ⟨aT, otT _ (.inr (.inr (.inl rfl)))⟩
    · rw [q]; exact ⟨inT _ (.inr (.inr (.inr (.inl rfl)))), otT _ (.inr (.inr (.inr (.inl rfl))))⟩
  have hy : mY nx e ∈ T ∧ ot (mY nx e) ∈ T := by
    rcases xy.2 with q | q
    · rw [q]; exact ⟨aT, otT _ (.inr (.inr (.inl rfl)))⟩
    · rw [q]; exact ⟨inT _ (.inr (.inr (.inr (.inl rfl)))), otT _ (.inr (.inr (.inr (.inl rfl))))⟩
  have xno : mX nx e ≠ o ∧ mX nx e ≠ nx o ∧ mX nx e ≠ nx (nx o) := by
    rcases xy.1 with q | q
    · rw [q]; exact ⟨Fm.n_oa.symm, Fm.n_ac, Fm.n_ad⟩
    · rw [q]; exact ⟨Fm.n_ob.symm, Fm.n_bc, Fm.n_bd⟩
  have m1 : m1N nx2 e = mendN nx2 (mX nx e) (ot (mY nx e)) := by unfold m1N; rw [x1, y1]
  have l1 := mend_loc hx.1 hy.2 ag' out
  have oT := inT o (.inr (.inl rfl))
  -- the second corner
  have n1T : ∀ z ∈ T, mendN nx (mX nx e) (ot (mY nx e)) z ∈ T := fun z hz => by
    unfold mendN
    split
    · exact CT.nxt _ hy.2
    · split
      · exact hx.1
      · exact CT.nxt _ hz
  have out1 : ∀ z ∈ S2, z ∉ T → mendN nx2 (mX nx e) (ot (mY nx e)) z ∉ T := fun z h2 hz q => by
    rw [l1.2 z h2 hz] at q
    exact out z h2 hz q
  have a1 : mendN nx2 (mX nx e) (ot (mY nx e)) o = mendN nx (mX nx e) (ot (mY nx e)) o := l1.1 o oT
  have a2 : mendN nx2 (mX nx e) (ot (mY nx e)) (mendN nx (mX nx e) (ot (mY nx e)) o) = mendN nx (mX nx e) (ot (mY nx e)) (mendN nx (mX nx e) (ot (mY nx e)) o) := l1.1 _ (n1T o oT)
  -- what stands at the second corner: as it was, or the kept end
  have c1 : mendN nx (mX nx e) (ot (mY nx e)) o = nx o ∨ mendN nx (mX nx e) (ot (mY nx e)) o = mX nx e ∧ nx o = ot (mY nx e) := by
    by_cases q : nx o = ot (mY nx e)
    · exact .inr ⟨mendN_q (Ne.symm xno.1) q, q⟩
    · exact .inl (mendN_o (Ne.symm xno.1) q)
  have oc := otT _ (.inr (.inr (.inr (.inr (.inl rfl)))))
  have od := otT _ (.inr (.inr (.inr (.inr (.inr rfl)))))
  have c2 : ot (mendN nx (mX nx e) (ot (mY nx e)) o) ∈ T ∧ ot (mendN nx (mX nx e) (ot (mY nx e)) (mendN nx (mX nx e) (ot (mY nx e)) o)) ∈ T := by
    rcases c1 with q | ⟨q, q2⟩
    · rw [q]
      refine ⟨oc, ?_⟩
      by_cases r : nx (nx o) = ot (mY nx e)
      · rw [mendN_q (Ne.symm xno.2.1) r]; exact hx.2
      · rw [mendN_o (Ne.symm xno.2.1) r]; exact od
    · rw [q]
      refine ⟨hx.2, ?_⟩
      rw [mendN_x, ← q2]
      exact od
  have n1 : m1N nx e = mendN nx (mX nx e) (ot (mY nx e)) := rfl
  have bN : burstN nx e = mendN (mendN nx (mX nx e) (ot (mY nx e))) (mX (mendN nx (mX nx e) (ot (mY nx e))) o) (ot (mY (mendN nx (mX nx e) (ot (mY nx e))) o)) := by
    unfold burstN
    rw [hO]
    rfl
  have bN2 : burstN nx2 e = mendN (mendN nx2 (mX nx e) (ot (mY nx e))) (mX (mendN nx2 (mX nx e) (ot (mY nx e))) o) (ot (mY (mendN nx2 (mX nx e) (ot (mY nx e))) o)) := by
    unfold burstN
    rw [hO, m1]
    rfl
  have bS : ∀ z, z ∈ burstS S nx e ↔ (z ∈ S ∧ z ≠ e ∧ z ≠ mY nx e ∧ z ≠ ot (mY nx e)) ∧ z ≠ o ∧ z ≠ mY (mendN nx (mX nx e) (ot (mY nx e))) o ∧ z ≠ ot (mY (mendN nx (mX nx e) (ot (mY nx e))) o) := fun z => by
    unfold burstS m1S
    rw [mem_mendS, mem_mendS, hO]
    exact Iff.rfl
  have bS2 : ∀ z, z ∈ burstS S2 nx2 e ↔ (z ∈ S2 ∧ z ≠ e ∧ z ≠ mY nx e ∧ z ≠ ot (mY nx e)) ∧ z ≠ o ∧ z ≠ mY (mendN nx2 (mX nx e) (ot (mY nx e))) o ∧ z ≠ ot (mY (mendN nx2 (mX nx e) (ot (mY nx e))) o) := fun z => by
    unfold burstS m1S
    rw [mem_mendS, mem_mendS, hO, y1, m1]
  have x2 : mX (mendN nx2 (mX nx e) (ot (mY nx e))) o = mX (mendN nx (mX nx e) (ot (mY nx e))) o := by
    generalize mendN nx2 (mX nx e) (ot (mY nx e)) = b1 at a1 a2 ⊢
    generalize mendN nx (mX nx e) (ot (mY nx e)) = b2 at a1 a2 ⊢
    unfold mX
    rw [a1, a2]
  have y2 : mY (mendN nx2 (mX nx e) (ot (mY nx e))) o = mY (mendN nx (mX nx e) (ot (mY nx e))) o := by
    generalize mendN nx2 (mX nx e) (ot (mY nx e)) = b1 at a1 a2 ⊢
    generalize mendN nx (mX nx e) (ot (mY nx e)) = b2 at a1 a2 ⊢
    unfold mY
    rw [a1, a2]
  rw [x2, y2] at bN2
  rw [y2] at bS2
  clear x2 y2 a2 c1 m1 n1 x1 y1
  generalize mendN nx2 (mX nx e) (ot (mY nx e)) = b1 at *
  generalize mendN nx (mX nx e) (ot (mY nx e)) = b2 at *
  have xy2 : (mX b2 o = b2 o ∨ mX b2 o = b2 (b2 o)) ∧ (mY b2 o = b2 o ∨ mY b2 o = b2 (b2 o)) := by
    rcases mXY b2 o with ⟨p, q⟩ | ⟨p, q⟩
    · exact ⟨.inl p, .inr q⟩
    · exact ⟨.inr p, .inl q⟩
  have hx2 : mX b2 o ∈ T := by
    rcases xy2.1 with q | q
    · rw [q]; exact n1T o oT
    · rw [q]; exact n1T _ (n1T o oT)
  have hy2 : mY b2 o ∈ T ∧ ot (mY b2 o) ∈ T := by
    rcases xy2.2 with q | q
    · rw [q]; exact ⟨n1T o oT, c2.1⟩
    · rw [q]; exact ⟨n1T _ (n1T o oT), c2.2⟩
  have l2 := mend_loc (S2 := S2) hx2 hy2.2 l1.1 out1
  refine ⟨fun z h => ?_, fun z h => ?_, fun z h _ => ?_, fun z h _ h2 => ?_⟩
  · have hz := h.resolve_right id
    rw [bS, bS2]
    have := ag z hz
    exact ⟨fun ⟨⟨_, p⟩, q⟩ => ⟨⟨this.1, p⟩, q⟩, fun ⟨⟨_, p⟩, q⟩ => ⟨⟨this.2.1, p⟩, q⟩⟩
  · have hz := h.resolve_right id
    rw [bN, bN2]
    exact l2.1 z hz
  · rw [bS2]
    refine ⟨fun q => q.1.1, fun q => ⟨⟨q, fun r => h (r ▸ hT), fun r => h (r ▸ hy.1), fun r => h (r ▸ hy.2)⟩, fun r => h (r ▸ oT), fun r => h (r ▸ hy2.1), fun r => h (r ▸ hy2.2)⟩⟩
  · rw [bN2, l2.2 z h2 h]
    exact l1.2 z h2 h
theorem fre_loc {S S2 : List Int} {nx nx2 : Int → Int} {o : Ord} (M : Map S ot nx) (M2 : Map S2 ot nx2) (fr : Fre S nx o) (ok : o.ok S) (ok2 : o.ok S2) (ag : Agr (touL nx o) S S2 nx nx2) :
    Loc (touL nx o) (New o) S (moveS S nx o) S2 (moveS S2 nx2 o) (moveN nx o) nx2 (moveN nx2 o) := by
  cases o with
  | push f =>
    obtain ⟨v, w⟩ := push_loc M M2 fr.1 fr.2 ag false
    refine ⟨fun z h => ?_, fun z h => v z (h.resolve_right id), fun z h _ => Iff.rfl, fun z h _ _ => w z h⟩
    have := ag z (h.resolve_right id)
    exact ⟨fun _ => this.1, fun _ => this.2.1⟩
  | pull f =>
    obtain ⟨v, w⟩ := push_loc M M2 fr.1 fr.2 ag true
    refine ⟨fun z h => ?_, fun z h => v z (h.resolve_right id), fun z h _ => Iff.rfl, fun z h _ _ => w z h⟩
    have := ag z (h.resolve_right id)
    exact ⟨fun _ => this.1, fun _ => this.2.1⟩
  | burst f =>
    have e1 : ¬ Looped nx2 (2 * f) := fun z => fr.2.1 ((loop_agr ag (mem_bur.mpr (.inl (mem_sixL.mpr (.inl rfl)))) (mem_bur.mpr (.inl (mem_sixL.mpr (.inr (.inr (.inl rfl))))))).mp z)
    show Loc _ (fun _ => False) S (wS S nx (2 * f)) S2 (wS S2 nx2 (2 * f)) (wN nx (2 * f)) nx2 (wN nx2 (2 * f))
    unfold wS wN
    rw [if_neg fr.2.1, if_neg fr.2.1, if_neg e1, if_neg e1]
    exact burst_loc M M2 fr.1 fr.2.1 ag
  | part a b c => exact fr.elim
  | blow e f =>
    have he : e ∈ S := fr
    have m : ∀ z, (z = e ∨ z = nx e ∨ z = nx (nx e)) → z ∈ S ∧ z ∈ S2 ∧ nx2 z = nx z := fun z h => ag z (mem_corL.mpr h)
    have he2 := (m e (.inl rfl)).2.1
    have V := blow_vals M he ok
    have V2 := blow_vals M2 he2 ok2
    rw [(m e (.inl rfl)).2.2, (m _ (.inr (.inl rfl))).2.2] at V2
    show Loc (corL nx e) (New6 (2 * f)) S (blowS S (2 * f)) S2 (blowS S2 (2 * f)) (blowF nx e (2 * f)) nx2 (blowF nx2 e (2 * f))
    refine ⟨fun z h => ?_, fun z h => ?_, fun z h n => ?_, fun z h n h2 => ?_⟩
    · rw [mem_blowS, mem_blowS]
      rcases h with h | h
      · have := m z (mem_corL.mp h)
        exact ⟨fun _ => .inl this.1, fun _ => .inl this.2.1⟩
      · exact ⟨fun _ => .inr h, fun _ => .inr h⟩
    · rcases h with h | h
      · rcases mem_corL.mp h with rfl | rfl | rfl
        · rw [V.v_e, V2.v_e]
        · rw [V.v_a, V2.v_a]
        · rw [V.v_b, V2.v_b]
      · rcases h with rfl | rfl | rfl | rfl | rfl | rfl
        · rw [V.v_0, V2.v_0]
        · rw [V.v_1, V2.v_1]
        · rw [V.v_2, V2.v_2]
        · rw [V.v_3, V2.v_3]
        · rw [V.v_4, V2.v_4]
        · rw [V.v_5, V2.v_5]
    · rw [mem_blowS]
      exact ⟨fun q => q.resolve_right n, .inl⟩
    · exact V2.v_o z h2 (fun q => h (mem_corL.mpr (.inl q))) (fun q => h (mem_corL.mpr (.inr (.inl q)))) (fun q => h (mem_corL.mpr (.inr (.inr q))))
/-! Yb: deeds at far corners, in either order: plain law. -/
theorem new_out {S : List Int} {o : Ord} {z : Int} (ok : o.ok S) (h : New o z) : z ∉ S := fun q => by
  cases o with
  | blow e f =>
    have := ok z q
    have h : New6 (2 * f) z := h
    unfold New6 at h
    omega
  | push f => exact h
  | pull f => exact h
  | burst f => exact h
  | part a b c => exact h
section
variable {S S1 S2 : List Int} {nx : Int → Int} {o1 o2 : Ord}
theorem self_loc {o : Ord} (M : Map S ot nx) (fr : Fre S nx o) (ok : o.ok S) : Loc (touL nx o) (New o) S (moveS S nx o) S (moveS S nx o) (moveN nx o) nx (moveN nx o) :=
  fre_loc M M fr ok ok fun z hz => ⟨(fre_clo M fr).sub z hz, (fre_clo M fr).sub z hz, rfl⟩
theorem far_agr (M : Map S ot nx) (fr1 : Fre S nx o1) (fr2 : Fre S nx o2) (ok1 : o1.ok S) (hS1 : ∀ z, z ∈ S1 ↔ z ∈ moveS S nx o1) (dis : ∀ z ∈ touL nx o2, z ∉ touL nx o1) : Agr (touL nx o2) S S1 nx (moveN nx o1) := fun z hz => by
  have hzS := (fre_clo M fr2).sub z hz
  have L := self_loc M fr1 ok1
  have n := fun q : New o1 z => new_out ok1 q hzS
  exact ⟨hzS, (hS1 z).mpr ((L.mO z (dis z hz) n).mpr hzS), L.vO z (dis z hz) n hzS⟩
theorem far_comm (M : Map S ot nx) (M1 : Map S1 ot (moveN nx o1)) (M2 : Map S2 ot (moveN nx o2)) (fr1 : Fre S nx o1) (fr2 : Fre S nx o2) (ok1 : o1.ok S) (ok2 : o2.ok S) (ok12 : o2.ok S1) (ok21 : o1.ok S2)
    (hS1 : ∀ z, z ∈ S1 ↔ z ∈ moveS S nx o1) (hS2 : ∀ z, z ∈ S2 ↔ z ∈ moveS S nx o2) (dis : ∀ z ∈ touL nx o2, z ∉ touL nx o1) (nn : ∀ z, New o1 z → ¬ New o2 z) :
    (∀ z, z ∈ moveS S1 (moveN nx o1) o2 ↔ z ∈ moveS S2 (moveN nx o2) o1) ∧ ∀ z ∈ moveS S1 (moveN nx o1) o2, moveN (moveN nx o1) o2 z = moveN (moveN nx o2) o1 z := by
  have L1 := self_loc M fr1 ok1
  have L2 := self_loc M fr2 ok2
  have dis' : ∀ z ∈ touL nx o1, z ∉ touL nx o2 := fun z h q => dis z q h
  have L12 := fre_loc M M1 fr2 ok2 ok12 (far_agr M fr1 fr2 ok1 hS1 dis)
  have L21 := fre_loc M M2 fr1 ok1 ok21 (far_agr M fr2 fr1 ok2 hS2 dis')
  have c1 := fre_clo M fr1
  have c2 := fre_clo M fr2
  have key : ∀ z, (z ∈ moveS S1 (moveN nx o1) o2 ↔ z ∈ moveS S2 (moveN nx o2) o1) ∧ (z ∈ moveS S1 (moveN nx o1) o2 → moveN (moveN nx o1) o2 z = moveN (moveN nx o2) o1 z) := fun z => by
    by_cases k2 : z ∈ touL nx o2 ∨ New o2 z
    · have n1 : z ∉ touL nx o1 ∧ ¬ New o1 z := by
        rcases k2 with q | q
        · exact ⟨dis z q, fun r => new_out ok1 r (c2.sub z q)⟩
        · exact ⟨fun r => new_out ok2 q (c1.sub z r), fun r => nn z r q⟩
      have a1 := L12.mS z k2
      have a2 := L21.mO z n1.1 n1.2
      have e := a1.trans ((hS2 z).symm.trans a2.symm)
      refine ⟨e, fun h => ?_⟩
      rw [L12.vS z k2, L21.vO z n1.1 n1.2 (a2.mp (e.mp h))]
    · by_cases k1 : z ∈ touL nx o1 ∨ New o1 z
      · have n2 : z ∉ touL nx o2 ∧ ¬ New o2 z := ⟨fun q => k2 (.inl q), fun q => k2 (.inr q)⟩
        have a1 := L21.mS z k1
        have a2 := L12.mO z n2.1 n2.2
        have e := a2.trans ((hS1 z).trans a1.symm)
        refine ⟨e, fun h => ?_⟩
        rw [L21.vS z k1, L12.vO z n2.1 n2.2 (a2.mp h)]
      · have n2 : z ∉ touL nx o2 ∧ ¬ New o2 z := ⟨fun q => k2 (.inl q), fun q => k2 (.inr q)⟩
        have n1 : z ∉ touL nx o1 ∧ ¬ New o1 z := ⟨fun q => k1 (.inl q), fun q => k1 (.inr q)⟩
        have a12 := L12.mO z n2.1 n2.2
        have a21 := L21.mO z n1.1 n1.2
        have b1 := (hS1 z).trans (L1.mO z n1.1 n1.2)
        have b2 := (hS2 z).trans (L2.mO z n2.1 n2.2)
        refine ⟨a12.trans (b1.trans (b2.symm.trans a21.symm)), fun h => ?_⟩
        have h1 := a12.mp h
        have hS := b1.mp h1
        rw [L12.vO z n2.1 n2.2 h1, L21.vO z n1.1 n1.2 (b2.mpr hS), L1.vO z n1.1 n1.2 hS, L2.vO z n2.1 n2.2 hS]
  exact ⟨fun z => (key z).1, fun z h => (key z).2 h⟩
end
/-! ### rims behind a far deed -/
theorem fold_rim {S S' : List Int} {f f' φ ψ : Int → Int} (F : Fold S f S' f' φ ψ) {x y : Int} (hx : x ∈ S') (hy : y ∈ S') (px : φ x = x) (py : φ y = y) (qx : x ∈ S) (qy : y ∈ S) : Eqv (fstep S' f') x y ↔ Eqv (fstep S f) x y := by
  constructor
  · intro e
    have h := Eqv.map (f := φ) (fun u v ⟨hu, q⟩ => by rw [q]; exact F.fwd u hu) e
    rwa [px, py] at h
  · intro e
    have h := Eqv.map (f := ψ) (fun u v ⟨hu, q⟩ => by rw [q]; exact F.bwd u hu) e
    have bx := F.back x hx (px.symm ▸ qx)
    have by_ := F.back y hy (py.symm ▸ qy)
    rw [px] at bx
    rw [py] at by_
    exact (bx.symm.trans h).trans by_
theorem rim_cg {S S' : List Int} {nx : Int → Int} (h : ∀ x, x ∈ S' ↔ x ∈ S) {x y : Int} : Rim S' nx x y ↔ Rim S nx x y := by
  constructor
  · exact Eqv.mono fun u v ⟨hu, q⟩ => .step ⟨(h u).mp hu, q⟩
  · exact Eqv.mono fun u v ⟨hu, q⟩ => .step ⟨(h u).mpr hu, q⟩
theorem turn_rim {S : List Int} {nx : Int → Int} {e : Int} (W : Web S nx) (he : e ∈ S) (hl : ¬ Looped nx e) (b : Bool) {x y : Int} (hx : x ∈ S) (hy : y ∈ S) (x1 : x ≠ e ∧ x ≠ ot e) (y1 : y ≠ e ∧ y ≠ ot e) : Rim S (pushB nx e b) x y ↔ Rim S nx x y := by
  have F := film_of W.map he (fun z => hl (.inl z)) (fun z => hl (.inr z))
  have T : ∃ u v, Turn S nx (pushB nx e b) e (ot e) (nx e) (nx (nx e)) (nx (ot e)) (nx (nx (ot e))) u v := by
    cases b with
    | true => exact ⟨_, _, pull_turn F⟩
    | false => exact ⟨_, _, push_turn F⟩
  obtain ⟨u, v, T⟩ := T
  have uv : ∀ z, z ≠ e ∧ z ≠ ot e → z ≠ u ∧ z ≠ v := fun z ⟨p, q⟩ => by
    rcases T.uv with ⟨rfl, rfl⟩ | ⟨rfl, rfl⟩
    · exact ⟨p, q⟩
    · exact ⟨q, p⟩
  have fx : ∀ z, z ≠ e ∧ z ≠ ot e → (if z = u then nx (nx e) else if z = v then nx (nx (ot e)) else z) = z := fun z h => by rw [if_neg (uv z h).1, if_neg (uv z h).2]
  exact fold_rim (turn_fold T) hx hy (fx x x1) (fx y y1) hx hy
theorem blow_rim {S : List Int} {nx : Int → Int} {e L : Int} (W : Web S nx) (he : e ∈ S) (hL : ∀ x ∈ S, x < L) (h0 : 0 ≤ L) (h2 : L % 2 = 0) {x y : Int} (hx : x ∈ S) (hy : y ∈ S) : Rim (blowS S L) (blowF nx e L) x y ↔ Rim S nx x y := by
  have V := blow_vals W.map he hL
  obtain ⟨W1, _⟩ := blow_web W he hL h0 h2
  have fx : ∀ z ∈ S, blowP e (nx e) (nx (nx e)) L z = z := fun z hz => by
    have := hL z hz
    unfold blowP
    rw [if_neg (by omega), if_neg (by omega), if_neg (by omega), if_neg (by omega), if_neg (by omega), if_neg (by omega)]
  exact fold_rim (blow_fold W.map W1.map V hL h2) (mem_blowS.mpr (.inl hx)) (mem_blowS.mpr (.inl hy)) (fx x hx) (fx y hy) hx hy
theorem burst_rim {S : List Int} {nx : Int → Int} {e : Int} (W : Web S nx) (he : e ∈ S) (hl : ¬ Looped nx e) (hr : ¬ Rim S nx e (ot e)) {x y : Int} (hx : x ∈ burstS S nx e) (hy : y ∈ burstS S nx e) :
    Rim (burstS S nx e) (burstN nx e) x y ↔ Rim S nx x y ∨ ((Rim S nx x e ∨ Rim S nx x (ot e)) ∧ (Rim S nx y e ∨ Rim S nx y (ot e))) := by
  have B := burst_web W he (fun z => hl (.inl z)) (fun z => hl (.inr z)) hr
  have D1 := B.D1
  have D2 := B.D2
  have in1 : ∀ z ∈ burstS S nx e, z ∈ m1S S nx e := fun z hz => (mem_mendS.mp hz).1
  have alS : ∀ z ∈ burstS S nx e, cutA ot e (ot e) z = ot z := fun z hz => by
    unfold cutA
    rw [if_neg (mem_mendS.mp (mem_mendS.mp hz).1).2.1, if_neg (mem_mendS.mp hz).2.1]
  have a1 : Eqv (fstep (burstS S nx e) (face ot (burstN nx e))) x y ↔ Eqv (fstep (burstS S nx e) (face (cutA ot e (ot e)) (burstN nx e))) x y := by
    constructor
    · exact Eqv.mono fun u v ⟨hu, q⟩ => .step ⟨hu, by rw [q]; show burstN nx e (ot u) = burstN nx e (cutA ot e (ot e) u); rw [alS u hu]⟩
    · exact Eqv.mono fun u v ⟨hu, q⟩ => .step ⟨hu, by rw [q]; show burstN nx e (cutA ot e (ot e) u) = burstN nx e (ot u); rw [alS u hu]⟩
  exact (a1.trans ((mend_iff D2 hx hy).trans (mend_iff D1 (in1 x hx) (in1 y hy)))).trans (cut_rel W.map he hr)
def IsBurst : Ord → Prop
  | .burst _ => True
  | _ => False
section
variable {S S1 S2 : List Int} {nx : Int → Int} {o1 o2 : Ord}
theorem fre_web {o : Ord} (W : Web S nx) (fr : Fre S nx o) (ok : o.ok S) : Web (moveS S nx o) (moveN nx o) := by
  cases o with
  | push g => exact push_web W fr.1 (fun z => fr.2 (.inl z)) (fun z => fr.2 (.inr z))
  | pull g => exact pull_web W fr.1 (fun z => fr.2 (.inl z)) (fun z => fr.2 (.inr z))
  | burst g =>
    show Web (wS S nx (2 * g)) (wN nx (2 * g))
    unfold wS wN
    rw [if_neg fr.2.1, if_neg fr.2.1]
    exact (burst_web W fr.1 (fun z => fr.2.1 (.inl z)) (fun z => fr.2.1 (.inr z)) fr.2.2).web
  | part a b c => exact fr.elim
  | blow e g =>
    have he : e ∈ S := fr
    have h0 := W.pos e he
    have h1 := ok e he
    exact (blow_web W he ok (by omega) (by omega)).1
theorem fre_word {o : Ord} (fr : Fre S nx o) : wordF S nx o = "" := by
  cases o with
  | push g => exact (w_push fr.1 fr.2).1
  | pull g => exact (w_push fr.1 fr.2).2
  | burst g => exact w_burst fr.1 fr.2.2
  | part a b c => exact fr.elim
  | blow e g => exact w_blow fr
/-- behind a far deed the other one may still be drawn, but for a burst behind a burst -/
theorem far_fre (W : Web S nx) (fr1 : Fre S nx o1) (fr2 : Fre S nx o2) (ok1 : o1.ok S) (hS1 : ∀ z, z ∈ S1 ↔ z ∈ moveS S nx o1) (dis : ∀ z ∈ touL nx o2, z ∉ touL nx o1) (nb : ¬ (IsBurst o1 ∧ IsBurst o2)) : Fre S1 (moveN nx o1) o2 := by
  have M := W.map
  have ag := far_agr M fr1 fr2 ok1 hS1 dis
  cases o2 with
  | push g =>
    have m1 := mem_sixL.mpr (.inl rfl : Six (2 * g) (ot (2 * g)) (nx (2 * g)) (nx (nx (2 * g))) (nx (ot (2 * g))) (nx (nx (ot (2 * g)))) (2 * g))
    have m2 := mem_sixL.mpr (.inr (.inr (.inl rfl)) : Six (2 * g) (ot (2 * g)) (nx (2 * g)) (nx (nx (2 * g))) (nx (ot (2 * g))) (nx (nx (ot (2 * g)))) (nx (2 * g)))
    exact ⟨(ag _ m1).2.1, fun z => fr2.2 ((loop_agr ag m1 m2).mp z)⟩
  | pull g =>
    have m1 := mem_sixL.mpr (.inl rfl : Six (2 * g) (ot (2 * g)) (nx (2 * g)) (nx (nx (2 * g))) (nx (ot (2 * g))) (nx (nx (ot (2 * g)))) (2 * g))
    have m2 := mem_sixL.mpr (.inr (.inr (.inl rfl)) : Six (2 * g) (ot (2 * g)) (nx (2 * g)) (nx (nx (2 * g))) (nx (ot (2 * g))) (nx (nx (ot (2 * g)))) (nx (2 * g)))
    exact ⟨(ag _ m1).2.1, fun z => fr2.2 ((loop_agr ag m1 m2).mp z)⟩
  | blow e g => exact (ag e (mem_corL.mpr (.inl rfl))).2.1
  | part a b c => exact fr2.elim
  | burst g =>
    have m1 := mem_bur.mpr (.inl (mem_sixL.mpr (.inl rfl : Six (2 * g) (ot (2 * g)) (nx (2 * g)) (nx (nx (2 * g))) (nx (ot (2 * g))) (nx (nx (ot (2 * g)))) (2 * g))))
    have m2 := mem_bur.mpr (.inl (mem_sixL.mpr (.inr (.inr (.inl rfl)) : Six (2 * g) (ot (2 * g)) (nx (2 * g)) (nx (nx (2 * g))) (nx (ot (2 * g))) (nx (nx (ot (2 * g)))) (nx (2 * g)))))
    have m3 := mem_bur.mpr (.inl (mem_sixL.mpr (.inr (.inl rfl) : Six (2 * g) (ot (2 * g)) (nx (2 * g)) (nx (nx (2 * g))) (nx (ot (2 * g))) (nx (nx (ot (2 * g)))) (ot (2 * g)))))
    refine ⟨(ag _ m1).2.1, fun z => fr2.2.1 ((loop_agr ag m1 m2).mp z), fun r => fr2.2.2 ?_⟩
    rw [rim_cg hS1] at r
    have hx := fr2.1
    have hy := M.ca _ hx
    have d1 := dis _ m1
    have d3 := dis _ m3
    cases o1 with
    | push h => exact (turn_rim W fr1.1 fr1.2 false hx hy ⟨fun q => d1 (mem_sixL.mpr (.inl q)), fun q => d1 (mem_sixL.mpr (.inr (.inl q)))⟩ ⟨fun q => d3 (mem_sixL.mpr (.inl q)), fun q => d3 (mem_sixL.mpr (.inr (.inl q)))⟩).mp r
    | pull h => exact (turn_rim W fr1.1 fr1.2 true hx hy ⟨fun q => d1 (mem_sixL.mpr (.inl q)), fun q => d1 (mem_sixL.mpr (.inr (.inl q)))⟩ ⟨fun q => d3 (mem_sixL.mpr (.inl q)), fun q => d3 (mem_sixL.mpr (.inr (.inl q)))⟩).mp r
    | part a b c => exact fr1.elim
    | burst h => exact absurd ⟨trivial, trivial⟩ nb
    | blow e h =>
      have he : e ∈ S := fr1
      have h0 := W.pos e he
      have h1 := ok1 e he
      exact (blow_rim W he ok1 (by omega) (by omega) hx hy).mp r
theorem bur_word {f g : Int} (W : Web S nx) (fr1 : Fre S nx (.burst f)) (fr2 : Fre S nx (.burst g)) (hS1 : ∀ z, z ∈ S1 ↔ z ∈ moveS S nx (.burst f)) (dis : ∀ z ∈ touL nx (.burst g), z ∉ touL nx (.burst f)) :
    Fre S1 (moveN nx (.burst f)) (.burst g) ∨ (wordF S1 (moveN nx (.burst f)) (.burst g) ≠ "" ∧ (Rim S nx (2 * g) (2 * f) ∨ Rim S nx (2 * g) (ot (2 * f))) ∧ (Rim S nx (ot (2 * g)) (2 * f) ∨ Rim S nx (ot (2 * g)) (ot (2 * f)))) := by
  have M := W.map
  have ag := far_agr M fr1 fr2 trivial hS1 dis
  have m1 := mem_bur.mpr (.inl (mem_sixL.mpr (.inl rfl : Six (2 * g) (ot (2 * g)) (nx (2 * g)) (nx (nx (2 * g))) (nx (ot (2 * g))) (nx (nx (ot (2 * g)))) (2 * g))))
  have m2 := mem_bur.mpr (.inl (mem_sixL.mpr (.inr (.inr (.inl rfl)) : Six (2 * g) (ot (2 * g)) (nx (2 * g)) (nx (nx (2 * g))) (nx (ot (2 * g))) (nx (nx (ot (2 * g)))) (nx (2 * g)))))
  have m3 := mem_bur.mpr (.inl (mem_sixL.mpr (.inr (.inl rfl) : Six (2 * g) (ot (2 * g)) (nx (2 * g)) (nx (nx (2 * g))) (nx (ot (2 * g))) (nx (nx (ot (2 * g)))) (ot (2 * g)))))
  have x1 := (ag _ m1).2.1
  have x3 := (ag _ m3).2.1
  have nl : ¬ Looped (moveN nx (.burst f)) (2 * g) := fun z => fr2.2.1 ((loop_agr ag m1 m2).mp z)
  by_cases r : Rim S1 (moveN nx (.burst f)) (2 * g) (ot (2 * g))
  · right
    refine ⟨by rw [w_one x1 r]; decide, ?_⟩
    rw [rim_cg hS1] at r
    have y1 := (hS1 _).mp x1
    have y3 := (hS1 _).mp x3
    have eS : moveS S nx (.burst f) = burstS S nx (2 * f) := if_neg fr1.2.1
    have eN : moveN nx (.burst f) = burstN nx (2 * f) := if_neg fr1.2.1
    rw [eS] at y1 y3 r
    rw [eN] at r
    exact ((burst_rim W fr1.1 fr1.2.1 fr1.2.2 y1 y3).mp r).resolve_left fr2.2.2
  · exact .inl ⟨x1, nl, r⟩
/-- a burst behind a far burst: let in either order or in none -/
theorem bur_both {f g : Int} (W : Web S nx) (fr1 : Fre S nx (.burst f)) (fr2 : Fre S nx (.burst g)) (hS1 : ∀ z, z ∈ S1 ↔ z ∈ moveS S nx (.burst f)) (hS2 : ∀ z, z ∈ S2 ↔ z ∈ moveS S nx (.burst g)) (dis : ∀ z ∈ touL nx (.burst g), z ∉ touL nx (.burst f)) :
    (Fre S1 (moveN nx (.burst f)) (.burst g) ∧ Fre S2 (moveN nx (.burst g)) (.burst f)) ∨ (wordF S1 (moveN nx (.burst f)) (.burst g) ≠ "" ∧ wordF S2 (moveN nx (.burst g)) (.burst f) ≠ "") := by
  have M := W.map
  have back : ∀ {f g : Int} {S2 : List Int}, Fre S nx (.burst f) → Fre S nx (.burst g) → (∀ z, z ∈ S2 ↔ z ∈ moveS S nx (.burst g)) → (∀ z ∈ touL nx (.burst f), z ∉ touL nx (.burst g)) →
      (Rim S nx (2 * g) (2 * f) ∨ Rim S nx (2 * g) (ot (2 * f))) → (Rim S nx (ot (2 * g)) (2 * f) ∨ Rim S nx (ot (2 * g)) (ot (2 * f))) → wordF S2 (moveN nx (.burst g)) (.burst f) ≠ "" := fun {f g S2} fr1 fr2 hS2 dis h1 h2 => by
    have ag := far_agr M fr2 fr1 trivial hS2 dis
    have m1 := mem_bur.mpr (.inl (mem_sixL.mpr (.inl rfl : Six (2 * f) (ot (2 * f)) (nx (2 * f)) (nx (nx (2 * f))) (nx (ot (2 * f))) (nx (nx (ot (2 * f)))) (2 * f))))
    have m3 := mem_bur.mpr (.inl (mem_sixL.mpr (.inr (.inl rfl) : Six (2 * f) (ot (2 * f)) (nx (2 * f)) (nx (nx (2 * f))) (nx (ot (2 * f))) (nx (nx (ot (2 * f)))) (ot (2 * f)))))
    have x1 := (ag _ m1).2.1
    have x3 := (ag _ m3).2.1
    have eS : moveS S nx (.burst g) = burstS S nx (2 * g) := if_neg fr2.2.1
    have eN : moveN nx (.burst g) = burstN nx (2 * g) := if_neg fr2.2.1
    have y1 := (hS2 _).mp x1
    have y3 := (hS2 _).mp x3
    rw [eS] at y1 y3
    have r : Rim S2 (moveN nx (.burst g)) (2 * f) (ot (2 * f)) := by
      rw [rim_cg hS2, eS, eN]
      refine (burst_rim W fr2.1 fr2.2.1 fr2.2.2 y1 y3).mpr (.inr ?_)
      have no1 := fr1.2.2
      have no2 := fr2.2.2
      rcases h1 with a | a <;> rcases h2 with b | b
      · exact absurd (a.trans b.symm) no2
      · exact ⟨.inl a.symm, .inr b.symm⟩
      · exact ⟨.inr b.symm, .inl a.symm⟩
      · exact absurd (a.trans b.symm) no2
    rw [w_one x1 r]
    decide
  have dis' : ∀ z ∈ touL nx (.burst f), z ∉ touL nx (.burst g) := fun z h q => dis z q h
  rcases bur_word W fr1 fr2 hS1 dis with a | ⟨a, b1, b2⟩
  · rcases bur_word W fr2 fr1 hS2 dis' with c | ⟨c, d1, d2⟩
    · exact .inl ⟨a, c⟩
    · exact absurd (fre_word a) (back fr2 fr1 hS1 dis d1 d2)
  · exact .inr ⟨a, back fr1 fr2 hS2 dis' b1 b2⟩
end
/-! Wp: the program's looker. -/
/-! ### the first fault -/
abbrev Flt := Option (Str × Int)
def FltAt (H : Hp) (v : V) : Flt → Prop
  | none => v = .non
  | some (w, n) => ∃ t, v = .ref t ∧ H t = some (.tup [.str w, .int n])
theorem FltAt.same {H H' : Hp} {v : V} {o : Flt} (h : FltAt H v o) (s : Same H H') : FltAt H' v o := by
  cases o with
  | none => exact h
  | some x => obtain ⟨t, e, q⟩ := h; exact ⟨t, e, s _ _ q⟩
/-! ### is_corner, reached -/
/-! is_corner: slots found, end -/
structure Rch (S : List Int) (nx : Int → Int) (b : Int) (R : List Int) (i : Nat) : Prop where
  sub : ∀ x ∈ R, x ∈ S
  nd : R.Nodup
  beg : b ∈ R
  con : ∀ x ∈ R, Eqv (cs S ot nx) b x
  cl : ∀ (j : Nat) (x : Int), j < i → R[j]? = some x → nx x ∈ R ∧ ot x ∈ R
theorem Rch.all {S R : List Int} {nx : Int → Int} {b : Int} {i : Nat} (M : Map S ot nx) (F : Rch S nx b R i) (h : R.length ≤ i) : ∀ x, x ∈ R ↔ Eqv (cs S ot nx) b x := by
  intro x
  refine ⟨F.con x, fun e => ?_⟩
  have cl : ∀ y ∈ R, nx y ∈ R ∧ ot y ∈ R := fun y hy => by
    obtain ⟨j, hj⟩ := List.getElem?_of_mem hy
    exact F.cl j y (by have := (List.getElem?_eq_some_iff.mp hj).1; omega) hj
  have inv := Eqv.inv (r := cs S ot nx) (A := fun z => z ∈ R) (fun u v ⟨hu, q⟩ => by
    constructor
    · intro z
      rcases q with rfl | rfl
      · exact (cl u z).2
      · exact (cl u z).1
    · intro z
      rcases q with rfl | rfl
      · have := (cl _ z).2
        rwa [ot_ot] at this
      · have := (cl _ (cl _ z).1).1
        rwa [M.n3 u hu] at this) e
  exact inv.mp F.beg
/-! reached: slots found, begin, seen, row, at, step -/
/-! ### least_fault, web_fault -/
/-! least_fault: slots found, ends, end, seen -/
/-! web_fault: slots found, ends, fault, many -/
/-! Yc: far deeds: what the law draws. -/
def OrdF (f : Int) (o : Ord) : Prop := ∀ e g, o = .blow e g → g = f
theorem ordF_ok {S : List Int} {nx : Int → Int} {f : Int} {o : Ord} (fr : Fre S nx o) (h : OrdF f o) (lt : ∀ x ∈ S, x < 2 * f) : o.ok S := by
  cases o with
  | blow e g => rw [h e g rfl]; exact lt
  | push g => trivial
  | pull g => trivial
  | burst g => trivial
  | part a b c => exact fr.elim
abbrev ordO (o : Ord) : HO := .tup o.vals
structure Acc (S : List Int) (nx : Int → Int) (f : Int) (H0 H : Hp) (p : Addr) (as : List Addr) (os : List Ord) : Prop where
  s : Same H0 H
  e : H p = some (.lst (as.map V.ref))
  r : RefO H as (os.map ordO)
  fr : ∀ a ∈ as, a ≠ p
  ok : ∀ o ∈ os, Fre S nx o ∧ OrdF f o
theorem Acc.len {S : List Int} {nx : Int → Int} {f : Int} {H0 H : Hp} {p : Addr} {as : List Addr} {os : List Ord} (A : Acc S nx f H0 H p as os) : as.length = os.length := by
  have := A.r.len
  rwa [List.length_map] at this
theorem Acc.add {S : List Int} {nx : Int → Int} {f : Int} {H0 H : Hp} {p t : Addr} {as : List Addr} {os : List Ord} {o : Ord} (A : Acc S nx f H0 H p as os) (hp : Free H0 p) (ht : Free H t) (ok : Fre S nx o ∧ OrdF f o) :
    Acc S nx f H0 (upd (upd H t (ordO o)) p (.lst ((as ++ [t]).map V.ref))) p (as ++ [t]) (os ++ [o]) := by
  have ntp : t ≠ p := ne_fresh' A.e ht
  refine ⟨same_mut (same_new A.s ht) hp, upd_same, ?_, fun a ha => ?_, fun q hq => ?_⟩
  · rw [List.map_append (f := ordO)]
    exact ((A.r.same (same_new (Same.refl _) ht)).upd A.fr).snoc (at_ne upd_same ntp)
  · rcases List.mem_append.mp ha with z | z
    · exact A.fr a z
    · rw [List.mem_singleton.mp z]; exact ntp
  · rcases List.mem_append.mp hq with z | z
    · exact A.ok q z
    · rw [List.mem_singleton.mp z]; exact ok
def sp_l_free_deeds (G : Gx) : Sp := fun vs H Q _ => ∃ (d : Addr) (S : List Int) (nx : Int → Int) (f : Int), vs = [.ref d, .int f] ∧ Rd H d (dW S nx) ∧ Web S nx ∧ S.length ≤ 2000 ∧
  ∀ (os : List Ord) (as : List Addr) p H', Same H H' → Free H p → H' p = some (.lst (as.map V.ref)) → RefO H' as (os.map ordO) → (∀ o ∈ os, Fre S nx o ∧ OrdF f o) → os.length ≤ 8000 → Q (.ref p) H'
theorem len_l_free_deeds {G : Gx} : ∀ vs H Q E, sp_l_free_deeds G vs H Q E → vs.length = 2 := by rintro vs H Q E ⟨d, S, nx, f, rfl, _⟩; rfl
/-! _law_free_deeds: slots _law_web, _law_first, _law_found, _law_end, _law_film -/
def t_l_free_deeds (G : Gx) : TS :=
  (tSeq (tAsg (tLst tNil) (gName 2))
  (tSeq (tFor (iList G.K (tCB (rSortedI G.K) (tCons (tCB rListRd (tCons (tVar 0) tNil)) tNil))) (gName 3)
  (tSeq (tAsg (tOp rDivW (tVar 3) (tC (.int 2))) (gName 4))
  (tCut (tIfS (tAnd (tTest (tOp rLtI (tVar 3) (tDGet (tVar 0) (tVar 3)))) (tTest (tOp rLtI (tVar 3) (tDGet (tVar 0) (tDGet (tVar 0) (tVar 3)))))) (tDrop (tBM G.K "list" rAppend (tVar 2) (tCons (tTup (tCons (tC (.str "blow")) (tCons (tVar 3) (tCons (tVar 1) tNil)))) tNil))) tNext)
  (tIfS (tAnd (tTest (tOp rEq (tOp rModI (tVar 3) (tC (.int 2))) (tC (.int 0)))) (tNot (tB (tCall (sp_l_loop G) [] E0 (tCons (tVar 0) (tCons (tVar 4) tNil)))))) (tSeq (tDrop (tBM G.K "list" rAppend (tVar 2) (tCons (tTup (tCons (tC (.str "push")) (tCons (tVar 4) tNil))) tNil)))
  (tSeq (tDrop (tBM G.K "list" rAppend (tVar 2) (tCons (tTup (tCons (tC (.str "pull")) (tCons (tVar 4) tNil))) tNil)))
  (tIfS (tNot (tB (tCall (sp_l_one_bubble G) [] E0 (tCons (tVar 0) (tCons (tVar 4) tNil))))) (tDrop (tBM G.K "list" rAppend (tVar 2) (tCons (tTup (tCons (tC (.str "burst")) (tCons (tVar 4) tNil))) tNil))) tNext))) tNext))))
  (tRet (tVar 2))))
theorem pure_l_free_deeds {G : Gx} {vs : List V} {H : Hp} {Q : VK} {E : XK} (h : sp_l_free_deeds G vs H Q E) : Body (t_l_free_deeds G) ["_law_web", "_law_first", "_law_found", "_law_end", "_law_film"] vs H Q := by
  obtain ⟨d, S, nx, f, rfl, hd, W, hl, k⟩ := h
  have M := W.map
  show t_l_free_deeds G _ [some (.ref d), some (.int f), none, none, none] H
  unfold t_l_free_deeds
  walk_at "go"
  refine ⟨by walk_at "sz", fun p hp => ?_⟩
  walk_at "go"
  intro l hl0
  walk_at "go"
  refine r_sorted (SqL.of upd_same) fun es lr hp1 hp2 hlr => ?_
  have s1 : Same H (upd (upd (upd H p (.lst [])) l (.lst (S.map V.int))) lr (.lst (es.map V.int))) := by walk_at "sm"
  have e1 : (upd (upd (upd H p (.lst [])) l (.lst (S.map V.int))) lr (.lst (es.map V.int))) p = some (.lst []) := by walk_at "hp"
  have e3 : (upd (upd (upd H p (.lst [])) l (.lst (S.map V.int))) lr (.lst (es.map V.int))) lr = some (.lst (es.map V.int)) := upd_same
  have nlp : lr ≠ p := ne_fresh' (u := .lst []) (by walk_at "hp") hlr
  generalize upd (upd (upd H p (.lst [])) l (.lst (S.map V.int))) lr (.lst (es.map V.int)) = H1 at s1 e1 e3 ⊢
  clear hl0 hlr
  refine r_forI (SqL.of e3) (fun pre post σ H' => ∃ (o3 o4 : Option V) (as : List Addr) (os : List Ord), σ = [some (.ref d), some (.int f), some (.ref p), o3, o4] ∧ Acc S nx f H H' p as os ∧ os.length ≤ 4 * pre.length ∧ H' lr = some (.lst (es.map V.int)))
    ⟨_, _, [], [], rfl, ⟨s1, e1, .nil, fun a h => absurd h List.not_mem_nil, fun a h => absurd h List.not_mem_nil⟩, Nat.le_refl _, e3⟩ (fun pre post σ H' _ ⟨_, _, _, _, _, _, _, e⟩ => SqL.of e) ?_ ?_
  · rintro pre x post σ H2 hes' ⟨o3, o4, as, os, rfl, A, lo, f3⟩
    have hxS : x ∈ S := hp1.subset (by rw [hes']; exact List.mem_append.mpr (.inr List.mem_cons_self))
    have hpl : pre.length < S.length := by rw [← hp1.length_eq, hes', List.length_append, List.length_cons]; omega
    have hd2 : Rd H2 d (dW S nx) := same_rd A.s hd
    have ha := M.cn x hxS
    have la := A.len
    have ee := A.e
    walk_at "go"
    refine r_cut (fun σ H' => ∃ (as : List Addr) (os : List Ord), σ = [some (.ref d), some (.int f), some (.ref p), some (.int x), some (.int (x / 2))] ∧ Acc S nx f H H' p as os ∧ os.length ≤ 4 * pre.length + 1 ∧ H' lr = some (.lst (es.map V.int))) ?_ ?_
    · walk_at "go"
      refine iteB (fun c1 => ?_) (fun c1 => ?_)
      · walk_at "go"
        refine iteB (fun c2 => ?_) (fun c2 => ?_)
        · walk_at "go"
          refine ⟨by walk_at "sz", fun t ht => ?_⟩
          have A2 := A.add (o := .blow x f) hp ht ⟨hxS, fun e g z => by cases z; rfl⟩
          have etp : upd H2 t (.tup [.str "blow", .int x, .int f]) p = some (.lst (as.map V.ref)) := at_new ee ht
          walk_at "go"
          refine ⟨_, _, rfl, by rw [List.map_append] at A2; exact A2, by rw [List.length_append, List.length_singleton]; omega, at_ne (at_new f3 ht) nlp⟩
        · walk_at "go"
          exact ⟨as, os, rfl, A, by omega, f3⟩
      · walk_at "go"
        exact ⟨as, os, rfl, A, by omega, f3⟩
    clear A lo f3 hd2 la ee
    rintro σ H3 ⟨as, os, rfl, A, lo, f3⟩
    have hd3 : Rd H3 d (dW S nx) := same_rd A.s hd
    have la := A.len
    have out : ∀ H' as os, Acc S nx f H H' p as os → os.length ≤ 4 * pre.length + 4 → H' lr = some (.lst (es.map V.int)) → ∃ (o3 o4 : Option V) (as : List Addr) (os : List Ord), [some (V.ref d), some (.int f), some (.ref p), some (.int x), some (.int (x / 2))] = [some (.ref d), some (.int f), some (.ref p), o3, o4] ∧ Acc S nx f H H' p as os ∧ os.length ≤ 4 * (pre ++ [x]).length ∧ H' lr = some (.lst (es.map V.int)) := fun H' as os A l e =>
      ⟨_, _, as, os, rfl, A, by rw [List.length_append, List.length_singleton]; omega, e⟩
    walk_at "go"
    refine iteI (fun c1 => ?_) (fun c1 => ?_)
    · have hf : 2 * (x / 2) = x := by omega
      have he2 : 2 * (x / 2) ∈ S := by rw [hf]; exact hxS
      walk_at "go"
      refine ⟨d, S, nx, x / 2, rfl, hd3, he2, M.cn _ he2, fun b H4 hb s4 => ?_⟩
      walk_at "go"
      refine iteNB (fun hb0 => ?_) (fun hb1 => ?_)
      · have nl : ¬ Looped nx (2 * (x / 2)) := fun z => by rw [hb.mpr z] at hb0; cases hb0
        have A4 : Acc S nx f H H4 p as os := ⟨A.s.trans s4, s4 _ _ A.e, A.r.same s4, A.fr, A.ok⟩
        have f4 := s4 _ _ f3
        have ee4 := A4.e
        clear A f3 hd3
        walk_at "go"
        refine ⟨by walk_at "sz", fun t ht => ?_⟩
        have A5 := A4.add (o := .push (x / 2)) hp ht ⟨⟨he2, nl⟩, fun e g z => by cases z⟩
        have f5 : upd (upd H4 t (ordO (.push (x / 2)))) p (.lst ((as ++ [t]).map V.ref)) lr = some (.lst (es.map V.int)) := at_ne (at_new f4 ht) nlp
        have etp : upd H4 t (.tup [.str "push", .int (x / 2)]) p = some (.lst (as.map V.ref)) := at_new A4.e ht
        walk_at "go"
        rw [show upd (upd H4 t (.tup [.str "push", .int (x / 2)])) p (.lst (as.map V.ref ++ [V.ref t])) = upd (upd H4 t (ordO (.push (x / 2)))) p (.lst ((as ++ [t]).map V.ref)) by rw [List.map_append]; rfl]
        generalize upd (upd H4 t (ordO (.push (x / 2)))) p (.lst ((as ++ [t]).map V.ref)) = H5 at A5 f5 ⊢
        clear A4 f4 ht etp ee4
        have l5 := A5.len
        have e5 := A5.e
        walk_at "go"
        refine ⟨by walk_at "sz", fun t2 ht2 => ?_⟩
        have A6 := A5.add (o := .pull (x / 2)) hp ht2 ⟨⟨he2, nl⟩, fun e g z => by cases z⟩
        have f6 : upd (upd H5 t2 (ordO (.pull (x / 2)))) p (.lst ((as ++ [t] ++ [t2]).map V.ref)) lr = some (.lst (es.map V.int)) := at_ne (at_new f5 ht2) nlp
        have etp2 : upd H5 t2 (.tup [.str "pull", .int (x / 2)]) p = some (.lst ((as ++ [t]).map V.ref)) := at_new e5 ht2
        walk_at "go"
        rw [show upd (upd H5 t2 (.tup [.str "pull", .int (x / 2)])) p (.lst ((as ++ [t]).map V.ref ++ [V.ref t2])) = upd (upd H5 t2 (ordO (.pull (x / 2)))) p (.lst ((as ++ [t] ++ [t2]).map V.ref)) by rw [List.map_append (l₁ := as ++ [t])]; rfl]
        generalize upd (upd H5 t2 (ordO (.pull (x / 2)))) p (.lst ((as ++ [t] ++ [t2]).map V.ref)) = H6 at A6 f6 ⊢
        clear A5 f5 ht2 etp2 e5
        have l6 := A6.len
        have e6 := A6.e
        have hd6 : Rd H6 d (dW S nx) := same_rd A6.s hd
        walk_at "go"
        rw [List.length_append, List.length_append, List.length_singleton, List.length_singleton] at l6
        refine ⟨d, S, nx, x / 2, rfl, hd6, M, he2, by omega, fun b2 H7 hb2 s7 => ?_⟩
        have A7 : Acc S nx f H H7 p (as ++ [t] ++ [t2]) (os ++ [.push (x / 2)] ++ [.pull (x / 2)]) := ⟨A6.s.trans s7, s7 _ _ A6.e, A6.r.same s7, A6.fr, A6.ok⟩
        have f7 := s7 _ _ f6
        have ee7 := A7.e
        clear A6 f6 e6 hd6
        walk_at "go"
        refine iteNB (fun hb3 => ?_) (fun hb3 => ?_)
        · have nr : ¬ Rim S nx (2 * (x / 2)) (ot (2 * (x / 2))) := fun z => by rw [hb2.mpr z] at hb3; cases hb3
          walk_at "go"
          refine ⟨by walk_at "sz", fun t3 ht3 => ?_⟩
          have A8 := A7.add (o := .burst (x / 2)) hp ht3 ⟨⟨he2, nl, nr⟩, fun e g z => by cases z⟩
          have f8 : upd (upd H7 t3 (ordO (.burst (x / 2)))) p (.lst ((as ++ [t] ++ [t2] ++ [t3]).map V.ref)) lr = some (.lst (es.map V.int)) := at_ne (at_new f7 ht3) nlp
          have etp3 : upd H7 t3 (.tup [.str "burst", .int (x / 2)]) p = some (.lst ((as ++ [t] ++ [t2]).map V.ref)) := at_new A7.e ht3
          walk_at "go"
          rw [show upd (upd H7 t3 (.tup [.str "burst", .int (x / 2)])) p (.lst ((as ++ [t] ++ [t2]).map V.ref ++ [V.ref t3])) = upd (upd H7 t3 (ordO (.burst (x / 2)))) p (.lst ((as ++ [t] ++ [t2] ++ [t3]).map V.ref)) by rw [List.map_append (l₁ := as ++ [t] ++ [t2])]; rfl]
          exact out _ _ _ A8 (by simp only [List.length_append, List.length_singleton]; omega) f8
        · walk_at "go"
          exact out _ _ _ A7 (by simp only [List.length_append, List.length_singleton]; omega) f7
      · walk_at "go"
        exact out _ as os ⟨A.s.trans s4, s4 _ _ A.e, A.r.same s4, A.fr, A.ok⟩ (by omega) (s4 _ _ f3)
    · walk_at "go"
      exact out _ as os A (by omega) f3
  · rintro σ H2 ⟨o3, o4, as, os, rfl, A, lo, f3⟩
    walk_at "go"
    have := hp1.length_eq
    exact k os as p _ A.s hp A.e A.r A.ok (by omega)
/-! ### touched -/
def sp_l_touched (G : Gx) : Sp := fun vs H Q _ => ∃ (d t : Addr) (S : List Int) (nx : Int → Int) (o : Ord), vs = [.ref d, .ref t] ∧ Rd H d (dW S nx) ∧ SqT G.K H t o.vals ∧ Map S ot nx ∧ Fre S nx o ∧
  ∀ p H', Same H H' → Free H p → H' p = some (.lst ((touL nx o).map V.int)) → Q (.ref p) H'
theorem len_l_touched {G : Gx} : ∀ vs H Q E, sp_l_touched G vs H Q E → vs.length = 2 := by rintro vs H Q E ⟨d, t, S, nx, o, rfl, _⟩; rfl
theorem tou_len {nx : Int → Int} {o : Ord} : (touL nx o).length ≤ 24 := by
  cases o with
  | burst f =>
    show (sixL nx (2 * f) ++ _).length ≤ 24
    unfold sixL corL
    simp only [List.flatMap_cons, List.flatMap_nil, List.length_append, List.length_cons, List.length_nil]
    omega
  | push f => show (6 : Nat) ≤ 24; decide
  | pull f => show (6 : Nat) ≤ 24; decide
  | part a b c => show (0 : Nat) ≤ 24; decide
  | blow e f => show (3 : Nat) ≤ 24; decide
/-! _law_touched: slots _law_web, _law_order, _law_end, _law_row, _law_at -/
def t_l_touched (G : Gx) : TS :=
  (tSeq (tAsg (tOp (rIxT G.K) (tVar 1) (tC (.int 1))) (gName 2))
  (tSeq (tIfS (tTest (tOp rNe (tOp (rIxT G.K) (tVar 1) (tC (.int 0))) (tC (.str "blow")))) (tAsg (tOp rMulI (tC (.int 2)) (tVar 2)) (gName 2)) tNext)
  (tSeq (tAsg (tCB (rListOf G.K) (tCons (tCall (sp_l_corner G) [] E0 (tCons (tVar 0) (tCons (tVar 2) tNil))) tNil)) (gName 3))
  (tSeq (tIfS (tTest (tOp rNe (tOp (rIxT G.K) (tVar 1) (tC (.int 0))) (tC (.str "blow")))) (tAsg (tOp rCat (tVar 3) (tCB (rListOf G.K) (tCons (tCall (sp_l_corner G) [] E0 (tCons (tVar 0) (tCons (tOp rAddI (tVar 2) (tC (.int 1))) tNil))) tNil))) (gName 3)) tNext)
  (tSeq (tIfS (tTest (tOp rEq (tOp (rIxT G.K) (tVar 1) (tC (.int 0))) (tC (.str "burst")))) (tFor (iList G.K (tCB (rListOf G.K) (tCons (tVar 3) tNil))) (gName 4)
  (tAsg (tOp rCat (tVar 3) (tCB (rListOf G.K) (tCons (tCall (sp_l_corner G) [] E0 (tCons (tVar 0) (tCons (tCall (sp_l_other G) [] E0 (tCons (tVar 4) tNil)) tNil))) tNil))) (gName 3))) tNext)
  (tRet (tVar 3)))))))
theorem six_odd {nx : Int → Int} {f : Int} : sixL nx (2 * f) = [2 * f, nx (2 * f), nx (nx (2 * f)), 2 * f + 1, nx (2 * f + 1), nx (nx (2 * f + 1))] := by unfold sixL; rw [ot_even]
theorem pure_l_touched {G : Gx} {vs : List V} {H : Hp} {Q : VK} {E : XK} (h : sp_l_touched G vs H Q E) : Body (t_l_touched G) ["_law_web", "_law_order", "_law_end", "_law_row", "_law_at"] vs H Q := by
  obtain ⟨d, t, S, nx, o, rfl, hd, ht, M, fr, k⟩ := h
  show t_l_touched G _ [some (.ref d), some (.ref t), none, none, none] H
  unfold t_l_touched
  cases o with
  | push f =>
    have ht' : SqT G.K H t [.str "push", .int f] := ht
    have he : 2 * f ∈ S := fr.1
    have ho : 2 * f + 1 ∈ S := by rw [← ot_even]; exact M.ca _ he
    walk_at "go"
    refine ⟨d, S, nx, 2 * f, rfl, hd, he, M.cn _ he, fun t1 ht1 => ?_⟩
    walk_at "go"
    refine r_listT (SqT.of upd_same) fun l1 hl1 => ?_
    walk_at "go"
    refine ⟨d, S, nx, 2 * f + 1, rfl, by walk_at "rd", ho, M.cn _ ho, fun t2 ht2 => ?_⟩
    walk_at "go"
    refine r_listT (SqT.of upd_same) fun l2 hl2 => ?_
    walk_at "go"
    refine ⟨l1, l2, _, _, rfl, rfl, by walk_at "hp", by walk_at "hp", by walk_at "sz", fun q hq => ?_⟩
    replace hq : Free _ q := hq
    walk_at "go"
    refine k q _ (by walk_at "sm") ((show Same H _ by walk_at "sm").free hq) ?_
    show _ = some (HO.lst ((sixL nx (2 * f)).map V.int))
    rw [six_odd]
    exact upd_same
  | pull f =>
    have ht' : SqT G.K H t [.str "pull", .int f] := ht
    have he : 2 * f ∈ S := fr.1
    have ho : 2 * f + 1 ∈ S := by rw [← ot_even]; exact M.ca _ he
    walk_at "go"
    refine ⟨d, S, nx, 2 * f, rfl, hd, he, M.cn _ he, fun t1 ht1 => ?_⟩
    walk_at "go"
    refine r_listT (SqT.of upd_same) fun l1 hl1 => ?_
    walk_at "go"
    refine ⟨d, S, nx, 2 * f + 1, rfl, by walk_at "rd", ho, M.cn _ ho, fun t2 ht2 => ?_⟩
    walk_at "go"
    refine r_listT (SqT.of upd_same) fun l2 hl2 => ?_
    walk_at "go"
    refine ⟨l1, l2, _, _, rfl, rfl, by walk_at "hp", by walk_at "hp", by walk_at "sz", fun q hq => ?_⟩
    replace hq : Free _ q := hq
    walk_at "go"
    refine k q _ (by walk_at "sm") ((show Same H _ by walk_at "sm").free hq) ?_
    show _ = some (HO.lst ((sixL nx (2 * f)).map V.int))
    rw [six_odd]
    exact upd_same
  | part a b c => exact fr.elim
  | blow e f =>
    have ht' : SqT G.K H t [.str "blow", .int e, .int f] := ht
    have he : e ∈ S := fr
    walk_at "go"
    refine ⟨d, S, nx, e, rfl, hd, he, M.cn _ he, fun t1 ht1 => ?_⟩
    walk_at "go"
    refine r_listT (SqT.of upd_same) fun l1 hl1 => ?_
    walk_at "go"
    exact k l1 _ (by walk_at "sm") ((show Same H _ by walk_at "sm").free hl1) upd_same
  | burst f =>
    have ht' : SqT G.K H t [.str "burst", .int f] := ht
    have he : 2 * f ∈ S := fr.1
    have ho : 2 * f + 1 ∈ S := by rw [← ot_even]; exact M.ca _ he
    walk_at "go"
    refine ⟨d, S, nx, 2 * f, rfl, hd, he, M.cn _ he, fun t1 ht1 => ?_⟩
    walk_at "go"
    refine r_listT (SqT.of upd_same) fun l1 hl1 => ?_
    walk_at "go"
    refine ⟨d, S, nx, 2 * f + 1, rfl, by walk_at "rd", ho, M.cn _ ho, fun t2 ht2 => ?_⟩
    walk_at "go"
    refine r_listT (SqT.of upd_same) fun l2 hl2 => ?_
    walk_at "go"
    refine ⟨l1, l2, _, _, rfl, rfl, by walk_at "hp", by walk_at "hp", by walk_at "sz", fun q hq => ?_⟩
    replace hq : Free _ q := hq
    have e6 : ∀ {K : Hp}, upd K q (.lst ([V.int (2 * f), .int (nx (2 * f)), .int (nx (nx (2 * f)))] ++ [.int (2 * f + 1), .int (nx (2 * f + 1)), .int (nx (nx (2 * f + 1)))])) q = some (.lst ((sixL nx (2 * f)).map V.int)) := by
      intro K
      rw [six_odd]
      exact upd_same
    have s1 : Same H (upd (upd (upd (upd (upd H t1 (.tup [.int (2 * f), .int (nx (2 * f)), .int (nx (nx (2 * f)))])) l1 (.lst [.int (2 * f), .int (nx (2 * f)), .int (nx (nx (2 * f)))])) t2 (.tup [.int (2 * f + 1), .int (nx (2 * f + 1)), .int (nx (nx (2 * f + 1)))])) l2 (.lst [.int (2 * f + 1), .int (nx (2 * f + 1)), .int (nx (nx (2 * f + 1)))])) q
        (.lst ([V.int (2 * f), .int (nx (2 * f)), .int (nx (nx (2 * f)))] ++ [.int (2 * f + 1), .int (nx (2 * f + 1)), .int (nx (nx (2 * f + 1)))]))) := by walk_at "sm"
    have fq : Free H q := (show Same H _ by walk_at "sm").free hq
    have e7 := e6 (K := upd (upd (upd (upd H t1 (.tup [.int (2 * f), .int (nx (2 * f)), .int (nx (nx (2 * f)))])) l1 (.lst [.int (2 * f), .int (nx (2 * f)), .int (nx (nx (2 * f)))])) t2 (.tup [.int (2 * f + 1), .int (nx (2 * f + 1)), .int (nx (nx (2 * f + 1)))])) l2 (.lst [.int (2 * f + 1), .int (nx (2 * f + 1)), .int (nx (nx (2 * f + 1)))]))
    walk_at "go"
    generalize upd (upd (upd (upd (upd H t1 (.tup [.int (2 * f), .int (nx (2 * f)), .int (nx (nx (2 * f)))])) l1 (.lst [.int (2 * f), .int (nx (2 * f)), .int (nx (nx (2 * f)))])) t2 (.tup [.int (2 * f + 1), .int (nx (2 * f + 1)), .int (nx (nx (2 * f + 1)))])) l2 (.lst [.int (2 * f + 1), .int (nx (2 * f + 1)), .int (nx (nx (2 * f + 1)))])) q
        (.lst ([V.int (2 * f), .int (nx (2 * f)), .int (nx (nx (2 * f)))] ++ [.int (2 * f + 1), .int (nx (2 * f + 1)), .int (nx (nx (2 * f + 1)))])) = H1 at s1 e7 ⊢
    clear e6 hq hl2 ht2 hl1 ht1
    refine r_listL (SqL.of e7) fun l3 hl3 => ?_
    have s2 := same_new (o := .lst ((sixL nx (2 * f)).map V.int)) s1 hl3
    have e8 := at_new (o := .lst ((sixL nx (2 * f)).map V.int)) e7 hl3
    have e9 : upd H1 l3 (.lst ((sixL nx (2 * f)).map V.int)) l3 = some (.lst ((sixL nx (2 * f)).map V.int)) := upd_same
    generalize upd H1 l3 (.lst ((sixL nx (2 * f)).map V.int)) = H2 at s2 e8 e9 ⊢
    clear s1 e7 hl3
    have C6 := clo_six M he
    refine r_forI (SqL.of e9) (fun pre post σ H' => ∃ (q' : Addr) (o4 : Option V), σ = [some (.ref d), some (.ref t), some (.int (2 * f)), some (.ref q'), o4] ∧ Same H H' ∧ Free H q' ∧ H' l3 = some (.lst ((sixL nx (2 * f)).map V.int)) ∧ H' q' = some (.lst ((sixL nx (2 * f) ++ pre.flatMap fun z => corL nx (ot z)).map V.int)))
      ⟨q, _, rfl, s2, fq, e9, by rw [List.flatMap_nil, List.append_nil]; exact e8⟩ (fun pre post σ H' _ ⟨_, _, _, _, _, e, _⟩ => SqL.of e) ?_ ?_
    · rintro pre x post σ H3 hes ⟨q', o4, rfl, s3, fq3, f3, f4⟩
      have hx : x ∈ sixL nx (2 * f) := by rw [hes]; exact List.mem_append.mpr (.inr List.mem_cons_self)
      have oxS := M.ca _ (C6.sub x hx)
      have hd3 := same_rd s3 hd
      have lp : pre.length ≤ 6 := by
        have : (sixL nx (2 * f)).length = 6 := rfl
        rw [hes, List.length_append, List.length_cons] at this
        omega
      have lf : (pre.flatMap fun z => corL nx (ot z)).length = 3 * pre.length := by
        clear hes f4 lp
        induction pre with
        | nil => rfl
        | cons y r ih => rw [List.flatMap_cons, List.length_append, ih, List.length_cons]; show 3 + _ = _; omega
      walk_at "go"
      refine ⟨d, S, nx, ot x, rfl, hd3, oxS, M.cn _ oxS, fun t5 ht5 => ?_⟩
      walk_at "go"
      refine r_listT (SqT.of upd_same) fun l5 hl5 => ?_
      walk_at "go"
      refine ⟨q', l5, _, _, rfl, rfl, at_new (at_new f4 ht5) hl5, upd_same, by rw [List.length_map, List.length_append, lf]; exact size1000l (by show 6 + _ + 3 ≤ _; omega), fun q6 hq6 => ?_⟩
      replace hq6 : Free _ q6 := hq6
      walk_at "go"
      have s6 : Same H (upd (upd (upd H3 t5 (.tup [.int (ot x), .int (nx (ot x)), .int (nx (nx (ot x)))])) l5 (.lst [.int (ot x), .int (nx (ot x)), .int (nx (nx (ot x)))])) q6 (.lst ((sixL nx (2 * f) ++ pre.flatMap fun z => corL nx (ot z)).map V.int ++ [.int (ot x), .int (nx (ot x)), .int (nx (nx (ot x)))]))) := by walk_at "sm"
      refine ⟨q6, _, rfl, s6, (show Same H _ by walk_at "sm").free hq6, at_new (at_new (at_new f3 ht5) hl5) hq6, ?_⟩
      rw [List.flatMap_append, ← List.append_assoc, List.map_append (l₂ := List.flatMap _ [x])]
      exact upd_same
    · rintro σ H3 ⟨q', o4, rfl, s3, fq3, f3, f4⟩
      walk_at "go"
      exact k q' _ s3 fq3 f4
/-- a try whose body is many statements -/
theorem ps_tryM {X : Cx} {G : Gx} {L : List (Str × TS)} {body : List Stmt} {h₀ : ExceptHandler} {hds : List ExceptHandler} {pos : Pos} {tb : WX → TS} (hs : X.stack = X.env :: X.outer) (hf : X.env.frame = some X.env.locals) (tk : Takes X fun _ _ _ _ => False) (hK : X.K = G.K)
    (hb : ∀ (W : WX) (pn : List (Addr × Obj)) (xe : Value → Shared → Prop), Takes (X.tr pn xe) W → PassesOwn (model X.prog X.w) X.A X.env xe → PSs (X.tr pn xe) body (tb W))
    (hh : HdsOk X (h₀ :: hds) (L.map fun p => (Value.ref (G.ad p.1), fun _ _ _ => p.2))) : PS X (.Try body (h₀ :: hds) [] [] pos) (tTryM G L tb) := by
  have := ps_try_many (pos := pos) hs hf tk hb hh
  rw [hK] at this
  exact this
/-! ### both -/
def sp_l_both (G : Gx) : Sp := fun vs H Q _ => ∃ (d t u : Addr) (S : List Int) (nx : Int → Int) (o1 o2 : Ord), vs = [.ref d, .ref t, .ref u] ∧ Rd H d (dW S nx) ∧ SqT G.K H t o1.vals ∧ SqT G.K H u o2.vals ∧ Web S nx ∧ Fre S nx o1 ∧ o1.ok S ∧ S.length ≤ 80000 ∧
  ∀ (S1 : List Int), S1.Nodup → (∀ z, z ∈ S1 ↔ z ∈ moveS S nx o1) → Web S1 (moveN nx o1) → o2.ok S1 ∧
    (wordF S1 (moveN nx o1) o2 = "" → ∀ p S12 H', Same H H' → Free H p → S12.Nodup → (∀ z, z ∈ S12 ↔ z ∈ moveS S1 (moveN nx o1) o2) → H' p = some (dW S12 (moveN (moveN nx o1) o2)) → Q (.ref p) H') ∧
    (wordF S1 (moveN nx o1) o2 ≠ "" → ∀ H', Same H H' → Q .non H')
theorem len_l_both {G : Gx} : ∀ vs H Q E, sp_l_both G vs H Q E → vs.length = 3 := by rintro vs H Q E ⟨d, t, u, S, nx, o1, o2, rfl, _⟩; rfl
/-! _law_both: slots _law_web, _law_one, _law_two, _law_word, _law_made -/
def t_l_both (G : Gx) : TS :=
  (tSeq (tAsg (tCall (sp_l_move G) [] E0 (tCons (tCB rDictRd (tCons (tVar 0) tNil)) (tCons (tVar 1) tNil))) (gTup G.K 2 (gCons (gName 3) (gCons (gName 4) gNil))))
  (tSeq (tIfS (tOr (tTest (tOp rNe (tVar 3) (tC (.str "")))) (tNot (tB (tCB (rIsi G.K) (tCons (tVar 4) (tCons (tC (.ty "dict")) tNil)))))) (tRet (tC .non)) tNext)
  (tSeq (tAsg (tCall (sp_l_move G) [] E0 (tCons (tVar 4) (tCons (tVar 2) tNil))) (gTup G.K 2 (gCons (gName 3) (gCons (gName 4) gNil))))
  (tSeq (tIfS (tTest (tOp rNe (tVar 3) (tC (.str "")))) (tRet (tC .non)) tNext)
  (tRet (tVar 4))))))
theorem pure_l_both {G : Gx} {vs : List V} {H : Hp} {Q : VK} {E : XK} (h : sp_l_both G vs H Q E) : Body (t_l_both G) ["_law_web", "_law_one", "_law_two", "_law_word", "_law_made"] vs H Q := by
  obtain ⟨d, t, u, S, nx, o1, o2, rfl, hd, ht, hu, W, fr, ok, hl, k⟩ := h
  show t_l_both G _ [some (.ref d), some (.ref t), some (.ref u), none, none] H
  unfold t_l_both
  walk_at "go"
  intro q hq
  have s1 := same_new (o := dW S nx) (Same.refl H) hq
  have e1 : upd H q (dW S nx) q = some (dW S nx) := upd_same
  generalize upd H q (dW S nx) = H1 at s1 e1 ⊢
  have ht1 := same_tup s1 ht
  walk_at "go"
  refine ⟨q, t, S, nx, o1, rfl, rd_in e1, ht1, W, ok, by omega, fun r v H2 s2 e3 md => ?_⟩
  rw [fre_word fr] at e3
  obtain ⟨p1, S1, rfl, fp1, nd1, m1, e4⟩ := md.1 (fre_word fr)
  refine g_tup (SqT.of e3) rfl ?_
  have s02 := s1.trans s2
  have hu2 := same_tup s02 hu
  have W1 := (fre_web W fr ok).same nd1 m1 fun _ _ => rfl
  obtain ⟨ok2, k1, k2⟩ := k S1 nd1 m1 W1
  have l1 : S1.length ≤ 80006 := by
    have a1 := sub_len nd1 fun z hz => (m1 z).mp hz
    have a2 := move_len (S := S) (nx := nx) (o := o1)
    omega
  have e4r := rd_in e4
  walk_at "go"
  refine ⟨p1, u, S1, moveN nx o1, o2, rfl, e4r, hu2, W1, ok2, by omega, fun r2 v2 H3 s3 e5 md2 => ?_⟩
  refine g_tup (SqT.of e5) rfl ?_
  have s03 := s02.trans s3
  walk_at "go"
  refine iteN (fun hw => ?_) (fun hw => ?_)
  · have hw' : wordF S1 (moveN nx o1) o2 ≠ "" := fun z => hw (by rw [z])
    walk_at "go"
    exact k2 hw' _ s03
  · have hw' : wordF S1 (moveN nx o1) o2 = "" := V.str.inj hw
    obtain ⟨p2, S12, rfl, fp2, nd2, m2, e6⟩ := md2.1 hw'
    walk_at "go"
    exact k1 hw' p2 S12 _ s03 (s02.free fp2) nd2 m2 e6
/-! K22 -/
theorem r_anyB {K : PySem.W.Frag} {H : Hp} {Q : VK} {a : Addr} {bs : List Bool} (hs : SqL K H a (bs.map V.bl)) (h : Q (.bl (bs.any id)) H) : rAny K [.ref a] H Q := ⟨a, bs, rfl, hs, h⟩
theorem refO_at {H : Hp} : ∀ {as : List Addr} {os : List Ord} {j : Nat} {a : Addr}, RefO H as (os.map ordO) → as[j]? = some a → ∃ o, os[j]? = some o ∧ H a = some (ordO o)
  | _, [], j, a, .nil, e => by cases e
  | _, o :: os, 0, a, .cons h r, e => by cases e; exact ⟨o, rfl, h⟩
  | _, o :: os, j + 1, a, .cons h r, e => refO_at (os := os) r e
def IsBlow : Ord → Bool
  | .blow _ _ => true
  | _ => false
theorem ord_w0 {o : Ord} (h : ∀ a b c, o ≠ .part a b c) : ∃ w : Str, atI o.vals 0 = some (.str w) ∧ (w = "blow" ↔ IsBlow o = true) ∧ (w = "burst" ↔ IsBurst o) := by
  cases o with
  | push g => exact ⟨"push", atI_nat (j := 0) rfl, ⟨fun z => absurd z (by decide), fun z => by cases z⟩, ⟨fun z => absurd z (by decide), fun z => z.elim⟩⟩
  | pull g => exact ⟨"pull", atI_nat (j := 0) rfl, ⟨fun z => absurd z (by decide), fun z => by cases z⟩, ⟨fun z => absurd z (by decide), fun z => z.elim⟩⟩
  | burst g => exact ⟨"burst", atI_nat (j := 0) rfl, ⟨fun z => absurd z (by decide), fun z => by cases z⟩, ⟨fun _ => trivial, fun _ => rfl⟩⟩
  | part u v w => exact absurd rfl (h u v w)
  | blow u w => exact ⟨"blow", atI_nat (j := 0) rfl, ⟨fun _ => rfl, fun _ => rfl⟩, ⟨fun z => absurd z (by decide), fun z => z.elim⟩⟩
theorem fre_np {S : List Int} {nx : Int → Int} {o : Ord} (fr : Fre S nx o) : ∀ a b c, o ≠ .part a b c := fun a b c z => by rw [z] at fr; exact fr
/-- what is drawn beside the first deed -/
structure Oth (S : List Int) (nx : Int → Int) (f : Int) (o1 o2 : Ord) : Prop where
  fr : Fre S nx o2
  f3 : OrdF (f + 3) o2
  nb : ¬ (IsBlow o1 = true ∧ IsBlow o2 = true)
  dis : ∀ z ∈ touL nx o2, z ∉ touL nx o1
theorem oth_nn {S : List Int} {nx : Int → Int} {f : Int} {o1 o2 : Ord} (O : Oth S nx f o1 o2) : ∀ z, New o1 z → ¬ New o2 z := fun z h1 h2 => O.nb (by
  cases o1 <;> cases o2 <;> first | exact ⟨rfl, rfl⟩ | exact absurd h1 (fun z => z) | exact absurd h2 (fun z => z))
/-- the next deed's new films stand above all -/
theorem oth_ok {S S1 : List Int} {nx : Int → Int} {f : Int} {o1 o2 : Ord} (lt : ∀ x ∈ S, x < 2 * f) (fr1 : Fre S nx o1) (f1 : OrdF f o1) (O : Oth S nx f o1 o2) (hS1 : ∀ z, z ∈ S1 ↔ z ∈ moveS S nx o1) (M : Map S ot nx) : o2.ok S1 := by
  have ok1 := ordF_ok fr1 f1 lt
  cases o2 with
  | blow e g =>
    have eg := O.f3 e g rfl
    intro x hx
    have L := self_loc M fr1 ok1
    by_cases c : x ∈ touL nx o1 ∨ New o1 x
    · rcases c with c | c
      · have := lt x ((fre_clo M fr1).sub x c)
        omega
      · exact absurd c (fun z => oth_nn O x z (by
          cases o1 with
          | blow a b => exact absurd ⟨rfl, rfl⟩ O.nb
          | push a => exact absurd z (fun q => q)
          | pull a => exact absurd z (fun q => q)
          | burst a => exact absurd z (fun q => q)
          | part a b c => exact absurd z (fun q => q)))
    · have := lt x ((L.mO x (fun z => c (.inl z)) (fun z => c (.inr z))).mp ((hS1 x).mp hx))
      omega
  | push g => trivial
  | pull g => trivial
  | burst g => trivial
  | part a b c => exact O.fr.elim
theorem oth_ok1 {S S2 : List Int} {nx : Int → Int} {f : Int} {o1 o2 : Ord} (lt : ∀ x ∈ S, x < 2 * f) (fr1 : Fre S nx o1) (f1 : OrdF f o1) (O : Oth S nx f o1 o2) (hS2 : ∀ z, z ∈ S2 ↔ z ∈ moveS S nx o2) (M : Map S ot nx) : o1.ok S2 := by
  have ok2 : o2.ok S := ordF_ok O.fr O.f3 fun x hx => by have := lt x hx; omega
  cases o1 with
  | blow e g =>
    have eg := f1 e g rfl
    intro x hx
    have L := self_loc M O.fr ok2
    by_cases c : x ∈ touL nx o2 ∨ New o2 x
    · rcases c with c | c
      · have := lt x ((fre_clo M O.fr).sub x c)
        omega
      · exact absurd c (fun z => by
          cases o2 with
          | blow a b => exact O.nb ⟨rfl, rfl⟩
          | push a => exact z
          | pull a => exact z
          | burst a => exact z
          | part a b c => exact z)
    · have := lt x ((L.mO x (fun z => c (.inl z)) (fun z => c (.inr z))).mp ((hS2 x).mp hx))
      omega
  | push g => trivial
  | pull g => trivial
  | burst g => trivial
  | part a b c => exact fr1.elim
theorem at_modR {l : List Addr} (hne : l ≠ []) (w : Int) : ∃ (j : Nat) (y : Addr), l[j]? = some y ∧ atI (l.map V.ref) (w % ((l.map V.ref).length : Int)) = some (.ref y) := by
  have h0 : 0 < l.length := List.length_pos_iff.mpr hne
  rw [List.length_map]
  have h1 := Int.emod_nonneg w (show (l.length : Int) ≠ 0 by omega)
  have h2 := Int.emod_lt_of_pos w (show 0 < (l.length : Int) by omega)
  obtain ⟨j, hj⟩ := Int.eq_ofNat_of_zero_le h1
  rw [hj] at h2 ⊢
  have hjl : j < l.length := by omega
  refine ⟨j, l[j], List.getElem?_eq_getElem hjl, atI_nat ?_⟩
  rw [List.getElem?_map, List.getElem?_eq_getElem hjl]
  rfl
theorem moveS_cg {S S' : List Int} {nx : Int → Int} {o : Ord} (h : ∀ z, z ∈ S' ↔ z ∈ S) : ∀ z, z ∈ moveS S' nx o ↔ z ∈ moveS S nx o := fun z => by
  cases o with
  | push f => exact h z
  | pull f => exact h z
  | part a b f => show z ∈ blowS S' _ ↔ z ∈ blowS S _; rw [mem_blowS, mem_blowS, h]
  | blow e f => show z ∈ blowS S' _ ↔ z ∈ blowS S _; rw [mem_blowS, mem_blowS, h]
  | burst f =>
    show z ∈ wS S' nx (2 * f) ↔ z ∈ wS S nx (2 * f)
    unfold wS
    split
    · unfold burstLS
      refine mem_m1S fun z => ?_
      unfold loopS
      rw [List.mem_filter, List.mem_filter, h]
    · unfold burstS
      exact mem_m1S fun z => mem_m1S h
/-! law: slots _law_script, _law_big, _law_pick, _law_spot, _law_deep, _law_web, _law_first, _law_cell_here, _law_deeds, _law_one, _law_near, _law_others, _law_two, _law_here, _law_there, _law_due, _law_at -/
def t_p_law (G : Gx) : TS :=
  (tSeq (tAsg (tCall (sp_l_digits G) [] E0 (tCons (tCall (sp_l_cell G) [] E0 (tCons (tVar 0) (tCons (tC (.int 0)) tNil))) (tCons (tLst (tCons (tC (.int 5)) (tCons (tC (.int 4001)) (tCons (tC (.int 4003)) (tCons (tC (.int 3)) tNil))))) tNil))) (gUnl G.K 4 (gCons (gName 1) (gCons (gName 2) (gCons (gName 3) (gCons (gName 4) gNil))))))
  (tSeq (tAsg (tCall (sp_l_comb G) [] E0 (tCons (tC (.int 3)) (tCons (tC (.int 4)) tNil))) (gName 5))
  (tSeq (tAsg (tC (.int 36)) (gName 6))
  (tCut (tIfS (tTest (tOp rEq (tVar 1) (tC (.int 0)))) (tPar 5 6 (tCons (tCall (sp_l_comb G) [] E0 (tCons (tC (.int 6)) (tCons (tC (.int 6)) tNil))) (tCons (tC (.int 108)) tNil))) tNext)
  (tSeq (tFor (iList G.K (tSl (rSlL G.K) (tVar 0) (tPart (tC (.int 1))) (tPart (tC (.int 17))))) (gName 7)
  (tAsg (tCall (sp_l_step G) [] E0 (tCons (tVar 5) (tCons (tVar 6) (tCons (tVar 7) tNil)))) (gTup G.K 2 (gCons (gName 5) (gCons (gName 6) gNil)))))
  (tSeq (tAsg (tCall (sp_l_free_deeds G) [] E0 (tCons (tVar 5) (tCons (tVar 6) tNil))) (gName 8))
  (tSeq (tIfS (tTest (tOp rEq (tCB (rLenSeq G.K) (tCons (tVar 8) tNil)) (tC (.int 0)))) (tRet (tC (.bl true))) tNext)
  (tSeq (tAsg (tOp (rIxL G.K) (tVar 8) (tOp rModI (tVar 2) (tCB (rLenSeq G.K) (tCons (tVar 8) tNil)))) (gName 9))
  (tSeq (tAsg (tCall (sp_l_touched G) [] E0 (tCons (tVar 5) (tCons (tVar 9) tNil))) (gName 10))
  (tSeq (tAsg (tLst tNil) (gName 11))
  (tSeq (tFor (iList G.K (tCall (sp_l_free_deeds G) [] E0 (tCons (tVar 5) (tCons (tOp rAddI (tVar 6) (tC (.int 3))) tNil)))) (gName 12)
  (tIfS (tOr (tTest (tOp rNe (tOp (rIxT G.K) (tVar 12) (tC (.int 0))) (tC (.str "blow")))) (tTest (tOp rNe (tOp (rIxT G.K) (tVar 9) (tC (.int 0))) (tC (.str "blow"))))) (tIfS (tNot (tB (tCB (rAny G.K) (tCons (tLc (iList G.K (tCall (sp_l_touched G) [] E0 (tCons (tVar 5) (tCons (tVar 12) tNil)))) (gName 16) tYes (tOp (rIn G.K false) (tVar 16) (tVar 10)) [16]) tNil)))) (tDrop (tBM G.K "list" rAppend (tVar 11) (tCons (tVar 12) tNil))) tNext) tNext))
  (tSeq (tIfS (tTest (tOp rEq (tCB (rLenSeq G.K) (tCons (tVar 11) tNil)) (tC (.int 0)))) (tRet (tC (.bl true))) tNext)
  (tSeq (tAsg (tOp (rIxL G.K) (tVar 11) (tOp rModI (tVar 3) (tCB (rLenSeq G.K) (tCons (tVar 11) tNil)))) (gName 12))
  (tSeq (tPar 13 14 (tCons (tCall (sp_l_both G) [] E0 (tCons (tVar 5) (tCons (tVar 9) (tCons (tVar 12) tNil)))) (tCons (tCall (sp_l_both G) [] E0 (tCons (tVar 5) (tCons (tVar 12) (tCons (tVar 9) tNil)))) tNil)))
  (tSeq (tIfS (tOr (tTest (tOp rIsN (tVar 13) (tC .non))) (tTest (tOp rIsN (tVar 14) (tC .non)))) (tRet (tAndV (tOp rIsN (tVar 13) (tC .non)) (tAndV (tOp rIsN (tVar 14) (tC .non)) (tAndV (tOp rEq (tOp (rIxT G.K) (tVar 9) (tC (.int 0))) (tC (.str "burst"))) (tOp rEq (tOp (rIxT G.K) (tVar 12) (tC (.int 0))) (tC (.str "burst"))))))) tNext)
  (tSeq (tAsg (tCall (sp_l_moved G) [] E0 (tCons (tCall (sp_l_moved G) [] E0 (tCons (tVar 5) (tCons (tVar 9) tNil))) (tCons (tVar 12) tNil))) (gName 15))
  (tRet (tAndV (tCall (sp_l_is_web G) [] E0 (tCons (tVar 13) (tCons (tVar 15) tNil))) (tCall (sp_l_is_web G) [] E0 (tCons (tVar 14) (tCons (tVar 15) tNil)))))))))))))))))))))
theorem pure_p_law {G : Gx} {vs : List V} {H : Hp} {Q : VK} {E : XK} (h : spLaw G vs H Q E) : Body (t_p_law G) ["_law_script", "_law_big", "_law_pick", "_law_spot", "_law_deep", "_law_web", "_law_first", "_law_cell_here", "_law_deeds", "_law_one", "_law_near", "_law_others", "_law_two", "_law_here", "_law_there", "_law_due", "_law_at"] vs H Q := by
  obtain ⟨a, ns, rfl, hS, hl, k⟩ := h
  show t_p_law G _ [some (.ref a), none, none, none, none, none, none, none, none, none, none, none, none, none, none, none, none] H
  unfold t_p_law
  walk_at "go"
  refine ⟨by walk_at "sz", fun p hp => ?_⟩
  walk_at "go"
  refine c_digits4 (by walk_at "sq") (by decide) (by decide) (by decide) (by decide) (fun d0 d1 d2 d3 q H1 ed a0 b0 a1 b1 a2 b2 a3 b3 s1 hq e1 => ?_)
  refine g_unl (SqL.of e1) rfl ?_
  have s2 : Same H H1 := same_tr s1 (same_new (Same.refl H) hp)
  clear e1 hq ed s1 hp
  walk_at "go"
  refine ⟨3, 4, rfl, by decide, by decide, by decide, by decide, by decide, fun p H3 s3 f3 e3 => ?_⟩
  have C1 := comb_rc (r := 3) (c := 4) (by decide) (by decide)
  have len1 := C1.len
  walk_at "go"
  refine r_cut (fun σ H' => ∃ (p : Addr) (f : Int) (S : List Int) (nx : Int → Int), σ = [some (.ref a), some (.int d0), some (.int d1), some (.int d2), some (.int d3), some (.ref p), some (.int f), none, none, none, none, none, none, none, none, none, none] ∧ Same H H' ∧ H' p = some (dW S nx) ∧ Drawn S nx f) ?_ ?_
  · walk_at "go"
    refine iteI (fun h => ?_) (fun h => ?_)
    · walk_at "go"
      refine ⟨6, 6, rfl, by decide, by decide, by decide, by decide, by decide, fun p2 H4 s4 f4 e4 => ?_⟩
      have C2 := comb_rc (r := 6) (c := 6) (by decide) (by decide)
      have len2 := C2.len
      walk_at "go"
      exact ⟨p2, 108, _, _, rfl, (s2.trans s3).trans s4, e4, ⟨C2.web, fun x hx => by have := (C2.mem x).mp hx; omega, by omega, by decide⟩⟩
    · walk_at "go"
      exact ⟨p, 36, _, _, rfl, s2.trans s3, e3, ⟨C1.web, fun x hx => by have := (C1.mem x).mp hx; omega, by omega, by decide⟩⟩
  clear e3 f3 s3 s2 C1 len1
  rintro σ H4 ⟨p, f, S, nx, rfl, s4, e4, D⟩
  have hS4 := s4.seq hS
  walk_at "go"
  intro lp hlp
  generalize hcs : cutI ns (some 1) (some 17) = cs
  refine r_forI (SqL.of upd_same) (fun pre post σ H' => ∃ (p : Addr) (f : Int) (S : List Int) (nx : Int → Int) (o7 : Option V), σ = [some (.ref a), some (.int d0), some (.int d1), some (.int d2), some (.int d3), some (.ref p), some (.int f), o7, none, none, none, none, none, none, none, none, none] ∧ Same H H' ∧ H' lp = some (.lst (cs.map V.int)) ∧ H' p = some (dW S nx) ∧ Drawn S nx f)
    ⟨p, f, S, nx, none, rfl, same_new s4 hlp, upd_same, at_new e4 hlp, D⟩ (fun _ _ _ _ _ ⟨_, _, _, _, _, _, _, e, _⟩ => SqL.of e) ?_ ?_
  · rintro pre cl post σ H5 ecl ⟨p, f, S, nx, o7, rfl, s5, e5, e6, D⟩
    walk_at "go"
    refine ⟨p, S, nx, f, cl, rfl, e6, D, fun t p' S' nx' f' H6 s6 et ep D' le => ?_⟩
    refine g_tup (SqT.of et) rfl ?_
    walk_at "go"
    exact ⟨p', f', S', nx', _, rfl, s5.trans s6, s6 _ _ e5, ep, D'⟩
  clear D e4 hS4 s4 hlp
  rintro σ H5 ⟨p, f, S, nx, o7, rfl, s5, _, e6, D⟩
  have W := D.web
  have M := W.map
  have sl := D.len
  have f0 := D.f0
  have lt := D.lt
  walk_at "go"
  refine ⟨p, S, nx, f, rfl, rd_in e6, W, by omega, fun os as ds H6 s6 f6 e7 rf ok l7 => ?_⟩
  have la := rf.len
  rw [List.length_map] at la
  have e8 := s6 _ _ e6
  walk_at "go"
  refine iteI (fun h => ?_) (fun h => ?_)
  · walk_at "go"
    exact k _
  have nas : as ≠ [] := fun z => h (by rw [z]; rfl)
  obtain ⟨j1, t1, at1, ix1⟩ := at_modR nas d1
  obtain ⟨o1, ho1, et1⟩ := refO_at rf at1
  obtain ⟨fr1, fd1⟩ := ok o1 (List.mem_of_getElem? ho1)
  have ok1 := ordF_ok fr1 fd1 lt
  walk_at "go"
  refine r_ixL (SqL.of e7) ix1 ?_
  walk_at "go"
  refine ⟨p, t1, S, nx, o1, rfl, rd_in e8, SqT.of et1, M, fr1, fun nr H7 s7 f7 e9 => ?_⟩
  replace e8 := s7 _ _ e8
  replace et1 := s7 _ _ et1
  walk_at "go"
  refine ⟨by walk_at "sz", fun lo hlo => ?_⟩
  have nnr : nr ≠ lo := ne_fresh e9 hlo
  have s8 := same_new (o := .lst []) (Same.refl H7) hlo
  have elo : upd H7 lo (.lst []) lo = some (.lst (([] : List Addr).map V.ref)) := upd_same
  replace e8 := at_new (o := .lst []) e8 hlo
  replace et1 := at_new (o := .lst []) et1 hlo
  replace e9 := at_new (o := .lst []) e9 hlo
  generalize upd H7 lo (.lst []) = H8 at s8 elo e8 et1 e9 ⊢
  have flo := hlo
  walk_at "go"
  refine ⟨p, S, nx, f + 3, rfl, rd_in e8, W, by omega, fun os2 as2 ds2 H9 s9 f9 e10 rf2 ok2 l10 => ?_⟩
  have la2 := rf2.len
  rw [List.length_map] at la2
  have p8 := s9 _ _ e8
  have q1 := s9 _ _ et1
  have q9 := s9 _ _ e9
  have qlo := s9 _ _ elo
  have nlo : ds2 ≠ lo := fun z => by rw [z] at f9; exact ne_of_none elo f9 rfl
  clear e8 et1 e9 elo
  obtain ⟨w1, hw1, bl1, bu1⟩ := ord_w0 (fre_np fr1)
  refine r_forV (SqL.of e10) (fun pre post σ H' => ∃ (o12 o16 : Option V) (as3 : List Addr) (os3 : List Ord), σ = [some (.ref a), some (.int d0), some (.int d1), some (.int d2), some (.int d3), some (.ref p), some (.int f), o7, some (.ref ds), some (.ref t1), some (.ref nr), some (.ref lo), o12, none, none, none, o16] ∧ Same H7 H' ∧ (∀ b u, b ≠ lo → H9 b = some u → H' b = some u) ∧ H' lo = some (.lst (as3.map V.ref)) ∧ RefO H' as3 (os3.map ordO) ∧ (∀ b ∈ as3, b ≠ lo) ∧ (∀ o ∈ os3, Oth S nx f o1 o) ∧ as3.length ≤ pre.length)
    ⟨none, none, [], [], rfl, s8.trans s9, fun b u _ e => e, qlo, .nil, fun b hb => absurd hb List.not_mem_nil, fun o ho => absurd ho List.not_mem_nil, Nat.le_refl _⟩ (fun pre post σ H' _ ⟨_, _, _, _, _, _, kp, _⟩ => SqL.of (kp _ _ nlo e10)) ?_ ?_
  · rintro pre v post σ H10 ev ⟨o12, o16, as3, os3, rfl, s10, kp, g1, r3, n3, oth, l3⟩
    have gv : (as2.map V.ref)[pre.length]? = some v := by rw [ev, List.getElem?_append_right (Nat.le_refl _), Nat.sub_self]; rfl
    obtain ⟨t2, hc, rfl⟩ := map_get gv
    obtain ⟨o2, ho2, et2⟩ := refO_at rf2 hc
    obtain ⟨fr2, fd2⟩ := ok2 o2 (List.mem_of_getElem? ho2)
    obtain ⟨w2, hw2, bl2, bu2⟩ := ord_w0 (fre_np fr2)
    have lpre : pre.length < as2.length := (List.getElem?_eq_some_iff.mp hc).1
    have nt2 : t2 ≠ lo := fun z => by rw [z, qlo] at et2; cases et2
    have np8 : p ≠ lo := fun z => by rw [z, qlo] at p8; cases p8
    have nt1 : t1 ≠ lo := fun z => by rw [z, qlo] at q1; cases q1
    have x2 := kp _ _ nt2 et2
    have x8 := kp _ _ np8 p8
    have x1 := kp _ _ nt1 q1
    have x9 := kp _ _ nnr q9
    have skip : ∀ (z12 z16 : Option V) H', Same H10 H' → ∃ (o12 o16 : Option V) (as3 : List Addr) (os3 : List Ord), [some (V.ref a), some (.int d0), some (.int d1), some (.int d2), some (.int d3), some (.ref p), some (.int f), o7, some (.ref ds), some (.ref t1), some (.ref nr), some (.ref lo), z12, none, none, none, z16] = [some (.ref a), some (.int d0), some (.int d1), some (.int d2), some (.int d3), some (.ref p), some (.int f), o7, some (.ref ds), some (.ref t1), some (.ref nr), some (.ref lo), o12, none, none, none, o16] ∧ Same H7 H' ∧ (∀ b u, b ≠ lo → H9 b = some u → H' b = some u) ∧ H' lo = some (.lst (as3.map V.ref)) ∧ RefO H' as3 (os3.map ordO) ∧ (∀ b ∈ as3, b ≠ lo) ∧ (∀ o ∈ os3, Oth S nx f o1 o) ∧ as3.length ≤ (pre ++ [V.ref t2]).length := fun z12 z16 H' s =>
      ⟨_, _, as3, os3, rfl, s10.trans s, fun b u hb e => s _ _ (kp b u hb e), s _ _ g1, r3.same s, n3, oth, by rw [List.length_append]; omega⟩
    have go : ∀ (nb : ¬ (IsBlow o1 = true ∧ IsBlow o2 = true)) (N : St → Hp → Prop) (rt : VK) (bk ct : St → Hp → Prop), (∀ σ' H'', (∃ (o12 o16 : Option V) (as3 : List Addr) (os3 : List Ord), σ' = [some (.ref a), some (.int d0), some (.int d1), some (.int d2), some (.int d3), some (.ref p), some (.int f), o7, some (.ref ds), some (.ref t1), some (.ref nr), some (.ref lo), o12, none, none, none, o16] ∧ Same H7 H'' ∧ (∀ b u, b ≠ lo → H9 b = some u → H'' b = some u) ∧ H'' lo = some (.lst (as3.map V.ref)) ∧ RefO H'' as3 (os3.map ordO) ∧ (∀ b ∈ as3, b ≠ lo) ∧ (∀ o ∈ os3, Oth S nx f o1 o) ∧ as3.length ≤ (pre ++ [V.ref t2]).length) → N σ' H'') →
      tIfS (tNot (tB (tCB (rAny G.K) (tCons (tLc (iList G.K (tCall (sp_l_touched G) [] E0 (tCons (tVar 5) (tCons (tVar 12) tNil)))) (gName 16) tYes (tOp (rIn G.K false) (tVar 16) (tVar 10)) [16]) tNil)))) (tDrop (tBM G.K "list" rAppend (tVar 11) (tCons (tVar 12) tNil))) tNext ⟨N, rt, bk, ct⟩ [some (.ref a), some (.int d0), some (.int d1), some (.int d2), some (.int d3), some (.ref p), some (.int f), o7, some (.ref ds), some (.ref t1), some (.ref nr), some (.ref lo), some (.ref t2), none, none, none, o16] H10 := fun nb N rt bk ct kN => by
      walk_at "go"
      refine r_lcO ?_
      walk_at "go"
      refine ⟨p, t2, S, nx, o2, rfl, rd_in x8, SqT.of x2, M, fr2, fun tl H11 s11 f11 e11 => ?_⟩
      have y9 := s11 _ _ x9
      refine r_lcG (ys := (touL nx o2).map fun z => V.bl (decide (z ∈ touL nx o1))) (SqL.of e11) (by rw [List.length_map, List.length_map]) (by rw [List.length_map]; exact size1000l (Nat.lt_of_le_of_lt tou_len (by decide))) (fun _ q => q) (fun j x y hx hy D u hD Q q => ?_) (fun D hD => ?_)
      · obtain ⟨z, hz, rfl⟩ := map_get hx
        obtain ⟨z', hz', rfl⟩ := map_get hy
        rw [hz] at hz'
        cases hz'
        have z9 := at_new (o := u) y9 hD
        walk_at "go"
        refine r_inL (SqL.of z9) rfl (all_flat _) ?_
        rw [if_neg Bool.false_ne_true]
        have e : inV (V.int z) ((touL nx o1).map V.int) = decide (z ∈ touL nx o1) := by
          by_cases c : z ∈ touL nx o1
          · rw [(inV_mem _ _).mpr c, decide_eq_true c]
          · rw [decide_eq_false c]
            exact Bool.eq_false_iff.mpr fun q => c ((inV_mem _ _).mp q)
        rw [e]
        exact q
      · have s12 := same_new (o := .lst ((touL nx o2).map fun z => V.bl (decide (z ∈ touL nx o1)))) s11 hD
        have e12 : upd H11 D (.lst ((touL nx o2).map fun z => V.bl (decide (z ∈ touL nx o1)))) D = some (.lst (((touL nx o2).map fun z => decide (z ∈ touL nx o1)).map V.bl)) := by rw [List.map_map]; exact upd_same
        generalize upd H11 D (.lst ((touL nx o2).map fun z => V.bl (decide (z ∈ touL nx o1)))) = H12 at s12 e12 ⊢
        walk_at "go"
        refine r_anyB (SqL.of e12) ?_
        walk_at "go"
        refine iteNB (fun hb => ?_) (fun hb => ?_)
        · have dis : ∀ z ∈ touL nx o2, z ∉ touL nx o1 := fun z hz c => by
            have := List.any_eq_false.mp hb (decide (z ∈ touL nx o1)) (List.mem_map.mpr ⟨z, hz, rfl⟩)
            exact this (decide_eq_true c)
          have h1 := s12 _ _ g1
          have r12 := r3.same s12
          walk_at "go"
          refine kN _ _ ⟨_, _, as3 ++ [t2], os3 ++ [o2], rfl, same_mut (s10.trans s12) flo, fun b u hb e => at_ne (s12 _ _ (kp b u hb e)) hb, by rw [List.map_append]; exact upd_same, ?_, fun b hb => ?_, fun o ho => ?_, by rw [List.length_append, List.length_append]; exact Nat.add_le_add_right l3 1⟩
          · rw [List.map_append]
            exact (r12.upd n3).snoc (at_ne (s12 _ _ x2) nt2)
          · rcases List.mem_append.mp hb with z | z
            · exact n3 b z
            · rw [List.mem_singleton.mp z]; exact nt2
          · rcases List.mem_append.mp ho with z | z
            · exact oth o z
            · rw [List.mem_singleton.mp z]; exact ⟨fr2, fd2, nb, dis⟩
        · walk_at "go"
          exact kN _ _ (skip _ _ _ s12)
    walk_at "go"
    refine r_ixT (SqT.of x2) hw2 ?_
    walk_at "go"
    refine iteN (fun c2 => ?_) (fun c2 => ?_)
    · exact go (fun z => c2 (by rw [bl2.mpr z.2])) _ _ _ _ fun _ _ z => z
    · walk_at "go"
      refine r_ixT (SqT.of x1) hw1 ?_
      walk_at "go"
      refine iteN (fun c1 => ?_) (fun c1 => ?_)
      · exact go (fun z => c1 (by rw [bl1.mpr z.1])) _ _ _ _ fun _ _ z => z
      · walk_at "go"
        exact skip _ _ _ (Same.refl _)
  have np8 : p ≠ lo := fun z => by rw [z, qlo] at p8; cases p8
  have nt1 : t1 ≠ lo := fun z => by rw [z, qlo] at q1; cases q1
  rintro σ H10 ⟨o12, o16, as3, os3, rfl, s10, kp, g1, r3, n3, oth, l3⟩
  have x8 := kp _ _ np8 p8
  have x1 := kp _ _ nt1 q1
  have la3 := r3.len
  rw [List.length_map] at la3
  rw [List.length_map] at l3
  clear kp qlo p8 q1 q9 rf rf2
  walk_at "go"
  refine iteI (fun h => ?_) (fun h => ?_)
  · walk_at "go"
    exact k _
  have nas3 : as3 ≠ [] := fun z => h (by rw [z]; rfl)
  obtain ⟨j2, t2, at2, ix2⟩ := at_modR nas3 d2
  obtain ⟨o2, ho2, et2⟩ := refO_at r3 at2
  have O := oth o2 (List.mem_of_getElem? ho2)
  have fr2 := O.fr
  have ok2 : o2.ok S := ordF_ok O.fr O.f3 fun x hx => by have := lt x hx; omega
  have dis' : ∀ z ∈ touL nx o1, z ∉ touL nx o2 := fun z h q => O.dis z q h
  -- whether both are let
  have lets : ∀ S1 S2 : List Int, (∀ z, z ∈ S1 ↔ z ∈ moveS S nx o1) → (∀ z, z ∈ S2 ↔ z ∈ moveS S nx o2) → (Fre S1 (moveN nx o1) o2 ∧ Fre S2 (moveN nx o2) o1) ∨ (IsBurst o1 ∧ IsBurst o2 ∧ wordF S1 (moveN nx o1) o2 ≠ "" ∧ wordF S2 (moveN nx o2) o1 ≠ "") := fun S1 S2 h1 h2 => by
    by_cases c : IsBurst o1 ∧ IsBurst o2
    · cases o1 with
      | burst g1 =>
        cases o2 with
        | burst g2 => exact (bur_both W fr1 fr2 h1 h2 O.dis).imp id fun z => ⟨trivial, trivial, z.1, z.2⟩
        | push g => exact c.2.elim
        | pull g => exact c.2.elim
        | part u v w => exact c.2.elim
        | blow u v => exact c.2.elim
      | push g => exact c.1.elim
      | pull g => exact c.1.elim
      | part u v w => exact c.1.elim
      | blow u v => exact c.1.elim
    · exact .inl ⟨far_fre W fr1 fr2 ok1 h1 O.dis c, far_fre W fr2 fr1 ok2 h2 dis' fun z => c ⟨z.2, z.1⟩⟩
  walk_at "go"
  refine r_ixL (SqL.of g1) ix2 ?_
  walk_at "go"
  obtain ⟨w1, hw1, bl1, bu1⟩ := ord_w0 (fre_np fr1)
  obtain ⟨w2, hw2, bl2, bu2⟩ := ord_w0 (fre_np fr2)
  refine ⟨p, t1, t2, S, nx, o1, o2, rfl, rd_in x8, SqT.of x1, SqT.of et2, W, fr1, ok1, by omega, fun S1 nd1 m1 W1 => ⟨oth_ok lt fr1 fd1 O m1 M, fun hw p12 S12 H11 s11 f11 nd12 m12 e12 => ?_, fun hw H11 s11 => ?_⟩⟩
  · have y8 := s11 _ _ x8
    have y1 := s11 _ _ x1
    have y2 := s11 _ _ et2
    walk_at "go"
    refine ⟨p, t2, t1, S, nx, o2, o1, rfl, rd_in y8, SqT.of y2, SqT.of y1, W, fr2, ok2, by omega, fun S2 nd2 m2 W2 => ⟨oth_ok1 lt fr1 fd1 O m2 M, fun hw2' p21 S21 H12 s12 f12 nd21 m21 e21 => ?_, fun hw2' H12 s12 => ?_⟩⟩
    · have z8 := s12 _ _ y8
      have z1 := s12 _ _ y1
      have z2 := s12 _ _ y2
      have u12 := s12 _ _ e12
      walk_at "go"
      refine ⟨p, t1, S, nx, o1, rfl, z8, SqT.of z1, W, ok1, fre_word fr1, by omega, fun S3 p3 H13 nd3 m3 s13 f13 e13 => ?_⟩
      have L3 := (lets S3 S2 m3 m2).resolve_right fun z => z.2.2.2 hw2'
      have W3 := (fre_web W fr1 ok1).same nd3 m3 fun _ _ => rfl
      have ok3 := oth_ok lt fr1 fd1 O m3 M
      have len3 : S3.length ≤ 351 := by
        have q1 := sub_len nd3 fun z hz => (m3 z).mp hz
        have q2 := move_len (S := S) (nx := nx) (o := o1)
        omega
      walk_at "go"
      refine ⟨p3, t2, S3, moveN nx o1, o2, rfl, e13, SqT.of (s13 _ _ z2), W3, ok3, fre_word L3.1, by omega, fun S4 p4 H14 nd4 m4 s14 f14 e14 => ?_⟩
      have len4 : S4.length ≤ 357 := by
        have q1 := sub_len nd4 fun z hz => (m4 z).mp hz
        have q2 := move_len (S := S3) (nx := moveN nx o1) (o := o2)
        omega
      have v12 := s14 _ _ (s13 _ _ u12)
      have v21 := s14 _ _ (s13 _ _ e21)
      have mm : ∀ z, z ∈ S12 ↔ z ∈ S4 := fun z => (m12 z).trans ((moveS_cg (fun z => (m1 z).trans (m3 z).symm) z).trans (m4 z).symm)
      obtain ⟨cm, cv⟩ := far_comm M W3.map W2.map fr1 fr2 ok1 ok2 ok3 (oth_ok1 lt fr1 fd1 O m2 M) m3 m2 O.dis (oth_nn O)
      have mm2 : ∀ z, z ∈ S21 ↔ z ∈ S4 := fun z => (m21 z).trans ((cm z).symm.trans (m4 z).symm)
      walk_at "go"
      refine ⟨p12, p4, S4, S12, _, _, rfl, v12, e14, ne_fresh u12 (s13.free f14), same_len nd12 nd4 mm, by omega, fun x hx => ⟨(mm x).mpr hx, rfl⟩, fun H15 s15 => ?_⟩
      walk_at "go"
      refine ⟨p21, p4, S4, S21, _, _, rfl, s15 _ _ v21, s15 _ _ e14, ne_fresh e21 (s13.free f14), same_len nd21 nd4 mm2, by omega, fun x hx => ⟨(mm2 x).mpr hx, (cv x ((m4 x).mp hx)).symm⟩, fun H16 s16 => ?_⟩
      exact k _
    · have L3 := (lets S1 S2 m1 m2).resolve_left fun z => hw2' (fre_word z.2)
      exact absurd hw L3.2.2.1
  · have y8 := s11 _ _ x8
    have y1 := s11 _ _ x1
    have y2 := s11 _ _ et2
    walk_at "go"
    refine ⟨p, t2, t1, S, nx, o2, o1, rfl, rd_in y8, SqT.of y2, SqT.of y1, W, fr2, ok2, by omega, fun S2 nd2 m2 W2 => ⟨oth_ok1 lt fr1 fd1 O m2 M, fun hw2' p21 S21 H12 s12 f12 nd21 m21 e21 => ?_, fun hw2' H12 s12 => ?_⟩⟩
    · have L3 := (lets S1 S2 m1 m2).resolve_left fun z => hw (fre_word z.1)
      exact absurd hw2' L3.2.2.2
    · have L3 := (lets S1 S2 m1 m2).resolve_left fun z => hw (fre_word z.1)
      have z1 := s12 _ _ y1
      have z2 := s12 _ _ y2
      rw [bu1.mpr L3.1] at hw1
      rw [bu2.mpr L3.2.1] at hw2
      walk_at "go"
      refine r_ixT (SqT.of z1) hw1 ?_
      walk_at "go"
      refine r_ixT (SqT.of z2) hw2 ?_
      walk_at "go"
      exact k _
def topS (i : Nat) : Stmt := PySem.Challenge.pw_frothwane_k22_whole_far_deeds.main.body.getD i (.Pass ⟨0, 0, 0, 0⟩)
abbrev s_l_cell : Stmt := topS 29
abbrev s_l_seed : Stmt := topS 27
abbrev s_l_digits : Stmt := topS 28
abbrev s_l_seat : Stmt := topS 30
abbrev s_l_comb : Stmt := topS 31
abbrev s_l_other : Stmt := topS 32
abbrev s_l_rim : Stmt := topS 33
abbrev s_l_rims : Stmt := topS 34
abbrev s_l_corner : Stmt := topS 35
abbrev s_l_loop : Stmt := topS 36
abbrev s_l_push : Stmt := topS 37
abbrev s_l_one_bubble : Stmt := topS 38
abbrev s_l_mended : Stmt := topS 39
abbrev s_l_without : Stmt := topS 40
abbrev s_l_blow : Stmt := topS 41
abbrev s_l_part : Stmt := topS 42
abbrev s_l_step : Stmt := topS 43
abbrev s_l_free_deeds : Stmt := topS 44
abbrev s_l_touched : Stmt := topS 45
abbrev s_p_film_there : Stmt := topS 15
abbrev s_p_corner : Stmt := topS 11
abbrev s_p_looped : Stmt := topS 14
abbrev s_p_two_corners : Stmt := topS 16
abbrev s_p_seat : Stmt := topS 10
abbrev s_p_pushed : Stmt := topS 17
abbrev s_p_pulled : Stmt := topS 18
abbrev s_p_other : Stmt := topS 9
abbrev s_p_rim : Stmt := topS 12
abbrev s_p_put_in_place : Stmt := topS 19
abbrev s_p_mend : Stmt := topS 20
abbrev s_p_without : Stmt := topS 21
abbrev s_p_burst : Stmt := topS 22
abbrev s_p_halved : Stmt := topS 23
abbrev s_p_parted : Stmt := topS 24
abbrev s_p_blown : Stmt := topS 25
abbrev s_l_move : Stmt := topS 46
abbrev s_l_both : Stmt := topS 47
abbrev s_l_moved : Stmt := topS 48
abbrev s_l_whole : Stmt := topS 49
abbrev s_l_is_web : Stmt := topS 50
abbrev s_p_law : Stmt := topS 51
theorem sc_l_cell : FnScope ["_law_script", "_law_place"] ["_law_script", "_law_place"] (defScope s_l_cell) := ⟨rfl, rfl, rfl, by decide +kernel, rfl, by decide +kernel, by decide +kernel⟩
theorem sc_l_seed : FnScope ["_law_cell_here", "_law_one", "_law_two"] ["_law_cell_here"] (defScope s_l_seed) := ⟨rfl, rfl, rfl, by decide +kernel, rfl, by decide +kernel, by decide +kernel⟩
theorem sc_l_digits : FnScope ["_law_cell_here", "_law_sizes", "_law_rest", "_law_found", "_law_k", "_law_size"] ["_law_cell_here", "_law_sizes"] (defScope s_l_digits) := ⟨rfl, rfl, rfl, by decide +kernel, rfl, by decide +kernel, by decide +kernel⟩
theorem sc_l_seat : FnScope ["_law_web", "_law_ends", "_law_k"] ["_law_web", "_law_ends"] (defScope s_l_seat) := ⟨rfl, rfl, rfl, by decide +kernel, rfl, by decide +kernel, by decide +kernel⟩
theorem sc_l_comb : FnScope ["_law_rows", "_law_cols", "_law_web", "_law_k", "_law_row", "_law_col", "_law_left", "_law_above"] ["_law_rows", "_law_cols"] (defScope s_l_comb) := ⟨rfl, rfl, rfl, by decide +kernel, rfl, by decide +kernel, by decide +kernel⟩
theorem sc_l_other : FnScope ["_law_end"] ["_law_end"] (defScope s_l_other) := ⟨rfl, rfl, rfl, by decide +kernel, rfl, by decide +kernel, by decide +kernel⟩
theorem sc_l_rim : FnScope ["_law_web", "_law_end", "_law_found", "_law_k", "_law_at"] ["_law_web", "_law_end"] (defScope s_l_rim) := ⟨rfl, rfl, rfl, by decide +kernel, rfl, by decide +kernel, by decide +kernel⟩
theorem sc_l_rims : FnScope ["_law_web", "_law_found", "_law_passed", "_law_end", "_law_at"] ["_law_web"] (defScope s_l_rims) := ⟨rfl, rfl, rfl, by decide +kernel, rfl, by decide +kernel, by decide +kernel⟩
theorem sc_l_corner : FnScope ["_law_web", "_law_end"] ["_law_web", "_law_end"] (defScope s_l_corner) := ⟨rfl, rfl, rfl, by decide +kernel, rfl, by decide +kernel, by decide +kernel⟩
theorem sc_l_loop : FnScope ["_law_web", "_law_film"] ["_law_web", "_law_film"] (defScope s_l_loop) := ⟨rfl, rfl, rfl, by decide +kernel, rfl, by decide +kernel, by decide +kernel⟩
theorem sc_l_push : FnScope ["_law_web", "_law_film", "_law_back", "_law_e", "_law_a", "_law_b", "_law_o", "_law_c", "_law_d", "_law_made"] ["_law_web", "_law_film", "_law_back"] (defScope s_l_push) := ⟨rfl, rfl, rfl, by decide +kernel, rfl, by decide +kernel, by decide +kernel⟩
theorem sc_l_one_bubble : FnScope ["_law_web", "_law_film"] ["_law_web", "_law_film"] (defScope s_l_one_bubble) := ⟨rfl, rfl, rfl, by decide +kernel, rfl, by decide +kernel, by decide +kernel⟩
theorem sc_l_mended : FnScope ["_law_web", "_law_end", "_law_left", "_law_x", "_law_y", "_law_gone", "_law_made", "_law_at", "_law_goal"] ["_law_web", "_law_end"] (defScope s_l_mended) := ⟨rfl, rfl, rfl, by decide +kernel, rfl, by decide +kernel, by decide +kernel⟩
theorem sc_l_without : FnScope ["_law_web", "_law_film", "_law_left", "_law_made", "_law_at", "_law_third"] ["_law_web", "_law_film"] (defScope s_l_without) := ⟨rfl, rfl, rfl, by decide +kernel, rfl, by decide +kernel, by decide +kernel⟩
theorem sc_l_blow : FnScope ["_law_web", "_law_end", "_law_first", "_law_e", "_law_a", "_law_b", "_law_made", "_law_new"] ["_law_web", "_law_end", "_law_first"] (defScope s_l_blow) := ⟨rfl, rfl, rfl, by decide +kernel, rfl, by decide +kernel, by decide +kernel⟩
theorem sc_l_part : FnScope ["_law_web", "_law_one", "_law_two", "_law_first", "_law_made", "_law_new", "_law_p", "_law_half", "_law_away", "_law_x", "_law_y"] ["_law_web", "_law_one", "_law_two", "_law_first"] (defScope s_l_part) := ⟨rfl, rfl, rfl, by decide +kernel, rfl, by decide +kernel, by decide +kernel⟩
theorem sc_l_step : FnScope ["_law_web", "_law_first", "_law_cell_here", "_law_what", "_law_pick", "_law_walk", "_law_ends", "_law_end", "_law_one", "_law_film", "_law_two"] ["_law_web", "_law_first", "_law_cell_here"] (defScope s_l_step) := ⟨rfl, rfl, rfl, by decide +kernel, rfl, by decide +kernel, by decide +kernel⟩
theorem sc_l_free_deeds : FnScope ["_law_web", "_law_first", "_law_found", "_law_end", "_law_film"] ["_law_web", "_law_first"] (defScope s_l_free_deeds) := ⟨rfl, rfl, rfl, by decide +kernel, rfl, by decide +kernel, by decide +kernel⟩
theorem sc_l_touched : FnScope ["_law_web", "_law_order", "_law_end", "_law_row", "_law_at"] ["_law_web", "_law_order"] (defScope s_l_touched) := ⟨rfl, rfl, rfl, by decide +kernel, rfl, by decide +kernel, by decide +kernel⟩
theorem sc_p_film_there : FnScope ["web", "film"] ["web", "film"] (defScope s_p_film_there) := ⟨rfl, rfl, rfl, by decide +kernel, rfl, by decide +kernel, by decide +kernel⟩
theorem sc_p_corner : FnScope ["web", "end"] ["web", "end"] (defScope s_p_corner) := ⟨rfl, rfl, rfl, by decide +kernel, rfl, by decide +kernel, by decide +kernel⟩
theorem sc_p_looped : FnScope ["web", "film"] ["web", "film"] (defScope s_p_looped) := ⟨rfl, rfl, rfl, by decide +kernel, rfl, by decide +kernel, by decide +kernel⟩
theorem sc_p_two_corners : FnScope ["web", "film"] ["web", "film"] (defScope s_p_two_corners) := ⟨rfl, rfl, rfl, by decide +kernel, rfl, by decide +kernel, by decide +kernel⟩
theorem sc_p_seat : FnScope ["web", "ends"] ["web", "ends"] (defScope s_p_seat) := ⟨rfl, rfl, rfl, by decide +kernel, rfl, by decide +kernel, by decide +kernel⟩
theorem sc_p_pushed : FnScope ["web", "film", "e", "a", "b", "o", "c", "d", "made"] ["web", "film"] (defScope s_p_pushed) := ⟨rfl, rfl, rfl, by decide +kernel, rfl, by decide +kernel, by decide +kernel⟩
theorem sc_p_pulled : FnScope ["web", "film", "e", "a", "b", "o", "c", "d", "made"] ["web", "film"] (defScope s_p_pulled) := ⟨rfl, rfl, rfl, by decide +kernel, rfl, by decide +kernel, by decide +kernel⟩
theorem sc_p_other : FnScope ["end"] ["end"] (defScope s_p_other) := ⟨rfl, rfl, rfl, by decide +kernel, rfl, by decide +kernel, by decide +kernel⟩
theorem sc_p_rim : FnScope ["web", "end", "found", "at"] ["web", "end"] (defScope s_p_rim) := ⟨rfl, rfl, rfl, by decide +kernel, rfl, by decide +kernel, by decide +kernel⟩
theorem sc_p_put_in_place : FnScope ["web", "end", "gone", "after", "ahead"] ["web", "end", "gone"] (defScope s_p_put_in_place) := ⟨rfl, rfl, rfl, by decide +kernel, rfl, by decide +kernel, by decide +kernel⟩
theorem sc_p_mend : FnScope ["web", "end", "one", "two", "kept", "lost"] ["web", "end"] (defScope s_p_mend) := ⟨rfl, rfl, rfl, by decide +kernel, rfl, by decide +kernel, by decide +kernel⟩
theorem sc_p_without : FnScope ["web", "film", "made", "low", "left", "end"] ["web", "film"] (defScope s_p_without) := ⟨rfl, rfl, rfl, by decide +kernel, rfl, by decide +kernel, by decide +kernel⟩
theorem sc_p_burst : FnScope ["web", "film"] ["web", "film"] (defScope s_p_burst) := ⟨rfl, rfl, rfl, by decide +kernel, rfl, by decide +kernel, by decide +kernel⟩
theorem sc_p_halved : FnScope ["web", "end", "far", "gone", "after", "ahead"] ["web", "end", "far"] (defScope s_p_halved) := ⟨rfl, rfl, rfl, by decide +kernel, rfl, by decide +kernel, by decide +kernel⟩
theorem sc_p_parted : FnScope ["web", "one", "two", "first", "made", "low"] ["web", "one", "two", "first"] (defScope s_p_parted) := ⟨rfl, rfl, rfl, by decide +kernel, rfl, by decide +kernel, by decide +kernel⟩
theorem sc_p_blown : FnScope ["web", "end", "first", "e", "a", "b", "made", "low"] ["web", "end", "first"] (defScope s_p_blown) := ⟨rfl, rfl, rfl, by decide +kernel, rfl, by decide +kernel, by decide +kernel⟩
theorem sc_l_move : FnScope ["_law_web", "_law_order", "_law_word", "_law_made"] ["_law_web", "_law_order"] (defScope s_l_move) := ⟨rfl, rfl, rfl, by decide +kernel, rfl, by decide +kernel, by decide +kernel⟩
theorem sc_l_both : FnScope ["_law_web", "_law_one", "_law_two", "_law_word", "_law_made"] ["_law_web", "_law_one", "_law_two"] (defScope s_l_both) := ⟨rfl, rfl, rfl, by decide +kernel, rfl, by decide +kernel, by decide +kernel⟩
theorem sc_l_moved : FnScope ["_law_web", "_law_order"] ["_law_web", "_law_order"] (defScope s_l_moved) := ⟨rfl, rfl, rfl, by decide +kernel, rfl, by decide +kernel, by decide +kernel⟩
theorem sc_l_whole : FnScope ["_law_thing"] ["_law_thing"] (defScope s_l_whole) := ⟨rfl, rfl, rfl, by decide +kernel, rfl, by decide +kernel, by decide +kernel⟩
theorem sc_l_is_web : FnScope ["_law_found", "_law_due", "_law_end"] ["_law_found", "_law_due"] (defScope s_l_is_web) := ⟨rfl, rfl, rfl, by decide +kernel, rfl, by decide +kernel, by decide +kernel⟩
theorem sc_p_law : FnScope ["_law_script", "_law_big", "_law_pick", "_law_spot", "_law_deep", "_law_web", "_law_first", "_law_cell_here", "_law_deeds", "_law_one", "_law_near", "_law_others", "_law_two", "_law_here", "_law_there", "_law_due", "_law_at"] ["_law_script"] (defScope s_p_law) := ⟨rfl, rfl, rfl, by decide +kernel, rfl, by decide +kernel, by decide +kernel⟩
section
variable {P : Program} {w : World} {K : PySem.W.Frag} {mg : Str → Option Value} {base : Heap} {ad : Str → Addr}
theorem ok_l_cell (F : FnIs K mg "_law_cell" s_l_cell ["_law_script", "_law_place"]) (T_len : mg "len" = none) : Df P w K mg base CX0 "_law_cell" 1 ["_law_script", "_law_place"] (sp_l_cell ⟨K, ad⟩) :=
  Df.of F sc_l_cell len_l_cell fun f cdv A outer s H vs Q E hr h => ⟨t_l_cell ⟨K, ad⟩, (pss_cons (ps_if (pt_cmpR op_lt (pv 1) (pe_callB call_len_seq (by rfl) T_len (by decide +kernel) (pa_cons (pv 0) pa_nil)) (nomark _)) (pss_one (ps_ret (pe_ix ix_list (pv 0) (pv 1) (fun _ _ => rfl)))) pss_nil)
      (pss_one (ps_ret pe_int))), pure_l_cell h⟩
theorem ok_l_seed (F : FnIs K mg "_law_seed" s_l_seed ["_law_cell_here"]) : Df P w K mg base CX0 "_law_seed" 1 ["_law_cell_here"] (sp_l_seed ⟨K, ad⟩) :=
  Df.of F sc_l_seed len_l_seed fun f cdv A outer s H vs Q E hr h => ⟨t_l_seed ⟨K, ad⟩, (pss_cons (ps_if (pt_cmpR op_ge (pv 0) (pe_op op_pow pe_int pe_int) (nomark _)) (pss_one (ps_ret (pv 0))) pss_nil)
      (pss_cons (ps_set (i := 1) sc_l_seed.nd rfl (by first | exact Or.inl rfl | exact Or.inr rfl) (pe_op op_mod (pe_op op_mul (pe_op op_mod (pe_op op_add (pe_op op_mul (pv 0) pe_int) pe_int) pe_int) pe_int) pe_int))
      (pss_cons (ps_set (i := 2) sc_l_seed.nd rfl (by first | exact Or.inl rfl | exact Or.inr rfl) (pe_op op_mod (pe_op op_mul (pe_op op_mod (pe_op op_add (pe_op op_mul (pv 0) pe_int) pe_int) pe_int) pe_int) pe_int))
      (pss_one (ps_ret (pe_op op_add (pe_op op_mul (pv 1) pe_int) (pv 2))))))), pure_l_seed h⟩
theorem ok_l_digits (F : FnIs K mg "_law_digits" s_l_digits ["_law_cell_here", "_law_sizes"]) (T_enumerate : mg "enumerate" = none) (D_l_seed : Df P w K mg base CX0 "_law_seed" 1 ["_law_cell_here"] (sp_l_seed ⟨K, ad⟩)) : Df P w K mg base CX0 "_law_digits" 2 ["_law_cell_here", "_law_sizes"] (sp_l_digits ⟨K, ad⟩) :=
  Df.of F sc_l_digits len_l_digits fun f cdv A outer s H vs Q E hr h => ⟨t_l_digits ⟨K, ad⟩, (pss_cons (ps_set (i := 2) sc_l_digits.nd rfl (by first | exact Or.inl rfl | exact Or.inr rfl) (pe_df D_l_seed hr (by decide) pass0 (pa_cons (pv 0) pa_nil)))
      (pss_cons (ps_set (i := 3) sc_l_digits.nd rfl (by first | exact Or.inl rfl | exact Or.inr rfl) (pe_lst pa_nil))
      (pss_cons (ps_for PassesOwn.never rfl (pi_enum (by rfl) T_enumerate (pa_cons (pv 1) pa_nil)) (pg_tup rfl (pgs_cons (pg_name (i := 4) sc_l_digits.nd rfl (by first | exact Or.inl rfl | exact Or.inr rfl)) (pgs_cons (pg_name (i := 5) sc_l_digits.nd rfl (by first | exact Or.inl rfl | exact Or.inr rfl)) pgs_nil)))
      (pss_cons (ps_if (pt_cmpR op_lt (pv 2) (pv 5) (nomark _)) (pss_one (ps_set (i := 2) sc_l_digits.nd rfl (by first | exact Or.inl rfl | exact Or.inr rfl) (pe_df D_l_seed hr (by decide) pass0 (pa_cons (pe_op op_add (pe_op op_add (pv 2) (pe_op op_mul pe_int (pv 4))) (pe_op op_mod (pv 0) pe_int)) pa_nil)))) pss_nil)
      (pss_cons (ps_expr (pe_bm PySem.F.plainAttrs_list PySem.F.slot_list_append PySem.F.type_list_append mt_append (pv 3) (pa_cons (pe_op op_mod (pv 2) (pv 5)) pa_nil)))
      (pss_one (ps_set (i := 2) sc_l_digits.nd rfl (by first | exact Or.inl rfl | exact Or.inr rfl) (pe_op op_fdivW (pv 2) (pv 5)))))))
      (pss_one (ps_ret (pv 3)))))), pure_l_digits h⟩
theorem ok_l_seat (F : FnIs K mg "_law_seat" s_l_seat ["_law_web", "_law_ends"]) (T_range : mg "range" = none) : Df P w K mg base CX0 "_law_seat" 1 ["_law_web", "_law_ends"] (sp_l_seat ⟨K, ad⟩) :=
  Df.of F sc_l_seat len_l_seat fun f cdv A outer s H vs Q E hr h => ⟨t_l_seat ⟨K, ad⟩, (pss_one (ps_for PassesOwn.never rfl (pi_range1 (by rfl) T_range (pa_cons pe_int pa_nil)) (pg_name (i := 2) sc_l_seat.nd rfl (by first | exact Or.inl rfl | exact Or.inr rfl))
      (pss_one (ps_dput (hu_of hr) (pv 0) (pe_ix ix_tup (pv 1) (pv 2) (fun _ _ => rfl)) (pe_ix ix_tup (pv 1) (pe_op op_mod (pe_op op_add (pv 2) pe_int) pe_int) (fun _ _ => rfl)) rfl)))), pure_l_seat h⟩
theorem ok_l_comb (F : FnIs K mg "_law_comb" s_l_comb ["_law_rows", "_law_cols"]) (T_range : mg "range" = none) (D_l_seat : Df P w K mg base CX0 "_law_seat" 1 ["_law_web", "_law_ends"] (sp_l_seat ⟨K, ad⟩)) : Df P w K mg base CX0 "_law_comb" 2 ["_law_rows", "_law_cols"] (sp_l_comb ⟨K, ad⟩) :=
  Df.of F sc_l_comb len_l_comb fun f cdv A outer s H vs Q E hr h => ⟨t_l_comb ⟨K, ad⟩, (pss_cons (ps_set (i := 2) sc_l_comb.nd rfl (by first | exact Or.inl rfl | exact Or.inr rfl) pe_dnewK)
      (pss_cons (ps_for PassesOwn.never rfl (pi_range1 (by rfl) T_range (pa_cons (pe_op op_mul (pv 0) (pv 1)) pa_nil)) (pg_name (i := 3) sc_l_comb.nd rfl (by first | exact Or.inl rfl | exact Or.inr rfl))
      (pss_cons (ps_par (by rfl) sc_l_comb.nd rfl rfl (by decide) rfl rfl (pa_cons (pe_op op_fdivW (pv 3) (pv 1)) (pa_cons (pe_op op_mod (pv 3) (pv 1)) pa_nil)) (by rfl))
      (pss_cons (ps_set (i := 6) sc_l_comb.nd rfl (by first | exact Or.inl rfl | exact Or.inr rfl) (pe_op op_add (pe_op op_mul (pv 4) (pv 1)) (pe_op op_mod (pe_op op_sub (pe_op op_add (pv 5) (pv 1)) pe_int) (pv 1))))
      (pss_cons (ps_set (i := 7) sc_l_comb.nd rfl (by first | exact Or.inl rfl | exact Or.inr rfl) (pe_op op_add (pe_op op_mul (pe_op op_mod (pe_op op_sub (pe_op op_add (pv 4) (pv 0)) pe_int) (pv 0)) (pv 1)) (pv 5)))
      (pss_cons (ps_expr (pe_df D_l_seat hr (by decide) pass0 (pa_cons (pv 2) (pa_cons (pe_tup (pa_cons (pe_op op_mul pe_int (pv 3)) (pa_cons (pe_op op_add (pe_op op_mul pe_int (pv 3)) pe_int) (pa_cons (pe_op op_add (pe_op op_mul pe_int (pv 3)) pe_int) pa_nil)))) pa_nil))))
      (pss_one (ps_expr (pe_df D_l_seat hr (by decide) pass0 (pa_cons (pv 2) (pa_cons (pe_tup (pa_cons (pe_op op_add (pe_op op_mul pe_int (pv 3)) pe_int) (pa_cons (pe_op op_add (pe_op op_mul pe_int (pv 6)) pe_int) (pa_cons (pe_op op_add (pe_op op_mul pe_int (pv 7)) pe_int) pa_nil)))) pa_nil))))))))))
      (pss_one (ps_ret (pv 2))))), pure_l_comb h⟩
theorem ok_l_other (F : FnIs K mg "_law_other" s_l_other ["_law_end"]) : Df P w K mg base CX0 "_law_other" 1 ["_law_end"] (sp_l_other ⟨K, ad⟩) :=
  Df.of F sc_l_other len_l_other fun f cdv A outer s H vs Q E hr h => ⟨t_l_other ⟨K, ad⟩, (pss_cons (ps_if (pt_cmpR op_eq (pe_op op_mod (pv 0) pe_int) pe_int (nomark _)) (pss_one (ps_ret (pe_op op_add (pv 0) pe_int))) pss_nil)
      (pss_one (ps_ret (pe_op op_sub (pv 0) pe_int)))), pure_l_other h⟩
theorem ok_l_rim (F : FnIs K mg "_law_rim" s_l_rim ["_law_web", "_law_end"]) (T_len : mg "len" = none) (T_range : mg "range" = none) (D_l_other : Df P w K mg base CX0 "_law_other" 1 ["_law_end"] (sp_l_other ⟨K, ad⟩)) : Df P w K mg base CX0 "_law_rim" 2 ["_law_web", "_law_end"] (sp_l_rim ⟨K, ad⟩) :=
  Df.of F sc_l_rim len_l_rim fun f cdv A outer s H vs Q E hr h => ⟨t_l_rim ⟨K, ad⟩, (pss_cons (ps_set (i := 2) sc_l_rim.nd rfl (by first | exact Or.inl rfl | exact Or.inr rfl) (pe_lst (pa_cons (pv 1) pa_nil)))
      (pss_cons (ps_for PassesOwn.never rfl (pi_range1 (by rfl) T_range (pa_cons (pe_callB call_lenRd (by rfl) T_len (by decide +kernel) (pa_cons (pv 0) pa_nil)) pa_nil)) (pg_name (i := 3) sc_l_rim.nd rfl (by first | exact Or.inl rfl | exact Or.inr rfl))
      (pss_cons (ps_set (i := 4) sc_l_rim.nd rfl (by first | exact Or.inl rfl | exact Or.inr rfl) (pe_dget (hu_of hr) (pv 0) (pe_df D_l_other hr (by decide) pass0 (pa_cons (pe_ix ix_list (pv 2) (pe_un un_neg pe_int) (fun _ _ => rfl)) pa_nil)) (fun _ _ => rfl)))
      (pss_cons (ps_if (pt_cmpR op_eq (pv 4) (pv 1) (nomark _)) (pss_one (ps_ret (pv 2))) pss_nil)
      (pss_one (ps_expr (pe_bm PySem.F.plainAttrs_list PySem.F.slot_list_append PySem.F.type_list_append mt_append (pv 2) (pa_cons (pv 4) pa_nil)))))))
      (pss_one (ps_ret (pv 2))))), pure_l_rim h⟩
theorem ok_l_rims (F : FnIs K mg "_law_rims" s_l_rims ["_law_web"]) (T_list : mg "list" = none) (T_sorted : mg "sorted" = none) (D_l_rim : Df P w K mg base CX0 "_law_rim" 2 ["_law_web", "_law_end"] (sp_l_rim ⟨K, ad⟩)) : Df P w K mg base CX0 "_law_rims" 3 ["_law_web"] (sp_l_rims ⟨K, ad⟩) :=
  Df.of F sc_l_rims len_l_rims fun f cdv A outer s H vs Q E hr h => ⟨t_l_rims ⟨K, ad⟩, (pss_cons (ps_set (i := 1) sc_l_rims.nd rfl (by first | exact Or.inl rfl | exact Or.inr rfl) (pe_lst pa_nil))
      (pss_cons (ps_set (i := 2) sc_l_rims.nd rfl (by first | exact Or.inl rfl | exact Or.inr rfl) pe_dnewK)
      (pss_cons (ps_for PassesOwn.never rfl (pi_list (pe_callB cr_sortedI (by rfl) T_sorted (by decide +kernel) (pa_cons (pe_callTy (call_listD rfl) (by rfl) T_list (by decide +kernel) (pa_cons (pv 0) pa_nil)) pa_nil))) (pg_name (i := 3) sc_l_rims.nd rfl (by first | exact Or.inl rfl | exact Or.inr rfl))
      (pss_one (ps_if (pt_cmp (pc_dnotin (hu_of hr) (pv 3) (pv 2))) (pss_cons (ps_expr (pe_bm PySem.F.plainAttrs_list PySem.F.slot_list_append PySem.F.type_list_append mt_append (pv 1) (pa_cons (pe_df D_l_rim hr (by decide) pass0 (pa_cons (pv 0) (pa_cons (pv 3) pa_nil))) pa_nil)))
      (pss_one (ps_for PassesOwn.never rfl (pi_list (pe_ix ix_list (pv 1) (pe_un un_neg pe_int) (fun _ _ => rfl))) (pg_name (i := 4) sc_l_rims.nd rfl (by first | exact Or.inl rfl | exact Or.inr rfl))
      (pss_one (ps_dput (hu_of hr) (pv 2) (pv 4) pe_bl rfl))))) pss_nil)))
      (pss_one (ps_ret (pv 1)))))), pure_l_rims h⟩
theorem ok_l_corner (F : FnIs K mg "_law_corner" s_l_corner ["_law_web", "_law_end"]) : Df P w K mg base CX0 "_law_corner" 1 ["_law_web", "_law_end"] (sp_l_corner ⟨K, ad⟩) :=
  Df.of F sc_l_corner len_l_corner fun f cdv A outer s H vs Q E hr h => ⟨t_l_corner ⟨K, ad⟩, (pss_one (ps_ret (pe_tup (pa_cons (pv 1) (pa_cons (pe_dget (hu_of hr) (pv 0) (pv 1) (fun _ _ => rfl)) (pa_cons (pe_dget (hu_of hr) (pv 0) (pe_dget (hu_of hr) (pv 0) (pv 1) (fun _ _ => rfl)) (fun _ _ => rfl)) pa_nil)))))), pure_l_corner h⟩
theorem ok_l_loop (F : FnIs K mg "_law_loop" s_l_loop ["_law_web", "_law_film"]) (D_l_corner : Df P w K mg base CX0 "_law_corner" 1 ["_law_web", "_law_end"] (sp_l_corner ⟨K, ad⟩)) : Df P w K mg base CX0 "_law_loop" 2 ["_law_web", "_law_film"] (sp_l_loop ⟨K, ad⟩) :=
  Df.of F sc_l_loop len_l_loop fun f cdv A outer s H vs Q E hr h => ⟨t_l_loop ⟨K, ad⟩, (pss_one (ps_ret (pe_cmpR op_in_seq (pe_op op_add (pe_op op_mul pe_int (pv 1)) pe_int) (pe_df D_l_corner hr (by decide) pass0 (pa_cons (pv 0) (pa_cons (pe_op op_mul pe_int (pv 1)) pa_nil))) (by rfl)))), pure_l_loop h⟩
theorem ok_l_push (F : FnIs K mg "_law_push" s_l_push ["_law_web", "_law_film", "_law_back"]) (T_dict : mg "dict" = none) (D_l_corner : Df P w K mg base CX0 "_law_corner" 1 ["_law_web", "_law_end"] (sp_l_corner ⟨K, ad⟩)) (D_l_seat : Df P w K mg base CX0 "_law_seat" 1 ["_law_web", "_law_ends"] (sp_l_seat ⟨K, ad⟩)) : Df P w K mg base CX0 "_law_push" 2 ["_law_web", "_law_film", "_law_back"] (sp_l_push ⟨K, ad⟩) :=
  Df.of F sc_l_push len_l_push fun f cdv A outer s H vs Q E hr h => ⟨t_l_push ⟨K, ad⟩, (pss_cons (ps_asg (pe_df D_l_corner hr (by decide) pass0 (pa_cons (pv 0) (pa_cons (pe_op op_mul pe_int (pv 1)) pa_nil))) (pg_tup rfl (pgs_cons (pg_name (i := 3) sc_l_push.nd rfl (by first | exact Or.inl rfl | exact Or.inr rfl)) (pgs_cons (pg_name (i := 4) sc_l_push.nd rfl (by first | exact Or.inl rfl | exact Or.inr rfl)) (pgs_cons (pg_name (i := 5) sc_l_push.nd rfl (by first | exact Or.inl rfl | exact Or.inr rfl)) pgs_nil)))))
      (pss_cons (ps_asg (pe_df D_l_corner hr (by decide) pass0 (pa_cons (pv 0) (pa_cons (pe_op op_add (pe_op op_mul pe_int (pv 1)) pe_int) pa_nil))) (pg_tup rfl (pgs_cons (pg_name (i := 6) sc_l_push.nd rfl (by first | exact Or.inl rfl | exact Or.inr rfl)) (pgs_cons (pg_name (i := 7) sc_l_push.nd rfl (by first | exact Or.inl rfl | exact Or.inr rfl)) (pgs_cons (pg_name (i := 8) sc_l_push.nd rfl (by first | exact Or.inl rfl | exact Or.inr rfl)) pgs_nil)))))
      (pss_cons (ps_set (i := 9) sc_l_push.nd rfl (by first | exact Or.inl rfl | exact Or.inr rfl) (pe_callTy call_dictD (by rfl) T_dict (by decide +kernel) (pa_cons (pv 0) pa_nil)))
      (pss_cons (ps_if (pt_val (pv 2)) (pss_cons (ps_expr (pe_df D_l_seat hr (by decide) pass0 (pa_cons (pv 9) (pa_cons (pe_tup (pa_cons (pv 3) (pa_cons (pv 8) (pa_cons (pv 4) pa_nil)))) pa_nil))))
      (pss_one (ps_expr (pe_df D_l_seat hr (by decide) pass0 (pa_cons (pv 9) (pa_cons (pe_tup (pa_cons (pv 6) (pa_cons (pv 5) (pa_cons (pv 7) pa_nil)))) pa_nil)))))) (pss_cons (ps_expr (pe_df D_l_seat hr (by decide) pass0 (pa_cons (pv 9) (pa_cons (pe_tup (pa_cons (pv 3) (pa_cons (pv 5) (pa_cons (pv 7) pa_nil)))) pa_nil))))
      (pss_one (ps_expr (pe_df D_l_seat hr (by decide) pass0 (pa_cons (pv 9) (pa_cons (pe_tup (pa_cons (pv 6) (pa_cons (pv 8) (pa_cons (pv 4) pa_nil)))) pa_nil)))))))
      (pss_one (ps_ret (pv 9))))))), pure_l_push h⟩
theorem ok_l_one_bubble (F : FnIs K mg "_law_one_bubble" s_l_one_bubble ["_law_web", "_law_film"]) (D_l_rim : Df P w K mg base CX0 "_law_rim" 2 ["_law_web", "_law_end"] (sp_l_rim ⟨K, ad⟩)) : Df P w K mg base CX0 "_law_one_bubble" 3 ["_law_web", "_law_film"] (sp_l_one_bubble ⟨K, ad⟩) :=
  Df.of F sc_l_one_bubble len_l_one_bubble fun f cdv A outer s H vs Q E hr h => ⟨t_l_one_bubble ⟨K, ad⟩, (pss_one (ps_ret (pe_cmpR op_in_seq (pe_op op_add (pe_op op_mul pe_int (pv 1)) pe_int) (pe_df D_l_rim hr (by decide) pass0 (pa_cons (pv 0) (pa_cons (pe_op op_mul pe_int (pv 1)) pa_nil))) (by rfl)))), pure_l_one_bubble h⟩
theorem ok_l_mended (F : FnIs K mg "_law_mended" s_l_mended ["_law_web", "_law_end"]) (T_min : mg "min" = none) (T_max : mg "max" = none) (D_l_corner : Df P w K mg base CX0 "_law_corner" 1 ["_law_web", "_law_end"] (sp_l_corner ⟨K, ad⟩)) (D_l_other : Df P w K mg base CX0 "_law_other" 1 ["_law_end"] (sp_l_other ⟨K, ad⟩)) : Df P w K mg base CX0 "_law_mended" 2 ["_law_web", "_law_end"] (sp_l_mended ⟨K, ad⟩) :=
  Df.of F sc_l_mended len_l_mended fun f cdv A outer s H vs Q E hr h => ⟨t_l_mended ⟨K, ad⟩, (pss_cons (ps_set (i := 2) sc_l_mended.nd rfl (by first | exact Or.inl rfl | exact Or.inr rfl) (pe_df D_l_corner hr (by decide) pass0 (pa_cons (pv 0) (pa_cons (pv 1) pa_nil))))
      (pss_cons (ps_par (by rfl) sc_l_mended.nd rfl rfl (by decide) rfl rfl (pa_cons (pe_callB (cr_minTp rfl) (by rfl) T_min (by decide +kernel) (pa_cons (pe_slice sl_tup (pv 2) (po_some pe_int) po_none) pa_nil)) (pa_cons (pe_callB (cr_maxTp rfl) (by rfl) T_max (by decide +kernel) (pa_cons (pe_slice sl_tup (pv 2) (po_some pe_int) po_none) pa_nil)) pa_nil)) (by rfl))
      (pss_cons (ps_set (i := 5) sc_l_mended.nd rfl (by first | exact Or.inl rfl | exact Or.inr rfl) (pe_df D_l_other hr (by decide) pass0 (pa_cons (pv 4) pa_nil)))
      (pss_cons (ps_set (i := 6) sc_l_mended.nd rfl (by first | exact Or.inl rfl | exact Or.inr rfl) pe_dnewK)
      (pss_cons (ps_lock (ps_for PassesOwn.never rfl (pi_keys (pv 0)) (pg_name (i := 7) sc_l_mended.nd rfl (by first | exact Or.inl rfl | exact Or.inr rfl))
      (pss_one (ps_if (pt_cmpR op_notIn_seq (pv 7) (pv 2) (by rfl)) (pss_cons (ps_set (i := 8) sc_l_mended.nd rfl (by first | exact Or.inl rfl | exact Or.inr rfl) (pe_dget (hu_of hr) (pv 0) (pv 7) (fun _ _ => rfl)))
      (pss_cons (ps_if (pt_cmpR op_eq (pv 8) (pv 5) (nomark _)) (pss_one (ps_set (i := 8) sc_l_mended.nd rfl (by first | exact Or.inl rfl | exact Or.inr rfl) (pv 3))) pss_nil)
      (pss_one (ps_if (pt_cmpR op_eq (pv 7) (pv 5) (nomark _)) (pss_one (ps_dput (hu_of hr) (pv 6) (pv 3) (pv 8) rfl)) (pss_one (ps_dput (hu_of hr) (pv 6) (pv 7) (pv 8) rfl)))))) pss_nil))))
      (pss_one (ps_ret (pv 6)))))))), pure_l_mended h⟩
theorem ok_l_without (F : FnIs K mg "_law_without" s_l_without ["_law_web", "_law_film"]) (D_l_corner : Df P w K mg base CX0 "_law_corner" 1 ["_law_web", "_law_end"] (sp_l_corner ⟨K, ad⟩)) (D_l_mended : Df P w K mg base CX0 "_law_mended" 2 ["_law_web", "_law_end"] (sp_l_mended ⟨K, ad⟩)) (D_l_other : Df P w K mg base CX0 "_law_other" 1 ["_law_end"] (sp_l_other ⟨K, ad⟩)) : Df P w K mg base CX0 "_law_without" 3 ["_law_web", "_law_film"] (sp_l_without ⟨K, ad⟩) :=
  Df.of F sc_l_without len_l_without fun f cdv A outer s H vs Q E hr h => ⟨t_l_without ⟨K, ad⟩, (pss_cons (ps_set (i := 2) sc_l_without.nd rfl (by first | exact Or.inl rfl | exact Or.inr rfl) (pe_df D_l_corner hr (by decide) pass0 (pa_cons (pv 0) (pa_cons (pe_op op_mul pe_int (pv 1)) pa_nil))))
      (pss_cons (ps_if (pt_cmpR op_notIn_seq (pe_op op_add (pe_op op_mul pe_int (pv 1)) pe_int) (pv 2) (by rfl)) (pss_one (ps_ret (pe_df D_l_mended hr (by decide) pass0 (pa_cons (pe_df D_l_mended hr (by decide) pass0 (pa_cons (pv 0) (pa_cons (pe_op op_mul pe_int (pv 1)) pa_nil))) (pa_cons (pe_op op_add (pe_op op_mul pe_int (pv 1)) pe_int) pa_nil))))) pss_nil)
      (pss_cons (ps_set (i := 3) sc_l_without.nd rfl (by first | exact Or.inl rfl | exact Or.inr rfl) pe_dnewK)
      (pss_cons (ps_lock (ps_for PassesOwn.never rfl (pi_keys (pv 0)) (pg_name (i := 4) sc_l_without.nd rfl (by first | exact Or.inl rfl | exact Or.inr rfl))
      (pss_one (ps_if (pt_cmpR op_notIn_seq (pv 4) (pv 2) (by rfl)) (pss_one (ps_dput (hu_of hr) (pv 3) (pv 4) (pe_dget (hu_of hr) (pv 0) (pv 4) (fun _ _ => rfl)) rfl)) pss_nil))))
      (pss_cons (ps_set (i := 5) sc_l_without.nd rfl (by first | exact Or.inl rfl | exact Or.inr rfl) (pe_ix ix_list (pe_lc (own := [("_law_at", 4)]) (g := (gName 4)) rfl sc_l_without.nd (pi_tup (pv 2)) (blkOk_by (N := ["_law_web", "_law_film", "_law_left", "_law_made", "_law_at", "_law_third"]) (sc := defScope s_l_without) (by decide +kernel)) (fun _ _ _ _ _ => (pg_name (i := 4) sc_l_without.nd rfl (by first | exact Or.inl rfl | exact Or.inr rfl))) (fun _ _ _ _ _ => (pts_one (pt_cmpR op_ne (pe_op op_fdivW (pv 4) pe_int) (pv 1) (nomark _)))) (fun _ _ _ _ _ => (pv 4))) pe_int (fun _ _ => rfl)))
      (pss_one (ps_ret (pe_df D_l_mended hr (by decide) pass0 (pa_cons (pv 3) (pa_cons (pe_df D_l_other hr (by decide) pass0 (pa_cons (pv 5) pa_nil)) pa_nil)))))))))), pure_l_without h⟩
theorem ok_l_blow (F : FnIs K mg "_law_blow" s_l_blow ["_law_web", "_law_end", "_law_first"]) (T_dict : mg "dict" = none) (D_l_corner : Df P w K mg base CX0 "_law_corner" 1 ["_law_web", "_law_end"] (sp_l_corner ⟨K, ad⟩)) (D_l_seat : Df P w K mg base CX0 "_law_seat" 1 ["_law_web", "_law_ends"] (sp_l_seat ⟨K, ad⟩)) : Df P w K mg base CX0 "_law_blow" 2 ["_law_web", "_law_end", "_law_first"] (sp_l_blow ⟨K, ad⟩) :=
  Df.of F sc_l_blow len_l_blow fun f cdv A outer s H vs Q E hr h => ⟨t_l_blow ⟨K, ad⟩, (pss_cons (ps_asg (pe_df D_l_corner hr (by decide) pass0 (pa_cons (pv 0) (pa_cons (pv 1) pa_nil))) (pg_tup rfl (pgs_cons (pg_name (i := 3) sc_l_blow.nd rfl (by first | exact Or.inl rfl | exact Or.inr rfl)) (pgs_cons (pg_name (i := 4) sc_l_blow.nd rfl (by first | exact Or.inl rfl | exact Or.inr rfl)) (pgs_cons (pg_name (i := 5) sc_l_blow.nd rfl (by first | exact Or.inl rfl | exact Or.inr rfl)) pgs_nil)))))
      (pss_cons (ps_set (i := 6) sc_l_blow.nd rfl (by first | exact Or.inl rfl | exact Or.inr rfl) (pe_callTy call_dictD (by rfl) T_dict (by decide +kernel) (pa_cons (pv 0) pa_nil)))
      (pss_cons (ps_set (i := 7) sc_l_blow.nd rfl (by first | exact Or.inl rfl | exact Or.inr rfl) (pe_op op_mul pe_int (pv 2)))
      (pss_cons (ps_expr (pe_df D_l_seat hr (by decide) pass0 (pa_cons (pv 6) (pa_cons (pe_tup (pa_cons (pv 3) (pa_cons (pv 7) (pa_cons (pe_op op_add (pv 7) pe_int) pa_nil)))) pa_nil))))
      (pss_cons (ps_expr (pe_df D_l_seat hr (by decide) pass0 (pa_cons (pv 6) (pa_cons (pe_tup (pa_cons (pv 4) (pa_cons (pe_op op_add (pv 7) pe_int) (pa_cons (pe_op op_add (pv 7) pe_int) pa_nil)))) pa_nil))))
      (pss_cons (ps_expr (pe_df D_l_seat hr (by decide) pass0 (pa_cons (pv 6) (pa_cons (pe_tup (pa_cons (pv 5) (pa_cons (pe_op op_add (pv 7) pe_int) (pa_cons (pe_op op_add (pv 7) pe_int) pa_nil)))) pa_nil))))
      (pss_one (ps_ret (pv 6))))))))), pure_l_blow h⟩
theorem ok_l_part (F : FnIs K mg "_law_part" s_l_part ["_law_web", "_law_one", "_law_two", "_law_first"]) (T_dict : mg "dict" = none) (D_l_other : Df P w K mg base CX0 "_law_other" 1 ["_law_end"] (sp_l_other ⟨K, ad⟩)) (D_l_corner : Df P w K mg base CX0 "_law_corner" 1 ["_law_web", "_law_end"] (sp_l_corner ⟨K, ad⟩)) (D_l_seat : Df P w K mg base CX0 "_law_seat" 1 ["_law_web", "_law_ends"] (sp_l_seat ⟨K, ad⟩)) : Df P w K mg base CX0 "_law_part" 2 ["_law_web", "_law_one", "_law_two", "_law_first"] (sp_l_part ⟨K, ad⟩) :=
  Df.of F sc_l_part len_l_part fun f cdv A outer s H vs Q E hr h => ⟨t_l_part ⟨K, ad⟩, (pss_cons (ps_set (i := 4) sc_l_part.nd rfl (by first | exact Or.inl rfl | exact Or.inr rfl) (pe_callTy call_dictD (by rfl) T_dict (by decide +kernel) (pa_cons (pv 0) pa_nil)))
      (pss_cons (ps_set (i := 5) sc_l_part.nd rfl (by first | exact Or.inl rfl | exact Or.inr rfl) (pe_op op_mul pe_int (pv 3)))
      (pss_cons (ps_for PassesOwn.never rfl (pi_tup (pe_tup (pa_cons (pe_tup (pa_cons (pe_df D_l_other hr (by decide) pass0 (pa_cons (pv 1) pa_nil)) (pa_cons (pe_op op_add (pv 5) pe_int) pa_nil))) (pa_cons (pe_tup (pa_cons (pe_df D_l_other hr (by decide) pass0 (pa_cons (pv 2) pa_nil)) (pa_cons (pe_op op_add (pv 5) pe_int) pa_nil))) pa_nil)))) (pg_tup rfl (pgs_cons (pg_name (i := 6) sc_l_part.nd rfl (by first | exact Or.inl rfl | exact Or.inr rfl)) (pgs_cons (pg_name (i := 7) sc_l_part.nd rfl (by first | exact Or.inl rfl | exact Or.inr rfl)) pgs_nil)))
      (pss_cons (ps_asg (pe_df D_l_corner hr (by decide) pass0 (pa_cons (pv 4) (pa_cons (pv 6) pa_nil))) (pg_tup rfl (pgs_cons (pg_name (i := 8) sc_l_part.nd rfl (by first | exact Or.inl rfl | exact Or.inr rfl)) (pgs_cons (pg_name (i := 9) sc_l_part.nd rfl (by first | exact Or.inl rfl | exact Or.inr rfl)) (pgs_cons (pg_name (i := 10) sc_l_part.nd rfl (by first | exact Or.inl rfl | exact Or.inr rfl)) pgs_nil)))))
      (pss_cons (ps_expr (pe_df D_l_seat hr (by decide) pass0 (pa_cons (pv 4) (pa_cons (pe_tup (pa_cons (pv 7) (pa_cons (pv 9) (pa_cons (pv 10) pa_nil)))) pa_nil))))
      (pss_one (ps_expr (pe_df D_l_seat hr (by decide) pass0 (pa_cons (pv 4) (pa_cons (pe_tup (pa_cons (pv 6) (pa_cons (pe_op op_add (pe_op op_add (pv 5) pe_int) (pe_op op_fdivW (pe_op op_sub (pv 7) (pv 5)) pe_int)) (pa_cons (pe_op op_sub (pv 7) pe_int) pa_nil)))) pa_nil))))))))
      (pss_one (ps_ret (pv 4)))))), pure_l_part h⟩
theorem ok_l_step (F : FnIs K mg "_law_step" s_l_step ["_law_web", "_law_first", "_law_cell_here"]) (T_list : mg "list" = none) (T_sorted : mg "sorted" = none) (T_len : mg "len" = none) (T_min : mg "min" = none) (D_l_digits : Df P w K mg base CX0 "_law_digits" 2 ["_law_cell_here", "_law_sizes"] (sp_l_digits ⟨K, ad⟩)) (D_l_rims : Df P w K mg base CX0 "_law_rims" 3 ["_law_web"] (sp_l_rims ⟨K, ad⟩)) (D_l_loop : Df P w K mg base CX0 "_law_loop" 2 ["_law_web", "_law_film"] (sp_l_loop ⟨K, ad⟩)) (D_l_push : Df P w K mg base CX0 "_law_push" 2 ["_law_web", "_law_film", "_law_back"] (sp_l_push ⟨K, ad⟩)) (D_l_one_bubble : Df P w K mg base CX0 "_law_one_bubble" 3 ["_law_web", "_law_film"] (sp_l_one_bubble ⟨K, ad⟩)) (D_l_without : Df P w K mg base CX0 "_law_without" 3 ["_law_web", "_law_film"] (sp_l_without ⟨K, ad⟩)) (D_l_blow : Df P w K mg base CX0 "_law_blow" 2 ["_law_web", "_law_end", "_law_first"] (sp_l_blow ⟨K, ad⟩)) (D_l_rim : Df P w K mg base CX0 "_law_rim" 2 ["_law_web", "_law_end"] (sp_l_rim ⟨K, ad⟩)) (D_l_part : Df P w K mg base CX0 "_law_part" 2 ["_law_web", "_law_one", "_law_two", "_law_first"] (sp_l_part ⟨K, ad⟩)) : Df P w K mg base CX0 "_law_step" 4 ["_law_web", "_law_first", "_law_cell_here"] (sp_l_step ⟨K, ad⟩) :=
  Df.of F sc_l_step len_l_step fun f cdv A outer s H vs Q E hr h => ⟨t_l_step ⟨K, ad⟩, (pss_cons (ps_asg (pe_df D_l_digits hr (by decide) pass0 (pa_cons (pv 2) (pa_cons (pe_lst (pa_cons pe_int (pa_cons pe_int (pa_cons pe_int pa_nil)))) pa_nil))) (pg_unl rfl (pgs_cons (pg_name (i := 3) sc_l_step.nd rfl (by first | exact Or.inl rfl | exact Or.inr rfl)) (pgs_cons (pg_name (i := 4) sc_l_step.nd rfl (by first | exact Or.inl rfl | exact Or.inr rfl)) (pgs_cons (pg_name (i := 5) sc_l_step.nd rfl (by first | exact Or.inl rfl | exact Or.inr rfl)) pgs_nil)))))
      (pss_cons (ps_set (i := 6) sc_l_step.nd rfl (by first | exact Or.inl rfl | exact Or.inr rfl) (pe_callB cr_sortedI (by rfl) T_sorted (by decide +kernel) (pa_cons (pe_callTy (call_listD rfl) (by rfl) T_list (by decide +kernel) (pa_cons (pv 0) pa_nil)) pa_nil)))
      (pss_cons (ps_set (i := 7) sc_l_step.nd rfl (by first | exact Or.inl rfl | exact Or.inr rfl) (pe_ix ix_list (pv 6) (pe_op op_mod (pv 4) (pe_callB call_len_seq (by rfl) T_len (by decide +kernel) (pa_cons (pv 6) pa_nil))) (fun _ _ => rfl)))
      (pss_cut (ps_if (pt_cmpR op_eq (pv 3) pe_int (nomark _)) (pss_cons (ps_set (i := 8) sc_l_step.nd rfl (by first | exact Or.inl rfl | exact Or.inr rfl) (pe_minLen rfl (by rfl) T_min (by rfl) T_len (pa_cons (pe_df D_l_rims hr (by decide) pass0 (pa_cons (pv 0) pa_nil)) pa_nil)))
      (pss_one (ps_set (i := 7) sc_l_step.nd rfl (by first | exact Or.inl rfl | exact Or.inr rfl) (pe_ix ix_list (pv 8) (pe_op op_mod (pv 5) (pe_callB call_len_seq (by rfl) T_len (by decide +kernel) (pa_cons (pv 8) pa_nil))) (fun _ _ => rfl))))) pss_nil)
      (pss_cons (ps_set (i := 9) sc_l_step.nd rfl (by first | exact Or.inl rfl | exact Or.inr rfl) (pe_op op_fdivW (pv 7) pe_int))
      (pss_cut (ps_if (PW.pt (pw_and (pt_cmpR op_in_seq (pv 3) (pe_tup (pa_cons pe_int (pa_cons pe_int (pa_cons pe_int (pa_cons pe_int pa_nil))))) (by rfl)) (pw_and1 (pt_not (pt_val (pe_df D_l_loop hr (by decide) pass0 (pa_cons (pv 0) (pa_cons (pv 9) pa_nil)))))))) (pss_one (ps_ret (pe_tup (pa_cons (pe_df D_l_push hr (by decide) pass0 (pa_cons (pv 0) (pa_cons (pv 9) (pa_cons (pe_cmpR op_eq (pv 3) pe_int (nomark _)) pa_nil)))) (pa_cons (pv 1) pa_nil))))) pss_nil)
      (pss_cut (ps_if (PW.pt (pw_and (pt_cmpR op_in_seq (pv 3) (pe_tup (pa_cons pe_int (pa_cons pe_int pa_nil))) (by rfl)) (pw_and1 (pt_not (pt_val (pe_df D_l_one_bubble hr (by decide) pass0 (pa_cons (pv 0) (pa_cons (pv 9) pa_nil)))))))) (pss_one (ps_ret (pe_tup (pa_cons (pe_df D_l_without hr (by decide) pass0 (pa_cons (pv 0) (pa_cons (pv 9) pa_nil))) (pa_cons (pv 1) pa_nil))))) pss_nil)
      (pss_cut (ps_if (PW.pt (pw_and (pt_cmpR op_eq (pv 3) pe_int (nomark _)) (pw_and1 (pt_cmpR op_lt (pe_callB call_lenRd (by rfl) T_len (by decide +kernel) (pa_cons (pv 0) pa_nil)) pe_int (nomark _))))) (pss_one (ps_ret (pe_tup (pa_cons (pe_df D_l_blow hr (by decide) pass0 (pa_cons (pv 0) (pa_cons (pv 7) (pa_cons (pv 1) pa_nil)))) (pa_cons (pe_op op_add (pv 1) pe_int) pa_nil))))) pss_nil)
      (pss_cut (ps_if (PW.pt (pw_and (pt_cmpR op_eq (pv 3) pe_int (nomark _)) (pw_and1 (pt_cmpR op_lt (pe_callB call_lenRd (by rfl) T_len (by decide +kernel) (pa_cons (pv 0) pa_nil)) pe_int (nomark _))))) (pss_cons (ps_set (i := 8) sc_l_step.nd rfl (by first | exact Or.inl rfl | exact Or.inr rfl) (pe_df D_l_rim hr (by decide) pass0 (pa_cons (pv 0) (pa_cons (pv 7) pa_nil))))
      (pss_cons (ps_set (i := 10) sc_l_step.nd rfl (by first | exact Or.inl rfl | exact Or.inr rfl) (pe_ix ix_list (pv 8) (pe_op op_mod (pv 5) (pe_callB call_len_seq (by rfl) T_len (by decide +kernel) (pa_cons (pv 8) pa_nil))) (fun _ _ => rfl)))
      (pss_one (ps_if (pt_cmpR op_ne (pe_op op_fdivW (pv 10) pe_int) (pv 9) (nomark _)) (pss_one (ps_ret (pe_tup (pa_cons (pe_df D_l_part hr (by decide) pass0 (pa_cons (pv 0) (pa_cons (pv 7) (pa_cons (pv 10) (pa_cons (pv 1) pa_nil))))) (pa_cons (pe_op op_add (pv 1) pe_int) pa_nil))))) pss_nil)))) pss_nil)
      (pss_one (ps_ret (pe_tup (pa_cons (pv 0) (pa_cons (pv 1) pa_nil)))))))))))))), pure_l_step h⟩
theorem ok_l_free_deeds (F : FnIs K mg "_law_free_deeds" s_l_free_deeds ["_law_web", "_law_first"]) (T_list : mg "list" = none) (T_sorted : mg "sorted" = none) (D_l_loop : Df P w K mg base CX0 "_law_loop" 2 ["_law_web", "_law_film"] (sp_l_loop ⟨K, ad⟩)) (D_l_one_bubble : Df P w K mg base CX0 "_law_one_bubble" 3 ["_law_web", "_law_film"] (sp_l_one_bubble ⟨K, ad⟩)) : Df P w K mg base CX0 "_law_free_deeds" 4 ["_law_web", "_law_first"] (sp_l_free_deeds ⟨K, ad⟩) :=
  Df.of F sc_l_free_deeds len_l_free_deeds fun f cdv A outer s H vs Q E hr h => ⟨t_l_free_deeds ⟨K, ad⟩, (pss_cons (ps_set (i := 2) sc_l_free_deeds.nd rfl (by first | exact Or.inl rfl | exact Or.inr rfl) (pe_lst pa_nil))
      (pss_cons (ps_for PassesOwn.never rfl (pi_list (pe_callB cr_sortedI (by rfl) T_sorted (by decide +kernel) (pa_cons (pe_callTy (call_listD rfl) (by rfl) T_list (by decide +kernel) (pa_cons (pv 0) pa_nil)) pa_nil))) (pg_name (i := 3) sc_l_free_deeds.nd rfl (by first | exact Or.inl rfl | exact Or.inr rfl))
      (pss_cons (ps_set (i := 4) sc_l_free_deeds.nd rfl (by first | exact Or.inl rfl | exact Or.inr rfl) (pe_op op_fdivW (pv 3) pe_int))
      (pss_cut (ps_if (PW.pt (pw_and (pt_cmpR op_lt (pv 3) (pe_dget (hu_of hr) (pv 0) (pv 3) (fun _ _ => rfl)) (nomark _)) (pw_and1 (pt_cmpR op_lt (pv 3) (pe_dget (hu_of hr) (pv 0) (pe_dget (hu_of hr) (pv 0) (pv 3) (fun _ _ => rfl)) (fun _ _ => rfl)) (nomark _))))) (pss_one (ps_expr (pe_bm PySem.F.plainAttrs_list PySem.F.slot_list_append PySem.F.type_list_append mt_append (pv 2) (pa_cons (pe_tup (pa_cons pe_str (pa_cons (pv 3) (pa_cons (pv 1) pa_nil)))) pa_nil)))) pss_nil)
      (pss_one (ps_if (PW.pt (pw_and (pt_cmpR op_eq (pe_op op_mod (pv 3) pe_int) pe_int (nomark _)) (pw_and1 (pt_not (pt_val (pe_df D_l_loop hr (by decide) pass0 (pa_cons (pv 0) (pa_cons (pv 4) pa_nil)))))))) (pss_cons (ps_expr (pe_bm PySem.F.plainAttrs_list PySem.F.slot_list_append PySem.F.type_list_append mt_append (pv 2) (pa_cons (pe_tup (pa_cons pe_str (pa_cons (pv 4) pa_nil))) pa_nil)))
      (pss_cons (ps_expr (pe_bm PySem.F.plainAttrs_list PySem.F.slot_list_append PySem.F.type_list_append mt_append (pv 2) (pa_cons (pe_tup (pa_cons pe_str (pa_cons (pv 4) pa_nil))) pa_nil)))
      (pss_one (ps_if (pt_not (pt_val (pe_df D_l_one_bubble hr (by decide) pass0 (pa_cons (pv 0) (pa_cons (pv 4) pa_nil))))) (pss_one (ps_expr (pe_bm PySem.F.plainAttrs_list PySem.F.slot_list_append PySem.F.type_list_append mt_append (pv 2) (pa_cons (pe_tup (pa_cons pe_str (pa_cons (pv 4) pa_nil))) pa_nil)))) pss_nil)))) pss_nil)))))
      (pss_one (ps_ret (pv 2))))), pure_l_free_deeds h⟩
theorem ok_l_touched (F : FnIs K mg "_law_touched" s_l_touched ["_law_web", "_law_order"]) (T_list : mg "list" = none) (D_l_corner : Df P w K mg base CX0 "_law_corner" 1 ["_law_web", "_law_end"] (sp_l_corner ⟨K, ad⟩)) (D_l_other : Df P w K mg base CX0 "_law_other" 1 ["_law_end"] (sp_l_other ⟨K, ad⟩)) : Df P w K mg base CX0 "_law_touched" 2 ["_law_web", "_law_order"] (sp_l_touched ⟨K, ad⟩) :=
  Df.of F sc_l_touched len_l_touched fun f cdv A outer s H vs Q E hr h => ⟨t_l_touched ⟨K, ad⟩, (pss_cons (ps_set (i := 2) sc_l_touched.nd rfl (by first | exact Or.inl rfl | exact Or.inr rfl) (pe_ix ix_tup (pv 1) pe_int (fun _ _ => rfl)))
      (pss_cons (ps_if (pt_cmpR op_ne (pe_ix ix_tup (pv 1) pe_int (fun _ _ => rfl)) pe_str (nomark _)) (pss_one (ps_set (i := 2) sc_l_touched.nd rfl (by first | exact Or.inl rfl | exact Or.inr rfl) (pe_op op_mul pe_int (pv 2)))) pss_nil)
      (pss_cons (ps_set (i := 3) sc_l_touched.nd rfl (by first | exact Or.inl rfl | exact Or.inr rfl) (pe_callTy call_list_of (by rfl) T_list (by decide +kernel) (pa_cons (pe_df D_l_corner hr (by decide) pass0 (pa_cons (pv 0) (pa_cons (pv 2) pa_nil))) pa_nil)))
      (pss_cons (ps_if (pt_cmpR op_ne (pe_ix ix_tup (pv 1) pe_int (fun _ _ => rfl)) pe_str (nomark _)) (pss_one (ps_set (i := 3) sc_l_touched.nd rfl (by first | exact Or.inl rfl | exact Or.inr rfl) (pe_op op_cat (pv 3) (pe_callTy call_list_of (by rfl) T_list (by decide +kernel) (pa_cons (pe_df D_l_corner hr (by decide) pass0 (pa_cons (pv 0) (pa_cons (pe_op op_add (pv 2) pe_int) pa_nil))) pa_nil))))) pss_nil)
      (pss_cons (ps_if (pt_cmpR op_eq (pe_ix ix_tup (pv 1) pe_int (fun _ _ => rfl)) pe_str (nomark _)) (pss_one (ps_for PassesOwn.never rfl (pi_list (pe_callTy call_list_of (by rfl) T_list (by decide +kernel) (pa_cons (pv 3) pa_nil))) (pg_name (i := 4) sc_l_touched.nd rfl (by first | exact Or.inl rfl | exact Or.inr rfl))
      (pss_one (ps_set (i := 3) sc_l_touched.nd rfl (by first | exact Or.inl rfl | exact Or.inr rfl) (pe_op op_cat (pv 3) (pe_callTy call_list_of (by rfl) T_list (by decide +kernel) (pa_cons (pe_df D_l_corner hr (by decide) pass0 (pa_cons (pv 0) (pa_cons (pe_df D_l_other hr (by decide) pass0 (pa_cons (pv 4) pa_nil)) pa_nil))) pa_nil))))))) pss_nil)
      (pss_one (ps_ret (pv 3)))))))), pure_l_touched h⟩
theorem ok_p_film_there (F : FnIs K mg "film_there" s_p_film_there ["web", "film"]) (X_NoFilm : Exq K mg "NoFilm" (ad "NoFilm")) : Df P w K mg base (L2.CX P w) "film_there" 1 ["web", "film"] (sp_p_film_there ⟨K, ad⟩) :=
  Df.ofX F sc_p_film_there len_p_film_there fun f cdv A outer s H vs Q E hr h => ⟨t_p_film_there ⟨K, ad⟩ E, (pss_one (ps_if (pt_cmp (pc_dnotin (hu_of hr) (pe_op op_mul pe_int (pv 1)) (pv 0))) (pss_one (ps_raise rfl (takes_of rfl rfl rfl rfl) (pmk_own PySem.F.excBase_ValueError X_NoFilm.q X_NoFilm.g X_NoFilm.k (raises_own X_NoFilm.b X_NoFilm.t) (by exact rfl)))) pss_nil)), pure_p_film_there h⟩
theorem ok_p_corner (F : FnIs K mg "corner" s_p_corner ["web", "end"]) (X_NoEnd : Exq K mg "NoEnd" (ad "NoEnd")) : Df P w K mg base (L2.CX P w) "corner" 1 ["web", "end"] (sp_p_corner ⟨K, ad⟩) :=
  Df.ofX F sc_p_corner len_p_corner fun f cdv A outer s H vs Q E hr h => ⟨t_p_corner ⟨K, ad⟩ E, (pss_cons (ps_if (pt_cmp (pc_dnotin (hu_of hr) (pv 1) (pv 0))) (pss_one (ps_raise rfl (takes_of rfl rfl rfl rfl) (pmk_own PySem.F.excBase_ValueError X_NoEnd.q X_NoEnd.g X_NoEnd.k (raises_own X_NoEnd.b X_NoEnd.t) (by exact rfl)))) pss_nil)
      (pss_one (ps_ret (pe_tup (pa_cons (pv 1) (pa_cons (pe_dget (hu_of hr) (pv 0) (pv 1) (fun _ _ => rfl)) (pa_cons (pe_dget (hu_of hr) (pv 0) (pe_dget (hu_of hr) (pv 0) (pv 1) (fun _ _ => rfl)) (fun _ _ => rfl)) pa_nil))))))), pure_p_corner h⟩
theorem ok_p_looped (F : FnIs K mg "looped" s_p_looped ["web", "film"]) (D_p_corner : Df P w K mg base (L2.CX P w) "corner" 1 ["web", "end"] (sp_p_corner ⟨K, ad⟩)) : Df P w K mg base CX0 "looped" 2 ["web", "film"] (sp_p_looped ⟨K, ad⟩) :=
  Df.of F sc_p_looped len_p_looped fun f cdv A outer s H vs Q E hr h => ⟨t_p_looped ⟨K, ad⟩, (pss_one (ps_ret (pe_cmpR op_in_seq (pe_op op_add (pe_op op_mul pe_int (pv 1)) pe_int) (pe_df D_p_corner hr (by decide) passL (pa_cons (pv 0) (pa_cons (pe_op op_mul pe_int (pv 1)) pa_nil))) (by rfl)))), pure_p_looped h⟩
theorem ok_p_two_corners (F : FnIs K mg "two_corners" s_p_two_corners ["web", "film"]) (X_Looped : Exq K mg "Looped" (ad "Looped")) (D_p_film_there : Df P w K mg base (L2.CX P w) "film_there" 1 ["web", "film"] (sp_p_film_there ⟨K, ad⟩)) (D_p_looped : Df P w K mg base CX0 "looped" 2 ["web", "film"] (sp_p_looped ⟨K, ad⟩)) (D_p_corner : Df P w K mg base (L2.CX P w) "corner" 1 ["web", "end"] (sp_p_corner ⟨K, ad⟩)) : Df P w K mg base (L2.CX P w) "two_corners" 3 ["web", "film"] (sp_p_two_corners ⟨K, ad⟩) :=
  Df.ofX F sc_p_two_corners len_p_two_corners fun f cdv A outer s H vs Q E hr h => ⟨t_p_two_corners ⟨K, ad⟩ E, (pss_cons (ps_expr (pe_df D_p_film_there hr (by decide) (passes_call (takes_of rfl rfl rfl rfl) fun _ _ _ _ h => h) (pa_cons (pv 0) (pa_cons (pv 1) pa_nil))))
      (pss_cons (ps_if (pt_val (pe_df D_p_looped hr (by decide) pass0 (pa_cons (pv 0) (pa_cons (pv 1) pa_nil)))) (pss_one (ps_raise rfl (takes_of rfl rfl rfl rfl) (pmk_own PySem.F.excBase_ValueError X_Looped.q X_Looped.g X_Looped.k (raises_own X_Looped.b X_Looped.t) (by exact rfl)))) pss_nil)
      (pss_one (ps_ret (pe_tup (pa_cons (pe_df D_p_corner hr (by decide) (passes_call (takes_of rfl rfl rfl rfl) fun _ _ _ _ h => h) (pa_cons (pv 0) (pa_cons (pe_op op_mul pe_int (pv 1)) pa_nil))) (pa_cons (pe_df D_p_corner hr (by decide) (passes_call (takes_of rfl rfl rfl rfl) fun _ _ _ _ h => h) (pa_cons (pv 0) (pa_cons (pe_op op_add (pe_op op_mul pe_int (pv 1)) pe_int) pa_nil))) pa_nil))))))), pure_p_two_corners h⟩
theorem ok_p_seat (F : FnIs K mg "seat" s_p_seat ["web", "ends"]) : Df P w K mg base CX0 "seat" 1 ["web", "ends"] (sp_p_seat ⟨K, ad⟩) :=
  Df.of F sc_p_seat len_p_seat fun f cdv A outer s H vs Q E hr h => ⟨t_p_seat ⟨K, ad⟩, (pss_cons (ps_dput (hu_of hr) (pv 0) (pe_ix ix_tup (pv 1) pe_int (fun _ _ => rfl)) (pe_ix ix_tup (pv 1) pe_int (fun _ _ => rfl)) rfl)
      (pss_cons (ps_dput (hu_of hr) (pv 0) (pe_ix ix_tup (pv 1) pe_int (fun _ _ => rfl)) (pe_ix ix_tup (pv 1) pe_int (fun _ _ => rfl)) rfl)
      (pss_one (ps_dput (hu_of hr) (pv 0) (pe_ix ix_tup (pv 1) pe_int (fun _ _ => rfl)) (pe_ix ix_tup (pv 1) pe_int (fun _ _ => rfl)) rfl)))), pure_p_seat h⟩
theorem ok_p_pushed (F : FnIs K mg "pushed" s_p_pushed ["web", "film"]) (T_dict : mg "dict" = none) (D_p_two_corners : Df P w K mg base (L2.CX P w) "two_corners" 3 ["web", "film"] (sp_p_two_corners ⟨K, ad⟩)) (D_p_seat : Df P w K mg base CX0 "seat" 1 ["web", "ends"] (sp_p_seat ⟨K, ad⟩)) : Df P w K mg base (L2.CX P w) "pushed" 4 ["web", "film"] (sp_p_pushed ⟨K, ad⟩) :=
  Df.ofX F sc_p_pushed len_p_pushed fun f cdv A outer s H vs Q E hr h => ⟨t_p_pushed ⟨K, ad⟩ E, (pss_cons (ps_asg (pe_df D_p_two_corners hr (by decide) (passes_call (takes_of rfl rfl rfl rfl) fun _ _ _ _ h => h) (pa_cons (pv 0) (pa_cons (pv 1) pa_nil))) (pg_tup rfl (pgs_cons (pg_tup rfl (pgs_cons (pg_name (i := 2) sc_p_pushed.nd rfl (by first | exact Or.inl rfl | exact Or.inr rfl)) (pgs_cons (pg_name (i := 3) sc_p_pushed.nd rfl (by first | exact Or.inl rfl | exact Or.inr rfl)) (pgs_cons (pg_name (i := 4) sc_p_pushed.nd rfl (by first | exact Or.inl rfl | exact Or.inr rfl)) pgs_nil)))) (pgs_cons (pg_tup rfl (pgs_cons (pg_name (i := 5) sc_p_pushed.nd rfl (by first | exact Or.inl rfl | exact Or.inr rfl)) (pgs_cons (pg_name (i := 6) sc_p_pushed.nd rfl (by first | exact Or.inl rfl | exact Or.inr rfl)) (pgs_cons (pg_name (i := 7) sc_p_pushed.nd rfl (by first | exact Or.inl rfl | exact Or.inr rfl)) pgs_nil)))) pgs_nil))))
      (pss_cons (ps_set (i := 8) sc_p_pushed.nd rfl (by first | exact Or.inl rfl | exact Or.inr rfl) (pe_callTy call_dictD (by rfl) T_dict (by decide +kernel) (pa_cons (pv 0) pa_nil)))
      (pss_cons (ps_expr (pe_df D_p_seat hr (by decide) pass0 (pa_cons (pv 8) (pa_cons (pe_tup (pa_cons (pv 2) (pa_cons (pv 4) (pa_cons (pv 6) pa_nil)))) pa_nil))))
      (pss_cons (ps_expr (pe_df D_p_seat hr (by decide) pass0 (pa_cons (pv 8) (pa_cons (pe_tup (pa_cons (pv 5) (pa_cons (pv 7) (pa_cons (pv 3) pa_nil)))) pa_nil))))
      (pss_one (ps_ret (pv 8))))))), pure_p_pushed h⟩
theorem ok_p_pulled (F : FnIs K mg "pulled" s_p_pulled ["web", "film"]) (T_dict : mg "dict" = none) (D_p_two_corners : Df P w K mg base (L2.CX P w) "two_corners" 3 ["web", "film"] (sp_p_two_corners ⟨K, ad⟩)) (D_p_seat : Df P w K mg base CX0 "seat" 1 ["web", "ends"] (sp_p_seat ⟨K, ad⟩)) : Df P w K mg base (L2.CX P w) "pulled" 4 ["web", "film"] (sp_p_pulled ⟨K, ad⟩) :=
  Df.ofX F sc_p_pulled len_p_pulled fun f cdv A outer s H vs Q E hr h => ⟨t_p_pulled ⟨K, ad⟩ E, (pss_cons (ps_asg (pe_df D_p_two_corners hr (by decide) (passes_call (takes_of rfl rfl rfl rfl) fun _ _ _ _ h => h) (pa_cons (pv 0) (pa_cons (pv 1) pa_nil))) (pg_tup rfl (pgs_cons (pg_tup rfl (pgs_cons (pg_name (i := 2) sc_p_pulled.nd rfl (by first | exact Or.inl rfl | exact Or.inr rfl)) (pgs_cons (pg_name (i := 3) sc_p_pulled.nd rfl (by first | exact Or.inl rfl | exact Or.inr rfl)) (pgs_cons (pg_name (i := 4) sc_p_pulled.nd rfl (by first | exact Or.inl rfl | exact Or.inr rfl)) pgs_nil)))) (pgs_cons (pg_tup rfl (pgs_cons (pg_name (i := 5) sc_p_pulled.nd rfl (by first | exact Or.inl rfl | exact Or.inr rfl)) (pgs_cons (pg_name (i := 6) sc_p_pulled.nd rfl (by first | exact Or.inl rfl | exact Or.inr rfl)) (pgs_cons (pg_name (i := 7) sc_p_pulled.nd rfl (by first | exact Or.inl rfl | exact Or.inr rfl)) pgs_nil)))) pgs_nil))))
      (pss_cons (ps_set (i := 8) sc_p_pulled.nd rfl (by first | exact Or.inl rfl | exact Or.inr rfl) (pe_callTy call_dictD (by rfl) T_dict (by decide +kernel) (pa_cons (pv 0) pa_nil)))
      (pss_cons (ps_expr (pe_df D_p_seat hr (by decide) pass0 (pa_cons (pv 8) (pa_cons (pe_tup (pa_cons (pv 2) (pa_cons (pv 7) (pa_cons (pv 3) pa_nil)))) pa_nil))))
      (pss_cons (ps_expr (pe_df D_p_seat hr (by decide) pass0 (pa_cons (pv 8) (pa_cons (pe_tup (pa_cons (pv 5) (pa_cons (pv 4) (pa_cons (pv 6) pa_nil)))) pa_nil))))
      (pss_one (ps_ret (pv 8))))))), pure_p_pulled h⟩
theorem ok_p_other (F : FnIs K mg "other" s_p_other ["end"]) : Df P w K mg base CX0 "other" 1 ["end"] (sp_p_other ⟨K, ad⟩) :=
  Df.of F sc_p_other len_p_other fun f cdv A outer s H vs Q E hr h => ⟨t_p_other ⟨K, ad⟩, (pss_one (ps_ret (pe_op op_sub (pe_op op_add (pv 0) pe_int) (pe_op op_mul pe_int (pe_op op_mod (pv 0) pe_int))))), pure_p_other h⟩
theorem ok_p_rim (F : FnIs K mg "rim" s_p_rim ["web", "end"]) (X_NoEnd : Exq K mg "NoEnd" (ad "NoEnd")) (D_p_other : Df P w K mg base CX0 "other" 1 ["end"] (sp_p_other ⟨K, ad⟩)) : Df P w K mg base (L2.CX P w) "rim" 2 ["web", "end"] (sp_p_rim ⟨K, ad⟩) :=
  Df.ofX F sc_p_rim len_p_rim fun f cdv A outer s H vs Q E hr h => ⟨t_p_rim ⟨K, ad⟩ E, (pss_cons (ps_if (pt_cmp (pc_dnotin (hu_of hr) (pv 1) (pv 0))) (pss_one (ps_raise rfl (takes_of rfl rfl rfl rfl) (pmk_own PySem.F.excBase_ValueError X_NoEnd.q X_NoEnd.g X_NoEnd.k (raises_own X_NoEnd.b X_NoEnd.t) (by exact rfl)))) pss_nil)
      (pss_cons (ps_set (i := 2) sc_p_rim.nd rfl (by first | exact Or.inl rfl | exact Or.inr rfl) (pe_lst (pa_cons (pv 1) pa_nil)))
      (pss_cons (ps_set (i := 3) sc_p_rim.nd rfl (by first | exact Or.inl rfl | exact Or.inr rfl) (pe_dget (hu_of hr) (pv 0) (pe_df D_p_other hr (by decide) pass0 (pa_cons (pv 1) pa_nil)) (fun _ _ => rfl)))
      (pss_cons (ps_while (passes_of rfl) (pt_cmpR op_ne (pv 3) (pv 1) (nomark _)) (pss_cons (ps_expr (pe_bm PySem.F.plainAttrs_list PySem.F.slot_list_append PySem.F.type_list_append mt_append (pv 2) (pa_cons (pv 3) pa_nil)))
      (pss_one (ps_set (i := 3) sc_p_rim.nd rfl (by first | exact Or.inl rfl | exact Or.inr rfl) (pe_dget (hu_of hr) (pv 0) (pe_df D_p_other hr (by decide) pass0 (pa_cons (pv 3) pa_nil)) (fun _ _ => rfl))))))
      (pss_one (ps_ret (pv 2))))))), pure_p_rim h⟩
theorem ok_p_put_in_place (F : FnIs K mg "put_in_place" s_p_put_in_place ["web", "end", "gone"]) : Df P w K mg base CX0 "put_in_place" 1 ["web", "end", "gone"] (sp_p_put_in_place ⟨K, ad⟩) :=
  Df.of F sc_p_put_in_place len_p_put_in_place fun f cdv A outer s H vs Q E hr h => ⟨t_p_put_in_place ⟨K, ad⟩, (pss_cons (ps_set (i := 3) sc_p_put_in_place.nd rfl (by first | exact Or.inl rfl | exact Or.inr rfl) (pe_dget (hu_of hr) (pv 0) (pv 2) (fun _ _ => rfl)))
      (pss_cons (ps_set (i := 4) sc_p_put_in_place.nd rfl (by first | exact Or.inl rfl | exact Or.inr rfl) (pe_dget (hu_of hr) (pv 0) (pv 3) (fun _ _ => rfl)))
      (pss_cons (ps_dput (hu_of hr) (pv 0) (pv 1) (pv 3) rfl)
      (pss_cons (ps_dput (hu_of hr) (pv 0) (pv 4) (pv 1) rfl)
      (pss_one (ps_expr (pe_dpop1 (pv 0) (pv 2) ⟨rfl, rfl, rfl, rfl⟩))))))), pure_p_put_in_place h⟩
theorem ok_p_mend (F : FnIs K mg "mend" s_p_mend ["web", "end"]) (T_min : mg "min" = none) (T_max : mg "max" = none) (D_p_other : Df P w K mg base CX0 "other" 1 ["end"] (sp_p_other ⟨K, ad⟩)) (D_p_put_in_place : Df P w K mg base CX0 "put_in_place" 1 ["web", "end", "gone"] (sp_p_put_in_place ⟨K, ad⟩)) : Df P w K mg base CX0 "mend" 2 ["web", "end"] (sp_p_mend ⟨K, ad⟩) :=
  Df.of F sc_p_mend len_p_mend fun f cdv A outer s H vs Q E hr h => ⟨t_p_mend ⟨K, ad⟩, (pss_cons (ps_par (by rfl) sc_p_mend.nd rfl rfl (by decide) rfl rfl (pa_cons (pe_dget (hu_of hr) (pv 0) (pv 1) (fun _ _ => rfl)) (pa_cons (pe_dget (hu_of hr) (pv 0) (pe_dget (hu_of hr) (pv 0) (pv 1) (fun _ _ => rfl)) (fun _ _ => rfl)) pa_nil)) (by rfl))
      (pss_cons (ps_par (by rfl) sc_p_mend.nd rfl rfl (by decide) rfl rfl (pa_cons (pe_callB (call_min2 rfl) (by rfl) T_min (by decide +kernel) (pa_cons (pv 2) (pa_cons (pv 3) pa_nil))) (pa_cons (pe_callB (call_max2 rfl) (by rfl) T_max (by decide +kernel) (pa_cons (pv 2) (pa_cons (pv 3) pa_nil))) pa_nil)) (by rfl))
      (pss_cons (ps_expr (pe_dpop1 (pv 0) (pv 1) ⟨rfl, rfl, rfl, rfl⟩))
      (pss_cons (ps_expr (pe_dpop1 (pv 0) (pv 5) ⟨rfl, rfl, rfl, rfl⟩))
      (pss_one (ps_expr (pe_df D_p_put_in_place hr (by decide) pass0 (pa_cons (pv 0) (pa_cons (pv 4) (pa_cons (pe_df D_p_other hr (by decide) pass0 (pa_cons (pv 5) pa_nil)) pa_nil)))))))))), pure_p_mend h⟩
theorem ok_p_without (F : FnIs K mg "without" s_p_without ["web", "film"]) (T_dict : mg "dict" = none) (D_p_looped : Df P w K mg base CX0 "looped" 2 ["web", "film"] (sp_p_looped ⟨K, ad⟩)) (D_p_mend : Df P w K mg base CX0 "mend" 2 ["web", "end"] (sp_p_mend ⟨K, ad⟩)) (D_p_corner : Df P w K mg base (L2.CX P w) "corner" 1 ["web", "end"] (sp_p_corner ⟨K, ad⟩)) (D_p_other : Df P w K mg base CX0 "other" 1 ["end"] (sp_p_other ⟨K, ad⟩)) : Df P w K mg base CX0 "without" 3 ["web", "film"] (sp_p_without ⟨K, ad⟩) :=
  Df.of F sc_p_without len_p_without fun f cdv A outer s H vs Q E hr h => ⟨t_p_without ⟨K, ad⟩, (pss_cons (ps_set (i := 2) sc_p_without.nd rfl (by first | exact Or.inl rfl | exact Or.inr rfl) (pe_callTy call_dictD (by rfl) T_dict (by decide +kernel) (pa_cons (pv 0) pa_nil)))
      (pss_cons (ps_set (i := 3) sc_p_without.nd rfl (by first | exact Or.inl rfl | exact Or.inr rfl) (pe_op op_mul pe_int (pv 1)))
      (pss_cons (ps_if (pt_not (pt_val (pe_df D_p_looped hr (by decide) pass0 (pa_cons (pv 0) (pa_cons (pv 1) pa_nil))))) (pss_cons (ps_expr (pe_df D_p_mend hr (by decide) pass0 (pa_cons (pv 2) (pa_cons (pv 3) pa_nil))))
      (pss_cons (ps_expr (pe_df D_p_mend hr (by decide) pass0 (pa_cons (pv 2) (pa_cons (pe_op op_add (pv 3) pe_int) pa_nil))))
      (pss_one (ps_ret (pv 2))))) pss_nil)
      (pss_cons (ps_set (i := 4) sc_p_without.nd rfl (by first | exact Or.inl rfl | exact Or.inr rfl) (pe_ix ix_list (pe_lc (own := [("end", 5)]) (g := (gName 5)) rfl sc_p_without.nd (pi_tup (pe_df D_p_corner hr (by decide) passL (pa_cons (pv 0) (pa_cons (pv 3) pa_nil)))) (blkOk_by (N := ["web", "film", "made", "low", "left", "end"]) (sc := defScope s_p_without) (by decide +kernel)) (fun _ _ _ _ _ => (pg_name (i := 5) sc_p_without.nd rfl (by first | exact Or.inl rfl | exact Or.inr rfl))) (fun _ _ _ _ _ => (pts_one (pt_cmpR op_ne (pe_op op_fdivW (pv 5) pe_int) (pv 1) (nomark _)))) (fun _ _ _ _ _ => (pv 5))) pe_int (fun _ _ => rfl)))
      (pss_cons (ps_for PassesOwn.never rfl (pi_tup (pe_tup (pa_cons (pv 3) (pa_cons (pe_op op_add (pv 3) pe_int) (pa_cons (pv 4) pa_nil))))) (pg_name (i := 5) sc_p_without.nd rfl (by first | exact Or.inl rfl | exact Or.inr rfl))
      (pss_one (ps_expr (pe_dpop1 (pv 2) (pv 5) ⟨rfl, rfl, rfl, rfl⟩))))
      (pss_cons (ps_expr (pe_df D_p_mend hr (by decide) pass0 (pa_cons (pv 2) (pa_cons (pe_df D_p_other hr (by decide) pass0 (pa_cons (pv 4) pa_nil)) pa_nil))))
      (pss_one (ps_ret (pv 2))))))))), pure_p_without h⟩
theorem ok_p_burst (F : FnIs K mg "burst" s_p_burst ["web", "film"]) (X_OneBubble : Exq K mg "OneBubble" (ad "OneBubble")) (D_p_film_there : Df P w K mg base (L2.CX P w) "film_there" 1 ["web", "film"] (sp_p_film_there ⟨K, ad⟩)) (D_p_rim : Df P w K mg base (L2.CX P w) "rim" 2 ["web", "end"] (sp_p_rim ⟨K, ad⟩)) (D_p_without : Df P w K mg base CX0 "without" 3 ["web", "film"] (sp_p_without ⟨K, ad⟩)) : Df P w K mg base (L2.CX P w) "burst" 4 ["web", "film"] (sp_p_burst ⟨K, ad⟩) :=
  Df.ofX F sc_p_burst len_p_burst fun f cdv A outer s H vs Q E hr h => ⟨t_p_burst ⟨K, ad⟩ E, (pss_cons (ps_expr (pe_df D_p_film_there hr (by decide) (passes_call (takes_of rfl rfl rfl rfl) fun _ _ _ _ h => h) (pa_cons (pv 0) (pa_cons (pv 1) pa_nil))))
      (pss_cons (ps_if (pt_cmpR op_in_seq (pe_op op_add (pe_op op_mul pe_int (pv 1)) pe_int) (pe_df D_p_rim hr (by decide) (passes_call (takes_of rfl rfl rfl rfl) fun _ _ _ _ h => h) (pa_cons (pv 0) (pa_cons (pe_op op_mul pe_int (pv 1)) pa_nil))) (by rfl)) (pss_one (ps_raise rfl (takes_of rfl rfl rfl rfl) (pmk_own PySem.F.excBase_ValueError X_OneBubble.q X_OneBubble.g X_OneBubble.k (raises_own X_OneBubble.b X_OneBubble.t) (by exact rfl)))) pss_nil)
      (pss_one (ps_ret (pe_df D_p_without hr (by decide) pass0 (pa_cons (pv 0) (pa_cons (pv 1) pa_nil))))))), pure_p_burst h⟩
theorem ok_p_halved (F : FnIs K mg "halved" s_p_halved ["web", "end", "far"]) (D_p_other : Df P w K mg base CX0 "other" 1 ["end"] (sp_p_other ⟨K, ad⟩)) : Df P w K mg base CX0 "halved" 2 ["web", "end", "far"] (sp_p_halved ⟨K, ad⟩) :=
  Df.of F sc_p_halved len_p_halved fun f cdv A outer s H vs Q E hr h => ⟨t_p_halved ⟨K, ad⟩, (pss_cons (ps_set (i := 3) sc_p_halved.nd rfl (by first | exact Or.inl rfl | exact Or.inr rfl) (pe_df D_p_other hr (by decide) pass0 (pa_cons (pv 1) pa_nil)))
      (pss_cons (ps_set (i := 4) sc_p_halved.nd rfl (by first | exact Or.inl rfl | exact Or.inr rfl) (pe_dget (hu_of hr) (pv 0) (pv 3) (fun _ _ => rfl)))
      (pss_cons (ps_set (i := 5) sc_p_halved.nd rfl (by first | exact Or.inl rfl | exact Or.inr rfl) (pe_dget (hu_of hr) (pv 0) (pv 4) (fun _ _ => rfl)))
      (pss_cons (ps_dput (hu_of hr) (pv 0) (pe_op op_add (pv 2) pe_int) (pv 4) rfl)
      (pss_one (ps_dput (hu_of hr) (pv 0) (pv 5) (pe_op op_add (pv 2) pe_int) rfl)))))), pure_p_halved h⟩
theorem ok_p_parted (F : FnIs K mg "parted" s_p_parted ["web", "one", "two", "first"]) (T_dict : mg "dict" = none) (X_NoEnd : Exq K mg "NoEnd" (ad "NoEnd")) (X_NotOne : Exq K mg "NotOne" (ad "NotOne")) (X_SameFilm : Exq K mg "SameFilm" (ad "SameFilm")) (D_p_rim : Df P w K mg base (L2.CX P w) "rim" 2 ["web", "end"] (sp_p_rim ⟨K, ad⟩)) (D_p_halved : Df P w K mg base CX0 "halved" 2 ["web", "end", "far"] (sp_p_halved ⟨K, ad⟩)) (D_p_other : Df P w K mg base CX0 "other" 1 ["end"] (sp_p_other ⟨K, ad⟩)) (D_p_seat : Df P w K mg base CX0 "seat" 1 ["web", "ends"] (sp_p_seat ⟨K, ad⟩)) : Df P w K mg base (L2.CX P w) "parted" 3 ["web", "one", "two", "first"] (sp_p_parted ⟨K, ad⟩) :=
  Df.ofX F sc_p_parted len_p_parted fun f cdv A outer s H vs Q E hr h => ⟨t_p_parted ⟨K, ad⟩ E, (pss_cons (ps_if (PW.pt (pw_or (pt_cmp (pc_dnotin (hu_of hr) (pv 1) (pv 0))) (pw_or1 (pt_cmp (pc_dnotin (hu_of hr) (pv 2) (pv 0)))))) (pss_one (ps_raise rfl (takes_of rfl rfl rfl rfl) (pmk_own PySem.F.excBase_ValueError X_NoEnd.q X_NoEnd.g X_NoEnd.k (raises_own X_NoEnd.b X_NoEnd.t) (by exact rfl)))) pss_nil)
      (pss_cons (ps_if (pt_cmpR op_notIn_seq (pv 2) (pe_df D_p_rim hr (by decide) (passes_call (takes_of rfl rfl rfl rfl) fun _ _ _ _ h => h) (pa_cons (pv 0) (pa_cons (pv 1) pa_nil))) (by rfl)) (pss_one (ps_raise rfl (takes_of rfl rfl rfl rfl) (pmk_own PySem.F.excBase_ValueError X_NotOne.q X_NotOne.g X_NotOne.k (raises_own X_NotOne.b X_NotOne.t) (by exact rfl)))) pss_nil)
      (pss_cons (ps_if (pt_cmpR op_eq (pe_op op_fdivW (pv 1) pe_int) (pe_op op_fdivW (pv 2) pe_int) (nomark _)) (pss_one (ps_raise rfl (takes_of rfl rfl rfl rfl) (pmk_own PySem.F.excBase_ValueError X_SameFilm.q X_SameFilm.g X_SameFilm.k (raises_own X_SameFilm.b X_SameFilm.t) (by exact rfl)))) pss_nil)
      (pss_cons (ps_set (i := 4) sc_p_parted.nd rfl (by first | exact Or.inl rfl | exact Or.inr rfl) (pe_callTy call_dictD (by rfl) T_dict (by decide +kernel) (pa_cons (pv 0) pa_nil)))
      (pss_cons (ps_set (i := 5) sc_p_parted.nd rfl (by first | exact Or.inl rfl | exact Or.inr rfl) (pe_op op_mul pe_int (pv 3)))
      (pss_cons (ps_expr (pe_df D_p_halved hr (by decide) pass0 (pa_cons (pv 4) (pa_cons (pv 1) (pa_cons (pv 5) pa_nil)))))
      (pss_cons (ps_expr (pe_df D_p_halved hr (by decide) pass0 (pa_cons (pv 4) (pa_cons (pv 2) (pa_cons (pe_op op_add (pv 5) pe_int) pa_nil)))))
      (pss_cons (ps_expr (pe_df D_p_seat hr (by decide) pass0 (pa_cons (pv 4) (pa_cons (pe_tup (pa_cons (pe_df D_p_other hr (by decide) pass0 (pa_cons (pv 1) pa_nil)) (pa_cons (pe_op op_add (pv 5) pe_int) (pa_cons (pv 5) pa_nil)))) pa_nil))))
      (pss_cons (ps_expr (pe_df D_p_seat hr (by decide) pass0 (pa_cons (pv 4) (pa_cons (pe_tup (pa_cons (pe_df D_p_other hr (by decide) pass0 (pa_cons (pv 2) pa_nil)) (pa_cons (pe_op op_add (pv 5) pe_int) (pa_cons (pe_op op_add (pv 5) pe_int) pa_nil)))) pa_nil))))
      (pss_one (ps_ret (pv 4)))))))))))), pure_p_parted h⟩
theorem ok_p_blown (F : FnIs K mg "blown" s_p_blown ["web", "end", "first"]) (T_dict : mg "dict" = none) (D_p_corner : Df P w K mg base (L2.CX P w) "corner" 1 ["web", "end"] (sp_p_corner ⟨K, ad⟩)) (D_p_seat : Df P w K mg base CX0 "seat" 1 ["web", "ends"] (sp_p_seat ⟨K, ad⟩)) : Df P w K mg base (L2.CX P w) "blown" 2 ["web", "end", "first"] (sp_p_blown ⟨K, ad⟩) :=
  Df.ofX F sc_p_blown len_p_blown fun f cdv A outer s H vs Q E hr h => ⟨t_p_blown ⟨K, ad⟩ E, (pss_cons (ps_asg (pe_df D_p_corner hr (by decide) (passes_call (takes_of rfl rfl rfl rfl) fun _ _ _ _ h => h) (pa_cons (pv 0) (pa_cons (pv 1) pa_nil))) (pg_tup rfl (pgs_cons (pg_name (i := 3) sc_p_blown.nd rfl (by first | exact Or.inl rfl | exact Or.inr rfl)) (pgs_cons (pg_name (i := 4) sc_p_blown.nd rfl (by first | exact Or.inl rfl | exact Or.inr rfl)) (pgs_cons (pg_name (i := 5) sc_p_blown.nd rfl (by first | exact Or.inl rfl | exact Or.inr rfl)) pgs_nil)))))
      (pss_cons (ps_set (i := 6) sc_p_blown.nd rfl (by first | exact Or.inl rfl | exact Or.inr rfl) (pe_callTy call_dictD (by rfl) T_dict (by decide +kernel) (pa_cons (pv 0) pa_nil)))
      (pss_cons (ps_set (i := 7) sc_p_blown.nd rfl (by first | exact Or.inl rfl | exact Or.inr rfl) (pe_op op_mul pe_int (pv 2)))
      (pss_cons (ps_expr (pe_df D_p_seat hr (by decide) pass0 (pa_cons (pv 6) (pa_cons (pe_tup (pa_cons (pv 3) (pa_cons (pv 7) (pa_cons (pe_op op_add (pv 7) pe_int) pa_nil)))) pa_nil))))
      (pss_cons (ps_expr (pe_df D_p_seat hr (by decide) pass0 (pa_cons (pv 6) (pa_cons (pe_tup (pa_cons (pv 4) (pa_cons (pe_op op_add (pv 7) pe_int) (pa_cons (pe_op op_add (pv 7) pe_int) pa_nil)))) pa_nil))))
      (pss_cons (ps_expr (pe_df D_p_seat hr (by decide) pass0 (pa_cons (pv 6) (pa_cons (pe_tup (pa_cons (pv 5) (pa_cons (pe_op op_add (pv 7) pe_int) (pa_cons (pe_op op_add (pv 7) pe_int) pa_nil)))) pa_nil))))
      (pss_one (ps_ret (pv 6))))))))), pure_p_blown h⟩
theorem ok_l_move (F : FnIs K mg "_law_move" s_l_move ["_law_web", "_law_order"]) (X_SameFilm : Exq K mg "SameFilm" (ad "SameFilm")) (X_NotOne : Exq K mg "NotOne" (ad "NotOne")) (X_OneBubble : Exq K mg "OneBubble" (ad "OneBubble")) (X_Looped : Exq K mg "Looped" (ad "Looped")) (X_NoEnd : Exq K mg "NoEnd" (ad "NoEnd")) (X_NoFilm : Exq K mg "NoFilm" (ad "NoFilm")) (XM0 : Exm ⟨K, ad⟩ ["NoFilm", "NoEnd", "Looped", "OneBubble", "NotOne", "SameFilm"]) (D_p_pushed : Df P w K mg base (L2.CX P w) "pushed" 4 ["web", "film"] (sp_p_pushed ⟨K, ad⟩)) (D_p_pulled : Df P w K mg base (L2.CX P w) "pulled" 4 ["web", "film"] (sp_p_pulled ⟨K, ad⟩)) (D_p_burst : Df P w K mg base (L2.CX P w) "burst" 4 ["web", "film"] (sp_p_burst ⟨K, ad⟩)) (D_p_parted : Df P w K mg base (L2.CX P w) "parted" 3 ["web", "one", "two", "first"] (sp_p_parted ⟨K, ad⟩)) (D_p_blown : Df P w K mg base (L2.CX P w) "blown" 2 ["web", "end", "first"] (sp_p_blown ⟨K, ad⟩)) : Df P w K mg base CX0 "_law_move" 5 ["_law_web", "_law_order"] (sp_l_move ⟨K, ad⟩) :=
  Df.of F sc_l_move len_l_move fun f cdv A outer s H vs Q E hr h => ⟨t_l_move ⟨K, ad⟩, (pss_cons (ps_set (i := 2) sc_l_move.nd rfl (by first | exact Or.inl rfl | exact Or.inr rfl) pe_str)
      (pss_cons (ps_set (i := 3) sc_l_move.nd rfl (by first | exact Or.inl rfl | exact Or.inr rfl) pe_non)
      (pss_cons (ps_tryM rfl rfl takes0 rfl (fun W pn xe tk po => (pss_one (ps_if (pt_cmpR op_eq (pe_ix ix_tup (pv 1) pe_int (fun _ _ => rfl)) pe_str (nomark _)) (pss_one (ps_set (i := 3) sc_l_move.nd rfl (by first | exact Or.inl rfl | exact Or.inr rfl) (pe_dfS D_p_pushed hr (by decide) (fun σ => passAt tk σ) (pa_cons (pv 0) (pa_cons (pe_ix ix_tup (pv 1) pe_int (fun _ _ => rfl)) pa_nil))))) (pss_one (ps_if (pt_cmpR op_eq (pe_ix ix_tup (pv 1) pe_int (fun _ _ => rfl)) pe_str (nomark _)) (pss_one (ps_set (i := 3) sc_l_move.nd rfl (by first | exact Or.inl rfl | exact Or.inr rfl) (pe_dfS D_p_pulled hr (by decide) (fun σ => passAt tk σ) (pa_cons (pv 0) (pa_cons (pe_ix ix_tup (pv 1) pe_int (fun _ _ => rfl)) pa_nil))))) (pss_one (ps_if (pt_cmpR op_eq (pe_ix ix_tup (pv 1) pe_int (fun _ _ => rfl)) pe_str (nomark _)) (pss_one (ps_set (i := 3) sc_l_move.nd rfl (by first | exact Or.inl rfl | exact Or.inr rfl) (pe_dfS D_p_burst hr (by decide) (fun σ => passAt tk σ) (pa_cons (pv 0) (pa_cons (pe_ix ix_tup (pv 1) pe_int (fun _ _ => rfl)) pa_nil))))) (pss_one (ps_if (pt_cmpR op_eq (pe_ix ix_tup (pv 1) pe_int (fun _ _ => rfl)) pe_str (nomark _)) (pss_one (ps_set (i := 3) sc_l_move.nd rfl (by first | exact Or.inl rfl | exact Or.inr rfl) (pe_dfS D_p_parted hr (by decide) (fun σ => passAt tk σ) (pa_cons (pv 0) (pa_cons (pe_ix ix_tup (pv 1) pe_int (fun _ _ => rfl)) (pa_cons (pe_ix ix_tup (pv 1) pe_int (fun _ _ => rfl)) (pa_cons (pe_ix ix_tup (pv 1) pe_int (fun _ _ => rfl)) pa_nil))))))) (pss_one (ps_set (i := 3) sc_l_move.nd rfl (by first | exact Or.inl rfl | exact Or.inr rfl) (pe_dfS D_p_blown hr (by decide) (fun σ => passAt tk σ) (pa_cons (pv 0) (pa_cons (pe_ix ix_tup (pv 1) pe_int (fun _ _ => rfl)) (pa_cons (pe_ix ix_tup (pv 1) pe_int (fun _ _ => rfl)) pa_nil))))))))))))))) (.cons ⟨rfl, by decide, .inl X_NoFilm.g⟩ (fun a oe cls d pn _ _ => (pss_one (ps_set (i := 2) sc_l_move.nd rfl (by first | exact Or.inl rfl | exact Or.inr rfl) pe_str))) (.cons ⟨rfl, by decide, .inl X_NoEnd.g⟩ (fun a oe cls d pn _ _ => (pss_one (ps_set (i := 2) sc_l_move.nd rfl (by first | exact Or.inl rfl | exact Or.inr rfl) pe_str))) (.cons ⟨rfl, by decide, .inl X_Looped.g⟩ (fun a oe cls d pn _ _ => (pss_one (ps_set (i := 2) sc_l_move.nd rfl (by first | exact Or.inl rfl | exact Or.inr rfl) pe_str))) (.cons ⟨rfl, by decide, .inl X_OneBubble.g⟩ (fun a oe cls d pn _ _ => (pss_one (ps_set (i := 2) sc_l_move.nd rfl (by first | exact Or.inl rfl | exact Or.inr rfl) pe_str))) (.cons ⟨rfl, by decide, .inl X_NotOne.g⟩ (fun a oe cls d pn _ _ => (pss_one (ps_set (i := 2) sc_l_move.nd rfl (by first | exact Or.inl rfl | exact Or.inr rfl) pe_str))) (.cons ⟨rfl, by decide, .inl X_SameFilm.g⟩ (fun a oe cls d pn _ _ => (pss_one (ps_set (i := 2) sc_l_move.nd rfl (by first | exact Or.inl rfl | exact Or.inr rfl) pe_str))) .nil)))))))
      (pss_one (ps_ret (pe_tup (pa_cons (pv 2) (pa_cons (pv 3) pa_nil)))))))), pure_l_move XM0 h⟩
theorem ok_l_both (F : FnIs K mg "_law_both" s_l_both ["_law_web", "_law_one", "_law_two"]) (T_dict : mg "dict" = none) (T_isinstance : mg "isinstance" = none) (D_l_move : Df P w K mg base CX0 "_law_move" 5 ["_law_web", "_law_order"] (sp_l_move ⟨K, ad⟩)) : Df P w K mg base CX0 "_law_both" 6 ["_law_web", "_law_one", "_law_two"] (sp_l_both ⟨K, ad⟩) :=
  Df.of F sc_l_both len_l_both fun f cdv A outer s H vs Q E hr h => ⟨t_l_both ⟨K, ad⟩, (pss_cons (ps_asg (pe_df D_l_move hr (by decide) pass0 (pa_cons (pe_callTy call_dictD (by rfl) T_dict (by decide +kernel) (pa_cons (pv 0) pa_nil)) (pa_cons (pv 1) pa_nil))) (pg_tup rfl (pgs_cons (pg_name (i := 3) sc_l_both.nd rfl (by first | exact Or.inl rfl | exact Or.inr rfl)) (pgs_cons (pg_name (i := 4) sc_l_both.nd rfl (by first | exact Or.inl rfl | exact Or.inr rfl)) pgs_nil))))
      (pss_cons (ps_if (PW.pt (pw_or (pt_cmpR op_ne (pv 3) pe_str (nomark _)) (pw_or1 (pt_not (pt_val (pe_callB call_isi (by rfl) T_isinstance (by decide +kernel) (pa_cons (pv 4) (pa_cons (pe_bltn (v := .ty "dict") (by rfl) T_dict (by decide +kernel) rfl) pa_nil)))))))) (pss_one (ps_ret pe_non)) pss_nil)
      (pss_cons (ps_asg (pe_df D_l_move hr (by decide) pass0 (pa_cons (pv 4) (pa_cons (pv 2) pa_nil))) (pg_tup rfl (pgs_cons (pg_name (i := 3) sc_l_both.nd rfl (by first | exact Or.inl rfl | exact Or.inr rfl)) (pgs_cons (pg_name (i := 4) sc_l_both.nd rfl (by first | exact Or.inl rfl | exact Or.inr rfl)) pgs_nil))))
      (pss_cons (ps_if (pt_cmpR op_ne (pv 3) pe_str (nomark _)) (pss_one (ps_ret pe_non)) pss_nil)
      (pss_one (ps_ret (pv 4))))))), pure_l_both h⟩
theorem ok_l_moved (F : FnIs K mg "_law_moved" s_l_moved ["_law_web", "_law_order"]) (D_l_push : Df P w K mg base CX0 "_law_push" 2 ["_law_web", "_law_film", "_law_back"] (sp_l_push ⟨K, ad⟩)) (D_l_without : Df P w K mg base CX0 "_law_without" 3 ["_law_web", "_law_film"] (sp_l_without ⟨K, ad⟩)) (D_l_part : Df P w K mg base CX0 "_law_part" 2 ["_law_web", "_law_one", "_law_two", "_law_first"] (sp_l_part ⟨K, ad⟩)) (D_l_blow : Df P w K mg base CX0 "_law_blow" 2 ["_law_web", "_law_end", "_law_first"] (sp_l_blow ⟨K, ad⟩)) : Df P w K mg base CX0 "_law_moved" 4 ["_law_web", "_law_order"] (sp_l_moved ⟨K, ad⟩) :=
  Df.of F sc_l_moved len_l_moved fun f cdv A outer s H vs Q E hr h => ⟨t_l_moved ⟨K, ad⟩, (pss_cons (ps_if (PW.pt (pw_or (pt_cmpR op_eq (pe_ix ix_tup (pv 1) pe_int (fun _ _ => rfl)) pe_str (nomark _)) (pw_or1 (pt_cmpR op_eq (pe_ix ix_tup (pv 1) pe_int (fun _ _ => rfl)) pe_str (nomark _))))) (pss_one (ps_ret (pe_df D_l_push hr (by decide) pass0 (pa_cons (pv 0) (pa_cons (pe_ix ix_tup (pv 1) pe_int (fun _ _ => rfl)) (pa_cons (pe_cmpR op_eq (pe_ix ix_tup (pv 1) pe_int (fun _ _ => rfl)) pe_str (nomark _)) pa_nil)))))) pss_nil)
      (pss_cons (ps_if (pt_cmpR op_eq (pe_ix ix_tup (pv 1) pe_int (fun _ _ => rfl)) pe_str (nomark _)) (pss_one (ps_ret (pe_df D_l_without hr (by decide) pass0 (pa_cons (pv 0) (pa_cons (pe_ix ix_tup (pv 1) pe_int (fun _ _ => rfl)) pa_nil))))) pss_nil)
      (pss_cons (ps_if (pt_cmpR op_eq (pe_ix ix_tup (pv 1) pe_int (fun _ _ => rfl)) pe_str (nomark _)) (pss_one (ps_ret (pe_df D_l_part hr (by decide) pass0 (pa_cons (pv 0) (pa_cons (pe_ix ix_tup (pv 1) pe_int (fun _ _ => rfl)) (pa_cons (pe_ix ix_tup (pv 1) pe_int (fun _ _ => rfl)) (pa_cons (pe_ix ix_tup (pv 1) pe_int (fun _ _ => rfl)) pa_nil))))))) pss_nil)
      (pss_one (ps_ret (pe_df D_l_blow hr (by decide) pass0 (pa_cons (pv 0) (pa_cons (pe_ix ix_tup (pv 1) pe_int (fun _ _ => rfl)) (pa_cons (pe_ix ix_tup (pv 1) pe_int (fun _ _ => rfl)) pa_nil))))))))), pure_l_moved h⟩
theorem ok_l_whole (F : FnIs K mg "_law_whole" s_l_whole ["_law_thing"]) (T_isinstance : mg "isinstance" = none) (T_int : mg "int" = none) (T_bool : mg "bool" = none) : Df P w K mg base CX0 "_law_whole" 1 ["_law_thing"] (sp_l_whole ⟨K, ad⟩) :=
  Df.of F sc_l_whole len_l_whole fun f cdv A outer s H vs Q E hr h => ⟨t_l_whole ⟨K, ad⟩, (pss_one (ps_ret (pe_and (pe_callB call_isi (by rfl) T_isinstance (by decide +kernel) (pa_cons (pv 0) (pa_cons (pe_bltn (v := .ty "int") (by rfl) T_int (by decide +kernel) rfl) pa_nil))) (pe_one (pe_not (pe_callB call_isi (by rfl) T_isinstance (by decide +kernel) (pa_cons (pv 0) (pa_cons (pe_bltn (v := .ty "bool") (by rfl) T_bool (by decide +kernel) rfl) pa_nil)))))))), pure_l_whole h⟩
theorem ok_l_is_web (F : FnIs K mg "_law_is_web" s_l_is_web ["_law_found", "_law_due"]) (T_isinstance : mg "isinstance" = none) (T_dict : mg "dict" = none) (T_len : mg "len" = none) (T_all : mg "all" = none) (D_l_whole : Df P w K mg base CX0 "_law_whole" 1 ["_law_thing"] (sp_l_whole ⟨K, ad⟩)) : Df P w K mg base CX0 "_law_is_web" 2 ["_law_found", "_law_due"] (sp_l_is_web ⟨K, ad⟩) :=
  Df.of F sc_l_is_web len_l_is_web fun f cdv A outer s H vs Q E hr h => ⟨t_l_is_web ⟨K, ad⟩, (pss_cons (ps_if (PW.pt (pw_or (pt_not (pt_val (pe_callB call_isi (by rfl) T_isinstance (by decide +kernel) (pa_cons (pv 0) (pa_cons (pe_bltn (v := .ty "dict") (by rfl) T_dict (by decide +kernel) rfl) pa_nil))))) (pw_or1 (pt_cmpR op_ne (pe_callB call_lenRd (by rfl) T_len (by decide +kernel) (pa_cons (pv 0) pa_nil)) (pe_callB call_lenRd (by rfl) T_len (by decide +kernel) (pa_cons (pv 1) pa_nil)) (nomark _))))) (pss_one (ps_ret pe_bl)) pss_nil)
      (pss_cons (ps_lock (ps_for PassesOwn.never rfl (pi_keys (pv 1)) (pg_name (i := 2) sc_l_is_web.nd rfl (by first | exact Or.inl rfl | exact Or.inr rfl))
      (pss_one (ps_if (PW.pt (pw_or (pt_cmp (pc_dnotin (hu_of hr) (pv 2) (pv 0))) (pw_or (pt_not (pt_val (pe_df D_l_whole hr (by decide) pass0 (pa_cons (pe_dget (hu_of hr) (pv 0) (pv 2) (fun _ _ => rfl)) pa_nil)))) (pw_or1 (pt_cmpR op_ne (pe_dget (hu_of hr) (pv 0) (pv 2) (fun _ _ => rfl)) (pe_dget (hu_of hr) (pv 1) (pv 2) (fun _ _ => rfl)) (nomark _)))))) (pss_one (ps_ret pe_bl)) pss_nil))))
      (pss_one (ps_ret (pe_callB (cr_all rfl) (by rfl) T_all (by decide +kernel) (pa_cons (pe_lock (pe_lc (own := [("_law_end", 2)]) (g := (gName 2)) rfl sc_l_is_web.nd (pi_keys (pv 0)) (blkOk_by (N := ["_law_found", "_law_due", "_law_end"]) (sc := defScope s_l_is_web) (by decide +kernel)) (fun _ _ _ _ _ => (pg_name (i := 2) sc_l_is_web.nd rfl (by first | exact Or.inl rfl | exact Or.inr rfl))) (fun _ _ _ _ _ => pts_nil) (fun _ _ _ _ _ => (pe_df D_l_whole hr (by decide) pass0 (pa_cons (pv 2) pa_nil))))) pa_nil)))))), pure_l_is_web h⟩
theorem ok_p_law {f : Addr} {fd : FuncData} (F : Fun K "law" "law" s_p_law f fd) (T_len : mg "len" = none) (T_any : mg "any" = none) (D_l_cell : Df P w K mg base CX0 "_law_cell" 1 ["_law_script", "_law_place"] (sp_l_cell ⟨K, ad⟩)) (D_l_digits : Df P w K mg base CX0 "_law_digits" 2 ["_law_cell_here", "_law_sizes"] (sp_l_digits ⟨K, ad⟩)) (D_l_comb : Df P w K mg base CX0 "_law_comb" 2 ["_law_rows", "_law_cols"] (sp_l_comb ⟨K, ad⟩)) (D_l_step : Df P w K mg base CX0 "_law_step" 4 ["_law_web", "_law_first", "_law_cell_here"] (sp_l_step ⟨K, ad⟩)) (D_l_free_deeds : Df P w K mg base CX0 "_law_free_deeds" 4 ["_law_web", "_law_first"] (sp_l_free_deeds ⟨K, ad⟩)) (D_l_touched : Df P w K mg base CX0 "_law_touched" 2 ["_law_web", "_law_order"] (sp_l_touched ⟨K, ad⟩)) (D_l_both : Df P w K mg base CX0 "_law_both" 6 ["_law_web", "_law_one", "_law_two"] (sp_l_both ⟨K, ad⟩)) (D_l_moved : Df P w K mg base CX0 "_law_moved" 4 ["_law_web", "_law_order"] (sp_l_moved ⟨K, ad⟩)) (D_l_is_web : Df P w K mg base CX0 "_law_is_web" 2 ["_law_found", "_law_due"] (sp_l_is_web ⟨K, ad⟩)) : FnOk P w K mg base CX0 7 f fd ["_law_script"] (spLaw ⟨K, ad⟩) :=
  F.ok sc_p_law len_p_law fun cdv A outer s H vs Q E hr h => ⟨t_p_law ⟨K, ad⟩, (pss_cons (ps_asg (pe_df D_l_digits hr (by decide) pass0 (pa_cons (pe_df D_l_cell hr (by decide) pass0 (pa_cons (pv 0) (pa_cons pe_int pa_nil))) (pa_cons (pe_lst (pa_cons pe_int (pa_cons pe_int (pa_cons pe_int (pa_cons pe_int pa_nil))))) pa_nil))) (pg_unl rfl (pgs_cons (pg_name (i := 1) sc_p_law.nd rfl (by first | exact Or.inl rfl | exact Or.inr rfl)) (pgs_cons (pg_name (i := 2) sc_p_law.nd rfl (by first | exact Or.inl rfl | exact Or.inr rfl)) (pgs_cons (pg_name (i := 3) sc_p_law.nd rfl (by first | exact Or.inl rfl | exact Or.inr rfl)) (pgs_cons (pg_name (i := 4) sc_p_law.nd rfl (by first | exact Or.inl rfl | exact Or.inr rfl)) pgs_nil))))))
      (pss_cons (ps_set (i := 5) sc_p_law.nd rfl (by first | exact Or.inl rfl | exact Or.inr rfl) (pe_df D_l_comb hr (by decide) pass0 (pa_cons pe_int (pa_cons pe_int pa_nil))))
      (pss_cons (ps_set (i := 6) sc_p_law.nd rfl (by first | exact Or.inl rfl | exact Or.inr rfl) pe_int)
      (pss_cut (ps_if (pt_cmpR op_eq (pv 1) pe_int (nomark _)) (pss_one (ps_par (by rfl) sc_p_law.nd rfl rfl (by decide) rfl rfl (pa_cons (pe_df D_l_comb hr (by decide) pass0 (pa_cons pe_int (pa_cons pe_int pa_nil))) (pa_cons pe_int pa_nil)) (by rfl))) pss_nil)
      (pss_cons (ps_for PassesOwn.never rfl (pi_list (pe_slice sl_list (pv 0) (po_some pe_int) (po_some pe_int))) (pg_name (i := 7) sc_p_law.nd rfl (by first | exact Or.inl rfl | exact Or.inr rfl))
      (pss_one (ps_asg (pe_df D_l_step hr (by decide) pass0 (pa_cons (pv 5) (pa_cons (pv 6) (pa_cons (pv 7) pa_nil)))) (pg_tup rfl (pgs_cons (pg_name (i := 5) sc_p_law.nd rfl (by first | exact Or.inl rfl | exact Or.inr rfl)) (pgs_cons (pg_name (i := 6) sc_p_law.nd rfl (by first | exact Or.inl rfl | exact Or.inr rfl)) pgs_nil))))))
      (pss_cons (ps_set (i := 8) sc_p_law.nd rfl (by first | exact Or.inl rfl | exact Or.inr rfl) (pe_df D_l_free_deeds hr (by decide) pass0 (pa_cons (pv 5) (pa_cons (pv 6) pa_nil))))
      (pss_cons (ps_if (pt_cmpR op_eq (pe_callB call_len_seq (by rfl) T_len (by decide +kernel) (pa_cons (pv 8) pa_nil)) pe_int (nomark _)) (pss_one (ps_ret pe_bl)) pss_nil)
      (pss_cons (ps_set (i := 9) sc_p_law.nd rfl (by first | exact Or.inl rfl | exact Or.inr rfl) (pe_ix ix_list (pv 8) (pe_op op_mod (pv 2) (pe_callB call_len_seq (by rfl) T_len (by decide +kernel) (pa_cons (pv 8) pa_nil))) (fun _ _ => rfl)))
      (pss_cons (ps_set (i := 10) sc_p_law.nd rfl (by first | exact Or.inl rfl | exact Or.inr rfl) (pe_df D_l_touched hr (by decide) pass0 (pa_cons (pv 5) (pa_cons (pv 9) pa_nil))))
      (pss_cons (ps_set (i := 11) sc_p_law.nd rfl (by first | exact Or.inl rfl | exact Or.inr rfl) (pe_lst pa_nil))
      (pss_cons (ps_for PassesOwn.never rfl (pi_list (pe_df D_l_free_deeds hr (by decide) pass0 (pa_cons (pv 5) (pa_cons (pe_op op_add (pv 6) pe_int) pa_nil)))) (pg_name (i := 12) sc_p_law.nd rfl (by first | exact Or.inl rfl | exact Or.inr rfl))
      (pss_one (ps_if (PW.pt (pw_or (pt_cmpR op_ne (pe_ix ix_tup (pv 12) pe_int (fun _ _ => rfl)) pe_str (nomark _)) (pw_or1 (pt_cmpR op_ne (pe_ix ix_tup (pv 9) pe_int (fun _ _ => rfl)) pe_str (nomark _))))) (pss_one (ps_if (pt_not (pt_val (pe_callB (cr_any rfl) (by rfl) T_any (by decide +kernel) (pa_cons (pe_lc (own := [("_law_at", 16)]) (g := (gName 16)) rfl sc_p_law.nd (pi_list (pe_df D_l_touched hr (by decide) pass0 (pa_cons (pv 5) (pa_cons (pv 12) pa_nil)))) (blkOk_by (N := ["_law_script", "_law_big", "_law_pick", "_law_spot", "_law_deep", "_law_web", "_law_first", "_law_cell_here", "_law_deeds", "_law_one", "_law_near", "_law_others", "_law_two", "_law_here", "_law_there", "_law_due", "_law_at"]) (sc := defScope s_p_law) (by decide +kernel)) (fun _ _ _ _ _ => (pg_name (i := 16) sc_p_law.nd rfl (by first | exact Or.inl rfl | exact Or.inr rfl))) (fun _ _ _ _ _ => pts_nil) (fun _ _ _ _ _ => (pe_cmpR op_in_seq (pv 16) (pv 10) (by rfl)))) pa_nil)))) (pss_one (ps_expr (pe_bm PySem.F.plainAttrs_list PySem.F.slot_list_append PySem.F.type_list_append mt_append (pv 11) (pa_cons (pv 12) pa_nil)))) pss_nil)) pss_nil)))
      (pss_cons (ps_if (pt_cmpR op_eq (pe_callB call_len_seq (by rfl) T_len (by decide +kernel) (pa_cons (pv 11) pa_nil)) pe_int (nomark _)) (pss_one (ps_ret pe_bl)) pss_nil)
      (pss_cons (ps_set (i := 12) sc_p_law.nd rfl (by first | exact Or.inl rfl | exact Or.inr rfl) (pe_ix ix_list (pv 11) (pe_op op_mod (pv 3) (pe_callB call_len_seq (by rfl) T_len (by decide +kernel) (pa_cons (pv 11) pa_nil))) (fun _ _ => rfl)))
      (pss_cons (ps_par (by rfl) sc_p_law.nd rfl rfl (by decide) rfl rfl (pa_cons (pe_df D_l_both hr (by decide) pass0 (pa_cons (pv 5) (pa_cons (pv 9) (pa_cons (pv 12) pa_nil)))) (pa_cons (pe_df D_l_both hr (by decide) pass0 (pa_cons (pv 5) (pa_cons (pv 12) (pa_cons (pv 9) pa_nil)))) pa_nil)) (by rfl))
      (pss_cons (ps_if (PW.pt (pw_or (pt_cmpR op_isN (pv 13) pe_non (nomark _)) (pw_or1 (pt_cmpR op_isN (pv 14) pe_non (nomark _))))) (pss_one (ps_ret (pe_and (pe_cmpR op_isN (pv 13) pe_non (nomark _)) (pe_and (pe_cmpR op_isN (pv 14) pe_non (nomark _)) (pe_and (pe_cmpR op_eq (pe_ix ix_tup (pv 9) pe_int (fun _ _ => rfl)) pe_str (nomark _)) (pe_one (pe_cmpR op_eq (pe_ix ix_tup (pv 12) pe_int (fun _ _ => rfl)) pe_str (nomark _)))))))) pss_nil)
      (pss_cons (ps_set (i := 15) sc_p_law.nd rfl (by first | exact Or.inl rfl | exact Or.inr rfl) (pe_df D_l_moved hr (by decide) pass0 (pa_cons (pe_df D_l_moved hr (by decide) pass0 (pa_cons (pv 5) (pa_cons (pv 9) pa_nil))) (pa_cons (pv 12) pa_nil))))
      (pss_one (ps_ret (pe_and (pe_df D_l_is_web hr (by decide) pass0 (pa_cons (pv 13) (pa_cons (pv 15) pa_nil))) (pe_one (pe_df D_l_is_web hr (by decide) pass0 (pa_cons (pv 14) (pa_cons (pv 15) pa_nil))))))))))))))))))))))), pure_p_law h⟩
end
theorem all_mk {l : PySem.W.OpenLaw} {w : World} {K : PySem.W.Frag} {h : Heap} {mg : Str → Option Value} {fa fl : Addr} (X : K.In h) (G : h.Ns mainGlobals mg) (hfa : mg "law" = some (.ref fa))
    (F_l_cell : FnIs K mg "_law_cell" s_l_cell ["_law_script", "_law_place"])
    (F_l_seed : FnIs K mg "_law_seed" s_l_seed ["_law_cell_here"])
    (F_l_digits : FnIs K mg "_law_digits" s_l_digits ["_law_cell_here", "_law_sizes"])
    (F_l_seat : FnIs K mg "_law_seat" s_l_seat ["_law_web", "_law_ends"])
    (F_l_comb : FnIs K mg "_law_comb" s_l_comb ["_law_rows", "_law_cols"])
    (F_l_other : FnIs K mg "_law_other" s_l_other ["_law_end"])
    (F_l_rim : FnIs K mg "_law_rim" s_l_rim ["_law_web", "_law_end"])
    (F_l_rims : FnIs K mg "_law_rims" s_l_rims ["_law_web"])
    (F_l_corner : FnIs K mg "_law_corner" s_l_corner ["_law_web", "_law_end"])
    (F_l_loop : FnIs K mg "_law_loop" s_l_loop ["_law_web", "_law_film"])
    (F_l_push : FnIs K mg "_law_push" s_l_push ["_law_web", "_law_film", "_law_back"])
    (F_l_one_bubble : FnIs K mg "_law_one_bubble" s_l_one_bubble ["_law_web", "_law_film"])
    (F_l_mended : FnIs K mg "_law_mended" s_l_mended ["_law_web", "_law_end"])
    (F_l_without : FnIs K mg "_law_without" s_l_without ["_law_web", "_law_film"])
    (F_l_blow : FnIs K mg "_law_blow" s_l_blow ["_law_web", "_law_end", "_law_first"])
    (F_l_part : FnIs K mg "_law_part" s_l_part ["_law_web", "_law_one", "_law_two", "_law_first"])
    (F_l_step : FnIs K mg "_law_step" s_l_step ["_law_web", "_law_first", "_law_cell_here"])
    (F_l_free_deeds : FnIs K mg "_law_free_deeds" s_l_free_deeds ["_law_web", "_law_first"])
    (F_l_touched : FnIs K mg "_law_touched" s_l_touched ["_law_web", "_law_order"])
    (F_p_film_there : FnIs K mg "film_there" s_p_film_there ["web", "film"])
    (F_p_corner : FnIs K mg "corner" s_p_corner ["web", "end"])
    (F_p_looped : FnIs K mg "looped" s_p_looped ["web", "film"])
    (F_p_two_corners : FnIs K mg "two_corners" s_p_two_corners ["web", "film"])
    (F_p_seat : FnIs K mg "seat" s_p_seat ["web", "ends"])
    (F_p_pushed : FnIs K mg "pushed" s_p_pushed ["web", "film"])
    (F_p_pulled : FnIs K mg "pulled" s_p_pulled ["web", "film"])
    (F_p_other : FnIs K mg "other" s_p_other ["end"])
    (F_p_rim : FnIs K mg "rim" s_p_rim ["web", "end"])
    (F_p_put_in_place : FnIs K mg "put_in_place" s_p_put_in_place ["web", "end", "gone"])
    (F_p_mend : FnIs K mg "mend" s_p_mend ["web", "end"])
    (F_p_without : FnIs K mg "without" s_p_without ["web", "film"])
    (F_p_burst : FnIs K mg "burst" s_p_burst ["web", "film"])
    (F_p_halved : FnIs K mg "halved" s_p_halved ["web", "end", "far"])
    (F_p_parted : FnIs K mg "parted" s_p_parted ["web", "one", "two", "first"])
    (F_p_blown : FnIs K mg "blown" s_p_blown ["web", "end", "first"])
    (F_l_move : FnIs K mg "_law_move" s_l_move ["_law_web", "_law_order"])
    (F_l_both : FnIs K mg "_law_both" s_l_both ["_law_web", "_law_one", "_law_two"])
    (F_l_moved : FnIs K mg "_law_moved" s_l_moved ["_law_web", "_law_order"])
    (F_l_whole : FnIs K mg "_law_whole" s_l_whole ["_law_thing"])
    (F_l_is_web : FnIs K mg "_law_is_web" s_l_is_web ["_law_found", "_law_due"])
    (z_len : PySem.W.nsIn K mainGlobals "len" = some none)
    (z_enumerate : PySem.W.nsIn K mainGlobals "enumerate" = some none)
    (z_range : PySem.W.nsIn K mainGlobals "range" = some none)
    (z_list : PySem.W.nsIn K mainGlobals "list" = some none)
    (z_sorted : PySem.W.nsIn K mainGlobals "sorted" = some none)
    (z_dict : PySem.W.nsIn K mainGlobals "dict" = some none)
    (z_min : PySem.W.nsIn K mainGlobals "min" = some none)
    (z_max : PySem.W.nsIn K mainGlobals "max" = some none)
    (z_isinstance : PySem.W.nsIn K mainGlobals "isinstance" = some none)
    (z_int : PySem.W.nsIn K mainGlobals "int" = some none)
    (z_bool : PySem.W.nsIn K mainGlobals "bool" = some none)
    (z_all : PySem.W.nsIn K mainGlobals "all" = some none)
    (z_any : PySem.W.nsIn K mainGlobals "any" = some none)
    {C_NoFilm : Addr} (a_NoFilm : PySem.W.nsIn K mainGlobals "NoFilm" = some (some (.ref C_NoFilm))) (q_NoFilm : PySem.W.excIn K C_NoFilm [.type "ValueError", .type "Exception", .type "BaseException", .type "object"] "ValueError.__new__" = true) (k_NoFilm : PySem.W.keepIn K (.ref C_NoFilm) = true) (b_NoFilm : PySem.W.subIn K (.ref C_NoFilm) (.type "BaseException") = some true) (t_NoFilm : PySem.W.typeIn K (.ref C_NoFilm) = some (.type "type")) (i_NoFilm : PySem.W.isClsIn K C_NoFilm = true)
    {C_NoEnd : Addr} (a_NoEnd : PySem.W.nsIn K mainGlobals "NoEnd" = some (some (.ref C_NoEnd))) (q_NoEnd : PySem.W.excIn K C_NoEnd [.type "ValueError", .type "Exception", .type "BaseException", .type "object"] "ValueError.__new__" = true) (k_NoEnd : PySem.W.keepIn K (.ref C_NoEnd) = true) (b_NoEnd : PySem.W.subIn K (.ref C_NoEnd) (.type "BaseException") = some true) (t_NoEnd : PySem.W.typeIn K (.ref C_NoEnd) = some (.type "type")) (i_NoEnd : PySem.W.isClsIn K C_NoEnd = true)
    {C_Looped : Addr} (a_Looped : PySem.W.nsIn K mainGlobals "Looped" = some (some (.ref C_Looped))) (q_Looped : PySem.W.excIn K C_Looped [.type "ValueError", .type "Exception", .type "BaseException", .type "object"] "ValueError.__new__" = true) (k_Looped : PySem.W.keepIn K (.ref C_Looped) = true) (b_Looped : PySem.W.subIn K (.ref C_Looped) (.type "BaseException") = some true) (t_Looped : PySem.W.typeIn K (.ref C_Looped) = some (.type "type")) (i_Looped : PySem.W.isClsIn K C_Looped = true)
    {C_OneBubble : Addr} (a_OneBubble : PySem.W.nsIn K mainGlobals "OneBubble" = some (some (.ref C_OneBubble))) (q_OneBubble : PySem.W.excIn K C_OneBubble [.type "ValueError", .type "Exception", .type "BaseException", .type "object"] "ValueError.__new__" = true) (k_OneBubble : PySem.W.keepIn K (.ref C_OneBubble) = true) (b_OneBubble : PySem.W.subIn K (.ref C_OneBubble) (.type "BaseException") = some true) (t_OneBubble : PySem.W.typeIn K (.ref C_OneBubble) = some (.type "type")) (i_OneBubble : PySem.W.isClsIn K C_OneBubble = true)
    {C_NotOne : Addr} (a_NotOne : PySem.W.nsIn K mainGlobals "NotOne" = some (some (.ref C_NotOne))) (q_NotOne : PySem.W.excIn K C_NotOne [.type "ValueError", .type "Exception", .type "BaseException", .type "object"] "ValueError.__new__" = true) (k_NotOne : PySem.W.keepIn K (.ref C_NotOne) = true) (b_NotOne : PySem.W.subIn K (.ref C_NotOne) (.type "BaseException") = some true) (t_NotOne : PySem.W.typeIn K (.ref C_NotOne) = some (.type "type")) (i_NotOne : PySem.W.isClsIn K C_NotOne = true)
    {C_SameFilm : Addr} (a_SameFilm : PySem.W.nsIn K mainGlobals "SameFilm" = some (some (.ref C_SameFilm))) (q_SameFilm : PySem.W.excIn K C_SameFilm [.type "ValueError", .type "Exception", .type "BaseException", .type "object"] "ValueError.__new__" = true) (k_SameFilm : PySem.W.keepIn K (.ref C_SameFilm) = true) (b_SameFilm : PySem.W.subIn K (.ref C_SameFilm) (.type "BaseException") = some true) (t_SameFilm : PySem.W.typeIn K (.ref C_SameFilm) = some (.type "type")) (i_SameFilm : PySem.W.isClsIn K C_SameFilm = true)
    (s_NoFilm_NoFilm : PySem.W.subIn K (.ref C_NoFilm) (.ref C_NoFilm) = some true)
    (s_NoFilm_NoEnd : PySem.W.subIn K (.ref C_NoFilm) (.ref C_NoEnd) = some false)
    (s_NoFilm_Looped : PySem.W.subIn K (.ref C_NoFilm) (.ref C_Looped) = some false)
    (s_NoFilm_OneBubble : PySem.W.subIn K (.ref C_NoFilm) (.ref C_OneBubble) = some false)
    (s_NoFilm_NotOne : PySem.W.subIn K (.ref C_NoFilm) (.ref C_NotOne) = some false)
    (s_NoFilm_SameFilm : PySem.W.subIn K (.ref C_NoFilm) (.ref C_SameFilm) = some false)
    (s_NoEnd_NoFilm : PySem.W.subIn K (.ref C_NoEnd) (.ref C_NoFilm) = some false)
    (s_NoEnd_NoEnd : PySem.W.subIn K (.ref C_NoEnd) (.ref C_NoEnd) = some true)
    (s_NoEnd_Looped : PySem.W.subIn K (.ref C_NoEnd) (.ref C_Looped) = some false)
    (s_NoEnd_OneBubble : PySem.W.subIn K (.ref C_NoEnd) (.ref C_OneBubble) = some false)
    (s_NoEnd_NotOne : PySem.W.subIn K (.ref C_NoEnd) (.ref C_NotOne) = some false)
    (s_NoEnd_SameFilm : PySem.W.subIn K (.ref C_NoEnd) (.ref C_SameFilm) = some false)
    (s_Looped_NoFilm : PySem.W.subIn K (.ref C_Looped) (.ref C_NoFilm) = some false)
    (s_Looped_NoEnd : PySem.W.subIn K (.ref C_Looped) (.ref C_NoEnd) = some false)
    (s_Looped_Looped : PySem.W.subIn K (.ref C_Looped) (.ref C_Looped) = some true)
    (s_Looped_OneBubble : PySem.W.subIn K (.ref C_Looped) (.ref C_OneBubble) = some false)
    (s_Looped_NotOne : PySem.W.subIn K (.ref C_Looped) (.ref C_NotOne) = some false)
    (s_Looped_SameFilm : PySem.W.subIn K (.ref C_Looped) (.ref C_SameFilm) = some false)
    (s_OneBubble_NoFilm : PySem.W.subIn K (.ref C_OneBubble) (.ref C_NoFilm) = some false)
    (s_OneBubble_NoEnd : PySem.W.subIn K (.ref C_OneBubble) (.ref C_NoEnd) = some false)
    (s_OneBubble_Looped : PySem.W.subIn K (.ref C_OneBubble) (.ref C_Looped) = some false)
    (s_OneBubble_OneBubble : PySem.W.subIn K (.ref C_OneBubble) (.ref C_OneBubble) = some true)
    (s_OneBubble_NotOne : PySem.W.subIn K (.ref C_OneBubble) (.ref C_NotOne) = some false)
    (s_OneBubble_SameFilm : PySem.W.subIn K (.ref C_OneBubble) (.ref C_SameFilm) = some false)
    (s_NotOne_NoFilm : PySem.W.subIn K (.ref C_NotOne) (.ref C_NoFilm) = some false)
    (s_NotOne_NoEnd : PySem.W.subIn K (.ref C_NotOne) (.ref C_NoEnd) = some false)
    (s_NotOne_Looped : PySem.W.subIn K (.ref C_NotOne) (.ref C_Looped) = some false)
    (s_NotOne_OneBubble : PySem.W.subIn K (.ref C_NotOne) (.ref C_OneBubble) = some false)
    (s_NotOne_NotOne : PySem.W.subIn K (.ref C_NotOne) (.ref C_NotOne) = some true)
    (s_NotOne_SameFilm : PySem.W.subIn K (.ref C_NotOne) (.ref C_SameFilm) = some false)
    (s_SameFilm_NoFilm : PySem.W.subIn K (.ref C_SameFilm) (.ref C_NoFilm) = some false)
    (s_SameFilm_NoEnd : PySem.W.subIn K (.ref C_SameFilm) (.ref C_NoEnd) = some false)
    (s_SameFilm_Looped : PySem.W.subIn K (.ref C_SameFilm) (.ref C_Looped) = some false)
    (s_SameFilm_OneBubble : PySem.W.subIn K (.ref C_SameFilm) (.ref C_OneBubble) = some false)
    (s_SameFilm_NotOne : PySem.W.subIn K (.ref C_SameFilm) (.ref C_NotOne) = some false)
    (s_SameFilm_SameFilm : PySem.W.subIn K (.ref C_SameFilm) (.ref C_SameFilm) = some true)
    {od an : Option Addr} {sl : Array (Option Value)} {oc kV dc pm cd ct : Value} (aL : PySem.W.nsIn K mainGlobals "law" = some (some (.ref fl))) (lL : K.lookup fl = some ⟨oc, od, .func (PySem.W.fnOf "law" "law" (defArgs s_p_law) (defBody s_p_law) (defScope s_p_law) .none kV dc pm an cd ct), sl⟩) (cL : PySem.W.codeIn K cd "law" = true) (kL : PySem.W.keepIn K (.ref fl) = true) :
    ∃ fd : FuncData, (∀ (s : Shared) (v : Value), BindsTo s fd ⟨[v], []⟩ [("_law_script", v)]) ∧ ∀ base : Heap, K.In base → base.Ns mainGlobals mg → FnOk l.prog w K mg base CX0 7 fa fd ["_law_script"] (spLaw ⟨K, fun _ => 0⟩) := by
  have e := hfa.symm.trans (PySem.W.mg_of X G aL)
  cases e
  have T_len := PySem.W.mg_none_of X G z_len
  have T_enumerate := PySem.W.mg_none_of X G z_enumerate
  have T_range := PySem.W.mg_none_of X G z_range
  have T_list := PySem.W.mg_none_of X G z_list
  have T_sorted := PySem.W.mg_none_of X G z_sorted
  have T_dict := PySem.W.mg_none_of X G z_dict
  have T_min := PySem.W.mg_none_of X G z_min
  have T_max := PySem.W.mg_none_of X G z_max
  have T_isinstance := PySem.W.mg_none_of X G z_isinstance
  have T_int := PySem.W.mg_none_of X G z_int
  have T_bool := PySem.W.mg_none_of X G z_bool
  have T_all := PySem.W.mg_none_of X G z_all
  have T_any := PySem.W.mg_none_of X G z_any
  obtain ⟨X_NoFilm, w_NoFilm⟩ := exq_mk X G a_NoFilm q_NoFilm k_NoFilm b_NoFilm t_NoFilm i_NoFilm
  obtain ⟨X_NoEnd, w_NoEnd⟩ := exq_mk X G a_NoEnd q_NoEnd k_NoEnd b_NoEnd t_NoEnd i_NoEnd
  obtain ⟨X_Looped, w_Looped⟩ := exq_mk X G a_Looped q_Looped k_Looped b_Looped t_Looped i_Looped
  obtain ⟨X_OneBubble, w_OneBubble⟩ := exq_mk X G a_OneBubble q_OneBubble k_OneBubble b_OneBubble t_OneBubble i_OneBubble
  obtain ⟨X_NotOne, w_NotOne⟩ := exq_mk X G a_NotOne q_NotOne k_NotOne b_NotOne t_NotOne i_NotOne
  obtain ⟨X_SameFilm, w_SameFilm⟩ := exq_mk X G a_SameFilm q_SameFilm k_SameFilm b_SameFilm t_SameFilm i_SameFilm
  have m_NoFilm_NoFilm := exm_pair b_NoFilm i_NoFilm t_NoFilm s_NoFilm_NoFilm
  rw [← w_NoFilm] at m_NoFilm_NoFilm
  have m_NoFilm_NoEnd := exm_pair b_NoEnd i_NoEnd t_NoEnd s_NoFilm_NoEnd
  rw [← w_NoFilm, ← w_NoEnd] at m_NoFilm_NoEnd
  have m_NoFilm_Looped := exm_pair b_Looped i_Looped t_Looped s_NoFilm_Looped
  rw [← w_NoFilm, ← w_Looped] at m_NoFilm_Looped
  have m_NoFilm_OneBubble := exm_pair b_OneBubble i_OneBubble t_OneBubble s_NoFilm_OneBubble
  rw [← w_NoFilm, ← w_OneBubble] at m_NoFilm_OneBubble
  have m_NoFilm_NotOne := exm_pair b_NotOne i_NotOne t_NotOne s_NoFilm_NotOne
  rw [← w_NoFilm, ← w_NotOne] at m_NoFilm_NotOne
  have m_NoFilm_SameFilm := exm_pair b_SameFilm i_SameFilm t_SameFilm s_NoFilm_SameFilm
  rw [← w_NoFilm, ← w_SameFilm] at m_NoFilm_SameFilm
  have m_NoEnd_NoFilm := exm_pair b_NoFilm i_NoFilm t_NoFilm s_NoEnd_NoFilm
  rw [← w_NoEnd, ← w_NoFilm] at m_NoEnd_NoFilm
  have m_NoEnd_NoEnd := exm_pair b_NoEnd i_NoEnd t_NoEnd s_NoEnd_NoEnd
  rw [← w_NoEnd] at m_NoEnd_NoEnd
  have m_NoEnd_Looped := exm_pair b_Looped i_Looped t_Looped s_NoEnd_Looped
  rw [← w_NoEnd, ← w_Looped] at m_NoEnd_Looped
  have m_NoEnd_OneBubble := exm_pair b_OneBubble i_OneBubble t_OneBubble s_NoEnd_OneBubble
  rw [← w_NoEnd, ← w_OneBubble] at m_NoEnd_OneBubble
  have m_NoEnd_NotOne := exm_pair b_NotOne i_NotOne t_NotOne s_NoEnd_NotOne
  rw [← w_NoEnd, ← w_NotOne] at m_NoEnd_NotOne
  have m_NoEnd_SameFilm := exm_pair b_SameFilm i_SameFilm t_SameFilm s_NoEnd_SameFilm
  rw [← w_NoEnd, ← w_SameFilm] at m_NoEnd_SameFilm
  have m_Looped_NoFilm := exm_pair b_NoFilm i_NoFilm t_NoFilm s_Looped_NoFilm
  rw [← w_Looped, ← w_NoFilm] at m_Looped_NoFilm
  have m_Looped_NoEnd := exm_pair b_NoEnd i_NoEnd t_NoEnd s_Looped_NoEnd
  rw [← w_Looped, ← w_NoEnd] at m_Looped_NoEnd
  have m_Looped_Looped := exm_pair b_Looped i_Looped t_Looped s_Looped_Looped
  rw [← w_Looped] at m_Looped_Looped
  have m_Looped_OneBubble := exm_pair b_OneBubble i_OneBubble t_OneBubble s_Looped_OneBubble
  rw [← w_Looped, ← w_OneBubble] at m_Looped_OneBubble
  have m_Looped_NotOne := exm_pair b_NotOne i_NotOne t_NotOne s_Looped_NotOne
  rw [← w_Looped, ← w_NotOne] at m_Looped_NotOne
  have m_Looped_SameFilm := exm_pair b_SameFilm i_SameFilm t_SameFilm s_Looped_SameFilm
  rw [← w_Looped, ← w_SameFilm] at m_Looped_SameFilm
  have m_OneBubble_NoFilm := exm_pair b_NoFilm i_NoFilm t_NoFilm s_OneBubble_NoFilm
  rw [← w_OneBubble, ← w_NoFilm] at m_OneBubble_NoFilm
  have m_OneBubble_NoEnd := exm_pair b_NoEnd i_NoEnd t_NoEnd s_OneBubble_NoEnd
  rw [← w_OneBubble, ← w_NoEnd] at m_OneBubble_NoEnd
  have m_OneBubble_Looped := exm_pair b_Looped i_Looped t_Looped s_OneBubble_Looped
  rw [← w_OneBubble, ← w_Looped] at m_OneBubble_Looped
  have m_OneBubble_OneBubble := exm_pair b_OneBubble i_OneBubble t_OneBubble s_OneBubble_OneBubble
  rw [← w_OneBubble] at m_OneBubble_OneBubble
  have m_OneBubble_NotOne := exm_pair b_NotOne i_NotOne t_NotOne s_OneBubble_NotOne
  rw [← w_OneBubble, ← w_NotOne] at m_OneBubble_NotOne
  have m_OneBubble_SameFilm := exm_pair b_SameFilm i_SameFilm t_SameFilm s_OneBubble_SameFilm
  rw [← w_OneBubble, ← w_SameFilm] at m_OneBubble_SameFilm
  have m_NotOne_NoFilm := exm_pair b_NoFilm i_NoFilm t_NoFilm s_NotOne_NoFilm
  rw [← w_NotOne, ← w_NoFilm] at m_NotOne_NoFilm
  have m_NotOne_NoEnd := exm_pair b_NoEnd i_NoEnd t_NoEnd s_NotOne_NoEnd
  rw [← w_NotOne, ← w_NoEnd] at m_NotOne_NoEnd
  have m_NotOne_Looped := exm_pair b_Looped i_Looped t_Looped s_NotOne_Looped
  rw [← w_NotOne, ← w_Looped] at m_NotOne_Looped
  have m_NotOne_OneBubble := exm_pair b_OneBubble i_OneBubble t_OneBubble s_NotOne_OneBubble
  rw [← w_NotOne, ← w_OneBubble] at m_NotOne_OneBubble
  have m_NotOne_NotOne := exm_pair b_NotOne i_NotOne t_NotOne s_NotOne_NotOne
  rw [← w_NotOne] at m_NotOne_NotOne
  have m_NotOne_SameFilm := exm_pair b_SameFilm i_SameFilm t_SameFilm s_NotOne_SameFilm
  rw [← w_NotOne, ← w_SameFilm] at m_NotOne_SameFilm
  have m_SameFilm_NoFilm := exm_pair b_NoFilm i_NoFilm t_NoFilm s_SameFilm_NoFilm
  rw [← w_SameFilm, ← w_NoFilm] at m_SameFilm_NoFilm
  have m_SameFilm_NoEnd := exm_pair b_NoEnd i_NoEnd t_NoEnd s_SameFilm_NoEnd
  rw [← w_SameFilm, ← w_NoEnd] at m_SameFilm_NoEnd
  have m_SameFilm_Looped := exm_pair b_Looped i_Looped t_Looped s_SameFilm_Looped
  rw [← w_SameFilm, ← w_Looped] at m_SameFilm_Looped
  have m_SameFilm_OneBubble := exm_pair b_OneBubble i_OneBubble t_OneBubble s_SameFilm_OneBubble
  rw [← w_SameFilm, ← w_OneBubble] at m_SameFilm_OneBubble
  have m_SameFilm_NotOne := exm_pair b_NotOne i_NotOne t_NotOne s_SameFilm_NotOne
  rw [← w_SameFilm, ← w_NotOne] at m_SameFilm_NotOne
  have m_SameFilm_SameFilm := exm_pair b_SameFilm i_SameFilm t_SameFilm s_SameFilm_SameFilm
  rw [← w_SameFilm] at m_SameFilm_SameFilm
  refine ⟨PySem.W.fnOf "law" "law" (defArgs s_p_law) (defBody s_p_law) (defScope s_p_law) .none kV dc pm an cd ct, fun s v => .of_eq rfl, fun base _ _ => ?_⟩
  have D_l_cell := ok_l_cell (P := l.prog) (w := w) (base := base) (ad := adOf mg) F_l_cell T_len
  have D_l_seed := ok_l_seed (P := l.prog) (w := w) (base := base) (ad := adOf mg) F_l_seed
  have D_l_digits := ok_l_digits (P := l.prog) (w := w) (base := base) (ad := adOf mg) F_l_digits T_enumerate D_l_seed
  have D_l_seat := ok_l_seat (P := l.prog) (w := w) (base := base) (ad := adOf mg) F_l_seat T_range
  have D_l_comb := ok_l_comb (P := l.prog) (w := w) (base := base) (ad := adOf mg) F_l_comb T_range D_l_seat
  have D_l_other := ok_l_other (P := l.prog) (w := w) (base := base) (ad := adOf mg) F_l_other
  have D_l_rim := ok_l_rim (P := l.prog) (w := w) (base := base) (ad := adOf mg) F_l_rim T_len T_range D_l_other
  have D_l_rims := ok_l_rims (P := l.prog) (w := w) (base := base) (ad := adOf mg) F_l_rims T_list T_sorted D_l_rim
  have D_l_corner := ok_l_corner (P := l.prog) (w := w) (base := base) (ad := adOf mg) F_l_corner
  have D_l_loop := ok_l_loop (P := l.prog) (w := w) (base := base) (ad := adOf mg) F_l_loop D_l_corner
  have D_l_push := ok_l_push (P := l.prog) (w := w) (base := base) (ad := adOf mg) F_l_push T_dict D_l_corner D_l_seat
  have D_l_one_bubble := ok_l_one_bubble (P := l.prog) (w := w) (base := base) (ad := adOf mg) F_l_one_bubble D_l_rim
  have D_l_mended := ok_l_mended (P := l.prog) (w := w) (base := base) (ad := adOf mg) F_l_mended T_min T_max D_l_corner D_l_other
  have D_l_without := ok_l_without (P := l.prog) (w := w) (base := base) (ad := adOf mg) F_l_without D_l_corner D_l_mended D_l_other
  have D_l_blow := ok_l_blow (P := l.prog) (w := w) (base := base) (ad := adOf mg) F_l_blow T_dict D_l_corner D_l_seat
  have D_l_part := ok_l_part (P := l.prog) (w := w) (base := base) (ad := adOf mg) F_l_part T_dict D_l_other D_l_corner D_l_seat
  have D_l_step := ok_l_step (P := l.prog) (w := w) (base := base) (ad := adOf mg) F_l_step T_list T_sorted T_len T_min D_l_digits D_l_rims D_l_loop D_l_push D_l_one_bubble D_l_without D_l_blow D_l_rim D_l_part
  have D_l_free_deeds := ok_l_free_deeds (P := l.prog) (w := w) (base := base) (ad := adOf mg) F_l_free_deeds T_list T_sorted D_l_loop D_l_one_bubble
  have D_l_touched := ok_l_touched (P := l.prog) (w := w) (base := base) (ad := adOf mg) F_l_touched T_list D_l_corner D_l_other
  have D_p_film_there := ok_p_film_there (P := l.prog) (w := w) (base := base) (ad := adOf mg) F_p_film_there X_NoFilm
  have D_p_corner := ok_p_corner (P := l.prog) (w := w) (base := base) (ad := adOf mg) F_p_corner X_NoEnd
  have D_p_looped := ok_p_looped (P := l.prog) (w := w) (base := base) (ad := adOf mg) F_p_looped D_p_corner
  have D_p_two_corners := ok_p_two_corners (P := l.prog) (w := w) (base := base) (ad := adOf mg) F_p_two_corners X_Looped D_p_film_there D_p_looped D_p_corner
  have D_p_seat := ok_p_seat (P := l.prog) (w := w) (base := base) (ad := adOf mg) F_p_seat
  have D_p_pushed := ok_p_pushed (P := l.prog) (w := w) (base := base) (ad := adOf mg) F_p_pushed T_dict D_p_two_corners D_p_seat
  have D_p_pulled := ok_p_pulled (P := l.prog) (w := w) (base := base) (ad := adOf mg) F_p_pulled T_dict D_p_two_corners D_p_seat
  have D_p_other := ok_p_other (P := l.prog) (w := w) (base := base) (ad := adOf mg) F_p_other
  have D_p_rim := ok_p_rim (P := l.prog) (w := w) (base := base) (ad := adOf mg) F_p_rim X_NoEnd D_p_other
  have D_p_put_in_place := ok_p_put_in_place (P := l.prog) (w := w) (base := base) (ad := adOf mg) F_p_put_in_place
  have D_p_mend := ok_p_mend (P := l.prog) (w := w) (base := base) (ad := adOf mg) F_p_mend T_min T_max D_p_other D_p_put_in_place
  have D_p_without := ok_p_without (P := l.prog) (w := w) (base := base) (ad := adOf mg) F_p_without T_dict D_p_looped D_p_mend D_p_corner D_p_other
  have D_p_burst := ok_p_burst (P := l.prog) (w := w) (base := base) (ad := adOf mg) F_p_burst X_OneBubble D_p_film_there D_p_rim D_p_without
  have D_p_halved := ok_p_halved (P := l.prog) (w := w) (base := base) (ad := adOf mg) F_p_halved D_p_other
  have D_p_parted := ok_p_parted (P := l.prog) (w := w) (base := base) (ad := adOf mg) F_p_parted T_dict X_NoEnd X_NotOne X_SameFilm D_p_rim D_p_halved D_p_other D_p_seat
  have D_p_blown := ok_p_blown (P := l.prog) (w := w) (base := base) (ad := adOf mg) F_p_blown T_dict D_p_corner D_p_seat
  have XM_l_move_0 : Exm ⟨K, adOf mg⟩ ["NoFilm", "NoEnd", "Looped", "OneBubble", "NotOne", "SameFilm"] := by
    intro i j x y hi hj
    match i, hi with
    | 0, hi =>
      cases hi
      match j, hj with
      | 0, hj => cases hj; exact m_NoFilm_NoFilm
      | 1, hj => cases hj; exact m_NoFilm_NoEnd
      | 2, hj => cases hj; exact m_NoFilm_Looped
      | 3, hj => cases hj; exact m_NoFilm_OneBubble
      | 4, hj => cases hj; exact m_NoFilm_NotOne
      | 5, hj => cases hj; exact m_NoFilm_SameFilm
      | j + 6, hj => cases hj
    | 1, hi =>
      cases hi
      match j, hj with
      | 0, hj => cases hj; exact m_NoEnd_NoFilm
      | 1, hj => cases hj; exact m_NoEnd_NoEnd
      | 2, hj => cases hj; exact m_NoEnd_Looped
      | 3, hj => cases hj; exact m_NoEnd_OneBubble
      | 4, hj => cases hj; exact m_NoEnd_NotOne
      | 5, hj => cases hj; exact m_NoEnd_SameFilm
      | j + 6, hj => cases hj
    | 2, hi =>
      cases hi
      match j, hj with
      | 0, hj => cases hj; exact m_Looped_NoFilm
      | 1, hj => cases hj; exact m_Looped_NoEnd
      | 2, hj => cases hj; exact m_Looped_Looped
      | 3, hj => cases hj; exact m_Looped_OneBubble
      | 4, hj => cases hj; exact m_Looped_NotOne
      | 5, hj => cases hj; exact m_Looped_SameFilm
      | j + 6, hj => cases hj
    | 3, hi =>
      cases hi
      match j, hj with
      | 0, hj => cases hj; exact m_OneBubble_NoFilm
      | 1, hj => cases hj; exact m_OneBubble_NoEnd
      | 2, hj => cases hj; exact m_OneBubble_Looped
      | 3, hj => cases hj; exact m_OneBubble_OneBubble
      | 4, hj => cases hj; exact m_OneBubble_NotOne
      | 5, hj => cases hj; exact m_OneBubble_SameFilm
      | j + 6, hj => cases hj
    | 4, hi =>
      cases hi
      match j, hj with
      | 0, hj => cases hj; exact m_NotOne_NoFilm
      | 1, hj => cases hj; exact m_NotOne_NoEnd
      | 2, hj => cases hj; exact m_NotOne_Looped
      | 3, hj => cases hj; exact m_NotOne_OneBubble
      | 4, hj => cases hj; exact m_NotOne_NotOne
      | 5, hj => cases hj; exact m_NotOne_SameFilm
      | j + 6, hj => cases hj
    | 5, hi =>
      cases hi
      match j, hj with
      | 0, hj => cases hj; exact m_SameFilm_NoFilm
      | 1, hj => cases hj; exact m_SameFilm_NoEnd
      | 2, hj => cases hj; exact m_SameFilm_Looped
      | 3, hj => cases hj; exact m_SameFilm_OneBubble
      | 4, hj => cases hj; exact m_SameFilm_NotOne
      | 5, hj => cases hj; exact m_SameFilm_SameFilm
      | j + 6, hj => cases hj
    | i + 6, hi => cases hi
  have D_l_move := ok_l_move (P := l.prog) (w := w) (base := base) (ad := adOf mg) F_l_move X_SameFilm X_NotOne X_OneBubble X_Looped X_NoEnd X_NoFilm (XM_l_move_0) D_p_pushed D_p_pulled D_p_burst D_p_parted D_p_blown
  have D_l_both := ok_l_both (P := l.prog) (w := w) (base := base) (ad := adOf mg) F_l_both T_dict T_isinstance D_l_move
  have D_l_moved := ok_l_moved (P := l.prog) (w := w) (base := base) (ad := adOf mg) F_l_moved D_l_push D_l_without D_l_part D_l_blow
  have D_l_whole := ok_l_whole (P := l.prog) (w := w) (base := base) (ad := adOf mg) F_l_whole T_isinstance T_int T_bool
  have D_l_is_web := ok_l_is_web (P := l.prog) (w := w) (base := base) (ad := adOf mg) F_l_is_web T_isinstance T_dict T_len T_all D_l_whole
  exact ok_p_law (ad := adOf mg) (fun_mk (st := s_p_law) lL cL kL) T_len T_any D_l_cell D_l_digits D_l_comb D_l_step D_l_free_deeds D_l_touched D_l_both D_l_moved D_l_is_web
theorem walk {l : PySem.W.OpenLaw} {q : Program} {loose : List Str} {XP : (Str → Option Value) → Heap → Prop} {YP : World → Heap → Prop} {d : DefRec} {K : Params → PySem.W.Frag} (hn : l.most = some 63) (hdf : d.params.defaults = [])
    (hY : ∀ (w : World) (h : Heap), YP w h → (K w.params).In h)
    (F : ∀ (w : World) (mg : Str → Option Value) (fa : Addr) (h : Heap), (K w.params).In h → h.Ns mainGlobals mg → mg d.name = some (.ref fa) →
      ∃ fd : FuncData, (∀ (s : Shared) (u : Value), BindsTo s fd ⟨[u], []⟩ [("_law_script", u)]) ∧ ∀ base : Heap, (K w.params).In base → base.Ns mainGlobals mg → FnOk l.prog w (K w.params) mg base CX0 7 fa fd ["_law_script"] (spLaw ⟨K w.params, fun _ => 0⟩)) :
    PySem.W.WalkO q loose XP YP l.row.toRowW d [] (fun f vs => PySem.call f vs) :=
  L2.walk_of (n := 63) (k := 7) (x := "_law_script") (CX := fun _ => CX0) (sp := fun w => spLaw ⟨K w.params, fun _ => 0⟩) hn (by decide) hdf ⟨rfl, by decide, by decide⟩ hY F (fun _ _ a ns hl _ hS => ⟨a, ns, rfl, hS, hl, fun _ => rfl⟩) fun _ _ _ _ _ z => z
end Fw
open PySem PySem.W PyProof.Rows
set_option maxRecDepth 100000 in
set_option maxHeartbeats 0 in
theorem PySem.Challenge.cw_frothwane_k22_whole_far_deeds_holds : PySem.Challenge.rw_frothwane_k22_whole_far_deeds.Holds := by
  w_on; o_law; k_head; (case hw => w_witness2)
  k_fill
  refine Fw.walk (l := PySem.Challenge.rw_frothwane_k22_whole_far_deeds) rfl rfl (fun w h Y => PySem.W.kIn_of Y) ?F
  case F =>
    intro w mg fa h KX G hmg
    refine' Fw.all_mk KX G hmg (Fw.fnis_mk KX G ?a0 ?l0 ?c0 ?k0 (fun _ _ _ _ _ _ us hl => match us, hl with | [_, _], _ => rfl)) (Fw.fnis_mk KX G ?a1 ?l1 ?c1 ?k1 (fun _ _ _ _ _ _ us hl => match us, hl with | [_], _ => rfl)) (Fw.fnis_mk KX G ?a2 ?l2 ?c2 ?k2 (fun _ _ _ _ _ _ us hl => match us, hl with | [_, _], _ => rfl)) (Fw.fnis_mk KX G ?a3 ?l3 ?c3 ?k3 (fun _ _ _ _ _ _ us hl => match us, hl with | [_, _], _ => rfl)) (Fw.fnis_mk KX G ?a4 ?l4 ?c4 ?k4 (fun _ _ _ _ _ _ us hl => match us, hl with | [_, _], _ => rfl)) (Fw.fnis_mk KX G ?a5 ?l5 ?c5 ?k5 (fun _ _ _ _ _ _ us hl => match us, hl with | [_], _ => rfl)) (Fw.fnis_mk KX G ?a6 ?l6 ?c6 ?k6 (fun _ _ _ _ _ _ us hl => match us, hl with | [_, _], _ => rfl)) (Fw.fnis_mk KX G ?a7 ?l7 ?c7 ?k7 (fun _ _ _ _ _ _ us hl => match us, hl with | [_], _ => rfl)) (Fw.fnis_mk KX G ?a8 ?l8 ?c8 ?k8 (fun _ _ _ _ _ _ us hl => match us, hl with | [_, _], _ => rfl)) (Fw.fnis_mk KX G ?a9 ?l9 ?c9 ?k9 (fun _ _ _ _ _ _ us hl => match us, hl with | [_, _], _ => rfl)) (Fw.fnis_mk KX G ?a10 ?l10 ?c10 ?k10 (fun _ _ _ _ _ _ us hl => match us, hl with | [_, _, _], _ => rfl)) (Fw.fnis_mk KX G ?a11 ?l11 ?c11 ?k11 (fun _ _ _ _ _ _ us hl => match us, hl with | [_, _], _ => rfl)) (Fw.fnis_mk KX G ?a12 ?l12 ?c12 ?k12 (fun _ _ _ _ _ _ us hl => match us, hl with | [_, _], _ => rfl)) (Fw.fnis_mk KX G ?a13 ?l13 ?c13 ?k13 (fun _ _ _ _ _ _ us hl => match us, hl with | [_, _], _ => rfl)) (Fw.fnis_mk KX G ?a14 ?l14 ?c14 ?k14 (fun _ _ _ _ _ _ us hl => match us, hl with | [_, _, _], _ => rfl)) (Fw.fnis_mk KX G ?a15 ?l15 ?c15 ?k15 (fun _ _ _ _ _ _ us hl => match us, hl with | [_, _, _, _], _ => rfl)) (Fw.fnis_mk KX G ?a16 ?l16 ?c16 ?k16 (fun _ _ _ _ _ _ us hl => match us, hl with | [_, _, _], _ => rfl)) (Fw.fnis_mk KX G ?a17 ?l17 ?c17 ?k17 (fun _ _ _ _ _ _ us hl => match us, hl with | [_, _], _ => rfl)) (Fw.fnis_mk KX G ?a18 ?l18 ?c18 ?k18 (fun _ _ _ _ _ _ us hl => match us, hl with | [_, _], _ => rfl)) (Fw.fnis_mk KX G ?a19 ?l19 ?c19 ?k19 (fun _ _ _ _ _ _ us hl => match us, hl with | [_, _], _ => rfl)) (Fw.fnis_mk KX G ?a20 ?l20 ?c20 ?k20 (fun _ _ _ _ _ _ us hl => match us, hl with | [_, _], _ => rfl)) (Fw.fnis_mk KX G ?a21 ?l21 ?c21 ?k21 (fun _ _ _ _ _ _ us hl => match us, hl with | [_, _], _ => rfl)) (Fw.fnis_mk KX G ?a22 ?l22 ?c22 ?k22 (fun _ _ _ _ _ _ us hl => match us, hl with | [_, _], _ => rfl)) (Fw.fnis_mk KX G ?a23 ?l23 ?c23 ?k23 (fun _ _ _ _ _ _ us hl => match us, hl with | [_, _], _ => rfl)) (Fw.fnis_mk KX G ?a24 ?l24 ?c24 ?k24 (fun _ _ _ _ _ _ us hl => match us, hl with | [_, _], _ => rfl)) (Fw.fnis_mk KX G ?a25 ?l25 ?c25 ?k25 (fun _ _ _ _ _ _ us hl => match us, hl with | [_, _], _ => rfl)) (Fw.fnis_mk KX G ?a26 ?l26 ?c26 ?k26 (fun _ _ _ _ _ _ us hl => match us, hl with | [_], _ => rfl)) (Fw.fnis_mk KX G ?a27 ?l27 ?c27 ?k27 (fun _ _ _ _ _ _ us hl => match us, hl with | [_, _], _ => rfl)) (Fw.fnis_mk KX G ?a28 ?l28 ?c28 ?k28 (fun _ _ _ _ _ _ us hl => match us, hl with | [_, _, _], _ => rfl)) (Fw.fnis_mk KX G ?a29 ?l29 ?c29 ?k29 (fun _ _ _ _ _ _ us hl => match us, hl with | [_, _], _ => rfl)) (Fw.fnis_mk KX G ?a30 ?l30 ?c30 ?k30 (fun _ _ _ _ _ _ us hl => match us, hl with | [_, _], _ => rfl)) (Fw.fnis_mk KX G ?a31 ?l31 ?c31 ?k31 (fun _ _ _ _ _ _ us hl => match us, hl with | [_, _], _ => rfl)) (Fw.fnis_mk KX G ?a32 ?l32 ?c32 ?k32 (fun _ _ _ _ _ _ us hl => match us, hl with | [_, _, _], _ => rfl)) (Fw.fnis_mk KX G ?a33 ?l33 ?c33 ?k33 (fun _ _ _ _ _ _ us hl => match us, hl with | [_, _, _, _], _ => rfl)) (Fw.fnis_mk KX G ?a34 ?l34 ?c34 ?k34 (fun _ _ _ _ _ _ us hl => match us, hl with | [_, _, _], _ => rfl)) (Fw.fnis_mk KX G ?a35 ?l35 ?c35 ?k35 (fun _ _ _ _ _ _ us hl => match us, hl with | [_, _], _ => rfl)) (Fw.fnis_mk KX G ?a36 ?l36 ?c36 ?k36 (fun _ _ _ _ _ _ us hl => match us, hl with | [_, _, _], _ => rfl)) (Fw.fnis_mk KX G ?a37 ?l37 ?c37 ?k37 (fun _ _ _ _ _ _ us hl => match us, hl with | [_, _], _ => rfl)) (Fw.fnis_mk KX G ?a38 ?l38 ?c38 ?k38 (fun _ _ _ _ _ _ us hl => match us, hl with | [_], _ => rfl)) (Fw.fnis_mk KX G ?a39 ?l39 ?c39 ?k39 (fun _ _ _ _ _ _ us hl => match us, hl with | [_, _], _ => rfl)) ?z_len ?z_enumerate ?z_range ?z_list ?z_sorted ?z_dict ?z_min ?z_max ?z_isinstance ?z_int ?z_bool ?z_all ?z_any ?a_NoFilm ?q_NoFilm ?k_NoFilm ?b_NoFilm ?t_NoFilm ?i_NoFilm ?a_NoEnd ?q_NoEnd ?k_NoEnd ?b_NoEnd ?t_NoEnd ?i_NoEnd ?a_Looped ?q_Looped ?k_Looped ?b_Looped ?t_Looped ?i_Looped ?a_OneBubble ?q_OneBubble ?k_OneBubble ?b_OneBubble ?t_OneBubble ?i_OneBubble ?a_NotOne ?q_NotOne ?k_NotOne ?b_NotOne ?t_NotOne ?i_NotOne ?a_SameFilm ?q_SameFilm ?k_SameFilm ?b_SameFilm ?t_SameFilm ?i_SameFilm ?s_NoFilm_NoFilm ?s_NoFilm_NoEnd ?s_NoFilm_Looped ?s_NoFilm_OneBubble ?s_NoFilm_NotOne ?s_NoFilm_SameFilm ?s_NoEnd_NoFilm ?s_NoEnd_NoEnd ?s_NoEnd_Looped ?s_NoEnd_OneBubble ?s_NoEnd_NotOne ?s_NoEnd_SameFilm ?s_Looped_NoFilm ?s_Looped_NoEnd ?s_Looped_Looped ?s_Looped_OneBubble ?s_Looped_NotOne ?s_Looped_SameFilm ?s_OneBubble_NoFilm ?s_OneBubble_NoEnd ?s_OneBubble_Looped ?s_OneBubble_OneBubble ?s_OneBubble_NotOne ?s_OneBubble_SameFilm ?s_NotOne_NoFilm ?s_NotOne_NoEnd ?s_NotOne_Looped ?s_NotOne_OneBubble ?s_NotOne_NotOne ?s_NotOne_SameFilm ?s_SameFilm_NoFilm ?s_SameFilm_NoEnd ?s_SameFilm_Looped ?s_SameFilm_OneBubble ?s_SameFilm_NotOne ?s_SameFilm_SameFilm ?aL ?lL ?cL ?kL
    (case a0 => k_is)
    (case l0 => k_is)
    (case c0 => k_is)
    (case k0 => k_is)
    (case a1 => k_is)
    (case l1 => k_is)
    (case c1 => k_is)
    (case k1 => k_is)
    (case a2 => k_is)
    (case l2 => k_is)
    (case c2 => k_is)
    (case k2 => k_is)
    (case a3 => k_is)
    (case l3 => k_is)
    (case c3 => k_is)
    (case k3 => k_is)
    (case a4 => k_is)
    (case l4 => k_is)
    (case c4 => k_is)
    (case k4 => k_is)
    (case a5 => k_is)
    (case l5 => k_is)
    (case c5 => k_is)
    (case k5 => k_is)
    (case a6 => k_is)
    (case l6 => k_is)
    (case c6 => k_is)
    (case k6 => k_is)
    (case a7 => k_is)
    (case l7 => k_is)
    (case c7 => k_is)
    (case k7 => k_is)
    (case a8 => k_is)
    (case l8 => k_is)
    (case c8 => k_is)
    (case k8 => k_is)
    (case a9 => k_is)
    (case l9 => k_is)
    (case c9 => k_is)
    (case k9 => k_is)
    (case a10 => k_is)
    (case l10 => k_is)
    (case c10 => k_is)
    (case k10 => k_is)
    (case a11 => k_is)
    (case l11 => k_is)
    (case c11 => k_is)
    (case k11 => k_is)
    (case a12 => k_is)
    (case l12 => k_is)
    (case c12 => k_is)
    (case k12 => k_is)
    (case a13 => k_is)
    (case l13 => k_is)
    (case c13 => k_is)
    (case k13 => k_is)
    (case a14 => k_is)
    (case l14 => k_is)
    (case c14 => k_is)
    (case k14 => k_is)
    (case a15 => k_is)
    (case l15 => k_is)
    (case c15 => k_is)
    (case k15 => k_is)
    (case a16 => k_is)
    (case l16 => k_is)
    (case c16 => k_is)
    (case k16 => k_is)
    (case a17 => k_is)
    (case l17 => k_is)
    (case c17 => k_is)
    (case k17 => k_is)
    (case a18 => k_is)
    (case l18 => k_is)
    (case c18 => k_is)
    (case k18 => k_is)
    (case a19 => k_is)
    (case l19 => k_is)
    (case c19 => k_is)
    (case k19 => k_is)
    (case a20 => k_is)
    (case l20 => k_is)
    (case c20 => k_is)
    (case k20 => k_is)
    (case a21 => k_is)
    (case l21 => k_is)
    (case c21 => k_is)
    (case k21 => k_is)
    (case a22 => k_is)
    (case l22 => k_is)
    (case c22 => k_is)
    (case k22 => k_is)
    (case a23 => k_is)
    (case l23 => k_is)
    (case c23 => k_is)
    (case k23 => k_is)
    (case a24 => k_is)
    (case l24 => k_is)
    (case c24 => k_is)
    (case k24 => k_is)
    (case a25 => k_is)
    (case l25 => k_is)
    (case c25 => k_is)
    (case k25 => k_is)
    (case a26 => k_is)
    (case l26 => k_is)
    (case c26 => k_is)
    (case k26 => k_is)
    (case a27 => k_is)
    (case l27 => k_is)
    (case c27 => k_is)
    (case k27 => k_is)
    (case a28 => k_is)
    (case l28 => k_is)
    (case c28 => k_is)
    (case k28 => k_is)
    (case a29 => k_is)
    (case l29 => k_is)
    (case c29 => k_is)
    (case k29 => k_is)
    (case a30 => k_is)
    (case l30 => k_is)
    (case c30 => k_is)
    (case k30 => k_is)
    (case a31 => k_is)
    (case l31 => k_is)
    (case c31 => k_is)
    (case k31 => k_is)
    (case a32 => k_is)
    (case l32 => k_is)
    (case c32 => k_is)
    (case k32 => k_is)
    (case a33 => k_is)
    (case l33 => k_is)
    (case c33 => k_is)
    (case k33 => k_is)
    (case a34 => k_is)
    (case l34 => k_is)
    (case c34 => k_is)
    (case k34 => k_is)
    (case a35 => k_is)
    (case l35 => k_is)
    (case c35 => k_is)
    (case k35 => k_is)
    (case a36 => k_is)
    (case l36 => k_is)
    (case c36 => k_is)
    (case k36 => k_is)
    (case a37 => k_is)
    (case l37 => k_is)
    (case c37 => k_is)
    (case k37 => k_is)
    (case a38 => k_is)
    (case l38 => k_is)
    (case c38 => k_is)
    (case k38 => k_is)
    (case a39 => k_is)
    (case l39 => k_is)
    (case c39 => k_is)
    (case k39 => k_is)
    (case z_len => k_is)
    (case z_enumerate => k_is)
    (case z_range => k_is)
    (case z_list => k_is)
    (case z_sorted => k_is)
    (case z_dict => k_is)
    (case z_min => k_is)
    (case z_max => k_is)
    (case z_isinstance => k_is)
    (case z_int => k_is)
    (case z_bool => k_is)
    (case z_all => k_is)
    (case z_any => k_is)
    (case a_NoFilm => k_is)
    (case q_NoFilm => k_exc)
    (case k_NoFilm => k_is)
    (case b_NoFilm => k_is)
    (case t_NoFilm => k_is)
    (case i_NoFilm => k_is)
    (case a_NoEnd => k_is)
    (case q_NoEnd => k_exc)
    (case k_NoEnd => k_is)
    (case b_NoEnd => k_is)
    (case t_NoEnd => k_is)
    (case i_NoEnd => k_is)
    (case a_Looped => k_is)
    (case q_Looped => k_exc)
    (case k_Looped => k_is)
    (case b_Looped => k_is)
    (case t_Looped => k_is)
    (case i_Looped => k_is)
    (case a_OneBubble => k_is)
    (case q_OneBubble => k_exc)
    (case k_OneBubble => k_is)
    (case b_OneBubble => k_is)
    (case t_OneBubble => k_is)
    (case i_OneBubble => k_is)
    (case a_NotOne => k_is)
    (case q_NotOne => k_exc)
    (case k_NotOne => k_is)
    (case b_NotOne => k_is)
    (case t_NotOne => k_is)
    (case i_NotOne => k_is)
    (case a_SameFilm => k_is)
    (case q_SameFilm => k_exc)
    (case k_SameFilm => k_is)
    (case b_SameFilm => k_is)
    (case t_SameFilm => k_is)
    (case i_SameFilm => k_is)
    (case s_NoFilm_NoFilm => first | rfl | k_is)
    (case s_NoFilm_NoEnd => first | rfl | k_is)
    (case s_NoFilm_Looped => first | rfl | k_is)
    (case s_NoFilm_OneBubble => first | rfl | k_is)
    (case s_NoFilm_NotOne => first | rfl | k_is)
    (case s_NoFilm_SameFilm => first | rfl | k_is)
    (case s_NoEnd_NoFilm => first | rfl | k_is)
    (case s_NoEnd_NoEnd => first | rfl | k_is)
    (case s_NoEnd_Looped => first | rfl | k_is)
    (case s_NoEnd_OneBubble => first | rfl | k_is)
    (case s_NoEnd_NotOne => first | rfl | k_is)
    (case s_NoEnd_SameFilm => first | rfl | k_is)
    (case s_Looped_NoFilm => first | rfl | k_is)
    (case s_Looped_NoEnd => first | rfl | k_is)
    (case s_Looped_Looped => first | rfl | k_is)
    (case s_Looped_OneBubble => first | rfl | k_is)
    (case s_Looped_NotOne => first | rfl | k_is)
    (case s_Looped_SameFilm => first | rfl | k_is)
    (case s_OneBubble_NoFilm => first | rfl | k_is)
    (case s_OneBubble_NoEnd => first | rfl | k_is)
    (case s_OneBubble_Looped => first | rfl | k_is)
    (case s_OneBubble_OneBubble => first | rfl | k_is)
    (case s_OneBubble_NotOne => first | rfl | k_is)
    (case s_OneBubble_SameFilm => first | rfl | k_is)
    (case s_NotOne_NoFilm => first | rfl | k_is)
    (case s_NotOne_NoEnd => first | rfl | k_is)
    (case s_NotOne_Looped => first | rfl | k_is)
    (case s_NotOne_OneBubble => first | rfl | k_is)
    (case s_NotOne_NotOne => first | rfl | k_is)
    (case s_NotOne_SameFilm => first | rfl | k_is)
    (case s_SameFilm_NoFilm => first | rfl | k_is)
    (case s_SameFilm_NoEnd => first | rfl | k_is)
    (case s_SameFilm_Looped => first | rfl | k_is)
    (case s_SameFilm_OneBubble => first | rfl | k_is)
    (case s_SameFilm_NotOne => first | rfl | k_is)
    (case s_SameFilm_SameFilm => first | rfl | k_is)
    (case aL => k_is)
    (case lL => k_is)
    (case cL => k_is)
    (case kL => k_is)
#print axioms PySem.Challenge.cw_frothwane_k22_whole_far_deeds_holds

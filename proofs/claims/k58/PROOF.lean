import PyProof.Rows.All
import Wide.All
import OpenK.AllK
import Wide.FinOn
import HandS.ForMost
import HandS.Exc
import HandS.ExcOwn
import HandS.Wide
import HandS.WideBits
import HandS.IsInst
import HandS.NoneIn
import HandS.Walk
import HandS.SortInts
import HandS.Style
import HandS.Flow
import HandS.FStr
import HandS.Conv
import HandS.Finally
import HandS.More
import HandS.TupAny
import HandS.SortKw
import KE.DataMinKey
import HandS.TryMany
import HandS.WordsExc
import HandS.SuiteRaise
import HandS.Deep
import HandS.CallLocal
import HandS.DictComp
import HandS.RaiseMore
import HandS.Text
import HandS.HeadHook3
import KE.IntTextLaws
import KE.KIntText
import HandS.Words
import KE.KStateDown
import HandS.Defaults
import HandS.Head0
import HandS.Head1
import HandS.Head2
import HandS.HeadEnd
import HandS.HeadHook1
import HandS.HeadHook2
import HandS.HeadHook4
import PySem.Challenge.RW_frothwane_k58_texts_that_write_no_order
set_option Elab.async false
set_option linter.all false
set_option maxRecDepth 100000
set_option maxHeartbeats 4000000
namespace Fw
open PySem L2
/-! Hr: the Hook of a head that the kernel runs. -/
def obsR (N : Nat) (fa : List He.Fa) (fn : List He.DefD) (ts : List He.Tab) (ex : PySem.W.Frag → Bool) (g : Addr → Option Obj) : He.AlX := (fun K => (He.obsT fa fn ts K, ex K)) (He.frT g (List.range N))
structure SaysR (fa : List He.Fa) (fn : List He.DefD) (ts : List He.Tab) (ex : PySem.W.Frag → Bool) (w : World) (K : PySem.W.Frag) : Prop where
  t : He.SaysT fa fn ts w K
  more : ex K = true
def hookR (N : Nat) (fa : List He.Fa) (fn : List He.DefD) (ts : List He.Tab) (ex : PySem.W.Frag → Bool) : PySem.W.Hook where
  α := He.AlX
  obs := fun s => obsR N fa fn ts ex s.heap.get?
  val := fun w => He.valX fn ts w
  says := fun w h => ∃ K : PySem.W.Frag, K.In h ∧ SaysR fa fn ts ex w K
  of := fun _ _ e => ⟨_, He.frT_in, ⟨congrArg (fun z : He.AlX => z.1) e, congrArg (fun z : He.AlX => z.2) e⟩⟩
  keeps := fun _ _ _ ⟨K, hK, c⟩ k => ⟨K, PySem.W.Frag.In.keeps hK k, c⟩
theorem obsR_eq {N : Nat} {fa : List He.Fa} {fn : List He.DefD} {ts : List He.Tab} {ex : PySem.W.Frag → Bool} {g : Addr → Option Obj} {s : Shared} (h : ∀ a, g a = s.heap.get? a) : obsR N fa fn ts ex g = (hookR N fa fn ts ex).obs s := by
  have e : g = s.heap.get? := funext h
  rw [e]
  rfl
def topS (i : Nat) : Stmt := PySem.Challenge.pw_frothwane_k58_texts_that_write_no_order.main.body.getD i (.Pass ⟨0, 0, 0, 0⟩)
abbrev s_l_cell : Stmt := topS 13
abbrev s_l_seed : Stmt := topS 10
abbrev s_l_digits : Stmt := topS 11
abbrev s_l_order_drawn : Stmt := topS 12
abbrev s_l_due_text : Stmt := topS 9
abbrev s_l_sign : Stmt := topS 14
abbrev s_l_bent : Stmt := topS 15
abbrev s_p_fits : Stmt := topS 6
abbrev s_p_is_number : Stmt := topS 5
abbrev s_p_read : Stmt := topS 7
abbrev s_l_read : Stmt := topS 16
abbrev s_l_is_figures : Stmt := topS 17
abbrev s_l_is_order_text : Stmt := topS 18
abbrev s_l_whole : Stmt := topS 19
abbrev s_l_is_order : Stmt := topS 20
abbrev s_p_law : Stmt := topS 21
abbrev dd_l_cell : He.DefD := ⟨("_law_cell", none), "_law_cell", "_law_cell", defArgs s_l_cell, defBody s_l_cell, defScope s_l_cell, [], []⟩
abbrev dd_l_seed : He.DefD := ⟨("_law_seed", none), "_law_seed", "_law_seed", defArgs s_l_seed, defBody s_l_seed, defScope s_l_seed, [], []⟩
abbrev dd_l_digits : He.DefD := ⟨("_law_digits", none), "_law_digits", "_law_digits", defArgs s_l_digits, defBody s_l_digits, defScope s_l_digits, [], []⟩
abbrev dd_l_order_drawn : He.DefD := ⟨("_law_order_drawn", none), "_law_order_drawn", "_law_order_drawn", defArgs s_l_order_drawn, defBody s_l_order_drawn, defScope s_l_order_drawn, [], []⟩
abbrev dd_l_due_text : He.DefD := ⟨("_law_due_text", none), "_law_due_text", "_law_due_text", defArgs s_l_due_text, defBody s_l_due_text, defScope s_l_due_text, [], []⟩
abbrev dd_l_sign : He.DefD := ⟨("_law_sign", none), "_law_sign", "_law_sign", defArgs s_l_sign, defBody s_l_sign, defScope s_l_sign, [], []⟩
abbrev dd_l_bent : He.DefD := ⟨("_law_bent", none), "_law_bent", "_law_bent", defArgs s_l_bent, defBody s_l_bent, defScope s_l_bent, [], []⟩
abbrev dd_p_fits : He.DefD := ⟨("fits", none), "fits", "fits", defArgs s_p_fits, defBody s_p_fits, defScope s_p_fits, [], []⟩
abbrev dd_p_is_number : He.DefD := ⟨("is_number", none), "is_number", "is_number", defArgs s_p_is_number, defBody s_p_is_number, defScope s_p_is_number, [], []⟩
abbrev dd_p_read : He.DefD := ⟨("read", none), "read", "read", defArgs s_p_read, defBody s_p_read, defScope s_p_read, [], []⟩
abbrev dd_l_read : He.DefD := ⟨("_law_read", none), "_law_read", "_law_read", defArgs s_l_read, defBody s_l_read, defScope s_l_read, [], []⟩
abbrev dd_l_is_figures : He.DefD := ⟨("_law_is_figures", none), "_law_is_figures", "_law_is_figures", defArgs s_l_is_figures, defBody s_l_is_figures, defScope s_l_is_figures, [], []⟩
abbrev dd_l_is_order_text : He.DefD := ⟨("_law_is_order_text", none), "_law_is_order_text", "_law_is_order_text", defArgs s_l_is_order_text, defBody s_l_is_order_text, defScope s_l_is_order_text, [], []⟩
abbrev dd_l_whole : He.DefD := ⟨("_law_whole", none), "_law_whole", "_law_whole", defArgs s_l_whole, defBody s_l_whole, defScope s_l_whole, [], []⟩
abbrev dd_l_is_order : He.DefD := ⟨("_law_is_order", none), "_law_is_order", "_law_is_order", defArgs s_l_is_order, defBody s_l_is_order, defScope s_l_is_order, [], []⟩
abbrev dd_p_law : He.DefD := ⟨("law", none), "law", "law", defArgs s_p_law, defBody s_p_law, defScope s_p_law, [], []⟩
def tab_PARTS : He.Tab := (fun K => He.ga K "PARTS", ["push", "pull", "burst", "part", "blow", "wait"])
def kvs_PARTS : List (Str × He.Dv) := [("push", .int 1), ("pull", .int 1), ("burst", .int 1), ("part", .int 4), ("blow", .int 3), ("wait", .int 2)]
def fnL_0 : List He.DefD := [dd_l_cell, dd_l_seed, dd_l_digits, dd_l_order_drawn, dd_l_due_text, dd_l_sign, dd_l_bent, dd_p_fits, dd_p_is_number, dd_p_read, dd_l_read, dd_l_is_figures, dd_l_is_order_text, dd_l_whole, dd_l_is_order, dd_p_law]
def fnL : List He.DefD := fnL_0
def faL_0 : List He.Fa := [.glo "_law_cell", .glo "_law_seed", .glo "_law_digits", .glo "_law_order_drawn", .glo "_law_due_text", .glo "_law_sign", .glo "_law_bent", .glo "fits", .glo "is_number", .glo "read", .glo "_law_read", .glo "_law_is_figures", .glo "_law_is_order_text", .glo "_law_whole", .glo "_law_is_order", .free "len", .free "enumerate", .free "tuple", .free "str", .free "all", .free "int", .free "any", .free "isinstance", .free "bool", .free "range", .exc "NoOrder", .glo "NoOrder", .glo "PARTS", .glo "law"]
def faL : List He.Fa := faL_0
def tsL : List He.Tab := [tab_PARTS]
def exL (K : PySem.W.Frag) : Bool := (PySem.W.isClsIn K (He.ga K "NoOrder") && (decide (PySem.W.subIn K (.ref (He.ga K "NoOrder")) (.ref (He.ga K "NoOrder")) = some true) && (He.valsB K (He.ga K "PARTS") kvs_PARTS && true)))
def looseL_0 : List PySem.Str := ["__name__", "FrothError", "NoOrder", "PARTS", "is_number", "fits", "read", "_law_due_text", "_law_seed", "_law_digits", "_law_order_drawn", "_law_cell", "_law_sign", "_law_bent", "_law_read", "_law_is_figures", "_law_is_order_text", "_law_whole", "_law_is_order"]
def looseL : List PySem.Str := looseL_0
abbrev RR : PySem.W.OpenRow := PySem.W.OpenLaw.row PySem.Challenge.rw_frothwane_k58_texts_that_write_no_order
abbrev hkL : PySem.W.Hook := hookR 1200 faL fnL tsL exL
def obL (s : PySem.W.SharedT) : He.AlX := obsR 1200 faL fnL tsL exL (HandSHeadRun.getT s)
theorem obL_eq (s : PySem.W.SharedT) : obL s = hkL.obs s.abs := obsR_eq (HandSHeadRun.getT_eq s)
theorem runL_false (w : World) : HandSHeadRun.RunEq RR (PySem.W.view RR.prog [21]) hkL obL 20000 looseL (w.withFollow "special-get-raises" false) := by
  intro os
  kernel_rfl
theorem runL_true (w : World) : HandSHeadRun.RunEq RR (PySem.W.view RR.prog [21]) hkL obL 20000 looseL (w.withFollow "special-get-raises" true) := by
  intro os
  kernel_rfl
theorem runL (w : World) : HandSHeadRun.RunEq RR (PySem.W.view RR.prog [21]) hkL obL 20000 looseL w :=
  PySem.W.byRow2 "special-get-raises" (P := fun w => HandSHeadRun.RunEq RR (PySem.W.view RR.prog [21]) hkL obL 20000 looseL w) runL_false runL_true w
/-! Fw: short words over the hand layer: readings by steps. -/
/-- nothing tracked stands there -/
def Free (H : Hp) (p : Addr) : Prop := H p = none
section
variable {σ : St} {H : Hp} {Q : VK} {nx bk ct : St → Hp → Prop} {rt : VK}
/-! ### statements -/
theorem r_seq {t u : TS} (h : t ⟨u ⟨nx, rt, bk, ct⟩, rt, bk, ct⟩ σ H) : tSeq t u ⟨nx, rt, bk, ct⟩ σ H := h
theorem r_asg {te : TE} {i : Nat} (h : te σ H (fun x H1 => nx (σ.set i (some x)) H1)) : tAsg te (gName i) ⟨nx, rt, bk, ct⟩ σ H := h
theorem r_asgG {te : TE} {g : TG} (h : te σ H (fun x H1 => g x σ H1 nx)) : tAsg te g ⟨nx, rt, bk, ct⟩ σ H := h
theorem r_ret {te : TE} (h : te σ H rt) : tRet te ⟨nx, rt, bk, ct⟩ σ H := h
theorem r_if {c : TT} {t u : TS} {D : Ends} (h : c σ H (fun b H1 => if b = true then t D σ H1 else u D σ H1)) : tIfS c t u D σ H := h
theorem r_next (h : nx σ H) : tNext ⟨nx, rt, bk, ct⟩ σ H := h
theorem r_drop {te : TE} (h : te σ H (fun _ H1 => nx σ H1)) : tDrop te ⟨nx, rt, bk, ct⟩ σ H := h
theorem r_par {ta : TA} {i j : Nat} (h : ta σ H (fun vs H1 => ∃ v w, vs = [v, w] ∧ nx ((σ.set i (some v)).set j (some w)) H1)) : tPar i j ta ⟨nx, rt, bk, ct⟩ σ H := h
theorem r_par2 {v w : V} {P : V → V → Prop} (h : P v w) : ∃ v' w', [v, w] = [v', w'] ∧ P v' w' := ⟨v, w, rfl, h⟩
theorem r_aug {te : TE} {ti : TIp} {i : Nat} {x : V} (hx : σ[i]? = some (some x)) (h : te σ H fun y H1 => ti x y H1 fun z H2 => nx (σ.set i (some z)) H2) : tAug i te ti ⟨nx, rt, bk, ct⟩ σ H := ⟨x, hx, h⟩
/-! ### expressions -/
theorem r_var {i : Nat} {v : V} (e : σ[i]? = some (some v)) (h : Q v H) : tVar i σ H Q := ⟨v, e, h⟩
theorem r_c {v : V} (h : Q v H) : tC v σ H Q := h
theorem r_op {r : R2} {ta tb : TE} (h : ta σ H fun x H1 => tb σ H1 fun y H2 => r x y H2 Q) : tOp r ta tb σ H Q := h
theorem r_un {r : V → Hp → VK → Prop} {ta : TE} (h : ta σ H fun x H1 => r x H1 Q) : tUn r ta σ H Q := h
theorem r_U {g : Int → V} {i : Int} (h : Q (g i) H) : rU g (.int i) H Q := ⟨i, rfl, h⟩
theorem r_I0 {g : Int → Int → V} {i j : Int} (h : Q (g i j) H) : rI0 g (.int i) (.int j) H Q := ⟨i, j, rfl, rfl, h⟩
theorem r_I {C : Int → Int → Prop} {g : Int → Int → V} {i j : Int} (hc : C i j) (h : Q (g i j) H) : rI C g (.int i) (.int j) H Q := ⟨i, j, rfl, rfl, hc, h⟩
theorem r_eq {x y : V} (hs : scal x y = true) (h : Q (.bl (decide (x = y))) H) : rEq x y H Q := ⟨hs, h⟩
theorem r_ne {x y : V} (hs : scal x y = true) (h : Q (.bl (!decide (x = y))) H) : rNe x y H Q := ⟨hs, h⟩
theorem r_nil {R : List V → Hp → Prop} (h : R [] H) : tNil σ H R := h
theorem r_cons {R : List V → Hp → Prop} {ta : TE} {tr : TA} (h : ta σ H fun x H1 => tr σ H1 fun xs H2 => R (x :: xs) H2) : tCons ta tr σ H R := h
theorem r_tup {t : TA} (h : t σ H fun xs H1 => xs.length ≤ sizeLine ∧ ∀ p, Free H1 p → Q (.ref p) (upd H1 p (.tup xs))) : tTup t σ H Q := h
theorem r_lst {t : TA} (h : t σ H fun xs H1 => xs.length ≤ sizeLine ∧ ∀ p, Free H1 p → Q (.ref p) (upd H1 p (.lst xs))) : tLst t σ H Q := h
theorem r_call {sp : Sp} {E : XK} {t : TA} (h : t σ H fun vs H1 => sp vs H1 Q E) : tCall sp [] E t σ H Q := by
  unfold tCall
  have e : (fun (vs : List V) (H1 : Hp) => sp (vs ++ []) H1 Q E) = fun vs H1 => sp vs H1 Q E := by
    funext vs H1
    rw [List.append_nil]
  rw [e]
  exact h
theorem r_cb {r : List V → Hp → VK → Prop} {t : TA} (h : t σ H fun vs H1 => r vs H1 Q) : tCB r t σ H Q := h
/-! ### tests -/
variable {R : Bool → Hp → Prop}
theorem r_test {t : TE} (h : t σ H fun x H1 => ∃ k, x = .bl k ∧ R k H1) : tTest t σ H R := h
theorem r_B {t : TE} (h : t σ H fun x H1 => ∃ k, x = .bl k ∧ R k H1) : tB t σ H R := h
theorem r_bl {b : Bool} {P : Bool → Prop} (h : P b) : ∃ k, V.bl b = .bl k ∧ P k := ⟨b, rfl, h⟩
theorem r_and {t u : TT} (h : t σ H fun c H1 => if c = true then u σ H1 R else R false H1) : tAnd t u σ H R := h
theorem r_or {t u : TT} (h : t σ H fun c H1 => if c = true then R true H1 else u σ H1 R) : tOr t u σ H R := h
theorem r_not {t : TT} (h : t σ H fun c H1 => R (!c) H1) : tNot t σ H R := h
theorem r_andV {ta tb : TE} (h : ta σ H fun x H1 => ∃ c, x = .bl c ∧ if c = true then tb σ H1 Q else Q (.bl false) H1) : tAndV ta tb σ H Q := h
theorem r_orV {ta tb : TE} (h : ta σ H fun x H1 => ∃ c, x = .bl c ∧ if c = true then Q (.bl true) H1 else tb σ H1 Q) : tOrV ta tb σ H Q := h
theorem r_notV {ta : TE} (h : ta σ H fun x H1 => ∃ c, x = .bl c ∧ Q (.bl (!c)) H1) : tNotV ta σ H Q := h
theorem r_ifE {t : TT} {ta tb : TE} (h : t σ H fun c H1 => if c = true then ta σ H1 Q else tb σ H1 Q) : tIf t ta tb σ H Q := h
/-! ### branches -/
theorem iteD {c A B : Prop} [Decidable c] (h1 : c → A) (h2 : ¬ c → B) : if decide c = true then A else B := by
  by_cases h : c
  · rw [decide_eq_true h, if_pos rfl]; exact h1 h
  · rw [decide_eq_false h, if_neg Bool.false_ne_true]; exact h2 h
theorem iteN {c A B : Prop} [Decidable c] (h1 : ¬ c → A) (h2 : c → B) : if (!decide c) = true then A else B := by
  by_cases h : c
  · rw [decide_eq_true h, Bool.not_true, if_neg Bool.false_ne_true]; exact h2 h
  · rw [decide_eq_false h, Bool.not_false, if_pos rfl]; exact h1 h
theorem iteI {a b : Int} {A B : Prop} (h1 : a = b → A) (h2 : a ≠ b → B) : if decide (V.int a = V.int b) = true then A else B :=
  iteD (fun h => h1 (by injection h)) (fun h => h2 fun e => h (by rw [e]))
theorem iteNt {A B : Prop} (h : B) : if (!true) = true then A else B := iteF h
theorem iteNf {A B : Prop} (h : A) : if (!false) = true then A else B := iteT h
theorem iteNN {A B : Prop} (h : A) : if decide (V.non = V.non) = true then A else B := iteD (fun _ => h) (fun z => absurd rfl z)
theorem iteRN {a : Addr} {A B : Prop} (h : B) : if decide (V.ref a = V.non) = true then A else B := iteD (fun z => nomatch z) (fun _ => h)
theorem iteNNn {A B : Prop} (h : B) : if (!decide (V.non = V.non)) = true then A else B := iteN (fun z => absurd rfl z) (fun _ => h)
theorem iteRNn {a : Addr} {A B : Prop} (h : A) : if (!decide (V.ref a = V.non)) = true then A else B := iteN (fun _ => h) (fun z => nomatch z)
/-! ### loops -/
/-- a for over whatever walks -/
theorem r_for {wi : TI} {g : TG} {tb : TS} (h : wi σ H fun J H1 => ∃ W : Nat → Nat → St → Hp → Prop, (∃ m, W 0 m σ H1) ∧ ∀ i m σ H, W i m σ H →
    (J.stop i H ∧ nx σ H) ∨ (J.go i H ∧ ∃ N : St → Hp → Prop, (∀ σ' H', N σ' H' → ∃ m', m' < m ∧ W (i + 1) m' σ' H') ∧ ∀ x H', J.yld i H x H' → g x σ H' fun σ2 H2 => tb ⟨N, rt, nx, N⟩ σ2 H2)) :
    tFor wi g tb ⟨nx, rt, bk, ct⟩ σ H := h
/-- .. by an invariant -/
theorem r_it {J : It} {n : Nat} {G : Hp → Prop} {Y : Nat → Hp → V → Hp → Prop} (w : Walk J n G Y) {g : TG} {tb : TS} (Pv : Nat → St → Hp → Prop) (h0 : Pv 0 σ H) (hG : ∀ i σ H, i ≤ n → Pv i σ H → G H)
    (hs : ∀ i x σ H H', i < n → Pv i σ H → Y i H x H' → g x σ H' fun σ2 H2 => tb ⟨Pv (i + 1), rt, nx, Pv (i + 1)⟩ σ2 H2) (hd : ∀ σ H, Pv n σ H → nx σ H) :
    ∃ W : Nat → Nat → St → Hp → Prop, (∃ m, W 0 m σ H) ∧ ∀ i m σ H, W i m σ H →
      (J.stop i H ∧ nx σ H) ∨ (J.go i H ∧ ∃ N : St → Hp → Prop, (∀ σ' H', N σ' H' → ∃ m', m' < m ∧ W (i + 1) m' σ' H') ∧ ∀ x H', J.yld i H x H' → g x σ H' fun σ2 H2 => tb ⟨N, rt, nx, N⟩ σ2 H2) :=
  for_it (D := ⟨nx, rt, fun _ _ => False, fun _ _ => False⟩) w Pv h0 hG hs hd
/-! ### targets -/
theorem g_name {i : Nat} {v : V} {R : St → Hp → Prop} (h : R (σ.set i (some v)) H) : gName i v σ H R := h
theorem g_nil {R : St → Hp → Prop} (h : R σ H) : gNil [] σ H R := ⟨rfl, h⟩
theorem g_cons {t : TG} {u : TGs} {v : V} {r : List V} {R : St → Hp → Prop} (h : t v σ H fun σ' H' => u r σ' H' R) : gCons t u (v :: r) σ H R := ⟨v, r, rfl, h⟩
theorem g_tup {K : PySem.W.Frag} {n : Nat} {t : TGs} {a : Addr} {xs : List V} {R : St → Hp → Prop} (ha : SqT K H a xs) (hl : xs.length = n) (h : t xs σ H R) : gTup K n t (.ref a) σ H R := ⟨a, xs, rfl, ha, hl, h⟩
theorem g_unl {K : PySem.W.Frag} {n : Nat} {t : TGs} {a : Addr} {xs : List V} {R : St → Hp → Prop} (ha : SqL K H a xs) (hl : xs.length = n) (h : t xs σ H R) : gUnl K n t (.ref a) σ H R := ⟨a, xs, rfl, ha, hl, h⟩
end
/-! ### a statement, then the rest, with a word between them -/
def tCut (t u : TS) : TS := fun D σ H => ∃ Mid : St → Hp → Prop, t { D with nx := Mid } σ H ∧ ∀ σ' H', Mid σ' H' → u D σ' H'
theorem pss_cut {X : Cx} {st : Stmt} {rest : List Stmt} {t u : TS} (h1 : PS X st t) (h2 : PSs X rest u) : PSs X (st :: rest) (tCut t u) := by
  refine ⟨fun pins s σ H D I h => ?_⟩
  obtain ⟨Mid, h, k⟩ := h
  refine wpAny_execs_cons (thn (h1.run pins s σ H { D with nx := Mid } I h) fun f s1 q => ?_)
  cases f with
  | next =>
    obtain ⟨σ', H', I', q⟩ := q
    exact h2.run pins s1 σ' H' D I' (k σ' H' q)
  | ret v => exact q
  | brk => exact q
  | cont => exact q
theorem r_cut {σ : St} {H : Hp} {nx bk ct : St → Hp → Prop} {rt : VK} {t u : TS} (Mid : St → Hp → Prop) (h1 : t ⟨Mid, rt, bk, ct⟩ σ H) (h2 : ∀ σ' H', Mid σ' H' → u ⟨nx, rt, bk, ct⟩ σ' H') : tCut t u ⟨nx, rt, bk, ct⟩ σ H := ⟨Mid, h1, h2⟩
/-! ### readings by name -/
abbrev rAddI : R2 := rI0 fun i j => .int (i + j)
abbrev rSubI : R2 := rI0 fun i j => .int (i - j)
abbrev rMulI : R2 := rI CMul fun i j => .int (i * j)
abbrev rDivW : R2 := rI CDivW fun i j => .int (i / j)
abbrev rModI : R2 := rI (fun _ j => 0 < j) fun i j => .int (i % j)
abbrev rPowI : R2 := rI CPow fun i j => .int (i ^ j.toNat)
abbrev rLtI : R2 := rI0 fun i j => .bl (decide (i < j))
abbrev rGtI : R2 := rI0 fun i j => .bl (decide (j < i))
abbrev rGeI : R2 := rI0 fun i j => .bl (decide (j ≤ i))
abbrev rNegI : V → Hp → VK → Prop := rU fun i => .int (-i)
def rAddS : R2 := fun x y H Q => ∃ i j, x = .str i ∧ y = .str j ∧ i.length + j.length ≤ sizeLine ∧ Q (.str (i ++ j)) H
def rIsN : R2 := fun x y H Q => y = .non ∧ Q (.bl (decide (x = .non))) H
def rNotN : R2 := fun x y H Q => y = .non ∧ Q (.bl (!decide (x = .non))) H
def rAbs : List V → Hp → VK → Prop := fun xs H Q => ∃ i, xs = [.int i] ∧ Q (.int (if i < 0 then -i else i)) H
def rMax2 : List V → Hp → VK → Prop := fun xs H Q => ∃ i j, xs = [.int i, .int j] ∧ Q (.int (if j > i then j else i)) H
def rMin2 : List V → Hp → VK → Prop := fun xs H Q => ∃ i j, xs = [.int i, .int j] ∧ Q (.int (if j < i then j else i)) H
def rLenSeq (K : PySem.W.Frag) : List V → Hp → VK → Prop := fun xs H Q => ∃ p ys, xs = [.ref p] ∧ (SqL K H p ys ∨ SqT K H p ys) ∧ Q (.int ys.length) H
def rLenStr : List V → Hp → VK → Prop := fun xs H Q => ∃ z, xs = [.str z] ∧ z.length ≤ sizeLine ∧ Q (.int z.length) H
def rTupleOf (K : PySem.W.Frag) : List V → Hp → VK → Prop := fun xs H Q => ∃ p ys, xs = [.ref p] ∧ ((SqL K H p ys ∧ ∀ l, H l = none → Q (.ref l) (upd H l (.tup ys))) ∨ (SqT K H p ys ∧ Q (.ref p) H))
section
variable {σ : St} {H : Hp} {Q : VK} {K : PySem.W.Frag}
theorem r_addS {a b : Str} (hl : a.length + b.length ≤ sizeLine) (h : Q (.str (a ++ b)) H) : rAddS (.str a) (.str b) H Q := ⟨a, b, rfl, rfl, hl, h⟩
theorem r_isN {x : V} (h : Q (.bl (decide (x = .non))) H) : rIsN x .non H Q := ⟨rfl, h⟩
theorem r_notN {x : V} (h : Q (.bl (!decide (x = .non))) H) : rNotN x .non H Q := ⟨rfl, h⟩
theorem r_abs {i : Int} (h : Q (.int (if i < 0 then -i else i)) H) : rAbs [.int i] H Q := ⟨i, rfl, h⟩
theorem r_max2 {i j : Int} (h : Q (.int (if j > i then j else i)) H) : rMax2 [.int i, .int j] H Q := ⟨i, j, rfl, h⟩
theorem r_min2 {i j : Int} (h : Q (.int (if j < i then j else i)) H) : rMin2 [.int i, .int j] H Q := ⟨i, j, rfl, h⟩
theorem r_lenL {p : Addr} {ys : List V} (hs : SqL K H p ys) (h : Q (.int ys.length) H) : rLenSeq K [.ref p] H Q := ⟨p, ys, rfl, .inl hs, h⟩
theorem r_lenT {p : Addr} {ys : List V} (hs : SqT K H p ys) (h : Q (.int ys.length) H) : rLenSeq K [.ref p] H Q := ⟨p, ys, rfl, .inr hs, h⟩
theorem r_tupleL {p : Addr} {ys : List V} (hs : SqL K H p ys) (h : ∀ l, Free H l → Q (.ref l) (upd H l (.tup ys))) : rTupleOf K [.ref p] H Q := ⟨p, ys, rfl, .inl ⟨hs, h⟩⟩
theorem r_ixL {p : Addr} {xs : List V} {i : Int} {v : V} (hs : SqL K H p xs) (ha : atI xs i = some v) (h : Q v H) : rIxL K (.ref p) (.int i) H Q := ⟨p, xs, i, v, rfl, rfl, hs, ha, h⟩
theorem r_ixT {p : Addr} {xs : List V} {i : Int} {v : V} (hs : SqT K H p xs) (ha : atI xs i = some v) (h : Q v H) : rIxT K (.ref p) (.int i) H Q := ⟨p, xs, i, v, rfl, rfl, hs, ha, h⟩
end
/-! ### heaps -/
section
variable {H H1 : Hp} {p q : Addr} {o u : HO}
theorem same_new (s : Same H H1) (h : Free H1 p) : Same H (upd H1 p o) := fun b x e => by
  have z := s b x e
  rw [upd_ne (ne_of_none z h)]
  exact z
theorem same_mut (s : Same H H1) (h : Free H p) : Same H (upd H1 p o) := fun b x e => by
  rw [upd_ne (ne_of_none e h)]
  exact s b x e
theorem at_new (h : H q = some u) (hp : Free H p) : upd H p o q = some u := by
  rw [upd_ne (ne_of_none h hp)]
  exact h
theorem at_ne (h : H q = some u) (hp : q ≠ p) : upd H p o q = some u := by
  rw [upd_ne hp]
  exact h
theorem same_tup {K : PySem.W.Frag} {a : Addr} {xs : List V} (e : Same H H1) (h : SqT K H a xs) : SqT K H1 a xs := by
  rcases h with (h | ⟨o, h⟩) | h
  · exact .inl (.inl (e _ _ h))
  · exact .inl (.inr ⟨o, e _ _ h⟩)
  · exact .inr h
theorem same_rd {a : Addr} (e : Same H H1) (h : Rd H a u) : Rd H1 a u := by
  rcases h with h | ⟨o, h⟩
  · exact .inl (e _ _ h)
  · exact .inr ⟨o, e _ _ h⟩
end
/-! ### facts of a heap, looked for: the fact first, then that it is kept -/
section
variable {H H' H0 : Hp} {a p q : Addr} {o u u0 : HO} {K : PySem.W.Frag} {xs ys : List V}
theorem back_new (hp : Free H p) (h : H a = some u) : upd H p o a = some u := at_new h hp
theorem back_ne (hn : a ≠ p) (h : H a = some u) : upd H p o a = some u := at_ne h hn
theorem back_same (s : Same H H') (h : H a = some u) : H' a = some u := s a u h
theorem ne_fresh (h : H a = some u) (h0 : Free H p) : a ≠ p := ne_of_none h h0
theorem ne_fresh' (h : H p = some u) (h0 : Free H a) : a ≠ p := (ne_of_none h h0).symm
theorem lst_same (s : Same H H') (h : SqL K H a xs) : SqL K H' a xs := s.seq h
def KeepT (K : PySem.W.Frag) (H0 H : Hp) (a : Addr) (xs : List V) : Prop := SqT K H0 a xs → SqT K H a xs
theorem keepT_refl : KeepT K H H a xs := fun h => h
theorem keepT_new (hp : Free H p) (k : KeepT K H0 H a xs) : KeepT K H0 (upd H p o) a xs := fun h => same_tup (same_new (Same.refl H) hp) (k h)
theorem keepT_same (s : Same H H') (k : KeepT K H0 H a xs) : KeepT K H0 H' a xs := fun h => same_tup s (k h)
theorem keepT_mut (hp : H p = some u) (hm : Mut (some u)) (k : KeepT K H0 H a xs) : KeepT K H0 (upd H p o) a xs := fun h => by
  rcases k h with (h | ⟨ob, h⟩) | h
  · exact .inl (.inl (at_ne h fun e => by subst e; rw [hp] at h; cases h; exact hm))
  · exact .inl (.inr ⟨ob, at_ne h fun e => by subst e; rw [hp] at h; cases h; exact hm⟩)
  · exact .inr h
theorem tup_keep (h : SqT K H0 a xs) (k : KeepT K H0 H a xs) : SqT K H a xs := k h
theorem free_of (s : Same H0 H) (h : Free H p) : Free H0 p := s.free h
theorem same_tr {H1 : Hp} (t : Same H1 H') (s : Same H H1) : Same H H' := s.trans t
end
theorem size1000 {n : Nat} (h : n ≤ 1000000) : n ≤ sizeLine := Nat.le_trans h (by decide)
theorem size1000l {n : Nat} (h : n < 1000000) : n < sizeLine := Nat.lt_of_lt_of_le h (by decide)
theorem log2_mono {a b : Nat} (h : a ≤ b) : a.log2 ≤ b.log2 := by
  by_cases ha : a = 0
  · subst ha; rw [Nat.log2_zero]; exact Nat.zero_le _
  · have hb : b ≠ 0 := by omega
    have h1 := Nat.log2_self_le ha
    have h2 := (Nat.log2_lt hb (k := b.log2 + 1)).mp (Nat.lt_succ_self _)
    exact Nat.lt_succ_iff.mp ((Nat.log2_lt ha).mpr (Nat.lt_of_le_of_lt h h2))
theorem divW_le {i z : Int} (B : Nat) (h0 : 0 < z) (h1 : z ≤ (B : Int)) (hB : B.log2 < 9000) : CDivW i z :=
  ⟨h0, Nat.lt_of_le_of_lt (log2_mono (show z.natAbs ≤ B by omega)) hB⟩
theorem map_get {α β : Type} {f : α → β} {l : List α} {i : Nat} {y : β} (h : (l.map f)[i]? = some y) : ∃ x, l[i]? = some x ∧ y = f x := by
  rw [List.getElem?_map] at h
  cases e : l[i]? with
  | none => rw [e] at h; cases h
  | some x => rw [e] at h; exact ⟨x, rfl, (Option.some.inj h).symm⟩
/-- a list just grown -/
theorem r_append {K : PySem.W.Frag} {σ : St} {H : Hp} {Q : VK} {l : Addr} {xs : List V} {tr : TA} (hl : H l = some (.lst xs)) (h : tr σ H fun vs H2 => rAppend (.ref l) vs H2 Q) :
    tyV K "list" (.ref l) H ∧ tr σ H fun vs H2 => rAppend (.ref l) vs H2 Q := ⟨Or.inl ⟨rfl, xs, SqL.of hl⟩, h⟩
theorem r_bm {K : PySem.W.Frag} {T : String} {r : V → List V → Hp → VK → Prop} {to : TE} {t : TA} {σ : St} {H : Hp} {Q : VK} (h : to σ H fun x H1 => tyV K T x H1 ∧ t σ H1 fun xs H2 => r x xs H2 Q) : tBM K T r to t σ H Q := h
theorem r_app {H : Hp} {Q : VK} {l : Addr} {xs : List V} {y : V} (hl : H l = some (.lst xs)) (hz : xs.length < sizeLine) (h : Q .non (upd H l (.lst (xs ++ [y])))) : rAppend (.ref l) [y] H Q := ⟨l, xs, y, rfl, rfl, hl, hz, h⟩
theorem dp_ints {K : PySem.W.Frag} {H : Hp} : ∀ ns : List Int, DpAll K H (ns.map V.int) (ns.map PyData.int)
  | [] => .nil
  | n :: r => .cons (.int n) (dp_ints r)
theorem r_eqD {K : PySem.W.Frag} {H : Hp} {Q : VK} {x y : V} {d e : PyData} (hd : Dp K H x d) (he : Dp K H y e) (sd : SeqAt.shaped d = true) (se : SeqAt.shaped e = true) (h : Q (.bl (PyData.eqv d e)) H) : rEqD K x y H Q := ⟨d, e, hd, he, sd, se, h⟩
theorem r_neD {K : PySem.W.Frag} {H : Hp} {Q : VK} {x y : V} {d e : PyData} (hd : Dp K H x d) (he : Dp K H y e) (sd : SeqAt.shaped d = true) (se : SeqAt.shaped e = true) (h : Q (.bl (!PyData.eqv d e)) H) : rNeD K x y H Q := ⟨d, e, hd, he, sd, se, h⟩
/-! ### f-strings -/
def tJoin (ts : List TE) : TE := fun σ H Q => tJs ts Str.empty σ H fun out H1 => Q (.str out) H1
section
variable {σ : St} {H : Hp} {Q : VK}
theorem r_join {ts : List TE} (h : tJs ts Str.empty σ H fun out H1 => Q (.str out) H1) : tJoin ts σ H Q := h
theorem r_jsNil {acc : Str} {R : Str → Hp → Prop} (h : R acc H) : tJs [] acc σ H R := h
theorem r_jsCons {t : TE} {ts : List TE} {acc : Str} {R : Str → Hp → Prop} (h : t σ H fun x H1 => ∃ y : Str, x = .str y ∧ (acc ++ y).length ≤ sizeLine ∧ tJs ts (acc ++ y) σ H1 R) : tJs (t :: ts) acc σ H R := h
theorem r_fmt {te : TE} (h : te σ H fun x H1 => (∃ y : Str, x = .str y ∧ y.length ≤ sizeLine ∧ Q (.str y) H1) ∨ ∃ i : Int, x = .int i ∧ i.natAbs.log2 < 1920 ∧ Q (.str (toString i)) H1) : tFmt te σ H Q := h
end
/-! ### in, ranges, op= -/
section
variable {H : Hp} {Q : VK} {K : PySem.W.Frag}
theorem r_ipI {f : Int → Int → Int} {i j : Int} (h : Q (.int (f i j)) H) : ipI f (.int i) (.int j) H Q := ⟨i, j, rfl, rfl, h⟩
theorem r_inT {neg : Bool} {x : V} {p : Addr} {xs : List V} (hs : SqT K H p xs) (hx : flatV x = true) (hf : xs.all flatV = true) (h : Q (.bl (if neg then !inV x xs else inV x xs)) H) : rIn K neg x (.ref p) H Q := ⟨p, xs, rfl, .inr hs, hx, hf, h⟩
theorem r_inL {neg : Bool} {x : V} {p : Addr} {xs : List V} (hs : SqL K H p xs) (hx : flatV x = true) (hf : xs.all flatV = true) (h : Q (.bl (if neg then !inV x xs else inV x xs)) H) : rIn K neg x (.ref p) H Q := ⟨p, xs, rfl, .inl hs, hx, hf, h⟩
theorem r_rng {j : Int} {R : Int → Prop} (h1 : -4611686018427387904 ≤ j) (h2 : j < 4611686018427387904) (h : R j) : ∃ j' : Int, [V.int j] = [.int j'] ∧ -4611686018427387904 ≤ j' ∧ j' < 4611686018427387904 ∧ R j' := ⟨j, rfl, h1, h2, h⟩
end
theorem canAll : ∀ {ds : List PyData}, (∀ d ∈ ds, d.canLay0 = true ∧ d.depth ≤ 60) → PyData.canLayAll0 ds = true ∧ PyData.depthAll ds ≤ 60
  | [], _ => ⟨by simp only [PyData.canLayAll0], by simp only [PyData.depthAll]; omega⟩
  | d :: r, h => by
    have h1 := h d List.mem_cons_self
    have h2 := canAll (ds := r) fun x hx => h x (List.mem_cons_of_mem _ hx)
    simp only [PyData.canLayAll0, PyData.depthAll, h1.1, h2.1]
    exact ⟨rfl, by have := h1.2; have := h2.2; omega⟩
theorem shaped_tup {ds : List PyData} (h : ∀ d ∈ ds, d.canLay0 = true ∧ d.depth ≤ 60) : SeqAt.shaped (.tuple ds) = true := by
  obtain ⟨h1, h2⟩ := canAll h
  show (PyData.canLay0 (.tuple ds) && decide (PyData.depth (.tuple ds) ≤ 64)) = true
  rw [Bool.and_eq_true]
  exact ⟨by simp only [PyData.canLay0]; exact h1, decide_eq_true (by simp only [PyData.depth]; omega)⟩
theorem eqv_same {d : PyData} (h : SeqAt.shaped d = true) : PyData.eqv d d = true := SeqAt.eqv_refl d (SeqAt.canLay_of_shaped h)
/-! ### what is walked -/
section
variable {σ : St} {H : Hp} {K : PySem.W.Frag} {R : It → Hp → Prop}
theorem r_iEnum {ta : TA} (h : ta σ H fun vs H1 => ∃ a xs, vs = [.ref a] ∧ SqL K H1 a xs ∧ R (Ite K a) H1) : iEnum K ta σ H R := h
theorem r_iList {tl : TE} (h : tl σ H fun x H1 => ∃ a, x = .ref a ∧ (∃ xs, SqL K H1 a xs) ∧ R (Itl K a) H1) : iList K tl σ H R := h
theorem r_iTup {tl : TE} (h : tl σ H fun x H1 => ∃ a, x = .ref a ∧ (∃ xs, SqT K H1 a xs) ∧ R (Itt K a) H1) : iTup K tl σ H R := h
theorem r_iRng1 {ta : TA} (h : ta σ H fun vs H1 => ∃ j : Int, vs = [.int j] ∧ -(2 ^ 62) ≤ j ∧ j < 2 ^ 62 ∧ R (Itr 0 j.toNat) H1) : iRng1 ta σ H R := h
theorem r_iZip {ta : TA} (h : ta σ H fun vs H1 => ∃ a b xs ys, vs = [.ref a, .ref b] ∧ SqL K H1 a xs ∧ SqL K H1 b ys ∧ R (Itz K a b) H1) : iZip K ta σ H R := h
end
/-! ### isinstance -/
section
variable {H : Hp} {Q : VK} {K : PySem.W.Frag}
theorem isi_int {i : Int} (h : Q (.bl true) H) : rIsi K [.int i, .ty "int"] H Q := ⟨_, _, _, _, true, rfl, .ty _, .base (.int i), kit_ty (by decide +kernel), h⟩
theorem isi_intb {i : Int} (h : Q (.bl false) H) : rIsi K [.int i, .ty "bool"] H Q := ⟨_, _, _, _, false, rfl, .ty _, .base (.int i), kit_ty (by decide +kernel), h⟩
theorem isi_bool {b : Bool} (h : Q (.bl true) H) : rIsi K [.bl b, .ty "bool"] H Q := ⟨_, _, _, _, true, rfl, .ty _, .base (.bl b), kit_ty (by decide +kernel), h⟩
theorem isi_str {z : Str} (h : Q (.bl true) H) : rIsi K [.str z, .ty "str"] H Q := ⟨_, _, _, _, true, rfl, .ty _, .base (.str z), kit_ty (by decide +kernel), h⟩
theorem isi_tup {a : Addr} {xs : List V} (e : H a = some (.tup xs)) (h : Q (.bl true) H) : rIsi K [.ref a, .ty "tuple"] H Q := ⟨_, _, _, _, true, rfl, .ty _, .base (.tup e), kit_ty (by decide +kernel), h⟩
theorem isi_lst {a : Addr} {xs : List V} (e : H a = some (.lst xs)) (h : Q (.bl true) H) : rIsi K [.ref a, .ty "list"] H Q := ⟨_, _, _, _, true, rfl, .ty _, .base (.lst e), kit_ty (by decide +kernel), h⟩
theorem isi_dict {a : Addr} {xs : List (Key × V)} (e : H a = some (.dK xs)) (h : Q (.bl true) H) : rIsi K [.ref a, .ty "dict"] H Q := ⟨_, _, _, _, true, rfl, .ty _, .base (.dK e), kit_ty (by decide +kernel), h⟩
end
/-! ### defs -/
structure Gx where
  K : PySem.W.Frag
  ad : Str → Addr
/-- a def of the top as it stands -/
def FnIs (K : PySem.W.Frag) (mg : Str → Option Value) (x : Str) (st : Stmt) (ps : List Str) : Prop := ∃ (f : Addr) (fd : FuncData), mg x = some (.ref f) ∧ Fun K x x st f fd ∧ Binds K fd ps []
/-- a def with its promise -/
def Df (P : Program) (w : World) (K : PySem.W.Frag) (mg : Str → Option Value) (base : Heap) (CX : CXT) (x : Str) (k : Nat) (ps : List Str) (sp : Sp) : Prop :=
  ∃ (f : Addr) (fd : FuncData), mg x = some (.ref f) ∧ PySem.W.keepIn K (.ref f) = true ∧ Binds K fd ps [] ∧ FnOk P w K mg base CX k f fd ps sp
section
variable {P : Program} {w : World} {K : PySem.W.Frag} {mg : Str → Option Value} {base : Heap}
theorem Df.of {x : Str} {st : Stmt} {N ps : List Str} {k : Nat} {sp : Sp} (F : FnIs K mg x st ps) (S : FnScope N ps (defScope st)) (len : ∀ vs H Q E, sp vs H Q E → vs.length = ps.length)
    (hbody : ∀ (f : Addr) (cdv : Value) (A : Around) (outer : List Env) (s : Shared) (H : Hp) (vs : List V) (Q : VK) (E : XK), Room k (A.deeper (PyProof.Rows.envOfC x (defScope st) s.heap.objs.size f cdv)) → sp vs H Q E →
      ∃ t, PSs (cxOf CX0 P w K mg base N x (defScope st) f cdv A outer s H E).nox (defBody st) t ∧ t ⟨fun _ H' => Q .non H', Q, fun _ _ => False, fun _ _ => False⟩ (start N vs) H) : Df P w K mg base CX0 x (k + 1) ps sp := by
  obtain ⟨f, fd, hm, hf, hb⟩ := F
  exact ⟨f, fd, hm, hf.kp, hb, hf.ok S len fun cdv A outer s H vs Q E hr h => hbody f cdv A outer s H vs Q E hr h⟩
theorem Df.up {CX : CXT} {x : Str} {j k : Nat} {ps : List Str} {sp : Sp} (D : Df P w K mg base CX x j ps sp) (h : j ≤ k) : Df P w K mg base CX x k ps sp := by
  obtain ⟨f, fd, hm, hk, hb, ok⟩ := D
  exact ⟨f, fd, hm, hk, hb, ok.mono h⟩
end
section
variable {X : Cx} {CX : CXT} {j k : Nat} {ps : List Str} {sp : Sp} {E : XK} {x : Str} {p pos : Pos} {e : Expr} {es : List Expr} {t : TA}
theorem pe_df (D : Df X.prog X.w X.K X.mg X.base CX x k ps sp) (hr : Room j X.A) (hk : k ≤ j) (hx : Passes CX X E) (ha : PA X (e :: es) t) (hg : Gl X x := by rfl) (hdb : (x == ("__debug__" : Str)) = false := by decide)
    (he : starEach (e :: es) X.env = (false, eval e X.env) :: starEach es X.env := by rfl) (hpl : (backTo pos (starEach es X.env)).any (·.1) = false := by rfl) : PE X (.Call (.Name x p) (e :: es) [] pos) (tCall sp [] E t) := by
  obtain ⟨f, fd, hm, hkp, hb, ok⟩ := D
  exact pe_call (ok.mono hk) hr hg hm hkp hb .nil hx ha hdb he hpl
end
local macro_rules | `(tactic| walk_at "sd") => `(tactic| first
  | assumption
  | (show (0 : Int) < _; first | decide | omega)
  | exact Or.inr ⟨by decide, by decide⟩
  | exact Or.inl ⟨by decide, by decide⟩
  | exact ⟨by decide, by decide, by decide⟩
  | exact ⟨by decide, by decide +kernel⟩
  | exact Or.inl ⟨by omega, by omega⟩
  | exact Or.inr ⟨by omega, by omega⟩)
local macro_rules | `(tactic| walk_at "hp1") => `(tactic| first
  | with_reducible assumption
  | with_reducible exact upd_same
  | ((with_reducible refine back_new ?hn ?_); (case hn => with_reducible assumption))
  | ((with_reducible refine back_ne ?hn ?_); (case hn => walk_at "ne"))
  | ((with_reducible refine back_same (H := ?Hb) ?hn ?_); (case hn => with_reducible assumption)))
local macro_rules | `(tactic| walk_at "hp") => `(tactic| ((repeat walk_at "hp1"); done))
local macro_rules | `(tactic| walk_at "ne") => `(tactic| first
  | with_reducible assumption
  | (with_reducible apply Ne.symm; with_reducible assumption)
  | ((with_reducible refine ne_fresh (H := ?Hb) (u := ?ub) ?h1 ?h0); (case h0 => with_reducible assumption); (case h1 => walk_at "hp"))
  | ((with_reducible refine ne_fresh' (H := ?Hb) (u := ?ub) ?h1 ?h0); (case h0 => with_reducible assumption); (case h1 => walk_at "hp")))
local macro_rules | `(tactic| walk_at "fr") => `(tactic| first
  | with_reducible assumption
  | ((with_reducible refine free_of (H := ?Hb) ?hs ?hn); (case hn => with_reducible assumption); (case hs => walk_at "sm")))
local macro_rules | `(tactic| walk_at "sm1") => `(tactic| first
  | with_reducible exact Same.refl _
  | with_reducible assumption
  | ((with_reducible refine same_new ?_ ?hn); (case hn => with_reducible assumption))
  | ((with_reducible refine same_mut ?_ ?hn); (case hn => walk_at "fr"))
  | ((with_reducible refine same_tr (H1 := ?Hb) ?hn ?_); (case hn => with_reducible assumption)))
local macro_rules | `(tactic| walk_at "sm") => `(tactic| ((repeat walk_at "sm1"); done))
local macro_rules | `(tactic| walk_at "kt1") => `(tactic| first
  | with_reducible exact keepT_refl
  | ((with_reducible refine keepT_new ?hn ?_); (case hn => with_reducible assumption))
  | ((with_reducible refine keepT_mut (u := ?ub) ?hn ?hm ?_); (case hn => walk_at "hp"); (case hm => exact True.intro))
  | ((with_reducible refine keepT_same (H := ?Hb) ?hn ?_); (case hn => with_reducible assumption)))
local macro_rules | `(tactic| walk_at "kt") => `(tactic| ((repeat walk_at "kt1"); done))
local macro_rules | `(tactic| walk_at "sq") => `(tactic| first
  | with_reducible assumption
  | ((with_reducible refine SqT.of ?ho); (case ho => walk_at "hp"))
  | ((with_reducible refine SqL.of ?ho); (case ho => walk_at "hp"))
  | ((with_reducible refine tup_keep (H0 := ?Hb) ?hb ?hk); (case hb => with_reducible assumption); (case hk => walk_at "kt"))
  | ((with_reducible refine lst_same (H := ?Hb) ?hs ?hb); (case hb => with_reducible assumption); (case hs => walk_at "sm")))
local macro_rules | `(tactic| walk_at "dp") => `(tactic| first
  | with_reducible exact Dp.int _
  | with_reducible exact Dp.bl _
  | with_reducible exact Dp.str _
  | with_reducible exact Dp.non
  | with_reducible exact DpAll.nil
  | with_reducible exact dp_ints _
  | ((with_reducible refine DpAll.cons (d := ?dd) (ds := ?de) ?d1 ?d2); (case d1 => walk_at "dp"); (case d2 => walk_at "dp"))
  | ((with_reducible refine Dp.tup (xs := ?dx) (ds := ?de) ?ds ?da); (case ds => walk_at "sq"); (case da => walk_at "dp"))
  | ((with_reducible refine Dp.lst (xs := ?dx) (ds := ?de) ?ds ?da); (case ds => walk_at "sq"); (case da => walk_at "dp")))
local macro_rules | `(tactic| walk_at "st") => `(tactic| first
  | with_reducible refine r_seq ?_
  | (with_reducible refine r_asg ?_)
  | ((with_reducible refine r_var (v := ?v) ?hv ?_); (case hv => exact rfl))
  | with_reducible refine r_op ?_
  | with_reducible refine r_c ?_
  | with_reducible refine r_I0 ?_
  | ((with_reducible refine r_I ?hc ?_); (case hc => walk_at "sd"))
  | with_reducible refine r_test ?_
  | with_reducible refine r_bl ?_
  | with_reducible refine r_if ?_
  | with_reducible refine r_next ?_
  | with_reducible refine r_ret ?_
  | with_reducible refine r_cons ?_
  | with_reducible refine r_nil ?_
  | with_reducible refine r_call ?_
  | with_reducible refine r_cb ?_
  | with_reducible refine r_abs ?_
  | with_reducible refine r_max2 ?_
  | with_reducible refine r_min2 ?_
  | with_reducible refine r_un ?_
  | with_reducible refine r_U ?_
  | with_reducible refine r_par ?_
  | with_reducible refine r_par2 ?_
  | with_reducible refine r_B ?_
  | with_reducible refine r_and ?_
  | with_reducible refine r_or ?_
  | with_reducible refine r_not ?_
  | with_reducible refine r_andV ?_
  | with_reducible refine r_orV ?_
  | with_reducible refine r_notV ?_
  | with_reducible refine r_ifE ?_
  | with_reducible refine r_drop ?_
  | with_reducible refine r_tup ?_
  | with_reducible refine r_lst ?_
  | with_reducible refine r_for ?_
  | with_reducible refine g_name ?_
  | with_reducible refine g_nil ?_
  | with_reducible refine g_cons ?_
  | with_reducible refine iteT ?_
  | with_reducible refine iteF ?_
  | with_reducible refine iteNt ?_
  | with_reducible refine iteNf ?_
  | with_reducible refine iteNN ?_
  | with_reducible refine iteRN ?_
  | with_reducible refine iteNNn ?_
  | with_reducible refine iteRNn ?_
  | ((with_reducible refine r_eq ?hs ?_); (case hs => rfl))
  | ((with_reducible refine r_ne ?hs ?_); (case hs => rfl))
  | with_reducible refine r_asgG ?_
  | with_reducible refine r_isN ?_
  | ((with_reducible refine r_ixT (v := ?v) (xs := ?xs) ?hs ?ha ?_); (case hs => walk_at "sq"); (case ha => exact rfl))
  | ((with_reducible refine r_ixL (v := ?v) (xs := ?xs) ?hs ?ha ?_); (case hs => walk_at "sq"); (case ha => exact rfl))
  | with_reducible refine r_bm ?_
  | ((with_reducible refine r_lenL (ys := ?ys) ?hs ?_); (case hs => walk_at "sq"))
  | ((with_reducible refine r_lenT (ys := ?ys) ?hs ?_); (case hs => walk_at "sq"))
  | with_reducible refine isi_int ?_
  | with_reducible refine isi_intb ?_
  | with_reducible refine isi_bool ?_
  | with_reducible refine isi_str ?_
  | ((with_reducible refine isi_tup (xs := ?xs) ?he ?_); (case he => walk_at "hp"))
  | ((with_reducible refine isi_lst (xs := ?xs) ?he ?_); (case he => walk_at "hp"))
  | ((with_reducible refine isi_dict (xs := ?xs) ?he ?_); (case he => walk_at "hp"))
  | ((with_reducible refine r_eqD (d := ?d) (e := ?e) ?h1 ?h2 ?h3 ?h4 ?_); (case h1 => walk_at "dp"); (case h2 => walk_at "dp"); (case h3 => exact rfl); (case h4 => exact rfl))
  | ((with_reducible refine r_neD (d := ?d) (e := ?e) ?h1 ?h2 ?h3 ?h4 ?_); (case h1 => walk_at "dp"); (case h2 => walk_at "dp"); (case h3 => exact rfl); (case h4 => exact rfl))
  | ((with_reducible refine r_inT (xs := ?xs) ?hs ?hx ?hf ?_); (case hs => walk_at "sq"); (case hx => exact rfl); (case hf => exact rfl))
  | ((with_reducible refine r_inL (xs := ?xs) ?hs ?hx ?hf ?_); (case hs => walk_at "sq"); (case hx => exact rfl); (case hf => exact rfl))
  | ((with_reducible refine r_aug (x := ?x) ?hx ?_); (case hx => exact rfl))
  | with_reducible refine r_ipI ?_
  | with_reducible refine r_join ?_
  | with_reducible refine r_jsNil ?_
  | with_reducible refine r_jsCons ?_
  | with_reducible refine r_fmt ?_
  | with_reducible refine r_iEnum ?_
  | with_reducible refine r_iList ?_
  | with_reducible refine r_iTup ?_
  | with_reducible refine r_iRng1 ?_
  | with_reducible refine r_iZip ?_
  | ((with_reducible refine r_append (xs := ?xs) ?hl ?_); (case hl => walk_at "hp"))
  | ((with_reducible refine r_app (xs := ?xs) ?hl ?hz ?_); (case hl => walk_at "hp"); (case hz => walk_at "sz"))
  | with_reducible refine r_notN ?_)
local macro_rules | `(tactic| walk_at "go") => `(tactic| ((repeat walk_at "st"); try dsimp only [List.set, Int.reduceToNat, Int.reducePow]))
local macro_rules | `(tactic| walk_at "sz") => `(tactic| first
  | (refine size1000l ?_; omega)
  | (refine size1000 ?_; omega)
  | (refine size1000 ?_; simp only [List.length_cons, List.length_nil]; decide)
  | (refine size1000l ?_; simp only [List.length_cons, List.length_nil]; decide)
  | (refine size1000 ?_; simp only [List.length_cons, List.length_nil, List.length_map, List.length_append]; omega)
  | (refine size1000l ?_; simp only [List.length_cons, List.length_nil, List.length_map, List.length_append]; omega))
abbrev Body (t : TS) (N : List Str) (vs : List V) (H : Hp) (Q : VK) : Prop := t ⟨fun _ H' => Q .non H', Q, fun _ _ => False, fun _ _ => False⟩ (start N vs) H
/-! ### seed -/
def seed (c : Int) : Int :=
  if 1000000000000000000 ≤ c then c else (c * 48271 + 7919) % 2147483647 * 16807 % 2147483629 * 2147483399 + (c * 69621 + 104729) % 2147483587 * 40692 % 2147483399
def sp_l_seed (G : Gx) : Sp := fun vs H Q _ => ∃ c : Int, vs = [.int c] ∧ Q (.int (seed c)) H
theorem len_l_seed {G : Gx} : ∀ vs H Q E, sp_l_seed G vs H Q E → vs.length = 1 := by rintro vs H Q E ⟨c, rfl, _⟩; rfl
/-! _law_seed: slots _law_cell_here, _law_one, _law_two -/
def t_l_seed (G : Gx) : TS :=
  (tSeq (tIfS (tTest (tOp rGeI (tVar 0) (tOp rPowI (tC (.int 10)) (tC (.int 18))))) (tRet (tVar 0)) tNext)
  (tSeq (tAsg (tOp rModI (tOp rMulI (tOp rModI (tOp rAddI (tOp rMulI (tVar 0) (tC (.int 48271))) (tC (.int 7919))) (tC (.int 2147483647))) (tC (.int 16807))) (tC (.int 2147483629))) (gName 1))
  (tSeq (tAsg (tOp rModI (tOp rMulI (tOp rModI (tOp rAddI (tOp rMulI (tVar 0) (tC (.int 69621))) (tC (.int 104729))) (tC (.int 2147483587))) (tC (.int 40692))) (tC (.int 2147483399))) (gName 2))
  (tRet (tOp rAddI (tOp rMulI (tVar 1) (tC (.int 2147483399))) (tVar 2))))))
theorem pure_l_seed {G : Gx} {vs : List V} {H : Hp} {Q : VK} {E : XK} (h : sp_l_seed G vs H Q E) : Body (t_l_seed G) ["_law_cell_here", "_law_one", "_law_two"] vs H Q := by
  obtain ⟨c, rfl, k⟩ := h
  show t_l_seed G _ [some (.int c), none, none] H
  unfold t_l_seed
  walk_at "go"
  refine iteD (fun h => ?_) (fun h => ?_)
  · walk_at "go"
    unfold seed at k
    rw [if_pos h] at k
    exact k
  · have e1 : (0 : Int) ≤ (c * 48271 + 7919) % 2147483647 := Int.emod_nonneg _ (by decide)
    have e2 : (c * 48271 + 7919) % 2147483647 < 2147483647 := Int.emod_lt_of_pos _ (by decide)
    walk_at "go"
    unfold seed at k
    rw [if_neg h] at k
    exact k
/-! ### digits -/
def digSt (c : Int) (zs : List Int) : Nat → Int × List Int
  | 0 => (seed c, [])
  | i + 1 =>
    let s := digSt c zs i
    let z := zs.getD i 1
    let r := if s.1 < z then seed (s.1 + 131 * (i : Int) + c % 1009) else s.1
    (r / z, s.2 ++ [r % z])
def digits (c : Int) (zs : List Int) : List Int := (digSt c zs zs.length).2
theorem digSt_len (c : Int) (zs : List Int) : ∀ i, (digSt c zs i).2.length = i
  | 0 => rfl
  | i + 1 => by
    show ((digSt c zs i).2 ++ [_]).length = i + 1
    rw [List.length_append, digSt_len c zs i]
    rfl
theorem digits_len (c : Int) (zs : List Int) : (digits c zs).length = zs.length := digSt_len c zs _
theorem digSt_get (c : Int) (zs : List Int) : ∀ n j, j < n → ∃ r, (digSt c zs n).2[j]? = some (r % zs.getD j 1)
  | 0, j, h => absurd h (Nat.not_lt_zero _)
  | n + 1, j, h => by
    have hl := digSt_len c zs n
    show ∃ r, ((digSt c zs n).2 ++ [_])[j]? = some (r % zs.getD j 1)
    by_cases e : j = n
    · subst e
      refine ⟨if (digSt c zs j).1 < zs.getD j 1 then seed ((digSt c zs j).1 + 131 * (j : Int) + c % 1009) else (digSt c zs j).1, ?_⟩
      rw [List.getElem?_append_right (by omega), hl, Nat.sub_self]
      rfl
    · rw [List.getElem?_append_left (by omega)]
      exact digSt_get c zs n j (by omega)
theorem digits_get (c : Int) (zs : List Int) (j : Nat) (z : Int) (h : zs[j]? = some z) (hz : 0 < z) : ∃ d, (digits c zs)[j]? = some d ∧ 0 ≤ d ∧ d < z := by
  have hj : j < zs.length := (List.getElem?_eq_some_iff.mp h).1
  obtain ⟨r, e⟩ := digSt_get c zs zs.length j hj
  have ez : zs.getD j 1 = z := by rw [List.getD_eq_getElem?_getD, h]; rfl
  rw [ez] at e
  exact ⟨r % z, e, Int.emod_nonneg _ (by omega), Int.emod_lt_of_pos _ hz⟩
def sp_l_digits (G : Gx) : Sp := fun vs H Q _ => ∃ (c : Int) (a : Addr) (zs : List Int), vs = [.int c, .ref a] ∧ SqL G.K H a (zs.map V.int) ∧ (∀ z ∈ zs, 0 < z ∧ z ≤ (10 : Int) ^ 60) ∧ zs.length ≤ 1000 ∧
  ∀ p H', Same H H' → Free H p → H' p = some (.lst ((digits c zs).map V.int)) → Q (.ref p) H'
theorem len_l_digits {G : Gx} : ∀ vs H Q E, sp_l_digits G vs H Q E → vs.length = 2 := by rintro vs H Q E ⟨c, a, zs, rfl, _⟩; rfl
/-! _law_digits: slots _law_cell_here, _law_sizes, _law_rest, _law_found, _law_k, _law_size -/
def t_l_digits (G : Gx) : TS :=
  (tSeq (tAsg (tCall (sp_l_seed G) [] E0 (tCons (tVar 0) tNil)) (gName 2))
  (tSeq (tAsg (tLst tNil) (gName 3))
  (tSeq (tFor (iEnum G.K (tCons (tVar 1) tNil)) (gTup G.K 2 (gCons (gName 4) (gCons (gName 5) gNil)))
  (tSeq (tIfS (tTest (tOp rLtI (tVar 2) (tVar 5))) (tAsg (tCall (sp_l_seed G) [] E0 (tCons (tOp rAddI (tOp rAddI (tVar 2) (tOp rMulI (tC (.int 131)) (tVar 4))) (tOp rModI (tVar 0) (tC (.int 1009)))) tNil)) (gName 2)) tNext)
  (tSeq (tDrop (tBM G.K "list" rAppend (tVar 3) (tCons (tOp rModI (tVar 2) (tVar 5)) tNil)))
  (tAsg (tOp rDivW (tVar 2) (tVar 5)) (gName 2)))))
  (tRet (tVar 3)))))
theorem div60 {i z : Int} (h0 : 0 < z) (h1 : z ≤ (10 : Int) ^ 60) : CDivW i z := divW_le (10 ^ 60) h0 h1 (by decide +kernel)
theorem pure_l_digits {G : Gx} {vs : List V} {H : Hp} {Q : VK} {E : XK} (h : sp_l_digits G vs H Q E) : Body (t_l_digits G) ["_law_cell_here", "_law_sizes", "_law_rest", "_law_found", "_law_k", "_law_size"] vs H Q := by
  obtain ⟨c, a, zs, rfl, hS, hz, hl, k⟩ := h
  show t_l_digits G _ [some (.int c), some (.ref a), none, none, none, none] H
  unfold t_l_digits
  walk_at "go"
  refine ⟨_, rfl, ?_⟩
  walk_at "go"
  refine ⟨by decide, fun p hp => ?_⟩
  walk_at "go"
  refine ⟨a, zs.map V.int, rfl, (same_new (Same.refl H) hp).seq hS, ?_⟩
  refine r_it walk_enum (fun i σ H' => ∃ u v, σ = [some (.int c), some (.ref a), some (.int (digSt c zs i).1), some (.ref p), u, v] ∧ Same H H' ∧ H' p = some (.lst ((digSt c zs i).2.map V.int)))
    ⟨none, none, rfl, same_new (Same.refl H) hp, upd_same⟩ (fun i σ H' _ ⟨_, _, _, s, _⟩ => s.seq hS) ?_ ?_
  · rintro i x σ H1 H2 hi ⟨u, v, rfl, s, hpl⟩ ⟨T, x1, y1, rfl, hT, rfl, e1, e2⟩
    cases e1
    obtain ⟨z, ez, rfl⟩ := map_get e2
    obtain ⟨hz0, hz1⟩ := hz z (List.mem_of_getElem? ez)
    have eg : zs.getD i 1 = z := by rw [List.getD_eq_getElem?_getD, ez]; rfl
    have hpl2 : upd H1 T (.tup [.int (i : Nat), .int z]) p = some (.lst ((digSt c zs i).2.map V.int)) := at_new hpl hT
    have s2 : Same H (upd H1 T (.tup [.int (i : Nat), .int z])) := same_new s hT
    have hpn : ∀ r : Int, (digSt c zs (i + 1)) = ((if (digSt c zs i).1 < z then seed ((digSt c zs i).1 + 131 * (i : Int) + c % 1009) else (digSt c zs i).1) / z, (digSt c zs i).2 ++ [(if (digSt c zs i).1 < z then seed ((digSt c zs i).1 + 131 * (i : Int) + c % 1009) else (digSt c zs i).1) % z]) := fun _ => by
      show (_, _) = _
      rw [eg]
    refine g_tup (SqT.of upd_same) rfl ?_
    have hln : (digSt c zs i).2.length < 1000000 := by
      rw [digSt_len]
      rw [List.length_map] at hi
      omega
    have fin : ∀ r : Int, r = (if (digSt c zs i).1 < z then seed ((digSt c zs i).1 + 131 * (i : Int) + c % 1009) else (digSt c zs i).1) →
        ∃ u v, [some (V.int c), some (V.ref a), some (V.int (r / z)), some (V.ref p), some (V.int (i : Nat)), some (V.int z)] = [some (.int c), some (.ref a), some (.int (digSt c zs (i + 1)).1), some (.ref p), u, v] ∧
          Same H (upd (upd H1 T (.tup [.int (i : Nat), .int z])) p (.lst ((digSt c zs i).2.map V.int ++ [.int (r % z)]))) ∧ upd (upd H1 T (.tup [.int (i : Nat), .int z])) p (.lst ((digSt c zs i).2.map V.int ++ [.int (r % z)])) p = some (.lst ((digSt c zs (i + 1)).2.map V.int)) := by
      rintro r rfl
      rw [hpn 0]
      refine ⟨_, _, rfl, same_mut s2 hp, ?_⟩
      rw [upd_same, List.map_append]
      rfl
    walk_at "go"
    refine iteD (fun hc => ?_) (fun hc => ?_)
    · walk_at "go"
      refine ⟨_, rfl, ?_⟩
      walk_at "go"
      refine r_I (div60 hz0 hz1) ?_
      exact fin _ (by rw [if_pos hc])
    · walk_at "go"
      refine r_I (div60 hz0 hz1) ?_
      exact fin _ (by rw [if_neg hc])
  · rintro σ H1 ⟨u, v, rfl, s, hpl⟩
    walk_at "go"
    rw [List.length_map] at hpl
    exact k p H1 s hp hpl
/-! ### cell -/
def sp_l_cell (G : Gx) : Sp := fun vs H Q _ => ∃ (a : Addr) (ns : List Int) (j : Nat), vs = [.ref a, .int (j : Int)] ∧ SqL G.K H a (ns.map V.int) ∧ Q (.int (ns.getD j 0)) H
theorem len_l_cell {G : Gx} : ∀ vs H Q E, sp_l_cell G vs H Q E → vs.length = 2 := by rintro vs H Q E ⟨a, ns, j, rfl, _⟩; rfl
/-! _law_cell: slots _law_script, _law_place -/
def t_l_cell (G : Gx) : TS :=
  (tSeq (tIfS (tTest (tOp rLtI (tVar 1) (tCB (rLenSeq G.K) (tCons (tVar 0) tNil)))) (tRet (tOp (rIxL G.K) (tVar 0) (tVar 1))) tNext)
  (tRet (tC (.int 0))))
theorem pure_l_cell {G : Gx} {vs : List V} {H : Hp} {Q : VK} {E : XK} (h : sp_l_cell G vs H Q E) : Body (t_l_cell G) ["_law_script", "_law_place"] vs H Q := by
  obtain ⟨a, ns, j, rfl, hS, k⟩ := h
  show t_l_cell G _ [some (.ref a), some (.int j)] H
  unfold t_l_cell
  walk_at "go"
  rw [List.length_map]
  refine iteD (fun h => ?_) (fun h => ?_)
  · have hj : j < ns.length := by omega
    walk_at "go"
    refine r_ixL hS (atI_nat (v := .int (ns.getD j 0)) ?_) k
    rw [List.getElem?_map, List.getElem?_eq_getElem hj, List.getD_eq_getElem?_getD, List.getElem?_eq_getElem hj]
    rfl
  · walk_at "go"
    have e : ns.getD j 0 = 0 := by rw [List.getD_eq_getElem?_getD, List.getElem?_eq_none (by omega)]; rfl
    rw [e] at k
    exact k
/-! ### whole -/
def sp_l_whole (G : Gx) : Sp := fun vs H Q _ => ∃ (i : Int), vs = [.int i] ∧ Q (.bl true) H
theorem len_l_whole {G : Gx} : ∀ vs H Q E, sp_l_whole G vs H Q E → vs.length = 1 := by rintro vs H Q E ⟨a, rfl, _⟩; rfl
/-! _law_whole: slots _law_thing -/
def t_l_whole (G : Gx) : TS :=
  (tRet (tAndV (tCB (rIsi G.K) (tCons (tVar 0) (tCons (tC (.ty "int")) tNil))) (tNotV (tCB (rIsi G.K) (tCons (tVar 0) (tCons (tC (.ty "bool")) tNil))))))
theorem pure_l_whole {G : Gx} {vs : List V} {H : Hp} {Q : VK} {E : XK} (h : sp_l_whole G vs H Q E) : Body (t_l_whole G) ["_law_thing"] vs H Q := by
  obtain ⟨i, rfl, k⟩ := h
  show t_l_whole G _ [some (.int i)] H
  unfold t_l_whole
  walk_at "go"
  exact k
/-! ### gcd -/
/-! _law_gcd: slots _law_one, _law_two -/
/-! ### common -/
/-! common: slots one, two -/
/-! ### amounts in lowest terms -/
def amt (num den : Int) : Int × Int :=
  if den < 0 then (-num / (Nat.gcd num.natAbs den.natAbs : Nat), -den / (Nat.gcd num.natAbs den.natAbs : Nat)) else (num / (Nat.gcd num.natAbs den.natAbs : Nat), den / (Nat.gcd num.natAbs den.natAbs : Nat))
/-! amount: slots num, den, by -/
/-! ### what holds of amt -/
theorem amt_spec {num den : Int} (h : den ≠ 0) : 1 ≤ (amt num den).2 ∧ Nat.gcd (amt num den).1.natAbs (amt num den).2.natAbs = 1 ∧ (amt num den).1 * den = num * (amt num den).2 := by
  have key : ∀ n d : Int, 0 < d → 1 ≤ d / (Nat.gcd n.natAbs d.natAbs : Nat) ∧ Nat.gcd (n / (Nat.gcd n.natAbs d.natAbs : Nat)).natAbs (d / (Nat.gcd n.natAbs d.natAbs : Nat)).natAbs = 1 ∧
      n / (Nat.gcd n.natAbs d.natAbs : Nat) * d = n * (d / (Nat.gcd n.natAbs d.natAbs : Nat)) := by
    intro n d hd
    have hg : 0 < Int.gcd n d := Int.gcd_pos_of_ne_zero_right _ (by omega)
    have e : (Nat.gcd n.natAbs d.natAbs) = Int.gcd n d := rfl
    rw [e]
    have d1 : (Int.gcd n d : Int) ∣ n := Int.gcd_dvd_left ..
    have d2 : (Int.gcd n d : Int) ∣ d := Int.gcd_dvd_right ..
    obtain ⟨a, ha⟩ := d1
    obtain ⟨b, hb⟩ := d2
    have g0 : (Int.gcd n d : Int) ≠ 0 := by omega
    have ea : n / (Int.gcd n d : Int) = a := by
      conv => lhs; arg 1; rw [ha]
      exact Int.mul_ediv_cancel_left _ g0
    have eb : d / (Int.gcd n d : Int) = b := by
      conv => lhs; arg 1; rw [hb]
      exact Int.mul_ediv_cancel_left _ g0
    have hz := Int.gcd_ediv_gcd_ediv_gcd hg
    rw [ea, eb] at hz ⊢
    refine ⟨?_, hz, ?_⟩
    · rcases Int.lt_or_le 0 b with q | q
      · omega
      · have : d ≤ 0 := by
          rw [hb]
          exact Int.mul_nonpos_of_nonneg_of_nonpos (by omega) q
        omega
    · generalize (Int.gcd n d : Int) = g at ha hb
      subst ha hb
      rw [Int.mul_comm g a, Int.mul_assoc]
  unfold amt
  by_cases c : den < 0
  · rw [if_pos c]
    have k := key (-num) (-den) (by omega)
    rw [Int.natAbs_neg, Int.natAbs_neg] at k
    refine ⟨k.1, k.2.1, ?_⟩
    have k3 := k.2.2
    rw [Int.mul_neg, Int.neg_mul] at k3
    exact Int.neg_inj.mp k3
  · rw [if_neg c]
    exact key num den (by omega)
/-! ### call words -/
theorem c_seed {G : Gx} {c : Int} {H : Hp} {Q : VK} {E : XK} (h : Q (.int (seed c)) H) : sp_l_seed G [.int c] H Q E := ⟨c, rfl, h⟩
theorem c_cell {G : Gx} {a : Addr} {ns : List Int} {i : Int} {H : Hp} {Q : VK} {E : XK} (hs : SqL G.K H a (ns.map V.int)) (h0 : 0 ≤ i) (h : Q (.int (ns.getD i.toNat 0)) H) : sp_l_cell G [.ref a, .int i] H Q E :=
  ⟨a, ns, i.toNat, by rw [Int.toNat_of_nonneg h0], hs, h⟩
theorem c_whole {G : Gx} {i : Int} {H : Hp} {Q : VK} {E : XK} (h : Q (.bl true) H) : sp_l_whole G [.int i] H Q E := ⟨i, rfl, h⟩
theorem c_digits2 {G : Gx} {c z0 z1 : Int} {a : Addr} {H : Hp} {Q : VK} {E : XK} (hs : SqL G.K H a [.int z0, .int z1]) (hz0 : 0 < z0 ∧ z0 ≤ (10 : Int) ^ 60) (hz1 : 0 < z1 ∧ z1 ≤ (10 : Int) ^ 60)
    (h : ∀ (d0 d1 : Int) (q : Addr) (H' : Hp), digits c [z0, z1] = [d0, d1] → 0 ≤ d0 → d0 < z0 → 0 ≤ d1 → d1 < z1 → Same H H' → Free H q → H' q = some (.lst [.int d0, .int d1]) → Q (.ref q) H') : sp_l_digits G [.int c, .ref a] H Q E := by
  refine ⟨c, a, [z0, z1], rfl, hs, ?_, by show 2 ≤ 1000; decide, fun q H1 s hq e => ?_⟩
  · intro z hz
    simp only [List.mem_cons, List.not_mem_nil, or_false] at hz
    rcases hz with rfl | rfl
    · exact hz0
    · exact hz1
  · have hl := digits_len c [z0, z1]
    obtain ⟨y0, e0, a0, b0⟩ := digits_get c [z0, z1] 0 z0 rfl hz0.1
    obtain ⟨y1, e1, a1, b1⟩ := digits_get c [z0, z1] 1 z1 rfl hz1.1
    have ed : digits c [z0, z1] = [y0, y1] := by
      generalize digits c [z0, z1] = l at *
      match l, hl with
      | [x0, x1], _ =>
        obtain rfl : x0 = y0 := Option.some.inj e0
        obtain rfl : x1 = y1 := Option.some.inj e1
        rfl
    rw [ed] at e
    exact h y0 y1 q H1 ed a0 b0 a1 b1 s hq e
theorem c_digits4 {G : Gx} {c z0 z1 z2 z3 : Int} {a : Addr} {H : Hp} {Q : VK} {E : XK} (hs : SqL G.K H a [.int z0, .int z1, .int z2, .int z3]) (hz0 : 0 < z0 ∧ z0 ≤ (10 : Int) ^ 60) (hz1 : 0 < z1 ∧ z1 ≤ (10 : Int) ^ 60) (hz2 : 0 < z2 ∧ z2 ≤ (10 : Int) ^ 60) (hz3 : 0 < z3 ∧ z3 ≤ (10 : Int) ^ 60)
    (h : ∀ (d0 d1 d2 d3 : Int) (q : Addr) (H' : Hp), digits c [z0, z1, z2, z3] = [d0, d1, d2, d3] → 0 ≤ d0 → d0 < z0 → 0 ≤ d1 → d1 < z1 → 0 ≤ d2 → d2 < z2 → 0 ≤ d3 → d3 < z3 → Same H H' → Free H q → H' q = some (.lst [.int d0, .int d1, .int d2, .int d3]) → Q (.ref q) H') : sp_l_digits G [.int c, .ref a] H Q E := by
  refine ⟨c, a, [z0, z1, z2, z3], rfl, hs, ?_, by show 4 ≤ 1000; decide, fun q H1 s hq e => ?_⟩
  · intro z hz
    simp only [List.mem_cons, List.not_mem_nil, or_false] at hz
    rcases hz with rfl | rfl | rfl | rfl
    · exact hz0
    · exact hz1
    · exact hz2
    · exact hz3
  · have hl := digits_len c [z0, z1, z2, z3]
    obtain ⟨y0, e0, a0, b0⟩ := digits_get c [z0, z1, z2, z3] 0 z0 rfl hz0.1
    obtain ⟨y1, e1, a1, b1⟩ := digits_get c [z0, z1, z2, z3] 1 z1 rfl hz1.1
    obtain ⟨y2, e2, a2, b2⟩ := digits_get c [z0, z1, z2, z3] 2 z2 rfl hz2.1
    obtain ⟨y3, e3, a3, b3⟩ := digits_get c [z0, z1, z2, z3] 3 z3 rfl hz3.1
    have ed : digits c [z0, z1, z2, z3] = [y0, y1, y2, y3] := by
      generalize digits c [z0, z1, z2, z3] = l at *
      match l, hl with
      | [x0, x1, x2, x3], _ =>
        obtain rfl : x0 = y0 := Option.some.inj e0
        obtain rfl : x1 = y1 := Option.some.inj e1
        obtain rfl : x2 = y2 := Option.some.inj e2
        obtain rfl : x3 = y3 := Option.some.inj e3
        rfl
    rw [ed] at e
    exact h y0 y1 y2 y3 q H1 ed a0 b0 a1 b1 a2 b2 a3 b3 s hq e
theorem c_digits6 {G : Gx} {c z0 z1 z2 z3 z4 z5 : Int} {a : Addr} {H : Hp} {Q : VK} {E : XK} (hs : SqL G.K H a [.int z0, .int z1, .int z2, .int z3, .int z4, .int z5]) (hz0 : 0 < z0 ∧ z0 ≤ (10 : Int) ^ 60) (hz1 : 0 < z1 ∧ z1 ≤ (10 : Int) ^ 60) (hz2 : 0 < z2 ∧ z2 ≤ (10 : Int) ^ 60) (hz3 : 0 < z3 ∧ z3 ≤ (10 : Int) ^ 60) (hz4 : 0 < z4 ∧ z4 ≤ (10 : Int) ^ 60) (hz5 : 0 < z5 ∧ z5 ≤ (10 : Int) ^ 60)
    (h : ∀ (d0 d1 d2 d3 d4 d5 : Int) (q : Addr) (H' : Hp), digits c [z0, z1, z2, z3, z4, z5] = [d0, d1, d2, d3, d4, d5] → 0 ≤ d0 → d0 < z0 → 0 ≤ d1 → d1 < z1 → 0 ≤ d2 → d2 < z2 → 0 ≤ d3 → d3 < z3 → 0 ≤ d4 → d4 < z4 → 0 ≤ d5 → d5 < z5 → Same H H' → Free H q → H' q = some (.lst [.int d0, .int d1, .int d2, .int d3, .int d4, .int d5]) → Q (.ref q) H') : sp_l_digits G [.int c, .ref a] H Q E := by
  refine ⟨c, a, [z0, z1, z2, z3, z4, z5], rfl, hs, ?_, by show 6 ≤ 1000; decide, fun q H1 s hq e => ?_⟩
  · intro z hz
    simp only [List.mem_cons, List.not_mem_nil, or_false] at hz
    rcases hz with rfl | rfl | rfl | rfl | rfl | rfl
    · exact hz0
    · exact hz1
    · exact hz2
    · exact hz3
    · exact hz4
    · exact hz5
  · have hl := digits_len c [z0, z1, z2, z3, z4, z5]
    obtain ⟨y0, e0, a0, b0⟩ := digits_get c [z0, z1, z2, z3, z4, z5] 0 z0 rfl hz0.1
    obtain ⟨y1, e1, a1, b1⟩ := digits_get c [z0, z1, z2, z3, z4, z5] 1 z1 rfl hz1.1
    obtain ⟨y2, e2, a2, b2⟩ := digits_get c [z0, z1, z2, z3, z4, z5] 2 z2 rfl hz2.1
    obtain ⟨y3, e3, a3, b3⟩ := digits_get c [z0, z1, z2, z3, z4, z5] 3 z3 rfl hz3.1
    obtain ⟨y4, e4, a4, b4⟩ := digits_get c [z0, z1, z2, z3, z4, z5] 4 z4 rfl hz4.1
    obtain ⟨y5, e5, a5, b5⟩ := digits_get c [z0, z1, z2, z3, z4, z5] 5 z5 rfl hz5.1
    have ed : digits c [z0, z1, z2, z3, z4, z5] = [y0, y1, y2, y3, y4, y5] := by
      generalize digits c [z0, z1, z2, z3, z4, z5] = l at *
      match l, hl with
      | [x0, x1, x2, x3, x4, x5], _ =>
        obtain rfl : x0 = y0 := Option.some.inj e0
        obtain rfl : x1 = y1 := Option.some.inj e1
        obtain rfl : x2 = y2 := Option.some.inj e2
        obtain rfl : x3 = y3 := Option.some.inj e3
        obtain rfl : x4 = y4 := Option.some.inj e4
        obtain rfl : x5 = y5 := Option.some.inj e5
        rfl
    rw [ed] at e
    exact h y0 y1 y2 y3 y4 y5 q H1 ed a0 b0 a1 b1 a2 b2 a3 b3 a4 b4 a5 b5 s hq e
local macro_rules | `(tactic| walk_at "st") => `(tactic| first
  | with_reducible refine c_seed ?_
  | ((with_reducible refine c_cell (ns := ?ns) ?hs ?h0 ?_); (case hs => walk_at "sq"); (case h0 => first | decide | omega))
  | with_reducible refine c_whole ?_)
/-! ### number: something below 10 ** 60 -/
/-! _law_number: slots _law_cell_here, _law_low, _law_high, _law_size, _law_sign, _law_number_here -/
/-! ### is_amount -/
/-! _law_is_amount: slots _law_found -/
def spLaw (G : Gx) : Sp := fun vs H Q _ => ∃ (a : Addr) (ns : List Int), vs = [.ref a] ∧ SqL G.K H a (ns.map V.int) ∧ ns.length ≤ 63 ∧ ∀ H', Q (.bl true) H'
theorem len_p_law {G : Gx} : ∀ vs H Q E, spLaw G vs H Q E → vs.length = 1 := by rintro vs H Q E ⟨m, a, rfl, _⟩; rfl
/-! ### lowest -/
/-! _law_lowest: slots _law_num, _law_den, _law_by -/
/-! ### drawn_amount -/
structure Low (x y : Int) : Prop where
  one : 1 ≤ y
  gcd : Nat.gcd x.natAbs y.natAbs = 1
/-! _law_drawn_amount: slots _law_one, _law_two, _law_den -/
/-! ### plus, minus, times -/
/-! plus: slots one, other -/
/-! minus: slots one, other -/
/-! times: slots one, many -/
/-! ### below -/
/-! below: slots one, other -/
/-! Ps: the keys of a dict in their order. -/
def putS (S : List Int) (k : Int) : List Int := if k ∈ S then S else S ++ [k]
section
variable {S : List Int} {k : Int}
theorem mem_putS {x : Int} : x ∈ putS S k ↔ x ∈ S ∨ x = k := by
  unfold putS
  by_cases h : k ∈ S
  · rw [if_pos h]
    exact ⟨.inl, fun z => z.elim id fun e => e ▸ h⟩
  · rw [if_neg h, List.mem_append, List.mem_singleton]
theorem nd_putS (h : S.Nodup) : (putS S k).Nodup := by
  unfold putS
  by_cases hk : k ∈ S
  · rw [if_pos hk]; exact h
  · rw [if_neg hk]
    refine List.nodup_append.mpr ⟨h, List.Pairwise.cons (fun _ z => nomatch z) .nil, fun x hx y hy => ?_⟩
    rw [List.mem_singleton.mp hy]
    exact fun e => hk (e ▸ hx)
end
def fset (f : Int → Int) (k v : Int) : Int → Int := fun z => if z = k then v else f z
/-- three keys in turn -/
def putS3 (S : List Int) (x y z : Int) : List Int := putS (putS (putS S x) y) z
theorem mem_putS3 {S : List Int} {x y z w : Int} : w ∈ putS3 S x y z ↔ w ∈ S ∨ w = x ∨ w = y ∨ w = z := by
  unfold putS3
  rw [mem_putS, mem_putS, mem_putS, or_assoc, or_assoc]
theorem nd_putS3 {S : List Int} {x y z : Int} (h : S.Nodup) : (putS3 S x y z).Nodup := nd_putS (nd_putS (nd_putS h))
/-! Eqv: classes of a finite set under steps; permutations; counting classes. Plain Lean. -/
/-! ### lists -/
theorem sub_len {α : Type} [DecidableEq α] : ∀ {l m : List α}, l.Nodup → (∀ x ∈ l, x ∈ m) → l.length ≤ m.length
  | [], _, _, _ => Nat.zero_le _
  | a :: l, m, h, hs => by
    obtain ⟨h1, h2⟩ := List.nodup_cons.mp h
    have ha : a ∈ m := hs a List.mem_cons_self
    have q := sub_len (l := l) (m := m.erase a) h2 fun x hx => by
      have hne : x ≠ a := fun e => h1 (e ▸ hx)
      exact (List.mem_erase_of_ne hne).mpr (hs x (List.mem_cons_of_mem _ hx))
    have e := List.length_erase_of_mem ha
    have : 0 < m.length := List.length_pos_of_mem ha
    rw [List.length_cons]
    omega
/-! ### the equivalence that steps make -/
inductive Eqv (r : Int → Int → Prop) : Int → Int → Prop where
  | refl (x : Int) : Eqv r x x
  | step {x y : Int} (h : r x y) : Eqv r x y
  | symm {x y : Int} (h : Eqv r x y) : Eqv r y x
  | trans {x y z : Int} (h : Eqv r x y) (g : Eqv r y z) : Eqv r x z
section
variable {r r' : Int → Int → Prop} {x y z : Int}
theorem Eqv.map {f : Int → Int} (h : ∀ x y, r x y → Eqv r' (f x) (f y)) : Eqv r x y → Eqv r' (f x) (f y) := fun e => by
  induction e with
  | refl x => exact .refl _
  | step q => exact h _ _ q
  | symm _ ih => exact ih.symm
  | trans _ _ i1 i2 => exact i1.trans i2
theorem Eqv.mono (h : ∀ x y, r x y → Eqv r' x y) : Eqv r x y → Eqv r' x y := Eqv.map (f := id) h
theorem Eqv.inv {A : Int → Prop} (h : ∀ x y, r x y → (A x ↔ A y)) : Eqv r x y → (A x ↔ A y) := fun e => by
  induction e with
  | refl x => exact Iff.rfl
  | step q => exact h _ _ q
  | symm _ ih => exact ih.symm
  | trans _ _ i1 i2 => exact i1.trans i2
end
/-! ### how many classes -/
def Cls (S : List Int) (r : Int → Int → Prop) (n : Nat) : Prop :=
  ∃ R : List Int, R.length = n ∧ (∀ x ∈ R, x ∈ S) ∧ (∀ x ∈ S, ∃ y ∈ R, Eqv r x y) ∧ R.Pairwise fun x y => ¬ Eqv r x y
theorem cls_exists (r : Int → Int → Prop) : ∀ S : List Int, ∃ n, Cls S r n
  | [] => ⟨0, [], rfl, fun x h => h, fun x h => absurd h (List.not_mem_nil), List.Pairwise.nil⟩
  | a :: S => by
    obtain ⟨n, R, h1, h2, h3, h4⟩ := cls_exists r S
    by_cases c : ∃ y ∈ R, Eqv r a y
    · refine ⟨n, R, h1, fun x hx => List.mem_cons_of_mem _ (h2 x hx), fun x hx => ?_, h4⟩
      rcases List.mem_cons.mp hx with rfl | hx
      · exact c
      · exact h3 x hx
    · refine ⟨n + 1, a :: R, by rw [List.length_cons, h1], fun x hx => ?_, fun x hx => ?_, List.pairwise_cons.mpr ⟨fun y hy e => c ⟨y, hy, e⟩, h4⟩⟩
      · rcases List.mem_cons.mp hx with rfl | hx
        · exact List.mem_cons_self
        · exact List.mem_cons_of_mem _ (h2 x hx)
      · rcases List.mem_cons.mp hx with rfl | hx
        · exact ⟨x, List.mem_cons_self, .refl _⟩
        · obtain ⟨y, hy, e⟩ := h3 x hx
          exact ⟨y, List.mem_cons_of_mem _ hy, e⟩
theorem cls_le {S : List Int} {r : Int → Int → Prop} : ∀ {R R2 : List Int}, R.Pairwise (fun x y => ¬ Eqv r x y) → (∀ x ∈ R, ∃ y ∈ R2, Eqv r x y) → R.length ≤ R2.length
  | [], _, _, _ => Nat.zero_le _
  | a :: R, R2, h, hc => by
    obtain ⟨h1, h2⟩ := List.pairwise_cons.mp h
    obtain ⟨b, hb, e⟩ := hc a List.mem_cons_self
    have q := cls_le (S := S) (R := R) (R2 := R2.erase b) h2 fun x hx => by
      obtain ⟨y, hy, e2⟩ := hc x (List.mem_cons_of_mem _ hx)
      have hne : y ≠ b := fun z => h1 x hx (e.trans (by rw [← z]; exact e2.symm))
      exact ⟨y, (List.mem_erase_of_ne hne).mpr hy, e2⟩
    have e := List.length_erase_of_mem hb
    have : 0 < R2.length := List.length_pos_of_mem hb
    rw [List.length_cons]
    omega
theorem cls_unique {S : List Int} {r : Int → Int → Prop} {n m : Nat} (h : Cls S r n) (g : Cls S r m) : n = m := by
  obtain ⟨R, h1, h2, h3, h4⟩ := h
  obtain ⟨R2, g1, g2, g3, g4⟩ := g
  have a := cls_le (S := S) h4 fun x hx => g3 x (h2 x hx)
  have b := cls_le (S := S) g4 fun x hx => h3 x (g2 x hx)
  omega
/-- the same classes by maps to and fro -/
theorem cls_maps {S S' : List Int} {r r' : Int → Int → Prop} {n : Nat} (f g : Int → Int) (hf : ∀ x y, r x y → Eqv r' (f x) (f y)) (hg : ∀ x y, r' x y → Eqv r (g x) (g y)) (mf : ∀ x ∈ S, f x ∈ S') (mg : ∀ y ∈ S', g y ∈ S)
    (fg : ∀ y ∈ S', Eqv r' (f (g y)) y) (gf : ∀ x ∈ S, Eqv r (g (f x)) x) (h : Cls S r n) : Cls S' r' n := by
  obtain ⟨R, h1, h2, h3, h4⟩ := h
  refine ⟨R.map f, by rw [List.length_map, h1], fun y hy => ?_, fun y hy => ?_, ?_⟩
  · obtain ⟨x, hx, rfl⟩ := List.mem_map.mp hy
    exact mf x (h2 x hx)
  · obtain ⟨x, hx, e⟩ := h3 (g y) (mg y hy)
    exact ⟨f x, List.mem_map_of_mem hx, (fg y hy).symm.trans (Eqv.map hf e)⟩
  · rw [List.pairwise_map]
    refine List.Pairwise.imp_of_mem (fun {a b} ha hb hne e => hne ?_) h4
    exact (gf a (h2 a ha)).symm.trans ((Eqv.map hg e).trans (gf b (h2 b hb)))
theorem cls_same {S S' : List Int} {r r' : Int → Int → Prop} {n : Nat} (hS : ∀ x, x ∈ S ↔ x ∈ S') (hf : ∀ x y, r x y → Eqv r' x y) (hg : ∀ x y, r' x y → Eqv r x y) (h : Cls S r n) : Cls S' r' n :=
  cls_maps id id hf hg (fun x => (hS x).mp) (fun x => (hS x).mpr) (fun _ _ => .refl _) (fun _ _ => .refl _) h
/-- one pair more -/
def plusPair (r : Int → Int → Prop) (a b : Int) : Int → Int → Prop := fun x y => r x y ∨ (x = a ∧ y = b)
theorem eqv_pair {r : Int → Int → Prop} {a b x y : Int} (h : Eqv (plusPair r a b) x y) : Eqv r x y ∨ ((Eqv r x a ∨ Eqv r x b) ∧ (Eqv r y a ∨ Eqv r y b)) := by
  induction h with
  | refl x => exact .inl (.refl _)
  | step q =>
    rcases q with q | ⟨rfl, rfl⟩
    · exact .inl (.step q)
    · exact .inr ⟨.inl (.refl _), .inr (.refl _)⟩
  | symm _ ih =>
    rcases ih with q | ⟨q1, q2⟩
    · exact .inl q.symm
    · exact .inr ⟨q2, q1⟩
  | trans _ _ i1 i2 =>
    rcases i1 with q | ⟨q1, q2⟩
    · rcases i2 with p | ⟨p1, p2⟩
      · exact .inl (q.trans p)
      · exact .inr ⟨p1.imp (fun z => q.trans z) (fun z => q.trans z), p2⟩
    · rcases i2 with p | ⟨p1, p2⟩
      · exact .inr ⟨q1, q2.imp (fun z => p.symm.trans z) (fun z => p.symm.trans z)⟩
      · exact .inr ⟨q1, p2⟩
theorem nodup_of {r : Int → Int → Prop} {R : List Int} (h : R.Pairwise fun x y => ¬ Eqv r x y) : R.Nodup := h.imp (fun {a b} (hne : ¬ Eqv r a b) (e : a = b) => hne (by rw [e]; exact .refl _))
theorem pair_of {r : Int → Int → Prop} {R : List Int} (h : R.Pairwise fun x y => ¬ Eqv r x y) {x y : Int} (hx : x ∈ R) (hy : y ∈ R) (e : Eqv r x y) : x = y := by
  induction R with
  | nil => exact absurd hx List.not_mem_nil
  | cons a R ih =>
    obtain ⟨h1, h2⟩ := List.pairwise_cons.mp h
    rcases List.mem_cons.mp hx with ex | mx
    · rcases List.mem_cons.mp hy with ey | my
      · rw [ex, ey]
      · exact absurd (ex ▸ e) (h1 y my)
    · rcases List.mem_cons.mp hy with ey | my
      · exact absurd (ey ▸ e.symm) (h1 x mx)
      · exact ih h2 mx my
theorem cls_merge {S : List Int} {r : Int → Int → Prop} {a b : Int} {n : Nat} (ha : a ∈ S) (hb : b ∈ S) (hne : ¬ Eqv r a b) (h : Cls S r (n + 1)) : Cls S (plusPair r a b) n := by
  obtain ⟨R, h1, h2, h3, h4⟩ := h
  obtain ⟨ra, hra, ea⟩ := h3 a ha
  obtain ⟨rb, hrb, eb⟩ := h3 b hb
  have hab : ra ≠ rb := fun z => hne (ea.trans (z ▸ eb.symm))
  have up : ∀ {x y}, Eqv r x y → Eqv (plusPair r a b) x y := fun e => Eqv.mono (fun _ _ q => .step (.inl q)) e
  have ab : Eqv (plusPair r a b) a b := .step (.inr ⟨rfl, rfl⟩)
  have nd := nodup_of h4
  refine ⟨R.erase rb, by rw [List.length_erase_of_mem hrb, h1]; rfl, fun x hx => h2 x (List.mem_of_mem_erase hx), fun x hx => ?_, ?_⟩
  · obtain ⟨y, hy, e⟩ := h3 x hx
    by_cases c : y = rb
    · subst c
      exact ⟨ra, (List.mem_erase_of_ne hab).mpr hra, (up e).trans ((up eb).symm.trans (ab.symm.trans (up ea)))⟩
    · exact ⟨y, (List.mem_erase_of_ne c).mpr hy, up e⟩
  · have h5 : (R.erase rb).Pairwise fun x y => ¬ Eqv r x y := h4.sublist List.erase_sublist
    refine List.Pairwise.imp_of_mem (fun {x y} hx hy hn e => ?_) h5
    have only : ∀ z ∈ R.erase rb, (Eqv r z a ∨ Eqv r z b) → z = ra := fun z hz q => by
      have hzR := List.mem_of_mem_erase hz
      rcases q with q | q
      · exact pair_of h4 hzR hra (q.trans ea)
      · have e2 := pair_of h4 hzR hrb (q.trans eb)
        rw [e2] at hz
        exact absurd hz (List.Nodup.not_mem_erase nd)
    rcases eqv_pair e with q | ⟨q1, q2⟩
    · exact hn q
    · have e1 := only x hx q1
      have e2 := only y hy q2
      subst e1
      subst e2
      exact hn (.refl _)
theorem cls_pair_in {S : List Int} {r : Int → Int → Prop} {a b : Int} {n : Nat} (hab : Eqv r a b) : Cls S r n ↔ Cls S (plusPair r a b) n := by
  have f : ∀ x y, r x y → Eqv (plusPair r a b) x y := fun x y q => .step (.inl q)
  have g : ∀ x y, plusPair r a b x y → Eqv r x y := fun x y q => by
    rcases q with q | ⟨rfl, rfl⟩
    · exact .step q
    · exact hab
  exact ⟨cls_same (fun _ => Iff.rfl) f g, cls_same (fun _ => Iff.rfl) g f⟩
/-- a one is the only class: all are equivalent -/
theorem cls_one {S : List Int} {r : Int → Int → Prop} (h : Cls S r 1) {x y : Int} (hx : x ∈ S) (hy : y ∈ S) : Eqv r x y := by
  obtain ⟨R, h1, h2, h3, h4⟩ := h
  match R, h1 with
  | [a], _ =>
    obtain ⟨u, hu, e⟩ := h3 x hx
    obtain ⟨v, hv, e2⟩ := h3 y hy
    rw [List.mem_singleton.mp hu] at e
    rw [List.mem_singleton.mp hv] at e2
    exact e.trans e2.symm
/-! ### a permutation of a finite set -/
def iter (f : Int → Int) : Nat → Int → Int
  | 0, x => x
  | n + 1, x => f (iter f n x)
structure Perm1 (S : List Int) (f : Int → Int) : Prop where
  mem : ∀ x ∈ S, f x ∈ S
  inj : ∀ x ∈ S, ∀ y ∈ S, f x = f y → x = y
section
variable {S : List Int} {f : Int → Int}
theorem iter_mem (P : Perm1 S f) {x : Int} (hx : x ∈ S) : ∀ n, iter f n x ∈ S
  | 0 => hx
  | n + 1 => P.mem _ (iter_mem P hx n)
theorem iter_add (f : Int → Int) (x : Int) (m : Nat) : ∀ n, iter f (n + m) x = iter f n (iter f m x)
  | 0 => by rw [Nat.zero_add]; rfl
  | n + 1 => by rw [Nat.succ_add]; exact congrArg f (iter_add f x m n)
theorem iter_inj (P : Perm1 S f) : ∀ (n : Nat) {x y : Int}, x ∈ S → y ∈ S → iter f n x = iter f n y → x = y
  | 0, _, _, _, _, e => e
  | n + 1, x, y, hx, hy, e => iter_inj P n hx hy (P.inj _ (iter_mem P hx n) _ (iter_mem P hy n) e)
/-- one comes back, within as many steps as there are -/
theorem iter_back (P : Perm1 S f) {x : Int} (hx : x ∈ S) : ∃ n, n < S.length ∧ iter f (n + 1) x = x := by
  by_cases c : ∃ n, n < S.length ∧ iter f (n + 1) x = x
  · exact c
  · exfalso
    have key : ∀ m, m ≤ S.length → ((List.range (m + 1)).map fun i => iter f i x).Nodup := by
      intro m hm
      rw [List.nodup_iff_pairwise_ne, List.pairwise_map]
      refine List.Pairwise.imp_of_mem (fun {i j} hi hj hlt e => ?_) (List.pairwise_lt_range (n := m + 1))
      have hj' := List.mem_range.mp hj
      obtain ⟨k, hk⟩ : ∃ k, j = (k + 1) + i := ⟨j - i - 1, by omega⟩
      rw [hk, Nat.add_comm (k + 1) i, iter_add] at e
      have e2 := iter_inj P i hx (iter_mem P hx (k + 1)) e
      exact c ⟨k, by omega, e2.symm⟩
    have nd := key S.length (Nat.le_refl _)
    have := sub_len nd fun y hy => by
      obtain ⟨i, _, rfl⟩ := List.mem_map.mp hy
      exact iter_mem P hx i
    rw [List.length_map, List.length_range] at this
    omega
/-- the first return -/
theorem iter_first (P : Perm1 S f) {x : Int} (hx : x ∈ S) : ∃ n, n < S.length ∧ iter f (n + 1) x = x ∧ ∀ i, i < n → iter f (i + 1) x ≠ x := by
  obtain ⟨n, h1, h2⟩ := iter_back P hx
  have key : ∀ n, n < S.length → iter f (n + 1) x = x → ∃ m, m < S.length ∧ iter f (m + 1) x = x ∧ ∀ i, i < m → iter f (i + 1) x ≠ x := by
    intro n
    induction n using Nat.strongRecOn with
    | ind n ih =>
      intro h1 h2
      by_cases c : ∃ i, i < n ∧ iter f (i + 1) x = x
      · obtain ⟨i, hi, e⟩ := c
        exact ih i hi (by omega) e
      · exact ⟨n, h1, h2, fun i hi e => c ⟨i, hi, e⟩⟩
  exact key n h1 h2
def fstep (S : List Int) (f : Int → Int) : Int → Int → Prop := fun x y => x ∈ S ∧ y = f x
theorem fstep_iter (P : Perm1 S f) {x : Int} (hx : x ∈ S) : ∀ n, Eqv (fstep S f) x (iter f n x)
  | 0 => .refl _
  | n + 1 => (fstep_iter P hx n).trans (.step ⟨iter_mem P hx n, rfl⟩)
/-- what is equivalent to x is come to by steps from x -/
theorem eqv_iter (P : Perm1 S f) {x y : Int} (hx : x ∈ S) (e : Eqv (fstep S f) x y) : ∃ n, n < S.length ∧ iter f n x = y := by
  obtain ⟨p, hp, hb, hf⟩ := iter_first P hx
  have per : ∀ n, ∃ m, m ≤ p ∧ iter f n x = iter f m x := by
    intro n
    induction n with
    | zero => exact ⟨0, Nat.zero_le _, rfl⟩
    | succ n ih =>
      obtain ⟨m, hm, e⟩ := ih
      by_cases c : m = p
      · subst c
        refine ⟨0, Nat.zero_le _, ?_⟩
        show f (iter f n x) = x
        rw [e]
        exact hb
      · refine ⟨m + 1, by omega, ?_⟩
        show f (iter f n x) = f (iter f m x)
        rw [e]
  have inv : (∃ n, iter f n x = x) ↔ (∃ n, iter f n x = y) := by
    refine Eqv.inv (A := fun y => ∃ n, iter f n x = y) (fun a b q => ?_) e
    obtain ⟨ha, rfl⟩ := q
    constructor
    · rintro ⟨n, hn⟩
      exact ⟨n + 1, by show f _ = f a; rw [hn]⟩
    · rintro ⟨n, hn⟩
      obtain ⟨m, hm, e2⟩ := per n
      cases m with
      | zero =>
        refine ⟨p, ?_⟩
        have e3 : f (iter f p x) = f a := hb.trans (e2.symm.trans hn)
        exact P.inj _ (iter_mem P hx p) _ ha e3
      | succ m =>
        refine ⟨m, ?_⟩
        have e3 : f (iter f m x) = f a := e2.symm.trans hn
        exact P.inj _ (iter_mem P hx m) _ ha e3
  obtain ⟨n, hn⟩ := inv.mp ⟨0, rfl⟩
  obtain ⟨m, hm, e2⟩ := per n
  exact ⟨m, by omega, e2.symm.trans hn⟩
/-- round the class from f x to x, without a step from x -/
theorem cyc_back (P : Perm1 S f) {x : Int} (hx : x ∈ S) {R : Int → Int → Prop} (rr : ∀ z, R z z) (rt : ∀ {a b c}, R a b → R b c → R a c) (h : ∀ z ∈ S, z ≠ x → Eqv (fstep S f) x z → R z (f z)) : R (f x) x := by
  obtain ⟨p, hp, hb, hf⟩ := iter_first P hx
  have key : ∀ i, i ≤ p → R (f x) (iter f (i + 1) x) := by
    intro i
    induction i with
    | zero => exact fun _ => rr _
    | succ i ih =>
      intro hi
      exact rt (ih (by omega)) (h _ (iter_mem P hx _) (hf i (by omega)) (fstep_iter P hx _))
  have q := key p (Nat.le_refl _)
  rw [hb] at q
  exact q
/-- two images changed for one another -/
def swapF (f : Int → Int) (a b : Int) : Int → Int := fun x => if x = a then f b else if x = b then f a else f x
theorem swap_perm (P : Perm1 S f) {a b : Int} (ha : a ∈ S) (hb : b ∈ S) : Perm1 S (swapF f a b) := by
  refine ⟨fun x hx => ?_, fun x hx y hy e => ?_⟩
  · unfold swapF
    split
    · exact P.mem _ hb
    · split
      · exact P.mem _ ha
      · exact P.mem _ hx
  · unfold swapF at e
    by_cases x1 : x = a
    · rw [if_pos x1] at e
      by_cases y1 : y = a
      · rw [x1, y1]
      · rw [if_neg y1] at e
        by_cases y2 : y = b
        · rw [if_pos y2] at e
          have := P.inj _ hb _ ha e
          rw [x1, y2, this]
        · rw [if_neg y2] at e
          exact absurd (P.inj _ hb _ hy e).symm y2
    · rw [if_neg x1] at e
      by_cases x2 : x = b
      · rw [if_pos x2] at e
        by_cases y1 : y = a
        · rw [if_pos y1] at e
          have := P.inj _ ha _ hb e
          rw [x2, y1, this]
        · rw [if_neg y1] at e
          by_cases y2 : y = b
          · rw [x2, y2]
          · rw [if_neg y2] at e
            exact absurd (P.inj _ ha _ hy e).symm y1
      · rw [if_neg x2] at e
        by_cases y1 : y = a
        · rw [if_pos y1] at e
          exact absurd (P.inj _ hx _ hb e) x2
        · rw [if_neg y1] at e
          by_cases y2 : y = b
          · rw [if_pos y2] at e
            exact absurd (P.inj _ hx _ ha e) x1
          · rw [if_neg y2] at e
            exact P.inj _ hx _ hy e
theorem swap_join (P : Perm1 S f) {a b : Int} (ha : a ∈ S) (hb : b ∈ S) (hne : ¬ Eqv (fstep S f) a b) : Eqv (fstep S (swapF f a b)) a b := by
  have hab : a ≠ b := fun e => hne (e ▸ .refl _)
  -- b's own class from f b to b
  have q : Eqv (fstep S (swapF f a b)) (f b) b := cyc_back P hb (R := Eqv (fstep S (swapF f a b))) .refl .trans fun z hz hzb e => .step ⟨hz, by
    have hza : z ≠ a := fun c => hne (c ▸ e.symm)
    unfold swapF
    rw [if_neg hza, if_neg hzb]⟩
  exact (Eqv.step ⟨ha, by unfold swapF; rw [if_pos rfl]⟩ : Eqv (fstep S (swapF f a b)) a (f b)).trans q
theorem swap_split (P : Perm1 S f) {a b : Int} (ha : a ∈ S) (hb : b ∈ S) (hab : a ≠ b) (e : Eqv (fstep S f) a b) : ¬ Eqv (fstep S (swapF f a b)) a b := by
  have P' := swap_perm P ha hb
  obtain ⟨n, hn, en⟩ := eqv_iter P ha e
  -- the least k with iter (k + 1) a = b
  have key : ∀ n, iter f n a = b → ∃ k, iter f (k + 1) a = b ∧ ∀ i, i < k → iter f (i + 1) a ≠ b := by
    intro n
    induction n using Nat.strongRecOn with
    | ind n ih =>
      intro h
      cases n with
      | zero => exact absurd h hab
      | succ n =>
        by_cases c : ∃ i, i < n ∧ iter f (i + 1) a = b
        · obtain ⟨i, hi, e⟩ := c
          exact ih (i + 1) (by omega) e
        · exact ⟨n, h, fun i hi e => c ⟨i, hi, e⟩⟩
  obtain ⟨k, hk, hmin⟩ := key n en
  -- a itself does not come on the way
  have noA : ∀ i, i ≤ k → iter f (i + 1) a ≠ a := by
    intro i hi ea
    by_cases c : i = k
    · subst c
      exact hab (ea.symm.trans hk)
    · have : iter f (k - i) a = b := by
        have e1 : k + 1 = (k - i) + (i + 1) := by omega
        rw [e1, iter_add, ea] at hk
        exact hk
      obtain ⟨m, hm⟩ : ∃ m, k - i = m + 1 := ⟨k - i - 1, by omega⟩
      rw [hm] at this
      exact hmin m (by omega) this
  intro e'
  have inv : (∃ i, i ≤ k ∧ iter f (i + 1) a = a) ↔ (∃ i, i ≤ k ∧ iter f (i + 1) a = b) := by
    refine Eqv.inv (A := fun y => ∃ i, i ≤ k ∧ iter f (i + 1) a = y) (fun x y q => ?_) e'
    obtain ⟨hx, rfl⟩ := q
    have swb : swapF f a b b = f a := by unfold swapF; rw [if_neg (Ne.symm hab), if_pos rfl]
    have sw : ∀ i, i < k → swapF f a b (iter f (i + 1) a) = iter f (i + 2) a := fun i hi => by
      unfold swapF
      rw [if_neg (noA i (by omega)), if_neg (hmin i hi)]
      rfl
    constructor
    · rintro ⟨i, hi, e⟩
      by_cases c : i = k
      · subst c
        refine ⟨0, Nat.zero_le _, ?_⟩
        rw [← e, hk, swb]
        rfl
      · refine ⟨i + 1, by omega, ?_⟩
        rw [← e, sw i (by omega)]
    · rintro ⟨i, hi, e⟩
      cases i with
      | zero =>
        refine ⟨k, Nat.le_refl _, ?_⟩
        rw [hk]
        exact P'.inj _ hb _ hx (swb.trans e)
      | succ i =>
        refine ⟨i, by omega, ?_⟩
        exact P'.inj _ (iter_mem P ha _) _ hx ((sw i (by omega)).trans e)
  obtain ⟨i, hi, e2⟩ := inv.mpr ⟨k, Nat.le_refl _, hk⟩
  exact noA i hi e2
/-- the pair thrown in, the swap makes no difference -/
theorem swap_pair {a b : Int} (ha : a ∈ S) (hb : b ∈ S) {x y : Int} : Eqv (plusPair (fstep S f) a b) x y ↔ Eqv (plusPair (fstep S (swapF f a b)) a b) x y := by
  have ab : ∀ r, Eqv (plusPair r a b) a b := fun r => .step (.inr ⟨rfl, rfl⟩)
  constructor
  · refine Eqv.mono fun x y q => ?_
    rcases q with ⟨hx, rfl⟩ | q
    · by_cases c1 : x = a
      · subst c1
        by_cases c2 : x = b
        · subst c2
          exact .step (.inl ⟨hx, by unfold swapF; rw [if_pos rfl]⟩)
        · exact (ab _).trans (.step (.inl ⟨hb, by unfold swapF; rw [if_neg (Ne.symm c2), if_pos rfl]⟩))
      · by_cases c2 : x = b
        · subst c2
          exact (ab _).symm.trans (.step (.inl ⟨ha, by unfold swapF; rw [if_pos rfl]⟩))
        · exact .step (.inl ⟨hx, by unfold swapF; rw [if_neg c1, if_neg c2]⟩)
    · exact .step (.inr q)
  · refine Eqv.mono fun x y q => ?_
    rcases q with ⟨hx, rfl⟩ | q
    · unfold swapF
      by_cases c1 : x = a
      · subst c1
        rw [if_pos rfl]
        exact (ab _).trans (.step (.inl ⟨hb, rfl⟩))
      · rw [if_neg c1]
        by_cases c2 : x = b
        · subst c2
          rw [if_pos rfl]
          exact (ab _).symm.trans (.step (.inl ⟨ha, rfl⟩))
        · rw [if_neg c2]
          exact .step (.inl ⟨hx, rfl⟩)
    · exact .step (.inr q)
theorem swap_down (P : Perm1 S f) {a b : Int} {n : Nat} (ha : a ∈ S) (hb : b ∈ S) (hne : ¬ Eqv (fstep S f) a b) (h : Cls S (fstep S f) (n + 1)) : Cls S (fstep S (swapF f a b)) n := by
  have h1 := cls_merge ha hb hne h
  rw [cls_pair_in (swap_join P ha hb hne)]
  exact cls_same (fun _ => Iff.rfl) (fun x y q => (swap_pair ha hb).mp (.step q)) (fun x y q => (swap_pair ha hb).mpr (.step q)) h1
theorem swap_up (P : Perm1 S f) {a b : Int} {n : Nat} (ha : a ∈ S) (hb : b ∈ S) (hab : a ≠ b) (e : Eqv (fstep S f) a b) (h : Cls S (fstep S f) n) : Cls S (fstep S (swapF f a b)) (n + 1) := by
  obtain ⟨m, hm⟩ := cls_exists (fstep S (swapF f a b)) S
  have hs := swap_split P ha hb hab e
  have h1 := (cls_pair_in e).mp h
  have h2 : Cls S (plusPair (fstep S (swapF f a b)) a b) n := cls_same (fun _ => Iff.rfl) (fun x y q => (swap_pair ha hb).mp (.step q)) (fun x y q => (swap_pair ha hb).mpr (.step q)) h1
  cases m with
  | zero =>
    obtain ⟨R, g1, _, g3, _⟩ := hm
    obtain ⟨y, hy, _⟩ := g3 a ha
    rw [List.length_eq_zero_iff.mp g1] at hy
    exact absurd hy List.not_mem_nil
  | succ m =>
    have h3 := cls_merge ha hb hs hm
    rw [cls_unique h2 h3]
    exact hm
end
/-! WebM: webs as maps: ends, the next end, the other end; films pushed, pulled; a film cut; a corner mended. Plain Lean. -/
def ot (x : Int) : Int := if x % 2 = 0 then x + 1 else x - 1
theorem ot_ot (x : Int) : ot (ot x) = x := by
  unfold ot
  split <;> split <;> omega
theorem ot_ne (x : Int) : ot x ≠ x := by
  unfold ot
  split <;> omega
theorem ot_div (x : Int) : ot x / 2 = x / 2 := by
  unfold ot
  split <;> omega
theorem ot_or {x y : Int} (h : x / 2 = y / 2) : x = y ∨ x = ot y := by
  unfold ot
  split <;> omega
structure Map (S : List Int) (al nx : Int → Int) : Prop where
  nd : S.Nodup
  ca : ∀ x ∈ S, al x ∈ S
  cn : ∀ x ∈ S, nx x ∈ S
  aa : ∀ x ∈ S, al (al x) = x
  n3 : ∀ x ∈ S, nx (nx (nx x)) = x
  n1 : ∀ x ∈ S, nx x ≠ x
def face (al nx : Int → Int) : Int → Int := fun x => nx (al x)
def cs (S : List Int) (al nx : Int → Int) : Int → Int → Prop := fun x y => x ∈ S ∧ (y = al x ∨ y = nx x)
section
variable {S : List Int} {al nx : Int → Int}
theorem Map.ninj (M : Map S al nx) {x y : Int} (hx : x ∈ S) (hy : y ∈ S) (e : nx x = nx y) : x = y := by
  rw [← M.n3 x hx, ← M.n3 y hy, e]
theorem Map.ainj (M : Map S al nx) {x y : Int} (hx : x ∈ S) (hy : y ∈ S) (e : al x = al y) : x = y := by
  rw [← M.aa x hx, ← M.aa y hy, e]
theorem Map.n2 (M : Map S al nx) {x : Int} (hx : x ∈ S) : nx (nx x) ≠ x := fun e => by
  have h := M.n3 x hx
  rw [e] at h
  exact M.n1 x hx h
theorem Map.n12 (M : Map S al nx) {x : Int} (hx : x ∈ S) : nx (nx x) ≠ nx x := M.n1 _ (M.cn x hx)
theorem Map.perm (M : Map S al nx) : Perm1 S (face al nx) :=
  ⟨fun x hx => M.cn _ (M.ca x hx), fun x hx y hy e => M.ainj hx hy (M.ninj (M.ca x hx) (M.ca y hy) e)⟩
theorem Map.same {nx' : Int → Int} {S' : List Int} (M : Map S al nx) (nd : S'.Nodup) (hS : ∀ x, x ∈ S' ↔ x ∈ S) (h : ∀ x ∈ S, nx' x = nx x) : Map S' al nx' := by
  refine ⟨nd, fun x hx => (hS _).mpr (M.ca x ((hS x).mp hx)), fun x hx => ?_, fun x hx => M.aa x ((hS x).mp hx), fun x hx => ?_, fun x hx => ?_⟩
  · have hx := (hS x).mp hx
    rw [h x hx]
    exact (hS _).mpr (M.cn x hx)
  · have hx := (hS x).mp hx
    rw [h x hx, h _ (M.cn x hx), h _ (M.cn _ (M.cn x hx))]
    exact M.n3 x hx
  · have hx := (hS x).mp hx
    rw [h x hx]
    exact M.n1 x hx
end
/-! ### a film cut: its ends lead back -/
def cutA (al : Int → Int) (e o : Int) : Int → Int := fun z => if z = e then e else if z = o then o else al z
section
variable {S : List Int} {al nx : Int → Int} {e o : Int}
theorem cut_map (M : Map S al nx) (he : e ∈ S) (ho : o ∈ S) (h1 : al e = o) (h2 : al o = e) : Map S (cutA al e o) nx := by
  refine ⟨M.nd, fun x hx => ?_, M.cn, fun x hx => ?_, M.n3, M.n1⟩
  · unfold cutA
    split
    · exact he
    · split
      · exact ho
      · exact M.ca x hx
  · by_cases c1 : x = e
    · subst c1
      unfold cutA
      rw [if_pos rfl, if_pos rfl]
    · by_cases c2 : x = o
      · subst c2
        unfold cutA
        rw [if_neg c1, if_pos rfl, if_neg c1, if_pos rfl]
      · have e1 : cutA al e o x = al x := by unfold cutA; rw [if_neg c1, if_neg c2]
        have n1 : al x ≠ e := fun z => c2 (M.ainj hx ho (z.trans h2.symm))
        have n2 : al x ≠ o := fun z => c1 (M.ainj hx he (z.trans h1.symm))
        rw [e1]
        unfold cutA
        rw [if_neg n1, if_neg n2]
        exact M.aa x hx
theorem cut_face (h1 : al e = o) (h2 : al o = e) : face (cutA al e o) nx = swapF (face al nx) e o := by
  funext z
  unfold face cutA swapF
  by_cases c1 : z = e
  · rw [if_pos c1, if_pos c1]
    show nx e = nx (al o)
    rw [h2]
  · rw [if_neg c1, if_neg c1]
    by_cases c2 : z = o
    · rw [if_pos c2, if_pos c2]
      show nx o = nx (al e)
      rw [h1]
    · rw [if_neg c2, if_neg c2]
theorem cut_cls {n : Nat} (M : Map S al nx) (he : e ∈ S) (ho : o ∈ S) (h1 : al e = o) (h2 : al o = e) (hne : ¬ Eqv (fstep S (face al nx)) e o) (h : Cls S (fstep S (face al nx)) (n + 1)) : Cls S (fstep S (face (cutA al e o) nx)) n := by
  rw [cut_face h1 h2]
  exact swap_down M.perm he ho hne h
/-- with unlike faces on its hands a film may be cut: all stays connected -/
theorem cut_conn (M : Map S al nx) (he : e ∈ S) (ho : o ∈ S) (h1 : al e = o) (h2 : al o = e) (hne : ¬ Eqv (fstep S (face al nx)) e o) {x y : Int} (h : Eqv (cs S al nx) x y) : Eqv (cs S (cutA al e o) nx) x y := by
  have st : ∀ z ∈ S, Eqv (cs S (cutA al e o) nx) z (nx z) := fun z hz => .step ⟨hz, .inr rfl⟩
  have eo : Eqv (cs S (cutA al e o) nx) e o := by
    have q : Eqv (cs S (cutA al e o) nx) (face al nx e) e := cyc_back M.perm he (R := Eqv (cs S (cutA al e o) nx)) .refl .trans fun z hz hze hq => by
      have hzo : z ≠ o := fun c => hne (c ▸ hq)
      have e1 : cutA al e o z = al z := by unfold cutA; rw [if_neg hze, if_neg hzo]
      exact (Eqv.step ⟨hz, .inl e1.symm⟩ : Eqv (cs S (cutA al e o) nx) z (al z)).trans (st _ (M.ca z hz))
    have q2 : face al nx e = nx o := by unfold face; rw [h1]
    rw [q2] at q
    exact ((st o ho).trans q).symm
  refine Eqv.mono (fun x y q => ?_) h
  obtain ⟨hx, q | q⟩ := q
  · subst q
    by_cases c1 : x = e
    · rw [c1, h1]
      exact eo
    · by_cases c2 : x = o
      · rw [c2, h2]
        exact eo.symm
      · exact .step ⟨hx, .inl (by unfold cutA; rw [if_neg c1, if_neg c2])⟩
  · exact .step ⟨hx, .inr q⟩
end
/-! ### a corner mended: t leads back, y's film goes on as x's -/
def mendS (S : List Int) (t y g : Int) : List Int := S.filter fun z => decide (z ≠ t ∧ z ≠ y ∧ z ≠ g)
def mendN (nx : Int → Int) (x g : Int) : Int → Int := fun z => if z = x then nx g else if nx z = g then x else nx z
structure Mend (S : List Int) (al nx : Int → Int) (t x y g : Int) : Prop where
  M : Map S al nx
  ht : t ∈ S
  hy : y ∈ S
  tt : al t = t
  yg : al y = g
  cor : (nx t = x ∧ nx x = y ∧ nx y = t) ∨ (nx t = y ∧ nx y = x ∧ nx x = t)
  gy : g ≠ y
  gx : g ≠ x
theorem mem_mendS {S : List Int} {t y g z : Int} : z ∈ mendS S t y g ↔ z ∈ S ∧ z ≠ t ∧ z ≠ y ∧ z ≠ g := by
  unfold mendS
  rw [List.mem_filter, decide_eq_true_eq]
section
variable {S : List Int} {al nx : Int → Int} {t x y g : Int}
structure MendFacts (S : List Int) (al nx : Int → Int) (t x y g p q : Int) : Prop where
  hx : x ∈ S
  hg : g ∈ S
  hp : p ∈ S
  hq : q ∈ S
  gp : nx g = p
  pq : nx p = q
  qg : nx q = g
  gy' : al g = y
  tx : t ≠ x
  ty : t ≠ y
  xy : x ≠ y
  gt : g ≠ t
  pt : p ≠ t
  px : p ≠ x
  py : p ≠ y
  pg : p ≠ g
  qt : q ≠ t
  qx : q ≠ x
  qy : q ≠ y
  qg' : q ≠ g
  qp : q ≠ p
theorem Mend.facts (D : Mend S al nx t x y g) : MendFacts S al nx t x y g (nx g) (nx (nx g)) := by
  obtain ⟨M, ht, hy, tt, yg, cor, gy, gx⟩ := D
  have hg : g ∈ S := yg ▸ M.ca y hy
  have gy' : al g = y := by rw [← yg]; exact M.aa y hy
  have hp := M.cn g hg
  have hq := M.cn _ hp
  have gt : g ≠ t := fun z => by
    rw [z, tt] at gy'
    rw [z] at gy
    exact gy gy'
  have qg := M.n3 g hg
  -- corners apart: what leads to t, x, y are themselves
  have apart : ∀ z ∈ S, z ≠ t → z ≠ x → z ≠ y → nx z ≠ t ∧ nx z ≠ x ∧ nx z ≠ y := by
    intro z hz z1 z2 z3
    rcases cor with ⟨c1, c2, c3⟩ | ⟨c1, c2, c3⟩
    · have hx : x ∈ S := c1 ▸ M.cn t ht
      exact ⟨fun q => z3 (M.ninj hz hy (q.trans c3.symm)), fun q => z1 (M.ninj hz ht (q.trans c1.symm)), fun q => z2 (M.ninj hz hx (q.trans c2.symm))⟩
    · have hx : x ∈ S := c2 ▸ M.cn y hy
      exact ⟨fun q => z2 (M.ninj hz hx (q.trans c3.symm)), fun q => z3 (M.ninj hz hy (q.trans c2.symm)), fun q => z1 (M.ninj hz ht (q.trans c1.symm))⟩
  have a1 := apart g hg gt gx gy
  have a2 := apart _ hp a1.1 a1.2.1 a1.2.2
  have hx : x ∈ S := by
    rcases cor with ⟨c1, c2, c3⟩ | ⟨c1, c2, c3⟩
    · exact c1 ▸ M.cn t ht
    · exact c2 ▸ M.cn y hy
  have dis : t ≠ x ∧ t ≠ y ∧ x ≠ y := by
    rcases cor with ⟨c1, c2, c3⟩ | ⟨c1, c2, c3⟩
    · refine ⟨fun z => M.n1 t ht (c1.trans z.symm), fun z => M.n1 y hy (c3.trans z), fun z => M.n1 x hx (c2.trans z.symm)⟩
    · refine ⟨fun z => M.n1 x hx (c3.trans z), fun z => M.n1 t ht (c1.trans z.symm), fun z => M.n1 y hy (c2.trans z)⟩
  exact ⟨hx, hg, hp, hq, rfl, rfl, qg, gy', dis.1, dis.2.1, dis.2.2, gt, a1.1, a1.2.1, a1.2.2, M.n1 g hg, a2.1, a2.2.1, a2.2.2, M.n2 hg, M.n12 hg⟩
theorem mendN_x : mendN nx x g x = nx g := by unfold mendN; rw [if_pos rfl]
theorem mendN_q {q : Int} (h1 : q ≠ x) (h2 : nx q = g) : mendN nx x g q = x := by unfold mendN; rw [if_neg h1, if_pos h2]
theorem mendN_o {z : Int} (h1 : z ≠ x) (h2 : nx z ≠ g) : mendN nx x g z = nx z := by unfold mendN; rw [if_neg h1, if_neg h2]
theorem mend_map (D : Mend S al nx t x y g) : Map (mendS S t y g) al (mendN nx x g) := by
  have F := D.facts
  obtain ⟨M, ht, hy, tt, yg, cor, gy, gx⟩ := D
  generalize nx g = p at F
  generalize nx p = q at F
  have hN : ∀ z ∈ mendS S t y g, z ≠ x → z ≠ q → mendN nx x g z = nx z ∧ nx z ∈ mendS S t y g := by
    intro z hz z1 z2
    obtain ⟨zS, z3, z4, z5⟩ := mem_mendS.mp hz
    have n1 : nx z ≠ g := fun e => z2 (M.ninj zS F.hq (e.trans F.qg.symm))
    refine ⟨mendN_o z1 n1, mem_mendS.mpr ⟨M.cn z zS, fun e => ?_, fun e => ?_, n1⟩⟩
    · rcases cor with ⟨c1, c2, c3⟩ | ⟨c1, c2, c3⟩
      · exact z4 (M.ninj zS hy (e.trans c3.symm))
      · exact z1 (M.ninj zS F.hx (e.trans c3.symm))
    · rcases cor with ⟨c1, c2, c3⟩ | ⟨c1, c2, c3⟩
      · exact z1 (M.ninj zS F.hx (e.trans c2.symm))
      · exact z3 (M.ninj zS ht (e.trans c1.symm))
  have mx : x ∈ mendS S t y g := mem_mendS.mpr ⟨F.hx, F.tx.symm, F.xy, gx.symm⟩
  have mp : p ∈ mendS S t y g := mem_mendS.mpr ⟨F.hp, F.pt, F.py, F.pg⟩
  have mq : q ∈ mendS S t y g := mem_mendS.mpr ⟨F.hq, F.qt, F.qy, F.qg'⟩
  have ex : mendN nx x g x = p := mendN_x.trans F.gp
  have eq : mendN nx x g q = x := mendN_q F.qx F.qg
  have ep : mendN nx x g p = q := (mendN_o F.px (by rw [F.pq]; exact F.qg')).trans F.pq
  refine ⟨M.nd.filter _, fun z hz => ?_, fun z hz => ?_, fun z hz => M.aa z (mem_mendS.mp hz).1, fun z hz => ?_, fun z hz => ?_⟩
  · obtain ⟨zS, z3, z4, z5⟩ := mem_mendS.mp hz
    refine mem_mendS.mpr ⟨M.ca z zS, fun e => z3 (M.ainj zS ht (e.trans tt.symm)), fun e => z5 (M.ainj zS F.hg (e.trans F.gy'.symm)), fun e => z4 (M.ainj zS hy (e.trans yg.symm))⟩
  · by_cases z1 : z = x
    · rw [z1, ex]; exact mp
    · by_cases z2 : z = q
      · rw [z2, eq]; exact mx
      · rw [(hN z hz z1 z2).1]; exact (hN z hz z1 z2).2
  · by_cases z1 : z = x
    · rw [z1, ex, ep, eq]
    · by_cases z2 : z = q
      · rw [z2, eq, ex, ep]
      · by_cases z3 : z = p
        · rw [z3, ep, eq, ex]
        · have zS := (mem_mendS.mp hz).1
          have h1 := hN z hz z1 z2
          have w1 : nx z ≠ x := fun e => by
            rcases cor with ⟨c1, c2, c3⟩ | ⟨c1, c2, c3⟩
            · exact (mem_mendS.mp hz).2.1 (M.ninj zS ht (e.trans c1.symm))
            · exact (mem_mendS.mp hz).2.2.1 (M.ninj zS hy (e.trans c2.symm))
          have w2 : nx z ≠ q := fun e => z3 (M.ninj zS F.hp (e.trans F.pq.symm))
          have w3 : nx z ≠ p := fun e => (mem_mendS.mp hz).2.2.2 (M.ninj zS F.hg (e.trans F.gp.symm))
          have h2 := hN (nx z) h1.2 w1 w2
          have zS' := M.cn z zS
          have v1 : nx (nx z) ≠ x := fun e => by
            rcases cor with ⟨c1, c2, c3⟩ | ⟨c1, c2, c3⟩
            · exact (mem_mendS.mp h1.2).2.1 (M.ninj zS' ht (e.trans c1.symm))
            · exact (mem_mendS.mp h1.2).2.2.1 (M.ninj zS' hy (e.trans c2.symm))
          have v2 : nx (nx z) ≠ q := fun e => w3 (M.ninj zS' F.hp (e.trans F.pq.symm))
          have h3 := hN (nx (nx z)) h2.2 v1 v2
          rw [h1.1, h2.1, h3.1]
          exact M.n3 z zS
  · by_cases z1 : z = x
    · rw [z1, ex]; exact F.px
    · by_cases z2 : z = q
      · rw [z2, eq]; exact F.qx.symm
      · rw [(hN z hz z1 z2).1]; exact M.n1 z (mem_mendS.mp hz).1
theorem len_ne {S : List Int} (nd : S.Nodup) {a : Int} (ha : a ∈ S) : (S.filter fun z => decide (z ≠ a)).length + 1 = S.length := by
  induction S with
  | nil => exact absurd ha List.not_mem_nil
  | cons b S ih =>
    obtain ⟨h1, h2⟩ := List.nodup_cons.mp nd
    by_cases c : b = a
    · subst c
      have e : (S.filter fun z => decide (z ≠ b)) = S := List.filter_eq_self.mpr fun z hz => decide_eq_true fun q => h1 (q ▸ hz)
      rw [List.filter_cons, if_neg (by simp), e, List.length_cons]
    · have ha' : a ∈ S := (List.mem_cons.mp ha).resolve_left (Ne.symm c)
      rw [List.filter_cons, if_pos (by simp [c]), List.length_cons, List.length_cons, ih h2 ha']
theorem len_ne3 {S : List Int} (nd : S.Nodup) {a b c : Int} (ha : a ∈ S) (hb : b ∈ S) (hc : c ∈ S) (ab : a ≠ b) (ac : a ≠ c) (bc : b ≠ c) : (S.filter fun z => decide (z ≠ a ∧ z ≠ b ∧ z ≠ c)).length + 3 = S.length := by
  have e : (S.filter fun z => decide (z ≠ a ∧ z ≠ b ∧ z ≠ c)) = ((S.filter fun z => decide (z ≠ a)).filter fun z => decide (z ≠ b)).filter fun z => decide (z ≠ c) := by
    rw [List.filter_filter, List.filter_filter]
    refine List.filter_congr fun z _ => ?_
    by_cases h1 : z = a <;> by_cases h2 : z = b <;> by_cases h3 : z = c <;> simp [h1, h2, h3]
  have n1 := nd.filter (fun z => decide (z ≠ a))
  have n2 := n1.filter (fun z => decide (z ≠ b))
  have m1 : b ∈ S.filter fun z => decide (z ≠ a) := List.mem_filter.mpr ⟨hb, decide_eq_true ab.symm⟩
  have m2 : c ∈ (S.filter fun z => decide (z ≠ a)).filter fun z => decide (z ≠ b) := List.mem_filter.mpr ⟨List.mem_filter.mpr ⟨hc, decide_eq_true ac.symm⟩, decide_eq_true bc.symm⟩
  have l1 := len_ne nd ha
  have l2 := len_ne n1 m1
  have l3 := len_ne n2 m2
  rw [e]
  omega
theorem mend_len (D : Mend S al nx t x y g) : (mendS S t y g).length + 3 = S.length := by
  have F := D.facts
  exact len_ne3 D.M.nd D.ht D.hy F.hg F.ty F.gt.symm D.gy.symm
theorem mend_cls {n : Nat} (D : Mend S al nx t x y g) (h : Cls S (fstep S (face al nx)) n) : Cls (mendS S t y g) (fstep (mendS S t y g) (face al (mendN nx x g))) n := by
  have F := D.facts
  have M' := mend_map D
  obtain ⟨M, ht, hy, tt, yg, cor, gy, gx⟩ := D
  generalize nx g = p at F
  generalize nx p = q at F
  have mx : x ∈ mendS S t y g := mem_mendS.mpr ⟨F.hx, F.tx.symm, F.xy, gx.symm⟩
  have mp : p ∈ mendS S t y g := mem_mendS.mpr ⟨F.hp, F.pt, F.py, F.pg⟩
  have ex : mendN nx x g x = p := mendN_x.trans F.gp
  have eq : mendN nx x g q = x := mendN_q F.qx F.qg
  -- steps of the old map
  have s_t : Eqv (fstep S (face al nx)) t (nx t) := .step ⟨ht, by unfold face; rw [tt]⟩
  have s_y : Eqv (fstep S (face al nx)) y p := .step ⟨hy, by unfold face; rw [yg, F.gp]⟩
  have s_g : Eqv (fstep S (face al nx)) g (nx y) := .step ⟨F.hg, by unfold face; rw [F.gy']⟩
  have tx_or : Eqv (fstep S (face al nx)) g x ∧ ((nx t = x ∧ nx x = y ∧ Eqv (fstep S (face al nx)) t x) ∨ (nx t = y ∧ nx x = t ∧ Eqv (fstep S (face al nx)) t p)) := by
    rcases cor with ⟨c1, c2, c3⟩ | ⟨c1, c2, c3⟩
    · rw [c1] at s_t
      rw [c3] at s_g
      exact ⟨s_g.trans s_t, .inl ⟨c1, c2, s_t⟩⟩
    · rw [c1] at s_t
      rw [c2] at s_g
      exact ⟨s_g, .inr ⟨c1, c3, s_t.trans s_y⟩⟩
  obtain ⟨s_gx, tc⟩ := tx_or
  let w : Int := if nx t = x then x else p
  let f : Int → Int := fun z => if z = t then w else if z = y then p else if z = g then x else z
  have fw : w ∈ mendS S t y g ∧ Eqv (fstep S (face al nx)) t w := by
    rcases tc with ⟨c1, _, c3⟩ | ⟨c1, _, c3⟩
    · have e : w = x := if_pos c1
      rw [e]
      exact ⟨mx, c3⟩
    · have e : w = p := if_neg (by rw [c1]; exact F.xy.symm)
      rw [e]
      exact ⟨mp, c3⟩
  have f_t : f t = w := if_pos rfl
  have f_y : f y = p := by show (if y = t then w else if y = y then p else _) = p; rw [if_neg F.ty.symm, if_pos rfl]
  have f_g : f g = x := by show (if g = t then w else if g = y then p else if g = g then x else g) = x; rw [if_neg F.gt, if_neg gy, if_pos rfl]
  have f_o : ∀ z, z ≠ t → z ≠ y → z ≠ g → f z = z := fun z z1 z2 z3 => by show (if z = t then w else if z = y then p else if z = g then x else z) = z; rw [if_neg z1, if_neg z2, if_neg z3]
  have al_in : ∀ z ∈ S, z ≠ t → z ≠ y → z ≠ g → al z ≠ t ∧ al z ≠ y ∧ al z ≠ g := fun z zS z3 z4 z5 =>
    ⟨fun e => z3 (M.ainj zS ht (e.trans tt.symm)), fun e => z5 (M.ainj zS F.hg (e.trans F.gy'.symm)), fun e => z4 (M.ainj zS hy (e.trans yg.symm))⟩
  refine cls_maps f id (fun z v hz => ?_) (fun z v hz => ?_) (fun z hz => ?_) (fun z hz => (mem_mendS.mp hz).1) (fun z hz => ?_) (fun z hz => ?_) h
  · obtain ⟨zS, rfl⟩ := hz
    by_cases z1 : z = t
    · rw [z1, f_t]
      show Eqv _ w (f (nx (al t)))
      rw [tt]
      rcases tc with ⟨c1, _, _⟩ | ⟨c1, _, _⟩
      · have e : w = x := if_pos c1
        rw [e, c1, f_o x F.tx.symm F.xy gx.symm]
        exact .refl _
      · have e : w = p := if_neg (by rw [c1]; exact F.xy.symm)
        rw [e, c1, f_y]
        exact .refl _
    · by_cases z2 : z = y
      · rw [z2, f_y]
        show Eqv _ p (f (nx (al y)))
        rw [yg, F.gp, f_o p F.pt F.py F.pg]
        exact .refl _
      · by_cases z3 : z = g
        · rw [z3, f_g]
          show Eqv _ x (f (nx (al g)))
          rw [F.gy']
          rcases cor with ⟨c1, c2, c3⟩ | ⟨c1, c2, c3⟩
          · rw [c3, f_t]
            have e : w = x := if_pos c1
            rw [e]
            exact .refl _
          · rw [c2, f_o x F.tx.symm F.xy gx.symm]
            exact .refl _
        · have zm : z ∈ mendS S t y g := mem_mendS.mpr ⟨zS, z1, z2, z3⟩
          rw [f_o z z1 z2 z3]
          show Eqv _ z (f (nx (al z)))
          obtain ⟨a1, a2, a3⟩ := al_in z zS z1 z2 z3
          have haS := M.ca z zS
          have st : Eqv (fstep (mendS S t y g) (face al (mendN nx x g))) z (mendN nx x g (al z)) := .step ⟨zm, rfl⟩
          by_cases b1 : al z = x
          · rw [b1] at st ⊢
            rw [ex] at st
            rcases tc with ⟨_, c2, _⟩ | ⟨c1, c2, _⟩
            · rw [c2, f_y]
              exact st
            · rw [c2, f_t]
              have e : w = p := if_neg (by rw [c1]; exact F.xy.symm)
              rw [e]
              exact st
          · by_cases b2 : al z = q
            · rw [b2] at st ⊢
              rw [eq] at st
              rw [F.qg, f_g]
              exact st
            · have n1 : nx (al z) ≠ g := fun e => b2 (M.ninj haS F.hq (e.trans F.qg.symm))
              rw [mendN_o b1 n1] at st
              have n2 : nx (al z) ≠ t := fun e => by
                rcases cor with ⟨c1, c2, c3⟩ | ⟨c1, c2, c3⟩
                · exact a2 (M.ninj haS hy (e.trans c3.symm))
                · exact b1 (M.ninj haS F.hx (e.trans c3.symm))
              have n3 : nx (al z) ≠ y := fun e => by
                rcases cor with ⟨c1, c2, c3⟩ | ⟨c1, c2, c3⟩
                · exact b1 (M.ninj haS F.hx (e.trans c2.symm))
                · exact a1 (M.ninj haS ht (e.trans c1.symm))
              rw [f_o _ n2 n3 n1]
              exact st
  · obtain ⟨zm, rfl⟩ := hz
    obtain ⟨zS, z1, z2, z3⟩ := mem_mendS.mp zm
    show Eqv _ z (mendN nx x g (al z))
    have haS := M.ca z zS
    have st : Eqv (fstep S (face al nx)) z (nx (al z)) := .step ⟨zS, rfl⟩
    by_cases b1 : al z = x
    · rw [b1] at st ⊢
      rw [ex]
      rcases tc with ⟨_, c2, _⟩ | ⟨c1, c2, c3⟩
      · rw [c2] at st
        exact st.trans s_y
      · rw [c2] at st
        exact st.trans c3
    · by_cases b2 : al z = q
      · rw [b2] at st ⊢
        rw [eq]
        rw [F.qg] at st
        exact st.trans s_gx
      · have n1 : nx (al z) ≠ g := fun e => b2 (M.ninj haS F.hq (e.trans F.qg.symm))
        rw [mendN_o b1 n1]
        exact st
  · by_cases z1 : z = t
    · rw [z1, f_t]; exact fw.1
    · by_cases z2 : z = y
      · rw [z2, f_y]; exact mp
      · by_cases z3 : z = g
        · rw [z3, f_g]; exact mx
        · rw [f_o z z1 z2 z3]; exact mem_mendS.mpr ⟨hz, z1, z2, z3⟩
  · obtain ⟨zS, z1, z2, z3⟩ := mem_mendS.mp hz
    show Eqv _ (f z) z
    rw [f_o z z1 z2 z3]
    exact .refl _
  · show Eqv _ (f z) z
    by_cases z1 : z = t
    · rw [z1, f_t]; exact fw.2.symm
    · by_cases z2 : z = y
      · rw [z2, f_y]; exact s_y.symm
      · by_cases z3 : z = g
        · rw [z3, f_g]; exact s_gx.symm
        · rw [f_o z z1 z2 z3]; exact .refl _
theorem mend_conn (D : Mend S al nx t x y g) (h : ∀ u ∈ S, ∀ v ∈ S, Eqv (cs S al nx) u v) : ∀ u ∈ mendS S t y g, ∀ v ∈ mendS S t y g, Eqv (cs (mendS S t y g) al (mendN nx x g)) u v := by
  have F := D.facts
  obtain ⟨M, ht, hy, tt, yg, cor, gy, gx⟩ := D
  generalize nx g = p at F
  generalize nx p = q at F
  have mx : x ∈ mendS S t y g := mem_mendS.mpr ⟨F.hx, F.tx.symm, F.xy, gx.symm⟩
  let f : Int → Int := fun z => if z = t ∨ z = y ∨ z = g then x else z
  have f_b : ∀ z, (z = t ∨ z = y ∨ z = g) → f z = x := fun z hz => if_pos hz
  have f_o : ∀ z, z ≠ t → z ≠ y → z ≠ g → f z = z := fun z z1 z2 z3 => if_neg fun q => by
    rcases q with q | q | q
    · exact z1 q
    · exact z2 q
    · exact z3 q
  have fx : f x = x := f_o x F.tx.symm F.xy gx.symm
  have key : ∀ u v, Eqv (cs S al nx) u v → Eqv (cs (mendS S t y g) al (mendN nx x g)) (f u) (f v) := by
    intro u v e
    refine Eqv.map (fun z v hz => ?_) e
    obtain ⟨zS, q | q⟩ := hz
    · subst q
      by_cases z1 : z = t
      · rw [z1, tt]; exact .refl _
      · by_cases z2 : z = y
        · rw [z2, yg, f_b y (.inr (.inl rfl)), f_b g (.inr (.inr rfl))]; exact .refl _
        · by_cases z3 : z = g
          · rw [z3, F.gy', f_b y (.inr (.inl rfl)), f_b g (.inr (.inr rfl))]; exact .refl _
          · rw [f_o z z1 z2 z3, f_o (al z) (fun e => z1 (M.ainj zS ht (e.trans tt.symm))) (fun e => z3 (M.ainj zS F.hg (e.trans F.gy'.symm))) (fun e => z2 (M.ainj zS hy (e.trans yg.symm)))]
            exact .step ⟨mem_mendS.mpr ⟨zS, z1, z2, z3⟩, .inl rfl⟩
    · subst q
      have corner : ∀ z, z = t ∨ z = x ∨ z = y → f z = x ∧ f (nx z) = x := by
        intro z hz
        have hfz : f z = x := by
          rcases hz with hz | hz | hz
          · exact f_b z (.inl hz)
          · rw [hz]; exact fx
          · exact f_b z (.inr (.inl hz))
        refine ⟨hfz, ?_⟩
        rcases cor with ⟨c1, c2, c3⟩ | ⟨c1, c2, c3⟩
        · rcases hz with hz | hz | hz
          · rw [hz, c1]; exact fx
          · rw [hz, c2]; exact f_b y (.inr (.inl rfl))
          · rw [hz, c3]; exact f_b t (.inl rfl)
        · rcases hz with hz | hz | hz
          · rw [hz, c1]; exact f_b y (.inr (.inl rfl))
          · rw [hz, c3]; exact f_b t (.inl rfl)
          · rw [hz, c2]; exact fx
      by_cases zc : z = t ∨ z = x ∨ z = y
      · obtain ⟨h1, h2⟩ := corner z zc
        rw [h1, h2]
        exact .refl _
      · have z1 : z ≠ t := fun e => zc (.inl e)
        have z2 : z ≠ x := fun e => zc (.inr (.inl e))
        have z3 : z ≠ y := fun e => zc (.inr (.inr e))
        by_cases z4 : z = g
        · rw [z4, f_b g (.inr (.inr rfl)), F.gp, f_o p F.pt F.py F.pg]
          exact .step ⟨mx, .inr (mendN_x.trans F.gp).symm⟩
        · have zm : z ∈ mendS S t y g := mem_mendS.mpr ⟨zS, z1, z3, z4⟩
          rw [f_o z z1 z3 z4]
          by_cases z5 : z = q
          · rw [z5, F.qg, f_b g (.inr (.inr rfl))]
            exact .step ⟨z5 ▸ zm, .inr (mendN_q F.qx F.qg).symm⟩
          · have n1 : nx z ≠ g := fun e => z5 (M.ninj zS F.hq (e.trans F.qg.symm))
            have n2 : nx z ≠ t := fun e => by
              rcases cor with ⟨c1, c2, c3⟩ | ⟨c1, c2, c3⟩
              · exact z3 (M.ninj zS hy (e.trans c3.symm))
              · exact z2 (M.ninj zS F.hx (e.trans c3.symm))
            have n3 : nx z ≠ y := fun e => by
              rcases cor with ⟨c1, c2, c3⟩ | ⟨c1, c2, c3⟩
              · exact z2 (M.ninj zS F.hx (e.trans c2.symm))
              · exact z1 (M.ninj zS ht (e.trans c1.symm))
            rw [f_o _ n2 n3 n1]
            exact .step ⟨zm, .inr (mendN_o z2 n1).symm⟩
  intro u hu v hv
  obtain ⟨uS, u1, u2, u3⟩ := mem_mendS.mp hu
  obtain ⟨vS, v1, v2, v3⟩ := mem_mendS.mp hv
  have q := key u v (h u uS v vS)
  rw [f_o u u1 u2 u3, f_o v v1 v2 v3] at q
  exact q
end
/-! WebD: webs and the deeds at them: each gives a web. Plain Lean. -/
abbrev Rim (S : List Int) (nx : Int → Int) : Int → Int → Prop := Eqv (fstep S (face ot nx))
structure Web (S : List Int) (nx : Int → Int) : Prop where
  map : Map S ot nx
  ne : S ≠ []
  conn : ∀ x ∈ S, ∀ y ∈ S, Eqv (cs S ot nx) x y
  eul : ∃ n, Cls S (fstep S (face ot nx)) n ∧ 6 * n = S.length
  pos : ∀ x ∈ S, 0 ≤ x
/-- the same web with its ends in another order -/
theorem Web.same {S S' : List Int} {nx nx' : Int → Int} (W : Web S nx) (nd : S'.Nodup) (hS : ∀ x, x ∈ S' ↔ x ∈ S) (h : ∀ x ∈ S, nx' x = nx x) : Web S' nx' := by
  obtain ⟨n, hn, hl⟩ := W.eul
  have M' := W.map.same nd hS h
  have fs1 : ∀ x y, fstep S (face ot nx) x y → Eqv (fstep S' (face ot nx')) x y := fun x y ⟨hx, e⟩ => .step ⟨(hS x).mpr hx, by rw [e]; exact (h _ (W.map.ca x hx)).symm⟩
  have fs2 : ∀ x y, fstep S' (face ot nx') x y → Eqv (fstep S (face ot nx)) x y := fun x y ⟨hx, e⟩ => .step ⟨(hS x).mp hx, by rw [e]; exact h _ (W.map.ca x ((hS x).mp hx))⟩
  have len : S'.length = S.length := Nat.le_antisymm (sub_len nd fun x hx => (hS x).mp hx) (sub_len W.map.nd fun x hx => (hS x).mpr hx)
  refine ⟨M', ?_, fun x hx y hy => ?_, ⟨n, cls_same (fun x => (hS x).symm) fs1 fs2 hn, by rw [len]; exact hl⟩, fun x hx => W.pos x ((hS x).mp hx)⟩
  · obtain ⟨a, ha⟩ := List.exists_mem_of_ne_nil _ W.ne
    exact List.ne_nil_of_mem ((hS a).mpr ha)
  · refine Eqv.mono (fun u v q => ?_) (W.conn x ((hS x).mp hx) y ((hS y).mp hy))
    obtain ⟨hu, q | q⟩ := q
    · exact .step ⟨(hS u).mpr hu, .inl q⟩
    · exact .step ⟨(hS u).mpr hu, .inr (by rw [h u hu]; exact q)⟩
/-- corners seated anew among themselves -/
theorem reseat_map {S : List Int} {al nx nx' : Int → Int} {U : Int → Prop} (M : Map S al nx) (uS : ∀ x, U x → x ∈ S) (un : ∀ x, U x → U (nx x)) (off : ∀ x ∈ S, ¬ U x → nx' x = nx x)
    (u1 : ∀ x, U x → U (nx' x)) (u3 : ∀ x, U x → nx' (nx' (nx' x)) = x) (u0 : ∀ x, U x → nx' x ≠ x) : Map S al nx' := by
  have nu : ∀ x ∈ S, ¬ U x → ¬ U (nx x) := fun x hx h q => h (by rw [← M.n3 x hx]; exact un _ (un _ q))
  refine ⟨M.nd, M.ca, fun x hx => ?_, M.aa, fun x hx => ?_, fun x hx => ?_⟩
  · by_cases c : U x
    · exact uS _ (u1 x c)
    · rw [off x hx c]; exact M.cn x hx
  · by_cases c : U x
    · exact u3 x c
    · have c1 := nu x hx c
      have c2 := nu _ (M.cn x hx) c1
      rw [off x hx c, off _ (M.cn x hx) c1, off _ (M.cn _ (M.cn x hx)) c2]
      exact M.n3 x hx
  · by_cases c : U x
    · exact u0 x c
    · rw [off x hx c]; exact M.n1 x hx
def seatF (f : Int → Int) (x y z : Int) : Int → Int := fset (fset (fset f x y) y z) z x
theorem fset_same {f : Int → Int} {k v : Int} : fset f k v k = v := by unfold fset; rw [if_pos rfl]
theorem fset_ne {f : Int → Int} {k v z : Int} (h : z ≠ k) : fset f k v z = f z := by unfold fset; rw [if_neg h]
section
variable {f : Int → Int} {x y z w : Int}
theorem seat_1 (h1 : x ≠ y) (h2 : x ≠ z) : seatF f x y z x = y := by unfold seatF; rw [fset_ne h2, fset_ne h1, fset_same]
theorem seat_2 (h1 : y ≠ z) : seatF f x y z y = z := by unfold seatF; rw [fset_ne h1, fset_same]
theorem seat_3 : seatF f x y z z = x := by unfold seatF; rw [fset_same]
theorem seat_o (h1 : w ≠ x) (h2 : w ≠ y) (h3 : w ≠ z) : seatF f x y z w = f w := by unfold seatF; rw [fset_ne h3, fset_ne h2, fset_ne h1]
end
/-! ### a film pushed, pulled -/
structure Film (S : List Int) (nx : Int → Int) (e o a b c d : Int) : Prop where
  M : Map S ot nx
  he : e ∈ S
  ho : o ∈ S
  ha : a ∈ S
  hb : b ∈ S
  hc : c ∈ S
  hd : d ∈ S
  eo : ot e = o
  oe : ot o = e
  ea : nx e = a
  ab : nx a = b
  be : nx b = e
  oc : nx o = c
  cd : nx c = d
  do_ : nx d = o
  n_eo : e ≠ o
  n_ea : e ≠ a
  n_eb : e ≠ b
  n_ec : e ≠ c
  n_ed : e ≠ d
  n_oa : o ≠ a
  n_ob : o ≠ b
  n_oc : o ≠ c
  n_od : o ≠ d
  n_ab : a ≠ b
  n_ac : a ≠ c
  n_ad : a ≠ d
  n_bc : b ≠ c
  n_bd : b ≠ d
  n_cd : c ≠ d
/-- a film that doesn't lead back to its own corner -/
theorem film_of {S : List Int} {nx : Int → Int} {e : Int} (M : Map S ot nx) (he : e ∈ S) (h1 : nx e ≠ ot e) (h2 : nx (nx e) ≠ ot e) : Film S nx e (ot e) (nx e) (nx (nx e)) (nx (ot e)) (nx (nx (ot e))) := by
  have ho := M.ca e he
  have ha := M.cn e he
  have hb := M.cn _ ha
  have hc := M.cn _ ho
  have hd := M.cn _ hc
  have be := M.n3 e he
  have do_ := M.n3 _ ho
  -- what stands at the one corner doesn't stand at the other
  have ap : ∀ z ∈ S, z ≠ e → z ≠ nx e → z ≠ nx (nx e) → nx z ≠ e ∧ nx z ≠ nx e ∧ nx z ≠ nx (nx e) := fun z hz z1 z2 z3 =>
    ⟨fun q => z3 (M.ninj hz hb (q.trans be.symm)), fun q => z1 (M.ninj hz he q), fun q => z2 (M.ninj hz ha q)⟩
  have o1 : ot e ≠ e := ot_ne e
  have p1 := ap _ ho o1 h1.symm h2.symm
  have p2 := ap _ hc p1.1 p1.2.1 p1.2.2
  exact ⟨M, he, ho, ha, hb, hc, hd, rfl, ot_ot e, rfl, rfl, be, rfl, rfl, do_, o1.symm, (M.n1 e he).symm, (M.n2 he).symm, p1.1.symm, p2.1.symm, h1.symm, h2.symm, (M.n1 _ ho).symm, (M.n2 ho).symm, (M.n1 _ ha).symm, p1.2.1.symm, p2.2.1.symm, p1.2.2.symm, p2.2.2.symm, (M.n1 _ hc).symm⟩
def pushF (nx : Int → Int) (e : Int) : Int → Int := seatF (seatF nx e (nx (nx e)) (nx (ot e))) (ot e) (nx (nx (ot e))) (nx e)
def pullF (nx : Int → Int) (e : Int) : Int → Int := seatF (seatF nx e (nx (nx (ot e))) (nx e)) (ot e) (nx (nx e)) (nx (ot e))
section
variable {S : List Int} {nx : Int → Int} {e o a b c d : Int}
/-- the ends of the two corners -/
def Six (e o a b c d : Int) (z : Int) : Prop := z = e ∨ z = o ∨ z = a ∨ z = b ∨ z = c ∨ z = d
theorem six_no {z : Int} (h : ¬ Six e o a b c d z) : z ≠ e ∧ z ≠ o ∧ z ≠ a ∧ z ≠ b ∧ z ≠ c ∧ z ≠ d :=
  ⟨fun q => h (.inl q), fun q => h (.inr (.inl q)), fun q => h (.inr (.inr (.inl q))), fun q => h (.inr (.inr (.inr (.inl q)))), fun q => h (.inr (.inr (.inr (.inr (.inl q))))), fun q => h (.inr (.inr (.inr (.inr (.inr q)))))⟩
/-- two corners seated anew: everything that is asked of it, at once. nx' on the six ends is given; p, q: where e and o are put in -/
theorem reseat_web {nx' : Int → Int} (F : Film S nx e o a b c d) (W : Web S nx) (off : ∀ z, ¬ Six e o a b c d z → nx' z = nx z)
    (h : (nx' e = b ∧ nx' b = c ∧ nx' c = e ∧ nx' o = d ∧ nx' d = a ∧ nx' a = o) ∨ (nx' e = d ∧ nx' d = a ∧ nx' a = e ∧ nx' o = b ∧ nx' b = c ∧ nx' c = o)) :
    Web S nx' ∧ ∀ x ∈ S, ∀ y ∈ S, x ≠ e → x ≠ o → y ≠ e → y ≠ o → (Rim S nx x y ↔ Rim S nx' x y) := by
  have M := F.M
  have uS : ∀ z, Six e o a b c d z → z ∈ S := by
    rintro z (rfl | rfl | rfl | rfl | rfl | rfl)
    · exact F.he
    · exact F.ho
    · exact F.ha
    · exact F.hb
    · exact F.hc
    · exact F.hd
  have un : ∀ z, Six e o a b c d z → Six e o a b c d (nx z) := by
    rintro z (rfl | rfl | rfl | rfl | rfl | rfl)
    · rw [F.ea]; exact .inr (.inr (.inl rfl))
    · rw [F.oc]; exact .inr (.inr (.inr (.inr (.inl rfl))))
    · rw [F.ab]; exact .inr (.inr (.inr (.inl rfl)))
    · rw [F.be]; exact .inl rfl
    · rw [F.cd]; exact .inr (.inr (.inr (.inr (.inr rfl))))
    · rw [F.do_]; exact .inr (.inl rfl)
  have six_e : Six e o a b c d e := .inl rfl
  have six_o : Six e o a b c d o := .inr (.inl rfl)
  have six_a : Six e o a b c d a := .inr (.inr (.inl rfl))
  have six_b : Six e o a b c d b := .inr (.inr (.inr (.inl rfl)))
  have six_c : Six e o a b c d c := .inr (.inr (.inr (.inr (.inl rfl))))
  have six_d : Six e o a b c d d := .inr (.inr (.inr (.inr (.inr rfl))))
  have M' : Map S ot nx' := by
    refine reseat_map M uS un (fun z _ q => off z q) ?_ ?_ ?_
    · rcases h with ⟨h1, h2, h3, h4, h5, h6⟩ | ⟨h1, h2, h3, h4, h5, h6⟩
      · rintro z (rfl | rfl | rfl | rfl | rfl | rfl)
        · rw [h1]; exact six_b
        · rw [h4]; exact six_d
        · rw [h6]; exact six_o
        · rw [h2]; exact six_c
        · rw [h3]; exact six_e
        · rw [h5]; exact six_a
      · rintro z (rfl | rfl | rfl | rfl | rfl | rfl)
        · rw [h1]; exact six_d
        · rw [h4]; exact six_b
        · rw [h3]; exact six_e
        · rw [h5]; exact six_c
        · rw [h6]; exact six_o
        · rw [h2]; exact six_a
    · rcases h with ⟨h1, h2, h3, h4, h5, h6⟩ | ⟨h1, h2, h3, h4, h5, h6⟩
      · rintro z (rfl | rfl | rfl | rfl | rfl | rfl)
        · rw [h1, h2, h3]
        · rw [h4, h5, h6]
        · rw [h6, h4, h5]
        · rw [h2, h3, h1]
        · rw [h3, h1, h2]
        · rw [h5, h6, h4]
      · rintro z (rfl | rfl | rfl | rfl | rfl | rfl)
        · rw [h1, h2, h3]
        · rw [h4, h5, h6]
        · rw [h3, h1, h2]
        · rw [h5, h6, h4]
        · rw [h6, h4, h5]
        · rw [h2, h3, h1]
    · rcases h with ⟨h1, h2, h3, h4, h5, h6⟩ | ⟨h1, h2, h3, h4, h5, h6⟩
      · rintro z (rfl | rfl | rfl | rfl | rfl | rfl)
        · rw [h1]; exact F.n_eb.symm
        · rw [h4]; exact F.n_od.symm
        · rw [h6]; exact F.n_oa
        · rw [h2]; exact F.n_bc.symm
        · rw [h3]; exact F.n_ec
        · rw [h5]; exact F.n_ad
      · rintro z (rfl | rfl | rfl | rfl | rfl | rfl)
        · rw [h1]; exact F.n_ed.symm
        · rw [h4]; exact F.n_ob.symm
        · rw [h3]; exact F.n_ea
        · rw [h5]; exact F.n_bc.symm
        · rw [h6]; exact F.n_oc
        · rw [h2]; exact F.n_ad
  -- the new faces by steps
  have st' : ∀ z ∈ S, Eqv (fstep S (face ot nx')) z (nx' (ot z)) := fun z hz => .step ⟨hz, rfl⟩
  have st : ∀ z ∈ S, Eqv (fstep S (face ot nx)) z (nx (ot z)) := fun z hz => .step ⟨hz, rfl⟩
  let f : Int → Int := fun z => if z = e then c else if z = o then a else z
  have f_e : f e = c := if_pos rfl
  have f_o : f o = a := by show (if o = e then c else if o = o then a else o) = a; rw [if_neg F.n_eo.symm, if_pos rfl]
  have f_z : ∀ z, z ≠ e → z ≠ o → f z = z := fun z z1 z2 => by show (if z = e then c else if z = o then a else z) = z; rw [if_neg z1, if_neg z2]
  -- where e and o are put in anew
  obtain ⟨p, q, hp, hq, pe, po, qe, qo, ge, go, he', ho', hb', hd', ha', hc'⟩ : ∃ p q, p ∈ S ∧ q ∈ S ∧ p ≠ e ∧ p ≠ o ∧ q ≠ e ∧ q ≠ o ∧ Eqv (fstep S (face ot nx')) e p ∧ Eqv (fstep S (face ot nx')) o q ∧
      (∀ z ∈ S, ot z = c → ∃ s, nx' (ot z) = s ∧ (s = e ∧ p = d ∨ s = o ∧ q = d)) ∧ (∀ z ∈ S, ot z = a → ∃ s, nx' (ot z) = s ∧ (s = e ∧ p = b ∨ s = o ∧ q = b)) ∧ nx' b = c ∧ nx' d = a ∧ (nx' e = q) ∧ (nx' o = p) := by
    rcases h with ⟨h1, h2, h3, h4, h5, h6⟩ | ⟨h1, h2, h3, h4, h5, h6⟩
    · refine ⟨d, b, F.hd, F.hb, F.n_ed.symm, F.n_od.symm, F.n_eb.symm, F.n_ob.symm, ?_, ?_, fun z hz q => ⟨e, by rw [q, h3], .inl ⟨rfl, rfl⟩⟩, fun z hz q => ⟨o, by rw [q, h6], .inr ⟨rfl, rfl⟩⟩, h2, h5, h1, h4⟩
      · have := st' e F.he; rw [F.eo, h4] at this; exact this
      · have := st' o F.ho; rw [F.oe, h1] at this; exact this
    · refine ⟨b, d, F.hb, F.hd, F.n_eb.symm, F.n_ob.symm, F.n_ed.symm, F.n_od.symm, ?_, ?_, fun z hz q => ⟨o, by rw [q, h6], .inr ⟨rfl, rfl⟩⟩, fun z hz q => ⟨e, by rw [q, h3], .inl ⟨rfl, rfl⟩⟩, h5, h2, h1, h4⟩
      · have := st' e F.he; rw [F.eo, h4] at this; exact this
      · have := st' o F.ho; rw [F.oe, h1] at this; exact this
  let g : Int → Int := fun z => if z = e then p else if z = o then q else z
  have g_e : g e = p := if_pos rfl
  have g_o : g o = q := by show (if o = e then p else if o = o then q else o) = q; rw [if_neg F.n_eo.symm, if_pos rfl]
  have g_z : ∀ z, z ≠ e → z ≠ o → g z = z := fun z z1 z2 => by show (if z = e then p else if z = o then q else z) = z; rw [if_neg z1, if_neg z2]
  have other_side : ∀ z ∈ S, z ≠ e → z ≠ o → ot z ≠ e ∧ ot z ≠ o := fun z hz z1 z2 => ⟨fun q => z2 (M.ainj hz F.ho (q.trans F.oe.symm)), fun q => z1 (M.ainj hz F.he (q.trans F.eo.symm))⟩
  have hf : ∀ x y, fstep S (face ot nx) x y → Eqv (fstep S (face ot nx')) (f x) (f y) := by
    rintro z v ⟨hz, rfl⟩
    show Eqv _ (f z) (f (nx (ot z)))
    by_cases z1 : z = e
    · rw [z1, f_e, F.eo, F.oc, f_z c F.n_ec.symm F.n_oc.symm]; exact .refl _
    · by_cases z2 : z = o
      · rw [z2, f_o, F.oe, F.ea, f_z a F.n_ea.symm F.n_oa.symm]; exact .refl _
      · rw [f_z z z1 z2]
        have sz := st' z hz
        obtain ⟨w1, w2⟩ := other_side z hz z1 z2
        by_cases c1 : ot z = a
        · obtain ⟨s, es, q1⟩ := ho' z hz c1
          rw [es] at sz
          rw [c1, F.ab, f_z b F.n_eb.symm F.n_ob.symm]
          rcases q1 with ⟨rfl, rfl⟩ | ⟨rfl, rfl⟩
          · exact sz.trans ge
          · exact sz.trans go
        · by_cases c2 : ot z = b
          · rw [c2, hb'] at sz
            rw [c2, F.be, f_e]
            exact sz
          · by_cases c3 : ot z = c
            · obtain ⟨s, es, q1⟩ := he' z hz c3
              rw [es] at sz
              rw [c3, F.cd, f_z d F.n_ed.symm F.n_od.symm]
              rcases q1 with ⟨rfl, rfl⟩ | ⟨rfl, rfl⟩
              · exact sz.trans ge
              · exact sz.trans go
            · by_cases c4 : ot z = d
              · rw [c4, hd'] at sz
                rw [c4, F.do_, f_o]
                exact sz
              · have nsix : ¬ Six e o a b c d (ot z) := by
                  rintro (q | q | q | q | q | q)
                  · exact w1 q
                  · exact w2 q
                  · exact c1 q
                  · exact c2 q
                  · exact c3 q
                  · exact c4 q
                rw [off _ nsix] at sz
                have n1 : nx (ot z) ≠ e := fun q => c2 (M.ninj (M.ca z hz) F.hb (q.trans F.be.symm))
                have n2 : nx (ot z) ≠ o := fun q => c4 (M.ninj (M.ca z hz) F.hd (q.trans F.do_.symm))
                rw [f_z _ n1 n2]
                exact sz
  have hg : ∀ x y, fstep S (face ot nx') x y → Eqv (fstep S (face ot nx)) (g x) (g y) := by
    rintro z v ⟨hz, rfl⟩
    show Eqv _ (g z) (g (nx' (ot z)))
    by_cases z1 : z = e
    · rw [z1, g_e, F.eo, hc', g_z p pe po]; exact .refl _
    · by_cases z2 : z = o
      · rw [z2, g_o, F.oe, ha', g_z q qe qo]; exact .refl _
      · rw [g_z z z1 z2]
        have sz := st z hz
        obtain ⟨w1, w2⟩ := other_side z hz z1 z2
        by_cases c1 : ot z = a
        · obtain ⟨s, es, q1⟩ := ho' z hz c1
          rw [es]
          rw [c1, F.ab] at sz
          rcases q1 with ⟨rfl, e2⟩ | ⟨rfl, e2⟩
          · rw [g_e, e2]; exact sz
          · rw [g_o, e2]; exact sz
        · by_cases c2 : ot z = b
          · rw [c2, F.be] at sz
            rw [c2, hb', g_z c F.n_ec.symm F.n_oc.symm]
            have s2 := st e F.he
            rw [F.eo, F.oc] at s2
            exact sz.trans s2
          · by_cases c3 : ot z = c
            · obtain ⟨s, es, q1⟩ := he' z hz c3
              rw [es]
              rw [c3, F.cd] at sz
              rcases q1 with ⟨rfl, e2⟩ | ⟨rfl, e2⟩
              · rw [g_e, e2]; exact sz
              · rw [g_o, e2]; exact sz
            · by_cases c4 : ot z = d
              · rw [c4, F.do_] at sz
                rw [c4, hd', g_z a F.n_ea.symm F.n_oa.symm]
                have s2 := st o F.ho
                rw [F.oe, F.ea] at s2
                exact sz.trans s2
              · have nsix : ¬ Six e o a b c d (ot z) := by
                  rintro (q | q | q | q | q | q)
                  · exact w1 q
                  · exact w2 q
                  · exact c1 q
                  · exact c2 q
                  · exact c3 q
                  · exact c4 q
                rw [off _ nsix]
                have n1 : nx (ot z) ≠ e := fun q => c2 (M.ninj (M.ca z hz) F.hb (q.trans F.be.symm))
                have n2 : nx (ot z) ≠ o := fun q => c4 (M.ninj (M.ca z hz) F.hd (q.trans F.do_.symm))
                rw [g_z _ n1 n2]
                exact sz
  have s_ec : Eqv (fstep S (face ot nx)) e c := by have := st e F.he; rw [F.eo, F.oc] at this; exact this
  have s_oa : Eqv (fstep S (face ot nx)) o a := by have := st o F.ho; rw [F.oe, F.ea] at this; exact this
  obtain ⟨n, hn, hl⟩ := W.eul
  refine ⟨⟨M', W.ne, ?_, ⟨n, cls_maps f g hf hg ?_ ?_ ?_ ?_ hn, hl⟩, W.pos⟩, ?_⟩
  · -- connected
    have c_st : ∀ z ∈ S, Eqv (cs S ot nx') z (nx' z) := fun z hz => .step ⟨hz, .inr rfl⟩
    have c_eo : Eqv (cs S ot nx') e o := .step ⟨F.he, .inl F.eo.symm⟩
    have all : ∀ z, Six e o a b c d z → Eqv (cs S ot nx') e z := by
      rcases h with ⟨h1, h2, h3, h4, h5, h6⟩ | ⟨h1, h2, h3, h4, h5, h6⟩
      · have k1 := c_st e F.he; rw [h1] at k1
        have k2 := c_st b F.hb; rw [h2] at k2
        have k3 := c_st o F.ho; rw [h4] at k3
        have k4 := c_st d F.hd; rw [h5] at k4
        rintro z (rfl | rfl | rfl | rfl | rfl | rfl)
        · exact .refl _
        · exact c_eo
        · exact c_eo.trans (k3.trans k4)
        · exact k1
        · exact k1.trans k2
        · exact c_eo.trans k3
      · have k1 := c_st e F.he; rw [h1] at k1
        have k2 := c_st d F.hd; rw [h2] at k2
        have k3 := c_st o F.ho; rw [h4] at k3
        have k4 := c_st b F.hb; rw [h5] at k4
        rintro z (rfl | rfl | rfl | rfl | rfl | rfl)
        · exact .refl _
        · exact c_eo
        · exact k1.trans k2
        · exact c_eo.trans k3
        · exact c_eo.trans (k3.trans k4)
        · exact k1
    intro x hx y hy
    refine Eqv.mono (fun u v q => ?_) (W.conn x hx y hy)
    obtain ⟨hu, q | q⟩ := q
    · exact .step ⟨hu, .inl q⟩
    · subst q
      by_cases s6 : Six e o a b c d u
      · exact (all u s6).symm.trans (all _ (un u s6))
      · rw [← off u s6]
        exact c_st u hu
  · intro z hz
    by_cases z1 : z = e
    · rw [z1, f_e]; exact F.hc
    · by_cases z2 : z = o
      · rw [z2, f_o]; exact F.ha
      · rw [f_z z z1 z2]; exact hz
  · intro z hz
    by_cases z1 : z = e
    · rw [z1, g_e]; exact hp
    · by_cases z2 : z = o
      · rw [z2, g_o]; exact hq
      · rw [g_z z z1 z2]; exact hz
  · intro z hz
    by_cases z1 : z = e
    · rw [z1, g_e, f_z p pe po]; exact ge.symm
    · by_cases z2 : z = o
      · rw [z2, g_o, f_z q qe qo]; exact go.symm
      · rw [g_z z z1 z2, f_z z z1 z2]; exact .refl _
  · intro z hz
    by_cases z1 : z = e
    · rw [z1, f_e, g_z c F.n_ec.symm F.n_oc.symm]; exact s_ec.symm
    · by_cases z2 : z = o
      · rw [z2, f_o, g_z a F.n_ea.symm F.n_oa.symm]; exact s_oa.symm
      · rw [f_z z z1 z2, g_z z z1 z2]; exact .refl _
  · intro x hx y hy x1 x2 y1 y2
    constructor
    · intro q
      have := Eqv.map hf q
      rw [f_z x x1 x2, f_z y y1 y2] at this
      exact this
    · intro q
      have := Eqv.map hg q
      rw [g_z x x1 x2, g_z y y1 y2] at this
      exact this
theorem push_vals (F : Film S nx e o a b c d) : (pushF nx e e = b ∧ pushF nx e b = c ∧ pushF nx e c = e ∧ pushF nx e o = d ∧ pushF nx e d = a ∧ pushF nx e a = o) ∧ ∀ z, ¬ Six e o a b c d z → pushF nx e z = nx z := by
  have E : pushF nx e = seatF (seatF nx e b c) o d a := by unfold pushF; rw [F.eo, F.ea, F.ab, F.oc, F.cd]
  rw [E]
  refine ⟨⟨?_, ?_, ?_, seat_1 F.n_od F.n_oa, seat_2 F.n_ad.symm, seat_3⟩, fun z hz => ?_⟩
  · rw [seat_o F.n_eo F.n_ed F.n_ea, seat_1 F.n_eb F.n_ec]
  · rw [seat_o F.n_ob.symm F.n_bd F.n_ab.symm, seat_2 F.n_bc]
  · rw [seat_o F.n_oc.symm F.n_cd F.n_ac.symm, seat_3]
  · obtain ⟨z1, z2, z3, z4, z5, z6⟩ := six_no hz
    rw [seat_o z2 z6 z3, seat_o z1 z4 z5]
theorem pull_vals (F : Film S nx e o a b c d) : (pullF nx e e = d ∧ pullF nx e d = a ∧ pullF nx e a = e ∧ pullF nx e o = b ∧ pullF nx e b = c ∧ pullF nx e c = o) ∧ ∀ z, ¬ Six e o a b c d z → pullF nx e z = nx z := by
  have E : pullF nx e = seatF (seatF nx e d a) o b c := by unfold pullF; rw [F.eo, F.ea, F.ab, F.oc, F.cd]
  rw [E]
  refine ⟨⟨?_, ?_, ?_, seat_1 F.n_ob F.n_oc, seat_2 F.n_bc, seat_3⟩, fun z hz => ?_⟩
  · rw [seat_o F.n_eo F.n_eb F.n_ec, seat_1 F.n_ed F.n_ea]
  · rw [seat_o F.n_od.symm F.n_bd.symm F.n_cd.symm, seat_2 F.n_ad.symm]
  · rw [seat_o F.n_oa.symm F.n_ab F.n_ac, seat_3]
  · obtain ⟨z1, z2, z3, z4, z5, z6⟩ := six_no hz
    rw [seat_o z2 z4 z5, seat_o z1 z6 z3]
end
theorem push_web {S : List Int} {nx : Int → Int} {e : Int} (W : Web S nx) (he : e ∈ S) (h1 : nx e ≠ ot e) (h2 : nx (nx e) ≠ ot e) : Web S (pushF nx e) :=
  (reseat_web (film_of W.map he h1 h2) W (push_vals (film_of W.map he h1 h2)).2 (.inl (push_vals (film_of W.map he h1 h2)).1)).1
theorem pull_web {S : List Int} {nx : Int → Int} {e : Int} (W : Web S nx) (he : e ∈ S) (h1 : nx e ≠ ot e) (h2 : nx (nx e) ≠ ot e) : Web S (pullF nx e) :=
  (reseat_web (film_of W.map he h1 h2) W (pull_vals (film_of W.map he h1 h2)).2 (.inr (pull_vals (film_of W.map he h1 h2)).1)).1
/-! WebE: films burst. Plain Lean. -/
theorem min_max (u v : Int) : (min u v = u ∧ max u v = v) ∨ (min u v = v ∧ max u v = u) := by
  by_cases h : u ≤ v
  · exact .inl ⟨by omega, by omega⟩
  · exact .inr ⟨by omega, by omega⟩
def mX (nx : Int → Int) (t : Int) : Int := min (nx t) (nx (nx t))
def mY (nx : Int → Int) (t : Int) : Int := max (nx t) (nx (nx t))
def m1S (S : List Int) (nx : Int → Int) (t : Int) : List Int := mendS S t (mY nx t) (ot (mY nx t))
def m1N (nx : Int → Int) (t : Int) : Int → Int := mendN nx (mX nx t) (ot (mY nx t))
section
variable {S : List Int} {al nx : Int → Int} {t : Int}
theorem mXY (nx : Int → Int) (t : Int) : (mX nx t = nx t ∧ mY nx t = nx (nx t)) ∨ (mX nx t = nx (nx t) ∧ mY nx t = nx t) := min_max _ _
theorem mend_mk (M : Map S al nx) (ht : t ∈ S) (tt : al t = t) (h1 : al (nx t) = ot (nx t)) (h2 : al (nx (nx t)) = ot (nx (nx t))) (hl : ot (nx t) ≠ nx (nx t)) : Mend S al nx t (mX nx t) (mY nx t) (ot (mY nx t)) := by
  have ha := M.cn t ht
  have hb := M.cn _ ha
  have h3 := M.n3 t ht
  rcases mXY nx t with ⟨ex, ey⟩ | ⟨ex, ey⟩
  · rw [ex, ey]
    exact ⟨M, ht, hb, tt, h2, .inl ⟨rfl, rfl, h3⟩, ot_ne _, fun z => hl ((congrArg ot z).symm.trans (ot_ot _))⟩
  · rw [ex, ey]
    exact ⟨M, ht, ha, tt, h1, .inr ⟨rfl, rfl, h3⟩, ot_ne _, hl⟩
end
theorem map_al {S : List Int} {al al' nx : Int → Int} (M : Map S al nx) (h : ∀ x ∈ S, al' x = al x) : Map S al' nx :=
  ⟨M.nd, fun x hx => by rw [h x hx]; exact M.ca x hx, M.cn, fun x hx => by rw [h x hx, h _ (M.ca x hx)]; exact M.aa x hx, M.n3, M.n1⟩
theorem cls_al {S : List Int} {al al' nx : Int → Int} {n : Nat} (h : ∀ x ∈ S, al' x = al x) (c : Cls S (fstep S (face al nx)) n) : Cls S (fstep S (face al' nx)) n :=
  cls_same (fun _ => Iff.rfl) (fun x y ⟨hx, e⟩ => .step ⟨hx, by rw [e]; unfold face; rw [h x hx]⟩) (fun x y ⟨hx, e⟩ => .step ⟨hx, by rw [e]; unfold face; rw [h x hx]⟩) c
theorem conn_al {S : List Int} {al al' nx : Int → Int} (h : ∀ x ∈ S, al' x = al x) {u v : Int} (c : Eqv (cs S al nx) u v) : Eqv (cs S al' nx) u v :=
  Eqv.mono (fun x y ⟨hx, q⟩ => .step ⟨hx, q.imp (fun z => by rw [h x hx]; exact z) id⟩) c
/-- a web of six ends has one rim -/
theorem six_ends {S : List Int} {nx : Int → Int} (W : Web S nx) (l : List Int) (hl : l.length = 6) (x0 : Int) (h0 : x0 ∈ S) (h0l : x0 ∈ l) (cl : ∀ x ∈ l, ot x ∈ l ∧ nx x ∈ l) (clb : ∀ x ∈ S, (ot x ∈ l → x ∈ l) ∧ (nx x ∈ l → x ∈ l)) {u v : Int} (hu : u ∈ S) (hv : v ∈ S) : Rim S nx u v := by
  obtain ⟨n, hn, hl6⟩ := W.eul
  have sub : ∀ x ∈ S, x ∈ l := fun x hx => by
    have q := Eqv.inv (A := fun z => z ∈ l) (fun a b q => ?_) (W.conn x0 h0 x hx)
    · exact q.mp h0l
    · obtain ⟨ha, q | q⟩ := q
      · subst q
        exact ⟨fun z => (cl a z).1, fun z => (clb a ha).1 z⟩
      · subst q
        exact ⟨fun z => (cl a z).2, fun z => (clb a ha).2 z⟩
  have len := sub_len W.map.nd sub
  have pos : 0 < S.length := List.length_pos_of_mem h0
  have n1 : n = 1 := by omega
  rw [n1] at hn
  exact cls_one hn hu hv
/-! ### a film that doesn't lead back -/
def burstS (S : List Int) (nx : Int → Int) (e : Int) : List Int := m1S (m1S S nx e) (m1N nx e) (ot e)
def burstN (nx : Int → Int) (e : Int) : Int → Int := m1N (m1N nx e) (ot e)
structure Burst (S : List Int) (nx : Int → Int) (e : Int) : Prop where
  D1 : Mend S (cutA ot e (ot e)) nx e (mX nx e) (mY nx e) (ot (mY nx e))
  D2 : Mend (m1S S nx e) (cutA ot e (ot e)) (m1N nx e) (ot e) (mX (m1N nx e) (ot e)) (mY (m1N nx e) (ot e)) (ot (mY (m1N nx e) (ot e)))
  web : Web (burstS S nx e) (burstN nx e)
  len : (burstS S nx e).length + 6 = S.length
theorem burst_web {S : List Int} {nx : Int → Int} {e : Int} (W : Web S nx) (he : e ∈ S) (h1 : nx e ≠ ot e) (h2 : nx (nx e) ≠ ot e) (hr : ¬ Rim S nx e (ot e)) : Burst S nx e := by
  have F := film_of W.map he h1 h2
  generalize ho_ : ot e = o at *
  generalize ha_ : nx e = a at *
  generalize hb_ : nx a = b at *
  generalize hc_ : nx o = c at *
  generalize hd_ : nx c = d at *
  have M := W.map
  have st : ∀ z ∈ S, Rim S nx z (nx (ot z)) := fun z hz => .step ⟨hz, rfl⟩
  have s_e : Rim S nx e c := by have := st e he; rw [F.eo, F.oc] at this; exact this
  have s_o : Rim S nx o a := by have := st o F.ho; rw [F.oe, F.ea] at this; exact this
  -- no loop beside
  have hab : ot a ≠ b := fun z => hr (by
    have s1 := st a F.ha
    rw [z, F.be] at s1
    exact (s_o.trans s1).symm)
  have hcd : ot c ≠ d := fun z => hr (by
    have s1 := st c F.hc
    rw [z, F.do_] at s1
    exact s_e.trans s1)
  -- the two films c, d aren't the two films a, b
  have hnot1 : ¬ (ot c = a ∧ ot d = b) := fun ⟨z1, z2⟩ => hr (by
    have s1 := st c F.hc
    rw [z1, F.ab] at s1
    have s2 := st b F.hb
    have e2 : ot b = d := by rw [← z2, ot_ot]
    rw [e2, F.do_] at s2
    exact s_e.trans (s1.trans s2))
  have hnot2 : ¬ (ot c = b ∧ ot d = a) := fun ⟨z1, z2⟩ => hr (by
    have oa : ot a = d := by rw [← z2, ot_ot]
    have ob : ot b = c := by rw [← z1, ot_ot]
    refine six_ends W [e, o, a, b, c, d] rfl e he List.mem_cons_self (fun x hx => ?_) (fun x hx => ⟨fun q => ?_, fun q => ?_⟩) he F.ho
    · simp only [List.mem_cons, List.not_mem_nil, or_false] at hx ⊢
      rcases hx with rfl | rfl | rfl | rfl | rfl | rfl
      · rw [F.eo, F.ea]; simp
      · rw [F.oe, F.oc]; simp
      · rw [oa, F.ab]; simp
      · rw [ob, F.be]; simp
      · rw [z1, F.cd]; simp
      · rw [z2, F.do_]; simp
    · simp only [List.mem_cons, List.not_mem_nil, or_false] at q ⊢
      have back : x = ot (ot x) := (ot_ot x).symm
      rcases q with q | q | q | q | q | q
      · rw [back, q, F.eo]; simp
      · rw [back, q, F.oe]; simp
      · rw [back, q, oa]; simp
      · rw [back, q, ob]; simp
      · rw [back, q, z1]; simp
      · rw [back, q, z2]; simp
    · simp only [List.mem_cons, List.not_mem_nil, or_false] at q ⊢
      rcases q with q | q | q | q | q | q
      · rw [M.ninj hx F.hb (q.trans F.be.symm)]; simp
      · rw [M.ninj hx F.hd (q.trans F.do_.symm)]; simp
      · rw [M.ninj hx F.he (q.trans F.ea.symm)]; simp
      · rw [M.ninj hx F.ha (q.trans F.ab.symm)]; simp
      · rw [M.ninj hx F.ho (q.trans F.oc.symm)]; simp
      · rw [M.ninj hx F.hc (q.trans F.cd.symm)]; simp)
  have Mc := cut_map M he F.ho F.eo F.oe
  have alz : ∀ z, z ≠ e → z ≠ o → cutA ot e o z = ot z := fun z z1 z2 => by unfold cutA; rw [if_neg z1, if_neg z2]
  have ale : cutA ot e o e = e := by unfold cutA; rw [if_pos rfl]
  have alo : cutA ot e o o = o := by unfold cutA; rw [if_neg F.n_eo.symm, if_pos rfl]
  have D1 : Mend S (cutA ot e o) nx e (mX nx e) (mY nx e) (ot (mY nx e)) := mend_mk Mc he ale (by rw [F.ea]; exact alz a F.n_ea.symm F.n_oa.symm) (by rw [F.ea, F.ab]; exact alz b F.n_eb.symm F.n_ob.symm) (by rw [F.ea, F.ab]; exact hab)
  have M1 := mend_map D1
  -- the second corner
  have xy : (mX nx e = a ∧ mY nx e = b) ∨ (mX nx e = b ∧ mY nx e = a) := by
    have q := mXY nx e
    rw [F.ea, F.ab] at q
    exact q
  have oS1 : o ∈ m1S S nx e := mem_mendS.mpr ⟨F.ho, F.n_eo.symm, by rcases xy with ⟨_, q⟩ | ⟨_, q⟩ <;> rw [q]; exact F.n_ob; exact F.n_oa, fun z => by
    have : ot o = mY nx e := by rw [z, ot_ot]
    rw [F.oe] at this
    rcases xy with ⟨_, q⟩ | ⟨_, q⟩
    · rw [q] at this; exact F.n_eb this
    · rw [q] at this; exact F.n_ea this⟩
  have ox : o ≠ mX nx e := by rcases xy with ⟨q, _⟩ | ⟨q, _⟩ <;> rw [q]; exact F.n_oa; exact F.n_ob
  have cx : c ≠ mX nx e := by rcases xy with ⟨q, _⟩ | ⟨q, _⟩ <;> rw [q]; exact F.n_ac.symm; exact F.n_bc.symm
  have c1S := M1.cn o oS1
  have d1S := M1.cn _ c1S
  have cd1 : (m1N nx e o = c ∧ m1N nx e (m1N nx e o) = d) ∨ (c = ot (mY nx e) ∧ m1N nx e o = mX nx e ∧ m1N nx e (m1N nx e o) = d) ∨ (d = ot (mY nx e) ∧ m1N nx e o = c ∧ m1N nx e (m1N nx e o) = mX nx e) := by
    by_cases k1 : c = ot (mY nx e)
    · have e1 : m1N nx e o = mX nx e := mendN_q ox (by rw [F.oc]; exact k1)
      refine .inr (.inl ⟨k1, e1, ?_⟩)
      rw [e1]
      show mendN nx (mX nx e) (ot (mY nx e)) (mX nx e) = d
      rw [mendN_x, ← k1, F.cd]
    · have e1 : m1N nx e o = c := (mendN_o ox (by rw [F.oc]; exact k1)).trans F.oc
      by_cases k2 : d = ot (mY nx e)
      · refine .inr (.inr ⟨k2, e1, ?_⟩)
        rw [e1]
        exact mendN_q cx (by rw [F.cd]; exact k2)
      · refine .inl ⟨e1, ?_⟩
        rw [e1]
        exact (mendN_o cx (by rw [F.cd]; exact k2)).trans F.cd
  have hl2 : ot (m1N nx e o) ≠ m1N nx e (m1N nx e o) := by
    rcases cd1 with ⟨k1, k2⟩ | ⟨k0, k1, k2⟩ | ⟨k0, k1, k2⟩
    · rw [k2, k1]; exact hcd
    · rw [k2, k1]
      intro z
      have od : ot d = mX nx e := by rw [← z, ot_ot]
      have oc : ot c = mY nx e := by rw [k0, ot_ot]
      rcases xy with ⟨q1, q2⟩ | ⟨q1, q2⟩
      · exact hnot2 ⟨oc.trans q2, od.trans q1⟩
      · exact hnot1 ⟨oc.trans q2, od.trans q1⟩
    · rw [k2, k1]
      intro z
      have od : ot d = mY nx e := by rw [k0, ot_ot]
      rcases xy with ⟨q1, q2⟩ | ⟨q1, q2⟩
      · exact hnot1 ⟨z.trans q1, od.trans q2⟩
      · exact hnot2 ⟨z.trans q1, od.trans q2⟩
  have al_in : ∀ z ∈ m1S S nx e, z ≠ o → cutA ot e o z = ot z := fun z hz z1 => alz z (mem_mendS.mp hz).2.1 z1
  have D2 : Mend (m1S S nx e) (cutA ot e o) (m1N nx e) o (mX (m1N nx e) o) (mY (m1N nx e) o) (ot (mY (m1N nx e) o)) :=
    mend_mk M1 oS1 alo (al_in _ c1S (M1.n1 o oS1)) (al_in _ d1S (M1.n2 oS1)) hl2
  have M2 := mend_map D2
  have len1 := mend_len D1
  have len2 := mend_len D2
  obtain ⟨n, hn, hl⟩ := W.eul
  have npos : ∃ k, n = k + 1 := by
    cases n with
    | zero =>
      obtain ⟨R, g1, _, g3, _⟩ := hn
      obtain ⟨y, hy, _⟩ := g3 e he
      rw [List.length_eq_zero_iff.mp g1] at hy
      exact absurd hy List.not_mem_nil
    | succ k => exact ⟨k, rfl⟩
  obtain ⟨k, rfl⟩ := npos
  have cl2 := mend_cls D2 (mend_cls D1 (cut_cls M he F.ho F.eo F.oe hr hn))
  have al2 : ∀ x ∈ mendS (m1S S nx e) o (mY (m1N nx e) o) (ot (mY (m1N nx e) o)), ot x = cutA ot e o x := fun x hx => (al_in x (mem_mendS.mp hx).1 (mem_mendS.mp hx).2.1).symm
  have cn2 := mend_conn D2 (mend_conn D1 fun u hu v hv => cut_conn M he F.ho F.eo F.oe hr (W.conn u hu v hv))
  have lenS : (mendS (m1S S nx e) o (mY (m1N nx e) o) (ot (mY (m1N nx e) o))).length + 6 = S.length := by
    have l1 : (m1S S nx e).length + 3 = S.length := len1
    omega
  refine ⟨ho_ ▸ D1, ho_ ▸ D2, ?_, ?_⟩
  · unfold burstS burstN
    rw [ho_]
    refine ⟨map_al M2 al2, ?_, fun u hu v hv => conn_al al2 (cn2 u hu v hv), ⟨k, cls_al al2 cl2, by show 6 * k = (mendS _ _ _ _).length; omega⟩, fun x hx => W.pos x (mem_mendS.mp (mem_mendS.mp hx).1).1⟩
    intro z
    have z0 : (mendS (m1S S nx e) o (mY (m1N nx e) o) (ot (mY (m1N nx e) o))).length = 0 := by
      have z' : mendS (m1S S nx e) o (mY (m1N nx e) o) (ot (mY (m1N nx e) o)) = [] := z
      rw [z']; rfl
    have k0 : k + 1 = 1 := by omega
    rw [k0] at hn
    exact hr (cls_one hn he F.ho)
  · unfold burstS
    rw [ho_]
    exact lenS
/-! ### a film that leads back to its own corner -/
def loopT (nx : Int → Int) (e : Int) : Int := if nx e = ot e then nx (nx e) else nx e
def loopS (S : List Int) (nx : Int → Int) (e : Int) : List Int := S.filter fun z => decide (z ≠ e ∧ z ≠ ot e ∧ z ≠ loopT nx e)
def burstLS (S : List Int) (nx : Int → Int) (e : Int) : List Int := m1S (loopS S nx e) nx (ot (loopT nx e))
def burstLN (nx : Int → Int) (e : Int) : Int → Int := m1N nx (ot (loopT nx e))
structure BurstL (S : List Int) (nx : Int → Int) (e : Int) : Prop where
  map : Map (loopS S nx e) (fun z => if z = ot (loopT nx e) then z else ot z) nx
  D : Mend (loopS S nx e) (fun z => if z = ot (loopT nx e) then z else ot z) nx (ot (loopT nx e)) (mX nx (ot (loopT nx e))) (mY nx (ot (loopT nx e))) (ot (mY nx (ot (loopT nx e))))
  web : Web (burstLS S nx e) (burstLN nx e)
  len : (burstLS S nx e).length + 6 = S.length
theorem burstL_web {S : List Int} {nx : Int → Int} {e : Int} (W : Web S nx) (he : e ∈ S) (hloop : nx e = ot e ∨ nx (nx e) = ot e) : BurstL S nx e := by
  have M := W.map
  have ho := M.ca e he
  have hoe : ot e ≠ e := ot_ne e
  -- the third end, and which of the two is alone on its rim
  obtain ⟨t, z0, z1, et, ht, te, to, hz0, hz1, z01, zc, f0, f1, f2, cor⟩ : ∃ t z0 z1, loopT nx e = t ∧ t ∈ S ∧ t ≠ e ∧ t ≠ ot e ∧ z0 ∈ S ∧ z1 ∈ S ∧ z0 ≠ z1 ∧ ((z0 = e ∧ z1 = ot e) ∨ (z0 = ot e ∧ z1 = e)) ∧ nx (ot z0) = z0 ∧ nx (ot z1) = t ∧ nx t = z1 ∧
      (∀ z ∈ S, nx z = e ∨ nx z = ot e ∨ nx z = t ↔ z = e ∨ z = ot e ∨ z = t) := by
    by_cases c1 : nx e = ot e
    · have ht := M.cn _ (M.cn e he)
      refine ⟨nx (nx e), ot e, e, if_pos c1, ht, M.n2 he, by rw [← c1]; exact M.n12 he, ho, he, hoe, .inr ⟨rfl, rfl⟩, by rw [ot_ot]; exact c1, by rw [← c1], M.n3 e he, fun z hz => ?_⟩
      constructor
      · rintro (q | q | q)
        · exact .inr (.inr (M.ninj hz ht (q.trans (M.n3 e he).symm)))
        · exact .inl (M.ninj hz he (q.trans c1.symm))
        · exact .inr (.inl ((M.ninj hz (M.cn e he) q).trans c1))
      · rintro (q | q | q)
        · exact .inr (.inl (by rw [q]; exact c1))
        · exact .inr (.inr (by rw [q, ← c1]))
        · exact .inl (by rw [q]; exact M.n3 e he)
    · have c2 : nx (nx e) = ot e := hloop.resolve_left c1
      have ht := M.cn e he
      have h3 := M.n3 e he
      rw [c2] at h3
      refine ⟨nx e, e, ot e, if_neg c1, ht, M.n1 e he, by rw [← c2]; exact (M.n12 he).symm, he, ho, hoe.symm, .inl ⟨rfl, rfl⟩, h3, by rw [ot_ot], c2, fun z hz => ?_⟩
      constructor
      · rintro (q | q | q)
        · exact .inr (.inl (M.ninj hz ho (q.trans h3.symm)))
        · exact .inr (.inr (M.ninj hz ht (q.trans c2.symm)))
        · exact .inl (M.ninj hz he q)
      · rintro (q | q | q)
        · exact .inr (.inr (by rw [q]))
        · exact .inl (by rw [q]; exact h3)
        · exact .inr (.inl (by rw [q]; exact c2))
  have zmem : ∀ z, (z = e ∨ z = ot e ∨ z = t) ↔ (z = z0 ∨ z = z1 ∨ z = t) := fun z => by
    rcases zc with ⟨q1, q2⟩ | ⟨q1, q2⟩
    · rw [q1, q2]
    · rw [q1, q2]
      constructor
      · rintro (q | q | q)
        · exact .inr (.inl q)
        · exact .inl q
        · exact .inr (.inr q)
      · rintro (q | q | q)
        · exact .inr (.inl q)
        · exact .inl q
        · exact .inr (.inr q)
  -- u: the other end of the third film
  have hu : ot t ∈ S := M.ca t ht
  have u1 : ot t ≠ e := fun q => to (by rw [← ot_ot t, q])
  have u2 : ot t ≠ ot e := fun q => te (by rw [← ot_ot t, q, ot_ot])
  have u3 : ot t ≠ t := ot_ne t
  have u_no : ¬ (ot t = e ∨ ot t = ot e ∨ ot t = t) := by
    rintro (q | q | q)
    · exact u1 q
    · exact u2 q
    · exact u3 q
  have memL : ∀ z, z ∈ loopS S nx e ↔ z ∈ S ∧ ¬ (z = e ∨ z = ot e ∨ z = t) := fun z => by
    unfold loopS
    rw [et, List.mem_filter, decide_eq_true_eq]
    exact ⟨fun ⟨q, a, b, c⟩ => ⟨q, fun h => h.elim a fun h => h.elim b c⟩, fun ⟨q, h⟩ => ⟨q, fun a => h (.inl a), fun a => h (.inr (.inl a)), fun a => h (.inr (.inr a))⟩⟩
  have uL : ot t ∈ loopS S nx e := (memL _).mpr ⟨hu, u_no⟩
  let al : Int → Int := fun z => if z = ot t then z else ot z
  have alu : al (ot t) = ot t := if_pos rfl
  have alz : ∀ z, z ≠ ot t → al z = ot z := fun z h => if_neg h
  have otL : ∀ z, z ∈ S → ¬ (z = e ∨ z = ot e ∨ z = t) → z ≠ ot t → ¬ (ot z = e ∨ ot z = ot e ∨ ot z = t) := fun z hz h1 h2 => by
    rintro (q | q | q)
    · exact h1 (.inr (.inl (by rw [← q, ot_ot])))
    · exact h1 (.inl (by rw [← ot_ot z, q, ot_ot]))
    · exact h2 (by rw [← q, ot_ot])
  have nxL : ∀ z, z ∈ S → ¬ (z = e ∨ z = ot e ∨ z = t) → ¬ (nx z = e ∨ nx z = ot e ∨ nx z = t) := fun z hz h q => h ((cor z hz).mp q)
  have ML : Map (loopS S nx e) al nx := by
    refine ⟨M.nd.filter _, fun x hx => ?_, fun x hx => ?_, fun x hx => ?_, fun x hx => M.n3 x ((memL x).mp hx).1, fun x hx => M.n1 x ((memL x).mp hx).1⟩
    · obtain ⟨xS, xn⟩ := (memL x).mp hx
      by_cases c : x = ot t
      · rw [c, alu]; exact uL
      · rw [alz x c]; exact (memL _).mpr ⟨M.ca x xS, otL x xS xn c⟩
    · obtain ⟨xS, xn⟩ := (memL x).mp hx
      exact (memL _).mpr ⟨M.cn x xS, nxL x xS xn⟩
    · obtain ⟨xS, xn⟩ := (memL x).mp hx
      by_cases c : x = ot t
      · rw [c, alu, alu]
      · have c' : ot x ≠ ot t := fun q => xn (.inr (.inr (by rw [← ot_ot x, q, ot_ot])))
        rw [alz x c, alz _ c', ot_ot]
  -- the faces
  have st : ∀ z ∈ S, Rim S nx z (nx (ot z)) := fun z hz => .step ⟨hz, rfl⟩
  have alone : ¬ Rim S nx z0 z1 := fun q => by
    have inv := Eqv.inv (A := fun z => z = z0) (fun a b h => ?_) q
    · exact z01 (inv.mp rfl).symm
    · obtain ⟨ha, rfl⟩ := h
      constructor
      · rintro rfl
        exact f0
      · intro h
        have h2 : nx (ot a) = nx (ot z0) := h.trans f0.symm
        exact M.ainj ha hz0 (M.ninj (M.ca a ha) (M.ca _ hz0) h2)
  have s_u : Rim S nx (ot t) z1 := by have := st _ hu; rw [ot_ot, f2] at this; exact this
  have s_1 : Rim S nx z1 t := by have := st _ hz1; rw [f1] at this; exact this
  have s_t : Rim S nx t (nx (ot t)) := st t ht
  obtain ⟨n, hn, hl⟩ := W.eul
  obtain ⟨k, rfl⟩ : ∃ k, n = k + 1 := by
    cases n with
    | zero =>
      obtain ⟨R, g1, _, g3, _⟩ := hn
      obtain ⟨y, hy, _⟩ := g3 e he
      rw [List.length_eq_zero_iff.mp g1] at hy
      exact absurd hy List.not_mem_nil
    | succ k => exact ⟨k, rfl⟩
  let f : Int → Int := fun z => if z = e ∨ z = ot e ∨ z = t then ot t else z
  have f_b : ∀ z, (z = e ∨ z = ot e ∨ z = t) → f z = ot t := fun z h => if_pos h
  have f_o : ∀ z, ¬ (z = e ∨ z = ot e ∨ z = t) → f z = z := fun z h => if_neg h
  have pu_no : ¬ (nx (ot t) = e ∨ nx (ot t) = ot e ∨ nx (ot t) = t) := nxL _ hu u_no
  have clL : Cls (loopS S nx e) (fstep (loopS S nx e) (face al nx)) k := by
    refine cls_maps f id ?_ ?_ ?_ ?_ ?_ ?_ (cls_merge hz0 hz1 alone hn)
    · rintro z v (⟨hz, rfl⟩ | ⟨rfl, rfl⟩)
      · show Eqv _ (f z) (f (nx (ot z)))
        by_cases c : z = e ∨ z = ot e ∨ z = t
        · rw [f_b z c]
          rcases (zmem z).mp c with q | q | q
          · rw [q, f0, f_b z0 ((zmem z0).mpr (.inl rfl))]; exact .refl _
          · rw [q, f1, f_b t (.inr (.inr rfl))]; exact .refl _
          · rw [q, f_o _ pu_no]
            exact .step ⟨uL, by unfold face; rw [alu]⟩
        · rw [f_o z c]
          by_cases c2 : z = ot t
          · rw [c2, ot_ot, f2, f_b z1 ((zmem z1).mpr (.inr (.inl rfl)))]; exact .refl _
          · have h1 := otL z hz c c2
            rw [f_o _ (nxL _ (M.ca z hz) h1)]
            exact .step ⟨(memL z).mpr ⟨hz, c⟩, by unfold face; rw [alz z c2]⟩
      · show Eqv _ (f z) (f v)
        rw [f_b z ((zmem z).mpr (.inl rfl)), f_b v ((zmem v).mpr (.inr (.inl rfl)))]; exact .refl _
    · rintro z v ⟨hz, rfl⟩
      obtain ⟨zS, zn⟩ := (memL z).mp hz
      show Eqv _ z (nx (al z))
      have up : ∀ {a b}, Rim S nx a b → Eqv (plusPair (fstep S (face ot nx)) z0 z1) a b := fun q => Eqv.mono (fun _ _ q => .step (.inl q)) q
      by_cases c2 : z = ot t
      · rw [c2, alu]
        exact up (s_u.trans (s_1.trans s_t))
      · rw [alz z c2]
        exact up (st z zS)
    · intro z hz
      by_cases c : z = e ∨ z = ot e ∨ z = t
      · rw [f_b z c]; exact uL
      · rw [f_o z c]; exact (memL z).mpr ⟨hz, c⟩
    · intro z hz
      exact ((memL z).mp hz).1
    · intro z hz
      show Eqv _ (f z) z
      rw [f_o z ((memL z).mp hz).2]; exact .refl _
    · intro z hz
      show Eqv _ (f z) z
      have up : ∀ {a b}, Rim S nx a b → Eqv (plusPair (fstep S (face ot nx)) z0 z1) a b := fun q => Eqv.mono (fun _ _ q => .step (.inl q)) q
      by_cases c : z = e ∨ z = ot e ∨ z = t
      · rw [f_b z c]
        rcases (zmem z).mp c with q | q | q
        · rw [q]
          exact (up s_u).trans (Eqv.symm (.step (.inr ⟨rfl, rfl⟩)))
        · rw [q]; exact up s_u
        · rw [q]; exact up (s_u.trans s_1)
      · rw [f_o z c]; exact .refl _
  have cnL : ∀ u ∈ loopS S nx e, ∀ v ∈ loopS S nx e, Eqv (cs (loopS S nx e) al nx) u v := by
    intro u hu' v hv'
    obtain ⟨uS, un⟩ := (memL u).mp hu'
    obtain ⟨vS, vn⟩ := (memL v).mp hv'
    have q := Eqv.map (f := f) (r' := cs (loopS S nx e) al nx) (fun z w h => ?_) (W.conn u uS v vS)
    · rw [f_o u un, f_o v vn] at q
      exact q
    · obtain ⟨hz, h | h⟩ := h
      · subst h
        by_cases c : z = e ∨ z = ot e ∨ z = t
        · rw [f_b z c]
          rcases c with q | q | q
          · rw [q, f_b _ (.inr (.inl rfl))]; exact .refl _
          · rw [q, ot_ot, f_b _ (.inl rfl)]; exact .refl _
          · rw [q, f_o _ u_no]; exact .refl _
        · rw [f_o z c]
          by_cases c2 : z = ot t
          · rw [c2, ot_ot, f_b t (.inr (.inr rfl))]; exact .refl _
          · rw [f_o _ (otL z hz c c2)]
            exact .step ⟨(memL z).mpr ⟨hz, c⟩, .inl (alz z c2).symm⟩
      · subst h
        by_cases c : z = e ∨ z = ot e ∨ z = t
        · rw [f_b z c, f_b _ ((cor z hz).mpr c)]; exact .refl _
        · rw [f_o z c, f_o _ (nxL z hz c)]
          exact .step ⟨(memL z).mpr ⟨hz, c⟩, .inr rfl⟩
  have lenL : (loopS S nx e).length + 3 = S.length := by
    unfold loopS
    rw [et]
    exact len_ne3 M.nd he ho ht hoe.symm te.symm to.symm
  -- the corner of u
  have pL := ML.cn _ uL
  have qL := ML.cn _ pL
  have hpq : ot (nx (ot t)) ≠ nx (nx (ot t)) := fun z => alone (by
    have hp := M.cn _ hu
    have hq := M.cn _ hp
    have h3 := M.n3 _ hu
    have oq : ot (nx (nx (ot t))) = nx (ot t) := by rw [← z, ot_ot]
    refine six_ends W [e, ot e, t, ot t, nx (ot t), nx (nx (ot t))] rfl e he List.mem_cons_self (fun x hx => ?_) (fun x hx => ⟨fun q => ?_, fun q => ?_⟩) hz0 hz1
    · have c3 : ∀ x, (x = e ∨ x = ot e ∨ x = t) → (nx x = e ∨ nx x = ot e ∨ nx x = t) := fun x h => (cor x (by rcases h with h | h | h <;> rw [h]; exact he; exact ho; exact ht)).mpr h
      simp only [List.mem_cons, List.not_mem_nil, or_false] at hx ⊢
      rcases hx with rfl | rfl | rfl | rfl | rfl | rfl
      · exact ⟨.inr (.inl rfl), by rcases c3 _ (.inl rfl) with h | h | h <;> simp [h]⟩
      · exact ⟨.inl (ot_ot e), by rcases c3 _ (.inr (.inl rfl)) with h | h | h <;> simp [h]⟩
      · exact ⟨by simp, by rcases c3 _ (.inr (.inr rfl)) with h | h | h <;> simp [h]⟩
      · exact ⟨by rw [ot_ot]; simp, by simp⟩
      · exact ⟨by rw [z]; simp, by simp⟩
      · exact ⟨by rw [oq]; simp, by rw [h3]; simp⟩
    · simp only [List.mem_cons, List.not_mem_nil, or_false] at q ⊢
      have back : x = ot (ot x) := (ot_ot x).symm
      rcases q with q | q | q | q | q | q
      · rw [back, q]; simp
      · rw [back, q, ot_ot]; simp
      · rw [back, q]; simp
      · rw [back, q, ot_ot]; simp
      · rw [back, q, z]; simp
      · rw [back, q, oq]; simp
    · simp only [List.mem_cons, List.not_mem_nil, or_false] at q ⊢
      by_cases c : nx x = e ∨ nx x = ot e ∨ nx x = t
      · rcases (cor x hx).mp c with h | h | h <;> simp [h]
      · rcases q with q | q | q | q | q | q
        · exact absurd (.inl q) c
        · exact absurd (.inr (.inl q)) c
        · exact absurd (.inr (.inr q)) c
        · rw [M.ninj hx hq (q.trans h3.symm)]; simp
        · rw [M.ninj hx hu q]; simp
        · rw [M.ninj hx hp q]; simp)
  have D : Mend (loopS S nx e) al nx (ot t) (mX nx (ot t)) (mY nx (ot t)) (ot (mY nx (ot t))) := mend_mk ML uL alu (alz _ (ML.n1 _ uL)) (alz _ (ML.n2 uL)) hpq
  have lenM := mend_len D
  have al2 : ∀ x ∈ m1S (loopS S nx e) nx (ot t), ot x = al x := fun x hx => (alz x (mem_mendS.mp hx).2.1).symm
  refine ⟨by rw [et]; exact ML, by rw [et]; exact D, ?_, by
    have l1 : (m1S (loopS S nx e) nx (ot t)).length + 3 = (loopS S nx e).length := lenM
    unfold burstLS
    rw [et]
    omega⟩
  unfold burstLS burstLN
  rw [et]
  refine ⟨map_al (mend_map D) al2, ?_, fun u hu v hv => conn_al al2 (mend_conn D cnL u hu v hv), ⟨k, cls_al al2 (mend_cls D clL), by
    have l1 : (m1S (loopS S nx e) nx (ot t)).length + 3 = (loopS S nx e).length := lenM
    omega⟩, fun x hx => W.pos x ((memL x).mp (mem_mendS.mp hx).1).1⟩
  intro z
  have z0' : (m1S (loopS S nx e) nx (ot t)).length = 0 := by rw [z]; rfl
  have l1 : (m1S (loopS S nx e) nx (ot t)).length + 3 = (loopS S nx e).length := lenM
  have k0 : k + 1 = 1 := by omega
  rw [k0] at hn
  exact alone (cls_one hn hz0 hz1)
/-! WebB: bubbles blown and parted. Plain Lean. -/
theorem swap_swap {f : Int → Int} {a b : Int} (h : a ≠ b) : swapF (swapF f a b) a b = f := by
  funext z
  unfold swapF
  by_cases c1 : z = a
  · rw [if_pos c1, if_neg h.symm, if_pos rfl, c1]
  · rw [if_neg c1]
    by_cases c2 : z = b
    · rw [if_pos c2, if_pos rfl, c2]
    · rw [if_neg c2, if_neg c1, if_neg c2]
/-- a film put in whose cutting gives n faces, both its ends on one -/
theorem add_cls {S : List Int} {nx : Int → Int} {N N1 : Int} {n : Nat} (M : Map S ot nx) (hN : N ∈ S) (hN1 : N1 ∈ S) (h1 : ot N = N1) (h2 : ot N1 = N) (c : Cls S (fstep S (face (cutA ot N N1) nx)) n) (e : Eqv (fstep S (face (cutA ot N N1) nx)) N N1) :
    Cls S (fstep S (face ot nx)) (n + 1) ∧ ¬ Eqv (fstep S (face ot nx)) N N1 := by
  have hne : N ≠ N1 := fun z => ot_ne N (h1.trans z.symm)
  have P := (cut_map M hN hN1 h1 h2).perm
  have q := swap_up P hN hN1 hne e c
  have q2 := swap_split P hN hN1 hne e
  have E : swapF (face (cutA ot N N1) nx) N N1 = face ot nx := by rw [cut_face h1 h2, swap_swap hne]
  rw [E] at q q2
  exact ⟨q, q2⟩
def New6 (L z : Int) : Prop := z = L ∨ z = L + 1 ∨ z = L + 2 ∨ z = L + 3 ∨ z = L + 4 ∨ z = L + 5
theorem nodup6 (L : Int) : [L, L + 5, L + 2, L + 1, L + 4, L + 3].Nodup := by
  refine List.Pairwise.cons ?_ (List.Pairwise.cons ?_ (List.Pairwise.cons ?_ (List.Pairwise.cons ?_ (List.Pairwise.cons ?_ (List.Pairwise.cons ?_ List.Pairwise.nil)))))
  all_goals
    intro a h
    simp only [List.mem_cons, List.not_mem_nil, or_false] at h
    try omega
theorem ot_L {L : Int} (h : L % 2 = 0) : ot L = L + 1 ∧ ot (L + 1) = L ∧ ot (L + 2) = L + 3 ∧ ot (L + 3) = L + 2 ∧ ot (L + 4) = L + 5 ∧ ot (L + 5) = L + 4 := by
  unfold ot
  refine ⟨?_, ?_, ?_, ?_, ?_, ?_⟩
  · rw [if_pos (by omega)]
  · rw [if_neg (by omega)]; omega
  · rw [if_pos (by omega)]; omega
  · rw [if_neg (by omega)]; omega
  · rw [if_pos (by omega)]; omega
  · rw [if_neg (by omega)]; omega
/-! ### blown -/
def blowF (nx : Int → Int) (e L : Int) : Int → Int := seatF (seatF (seatF nx e L (L + 5)) (nx e) (L + 2) (L + 1)) (nx (nx e)) (L + 4) (L + 3)
def blowS (S : List Int) (L : Int) : List Int := S ++ [L, L + 5, L + 2, L + 1, L + 4, L + 3]
theorem mem_blowS {S : List Int} {L z : Int} : z ∈ blowS S L ↔ z ∈ S ∨ New6 L z := by
  unfold blowS New6
  rw [List.mem_append]
  simp only [List.mem_cons, List.not_mem_nil, or_false]
  constructor
  · rintro (q | q | q | q | q | q | q)
    · exact .inl q
    · exact .inr (.inl q)
    · exact .inr (.inr (.inr (.inr (.inr (.inr q)))))
    · exact .inr (.inr (.inr (.inl q)))
    · exact .inr (.inr (.inl q))
    · exact .inr (.inr (.inr (.inr (.inr (.inl q)))))
    · exact .inr (.inr (.inr (.inr (.inl q))))
  · rintro (q | q | q | q | q | q | q)
    · exact .inl q
    · exact .inr (.inl q)
    · exact .inr (.inr (.inr (.inr (.inl q))))
    · exact .inr (.inr (.inr (.inl q)))
    · exact .inr (.inr (.inr (.inr (.inr (.inr q)))))
    · exact .inr (.inr (.inr (.inr (.inr (.inl q)))))
    · exact .inr (.inr (.inl q))
structure BlowV (S : List Int) (nx nx' : Int → Int) (e a b L : Int) : Prop where
  he : e ∈ S
  ha : a ∈ S
  hb : b ∈ S
  ea : nx e = a
  ab : nx a = b
  be : nx b = e
  v_e : nx' e = L
  v_0 : nx' L = L + 5
  v_5 : nx' (L + 5) = e
  v_a : nx' a = L + 2
  v_2 : nx' (L + 2) = L + 1
  v_1 : nx' (L + 1) = a
  v_b : nx' b = L + 4
  v_4 : nx' (L + 4) = L + 3
  v_3 : nx' (L + 3) = b
  v_o : ∀ z ∈ S, z ≠ e → z ≠ a → z ≠ b → nx' z = nx z
  n_ea : e ≠ a
  n_eb : e ≠ b
  n_ab : a ≠ b
theorem blow_vals {S : List Int} {nx : Int → Int} {e L : Int} (M : Map S ot nx) (he : e ∈ S) (hL : ∀ x ∈ S, x < L) : BlowV S nx (blowF nx e L) e (nx e) (nx (nx e)) L := by
  have ha := M.cn e he
  have hb := M.cn _ ha
  have n1 := (M.n1 e he).symm
  have n2 := (M.n2 he).symm
  have n3 := (M.n12 he).symm
  generalize hA : nx e = a at *
  generalize hB : nx a = b at *
  have le := hL e he
  have la := hL a ha
  have lb := hL b hb
  have E : blowF nx e L = seatF (seatF (seatF nx e L (L + 5)) a (L + 2) (L + 1)) b (L + 4) (L + 3) := by unfold blowF; rw [hA, hB]
  rw [E]
  refine ⟨he, ha, hb, hA, hB, by rw [← hB, ← hA]; exact M.n3 e he, ?_, ?_, ?_, ?_, ?_, ?_, ?_, ?_, ?_, fun z hz z1 z2 z3 => ?_, n1, n2, n3⟩
  · rw [seat_o n2 (by omega) (by omega), seat_o n1 (by omega) (by omega), seat_1 (by omega) (by omega)]
  · rw [seat_o (by omega) (by omega) (by omega), seat_o (by omega) (by omega) (by omega), seat_2 (by omega)]
  · rw [seat_o (by omega) (by omega) (by omega), seat_o (by omega) (by omega) (by omega), seat_3]
  · rw [seat_o n3 (by omega) (by omega), seat_1 (by omega) (by omega)]
  · rw [seat_o (by omega) (by omega) (by omega), seat_2 (by omega)]
  · rw [seat_o (by omega) (by omega) (by omega), seat_3]
  · rw [seat_1 (by omega) (by omega)]
  · rw [seat_2 (by omega)]
  · rw [seat_3]
  · have lz := hL z hz
    rw [seat_o z3 (by omega) (by omega), seat_o z2 (by omega) (by omega), seat_o z1 (by omega) (by omega)]
theorem blow_web {S : List Int} {nx : Int → Int} {e L : Int} (W : Web S nx) (he : e ∈ S) (hL : ∀ x ∈ S, x < L) (h0 : 0 ≤ L) (h2 : L % 2 = 0) : Web (blowS S L) (blowF nx e L) ∧ (blowS S L).length = S.length + 6 := by
  have M := W.map
  have V := blow_vals M he hL
  obtain ⟨o0, o1, o2, o3, o4, o5⟩ := ot_L h2
  generalize nx e = a at V
  generalize nx a = b at V
  generalize blowF nx e L = nx' at V ⊢
  have mS : ∀ z, z ∈ S → z ∈ blowS S L := fun z h => mem_blowS.mpr (.inl h)
  have m0 : L ∈ blowS S L := mem_blowS.mpr (.inr (.inl rfl))
  have m1 : L + 1 ∈ blowS S L := mem_blowS.mpr (.inr (.inr (.inl rfl)))
  have m2 : L + 2 ∈ blowS S L := mem_blowS.mpr (.inr (.inr (.inr (.inl rfl))))
  have m3 : L + 3 ∈ blowS S L := mem_blowS.mpr (.inr (.inr (.inr (.inr (.inl rfl)))))
  have m4 : L + 4 ∈ blowS S L := mem_blowS.mpr (.inr (.inr (.inr (.inr (.inr (.inl rfl))))))
  have m5 : L + 5 ∈ blowS S L := mem_blowS.mpr (.inr (.inr (.inr (.inr (.inr (.inr rfl))))))
  have off : ∀ z ∈ S, ¬ New6 L z := fun z hz q => by
    have := hL z hz
    rcases q with q | q | q | q | q | q <;> omega
  have no3 : ∀ z ∈ S, z ≠ e → z ≠ a → z ≠ b → nx z ≠ e ∧ nx z ≠ a ∧ nx z ≠ b := fun z hz z1 z2 z3 =>
    ⟨fun q => z3 (M.ninj hz V.hb (q.trans V.be.symm)), fun q => z1 (M.ninj hz V.he (q.trans V.ea.symm)), fun q => z2 (M.ninj hz V.ha (q.trans V.ab.symm))⟩
  have nd : (blowS S L).Nodup := by
    unfold blowS
    refine List.nodup_append.mpr ⟨M.nd, ?_, fun x hx y hy => ?_⟩
    · exact nodup6 L
    · have := hL x hx
      simp only [List.mem_cons, List.not_mem_nil, or_false] at hy
      omega
  have M' : Map (blowS S L) ot nx' := by
    refine ⟨nd, fun z hz => ?_, fun z hz => ?_, fun z _ => ot_ot z, fun z hz => ?_, fun z hz => ?_⟩
    · rcases mem_blowS.mp hz with q | q | q | q | q | q | q
      · exact mS _ (M.ca z q)
      · rw [q, o0]; exact m1
      · rw [q, o1]; exact m0
      · rw [q, o2]; exact m3
      · rw [q, o3]; exact m2
      · rw [q, o4]; exact m5
      · rw [q, o5]; exact m4
    · rcases mem_blowS.mp hz with q | q | q | q | q | q | q
      · by_cases z1 : z = e
        · rw [z1, V.v_e]; exact m0
        · by_cases z2 : z = a
          · rw [z2, V.v_a]; exact m2
          · by_cases z3 : z = b
            · rw [z3, V.v_b]; exact m4
            · rw [V.v_o z q z1 z2 z3]; exact mS _ (M.cn z q)
      · rw [q, V.v_0]; exact m5
      · rw [q, V.v_1]; exact mS _ V.ha
      · rw [q, V.v_2]; exact m1
      · rw [q, V.v_3]; exact mS _ V.hb
      · rw [q, V.v_4]; exact m3
      · rw [q, V.v_5]; exact mS _ V.he
    · rcases mem_blowS.mp hz with q | q | q | q | q | q | q
      · by_cases z1 : z = e
        · rw [z1, V.v_e, V.v_0, V.v_5]
        · by_cases z2 : z = a
          · rw [z2, V.v_a, V.v_2, V.v_1]
          · by_cases z3 : z = b
            · rw [z3, V.v_b, V.v_4, V.v_3]
            · obtain ⟨w1, w2, w3⟩ := no3 z q z1 z2 z3
              obtain ⟨y1, y2, y3⟩ := no3 _ (M.cn z q) w1 w2 w3
              rw [V.v_o z q z1 z2 z3, V.v_o _ (M.cn z q) w1 w2 w3, V.v_o _ (M.cn _ (M.cn z q)) y1 y2 y3]
              exact M.n3 z q
      · rw [q, V.v_0, V.v_5, V.v_e]
      · rw [q, V.v_1, V.v_a, V.v_2]
      · rw [q, V.v_2, V.v_1, V.v_a]
      · rw [q, V.v_3, V.v_b, V.v_4]
      · rw [q, V.v_4, V.v_3, V.v_b]
      · rw [q, V.v_5, V.v_e, V.v_0]
    · have le := hL e V.he
      have la := hL a V.ha
      have lb := hL b V.hb
      rcases mem_blowS.mp hz with q | q | q | q | q | q | q
      · by_cases z1 : z = e
        · rw [z1, V.v_e]; omega
        · by_cases z2 : z = a
          · rw [z2, V.v_a]; omega
          · by_cases z3 : z = b
            · rw [z3, V.v_b]; omega
            · rw [V.v_o z q z1 z2 z3]; exact M.n1 z q
      · rw [q, V.v_0]; omega
      · rw [q, V.v_1]; omega
      · rw [q, V.v_2]; omega
      · rw [q, V.v_3]; omega
      · rw [q, V.v_4]; omega
      · rw [q, V.v_5]; omega
  have Mc := cut_map M' m0 m1 o0 o1
  let al := cutA ot L (L + 1)
  have al0 : al L = L := if_pos rfl
  have al1 : al (L + 1) = L + 1 := by show (if L + 1 = L then L else if L + 1 = L + 1 then L + 1 else ot (L + 1)) = L + 1; rw [if_neg (by omega), if_pos rfl]
  have alz : ∀ z, z ≠ L → z ≠ L + 1 → al z = ot z := fun z z1 z2 => by show (if z = L then L else if z = L + 1 then L + 1 else ot z) = ot z; rw [if_neg z1, if_neg z2]
  have sc : ∀ z ∈ blowS S L, Eqv (fstep (blowS S L) (face al nx')) z (nx' (al z)) := fun z hz => .step ⟨hz, rfl⟩
  have t0 : Eqv (fstep (blowS S L) (face al nx')) L (L + 5) := by have := sc L m0; rw [al0, V.v_0] at this; exact this
  have t1 : Eqv (fstep (blowS S L) (face al nx')) (L + 1) a := by have := sc _ m1; rw [al1, V.v_1] at this; exact this
  have t5 : Eqv (fstep (blowS S L) (face al nx')) (L + 5) (L + 3) := by have := sc _ m5; rw [alz _ (by omega) (by omega), o5, V.v_4] at this; exact this
  have t3 : Eqv (fstep (blowS S L) (face al nx')) (L + 3) (L + 1) := by have := sc _ m3; rw [alz _ (by omega) (by omega), o3, V.v_2] at this; exact this
  have t4 : Eqv (fstep (blowS S L) (face al nx')) (L + 4) e := by have := sc _ m4; rw [alz _ (by omega) (by omega), o4, V.v_5] at this; exact this
  have t2 : Eqv (fstep (blowS S L) (face al nx')) (L + 2) b := by have := sc _ m2; rw [alz _ (by omega) (by omega), o2, V.v_3] at this; exact this
  let f : Int → Int := fun z => if z = L ∨ z = L + 5 ∨ z = L + 3 ∨ z = L + 1 then a else if z = L + 2 then b else if z = L + 4 then e else z
  have f_a : ∀ z, (z = L ∨ z = L + 5 ∨ z = L + 3 ∨ z = L + 1) → f z = a := fun z h => if_pos h
  have f_2 : f (L + 2) = b := by show (if L + 2 = L ∨ L + 2 = L + 5 ∨ L + 2 = L + 3 ∨ L + 2 = L + 1 then a else if L + 2 = L + 2 then b else _) = b; rw [if_neg (by omega), if_pos rfl]
  have f_4 : f (L + 4) = e := by show (if L + 4 = L ∨ L + 4 = L + 5 ∨ L + 4 = L + 3 ∨ L + 4 = L + 1 then a else if L + 4 = L + 2 then b else if L + 4 = L + 4 then e else _) = e; rw [if_neg (by omega), if_neg (by omega), if_pos rfl]
  have f_S : ∀ z ∈ S, f z = z := fun z hz => by
    have := hL z hz
    show (if z = L ∨ z = L + 5 ∨ z = L + 3 ∨ z = L + 1 then a else if z = L + 2 then b else if z = L + 4 then e else z) = z
    rw [if_neg (by omega), if_neg (by omega), if_neg (by omega)]
  have stO : ∀ z ∈ S, Rim S nx z (nx (ot z)) := fun z hz => .step ⟨hz, rfl⟩
  have hS_L : ∀ z ∈ S, z ≠ L ∧ z ≠ L + 1 := fun z hz => by have := hL z hz; exact ⟨by omega, by omega⟩
  -- old steps in the new, the film cut
  have hg : ∀ x y, fstep S (face ot nx) x y → Eqv (fstep (blowS S L) (face al nx')) x y := by
    rintro z v ⟨hz, rfl⟩
    show Eqv _ z (nx (ot z))
    have hz1 := M.ca z hz
    have s := sc z (mS z hz)
    rw [alz z (hS_L z hz).1 (hS_L z hz).2] at s
    by_cases c1 : ot z = e
    · rw [c1, V.v_e] at s
      rw [c1, V.ea]
      exact s.trans (t0.trans (t5.trans (t3.trans t1)))
    · by_cases c2 : ot z = a
      · rw [c2, V.v_a] at s
        rw [c2, V.ab]
        exact s.trans t2
      · by_cases c3 : ot z = b
        · rw [c3, V.v_b] at s
          rw [c3, V.be]
          exact s.trans t4
        · rw [V.v_o _ hz1 c1 c2 c3] at s
          exact s
  have hf : ∀ x y, fstep (blowS S L) (face al nx') x y → Eqv (fstep S (face ot nx)) (f x) (f y) := by
    rintro z v ⟨hz, rfl⟩
    show Eqv _ (f z) (f (nx' (al z)))
    rcases mem_blowS.mp hz with q | q | q | q | q | q | q
    · rw [f_S z q, alz z (hS_L z q).1 (hS_L z q).2]
      have s := stO z q
      have hz1 := M.ca z q
      by_cases c1 : ot z = e
      · rw [c1, V.ea] at s
        rw [c1, V.v_e, f_a L (.inl rfl)]
        exact s
      · by_cases c2 : ot z = a
        · rw [c2, V.ab] at s
          rw [c2, V.v_a, f_2]
          exact s
        · by_cases c3 : ot z = b
          · rw [c3, V.be] at s
            rw [c3, V.v_b, f_4]
            exact s
          · rw [V.v_o _ hz1 c1 c2 c3, f_S _ (M.cn _ hz1)]
            exact s
    · rw [q, al0, V.v_0, f_a L (.inl rfl), f_a (L + 5) (.inr (.inl rfl))]; exact .refl _
    · rw [q, al1, V.v_1, f_a (L + 1) (.inr (.inr (.inr rfl))), f_S a V.ha]; exact .refl _
    · rw [q, alz _ (by omega) (by omega), o2, V.v_3, f_2, f_S b V.hb]; exact .refl _
    · rw [q, alz _ (by omega) (by omega), o3, V.v_2, f_a (L + 3) (.inr (.inr (.inl rfl))), f_a (L + 1) (.inr (.inr (.inr rfl)))]; exact .refl _
    · rw [q, alz _ (by omega) (by omega), o4, V.v_5, f_4, f_S e V.he]; exact .refl _
    · rw [q, alz _ (by omega) (by omega), o5, V.v_4, f_a (L + 5) (.inr (.inl rfl)), f_a (L + 3) (.inr (.inr (.inl rfl)))]; exact .refl _
  obtain ⟨n, hn, hl⟩ := W.eul
  have cc : Cls (blowS S L) (fstep (blowS S L) (face al nx')) n := by
    refine cls_maps id f hg hf (fun z hz => mS z hz) ?_ ?_ ?_ hn
    · intro z hz
      rcases mem_blowS.mp hz with q | q | q | q | q | q | q
      · rw [f_S z q]; exact q
      · rw [f_a z (.inl q)]; exact V.ha
      · rw [f_a z (.inr (.inr (.inr q)))]; exact V.ha
      · rw [q, f_2]; exact V.hb
      · rw [f_a z (.inr (.inr (.inl q)))]; exact V.ha
      · rw [q, f_4]; exact V.he
      · rw [f_a z (.inr (.inl q))]; exact V.ha
    · intro z hz
      show Eqv _ (f z) z
      rcases mem_blowS.mp hz with q | q | q | q | q | q | q
      · rw [f_S z q]; exact .refl _
      · rw [f_a z (.inl q), q]; exact (t0.trans (t5.trans (t3.trans t1))).symm
      · rw [f_a z (.inr (.inr (.inr q))), q]; exact t1.symm
      · rw [q, f_2]; exact t2.symm
      · rw [f_a z (.inr (.inr (.inl q))), q]; exact (t3.trans t1).symm
      · rw [q, f_4]; exact t4.symm
      · rw [f_a z (.inr (.inl q)), q]; exact (t5.trans (t3.trans t1)).symm
    · intro z hz
      show Eqv _ (f z) z
      rw [f_S z hz]; exact .refl _
  have fin := add_cls M' m0 m1 o0 o1 cc (t0.trans (t5.trans t3))
  have len : (blowS S L).length = S.length + 6 := by unfold blowS; rw [List.length_append]; rfl
  refine ⟨⟨M', List.ne_nil_of_mem m0, ?_, ⟨n + 1, fin.1, by rw [len]; omega⟩, fun z hz => ?_⟩, len⟩
  · -- connected
    have cn : ∀ z ∈ blowS S L, Eqv (cs (blowS S L) ot nx') z (nx' z) := fun z hz => .step ⟨hz, .inr rfl⟩
    have co : ∀ z ∈ blowS S L, Eqv (cs (blowS S L) ot nx') z (ot z) := fun z hz => .step ⟨hz, .inl rfl⟩
    have k1 := cn e (mS _ V.he); rw [V.v_e] at k1
    have k2 := co L m0; rw [o0] at k2
    have k3 := cn _ m1; rw [V.v_1] at k3
    have k4 := cn a (mS _ V.ha); rw [V.v_a] at k4
    have k5 := co _ m2; rw [o2] at k5
    have k6 := cn _ m3; rw [V.v_3] at k6
    have k7 := cn b (mS _ V.hb); rw [V.v_b] at k7
    have k8 := co _ m4; rw [o4] at k8
    have k9 := cn _ m5; rw [V.v_5] at k9
    have old : ∀ u v, Eqv (cs S ot nx) u v → Eqv (cs (blowS S L) ot nx') u v := fun u v q => Eqv.mono (fun z w h => by
      obtain ⟨hz, h | h⟩ := h
      · exact .step ⟨mS z hz, .inl h⟩
      · subst h
        by_cases z1 : z = e
        · rw [z1, V.ea]; exact k1.trans (k2.trans k3)
        · by_cases z2 : z = a
          · rw [z2, V.ab]; exact k4.trans (k5.trans k6)
          · by_cases z3 : z = b
            · rw [z3, V.be]; exact k7.trans (k8.trans k9)
            · have := cn z (mS z hz)
              rw [V.v_o z hz z1 z2 z3] at this
              exact this) q
    have toS : ∀ z ∈ blowS S L, Eqv (cs (blowS S L) ot nx') e z := fun z hz => by
      rcases mem_blowS.mp hz with q | q | q | q | q | q | q
      · exact old _ _ (W.conn e V.he z q)
      · rw [q]; exact k1
      · rw [q]; exact k1.trans k2
      · rw [q]; exact (old _ _ (W.conn e V.he a V.ha)).trans k4
      · rw [q]; exact (old _ _ (W.conn e V.he a V.ha)).trans (k4.trans k5)
      · rw [q]; exact (old _ _ (W.conn e V.he b V.hb)).trans k7
      · rw [q]; exact (old _ _ (W.conn e V.he b V.hb)).trans (k7.trans k8)
    exact fun u hu v hv => (toS u hu).symm.trans (toS v hv)
  · rcases mem_blowS.mp hz with q | q | q | q | q | q | q
    · exact W.pos z q
    all_goals omega
/-! ### parted -/
def subP (p q L v : Int) : Int := if v = p then L + 1 else if v = q then L + 3 else v
def partF (nx : Int → Int) (one two L : Int) : Int → Int := fun z =>
  if z = ot one then L + 4 else if z = ot two then L + 5 else if z = L then ot one else if z = L + 1 then subP (ot one) (ot two) L (nx (ot one)) else if z = L + 2 then ot two
  else if z = L + 3 then subP (ot one) (ot two) L (nx (ot two)) else if z = L + 4 then L else if z = L + 5 then L + 2 else subP (ot one) (ot two) L (nx z)
structure PartV (S : List Int) (nx nx' : Int → Int) (one two p q L : Int) : Prop where
  h1 : one ∈ S
  h2 : two ∈ S
  hp : p ∈ S
  hq : q ∈ S
  o1 : ot one = p
  o2 : ot two = q
  op : ot p = one
  oq : ot q = two
  v_p : nx' p = L + 4
  v_q : nx' q = L + 5
  v_0 : nx' L = p
  v_1 : nx' (L + 1) = subP p q L (nx p)
  v_2 : nx' (L + 2) = q
  v_3 : nx' (L + 3) = subP p q L (nx q)
  v_4 : nx' (L + 4) = L
  v_5 : nx' (L + 5) = L + 2
  v_o : ∀ z ∈ S, z ≠ p → z ≠ q → nx' z = subP p q L (nx z)
  n_pq : p ≠ q
  n_1p : one ≠ p
  n_1q : one ≠ q
  n_2p : two ≠ p
  n_2q : two ≠ q
  n_12 : one ≠ two
theorem part_vals {S : List Int} {nx : Int → Int} {one two L : Int} (M : Map S ot nx) (h1 : one ∈ S) (h2 : two ∈ S) (hf : one / 2 ≠ two / 2) (hL : ∀ x ∈ S, x < L) : PartV S nx (partF nx one two L) one two (ot one) (ot two) L := by
  have hp := M.ca one h1
  have hq := M.ca two h2
  have lp := hL _ hp
  have lq := hL _ hq
  have d1 := ot_div one
  have d2 := ot_div two
  have npq : ot one ≠ ot two := fun z => hf (by rw [← d1, ← d2, z])
  refine ⟨h1, h2, hp, hq, rfl, rfl, ot_ot one, ot_ot two, ?_, ?_, ?_, ?_, ?_, ?_, ?_, ?_, fun z hz z1 z2 => ?_, npq, (ot_ne one).symm, fun z => hf (by rw [z, d2]), fun z => hf (by rw [z, d1]), (ot_ne two).symm, fun z => hf (by rw [z])⟩
  all_goals unfold partF
  · rw [if_pos rfl]
  · rw [if_neg npq.symm, if_pos rfl]
  · rw [if_neg (by omega), if_neg (by omega), if_pos rfl]
  · rw [if_neg (by omega), if_neg (by omega), if_neg (by omega), if_pos rfl]
  · rw [if_neg (by omega), if_neg (by omega), if_neg (by omega), if_neg (by omega), if_pos rfl]
  · rw [if_neg (by omega), if_neg (by omega), if_neg (by omega), if_neg (by omega), if_neg (by omega), if_pos rfl]
  · rw [if_neg (by omega), if_neg (by omega), if_neg (by omega), if_neg (by omega), if_neg (by omega), if_neg (by omega), if_pos rfl]
  · rw [if_neg (by omega), if_neg (by omega), if_neg (by omega), if_neg (by omega), if_neg (by omega), if_neg (by omega), if_neg (by omega), if_pos rfl]
  · have lz := hL z hz
    rw [if_neg z1, if_neg z2, if_neg (by omega), if_neg (by omega), if_neg (by omega), if_neg (by omega), if_neg (by omega), if_neg (by omega)]
theorem part_web {S : List Int} {nx : Int → Int} {one two L : Int} (W : Web S nx) (h1 : one ∈ S) (h2 : two ∈ S) (hf : one / 2 ≠ two / 2) (hr : Rim S nx one two) (hL : ∀ x ∈ S, x < L) (h0 : 0 ≤ L) (hL2 : L % 2 = 0) :
    Web (blowS S L) (partF nx one two L) ∧ ¬ Rim (blowS S L) (partF nx one two L) (L + 4) (L + 5) := by
  have M := W.map
  have V := part_vals M h1 h2 hf hL
  obtain ⟨o0, o1, o2, o3, o4, o5⟩ := ot_L hL2
  generalize ot one = p at V
  generalize ot two = q at V
  generalize partF nx one two L = nx' at V ⊢
  have mS : ∀ z, z ∈ S → z ∈ blowS S L := fun z h => mem_blowS.mpr (.inl h)
  have m0 : L ∈ blowS S L := mem_blowS.mpr (.inr (.inl rfl))
  have m1 : L + 1 ∈ blowS S L := mem_blowS.mpr (.inr (.inr (.inl rfl)))
  have m2 : L + 2 ∈ blowS S L := mem_blowS.mpr (.inr (.inr (.inr (.inl rfl))))
  have m3 : L + 3 ∈ blowS S L := mem_blowS.mpr (.inr (.inr (.inr (.inr (.inl rfl)))))
  have m4 : L + 4 ∈ blowS S L := mem_blowS.mpr (.inr (.inr (.inr (.inr (.inr (.inl rfl))))))
  have m5 : L + 5 ∈ blowS S L := mem_blowS.mpr (.inr (.inr (.inr (.inr (.inr (.inr rfl))))))
  have lp := hL p V.hp
  have lq := hL q V.hq
  -- the ends put in the places of p and q
  have sub_p : subP p q L p = L + 1 := if_pos rfl
  have sub_q : subP p q L q = L + 3 := by unfold subP; rw [if_neg V.n_pq.symm, if_pos rfl]
  have sub_o : ∀ v, v ≠ p → v ≠ q → subP p q L v = v := fun v v1 v2 => by unfold subP; rw [if_neg v1, if_neg v2]
  have sub_m : ∀ v ∈ S, subP p q L v ∈ blowS S L := fun v hv => by
    by_cases c1 : v = p
    · rw [c1, sub_p]; exact m1
    · by_cases c2 : v = q
      · rw [c2, sub_q]; exact m3
      · rw [sub_o v c1 c2]; exact mS v hv
  -- the next end of what was put in a place
  have conj : ∀ v ∈ S, nx' (subP p q L v) = subP p q L (nx v) := fun v hv => by
    by_cases c1 : v = p
    · rw [c1, sub_p]; exact V.v_1
    · by_cases c2 : v = q
      · rw [c2, sub_q]; exact V.v_3
      · rw [sub_o v c1 c2]; exact V.v_o v hv c1 c2
  have sub_inj : ∀ u ∈ S, ∀ v ∈ S, subP p q L u = subP p q L v → u = v := fun u hu v hv e => by
    have lu := hL u hu
    have lv := hL v hv
    unfold subP at e
    by_cases u1 : u = p <;> by_cases v1 : v = p
    · rw [u1, v1]
    · rw [if_pos u1, if_neg v1] at e
      by_cases v2 : v = q
      · rw [if_pos v2] at e; omega
      · rw [if_neg v2] at e; omega
    · rw [if_neg u1, if_pos v1] at e
      by_cases u2 : u = q
      · rw [if_pos u2] at e; omega
      · rw [if_neg u2] at e; omega
    · rw [if_neg u1, if_neg v1] at e
      by_cases u2 : u = q <;> by_cases v2 : v = q
      · rw [u2, v2]
      · rw [if_pos u2, if_neg v2] at e; omega
      · rw [if_neg u2, if_pos v2] at e; omega
      · rw [if_neg u2, if_neg v2] at e; exact e
  have nd : (blowS S L).Nodup := by
    unfold blowS
    refine List.nodup_append.mpr ⟨M.nd, ?_, fun x hx y hy => ?_⟩
    · exact nodup6 L
    · have := hL x hx
      simp only [List.mem_cons, List.not_mem_nil, or_false] at hy
      omega
  have M' : Map (blowS S L) ot nx' := by
    have cov : ∀ z ∈ blowS S L, (∃ v ∈ S, z = subP p q L v) ∨ z = p ∨ z = q ∨ z = L ∨ z = L + 2 ∨ z = L + 4 ∨ z = L + 5 := fun z hz => by
      rcases mem_blowS.mp hz with k | k | k | k | k | k | k
      · by_cases c1 : z = p
        · exact .inr (.inl c1)
        · by_cases c2 : z = q
          · exact .inr (.inr (.inl c2))
          · exact .inl ⟨z, k, (sub_o z c1 c2).symm⟩
      · exact .inr (.inr (.inr (.inl k)))
      · exact .inl ⟨p, V.hp, by rw [k, sub_p]⟩
      · exact .inr (.inr (.inr (.inr (.inl k))))
      · exact .inl ⟨q, V.hq, by rw [k, sub_q]⟩
      · exact .inr (.inr (.inr (.inr (.inr (.inl k)))))
      · exact .inr (.inr (.inr (.inr (.inr (.inr k)))))
    refine ⟨nd, fun z hz => ?_, fun z hz => ?_, fun z _ => ot_ot z, fun z hz => ?_, fun z hz => ?_⟩
    · rcases mem_blowS.mp hz with k | k | k | k | k | k | k
      · exact mS _ (M.ca z k)
      · rw [k, o0]; exact m1
      · rw [k, o1]; exact m0
      · rw [k, o2]; exact m3
      · rw [k, o3]; exact m2
      · rw [k, o4]; exact m5
      · rw [k, o5]; exact m4
    · rcases cov z hz with ⟨v, hv, k⟩ | k | k | k | k | k | k
      · rw [k, conj v hv]; exact sub_m _ (M.cn v hv)
      · rw [k, V.v_p]; exact m4
      · rw [k, V.v_q]; exact m5
      · rw [k, V.v_0]; exact mS _ V.hp
      · rw [k, V.v_2]; exact mS _ V.hq
      · rw [k, V.v_4]; exact m0
      · rw [k, V.v_5]; exact m2
    · rcases cov z hz with ⟨v, hv, k⟩ | k | k | k | k | k | k
      · rw [k, conj v hv, conj _ (M.cn v hv), conj _ (M.cn _ (M.cn v hv)), M.n3 v hv]
      · rw [k, V.v_p, V.v_4, V.v_0]
      · rw [k, V.v_q, V.v_5, V.v_2]
      · rw [k, V.v_0, V.v_p, V.v_4]
      · rw [k, V.v_2, V.v_q, V.v_5]
      · rw [k, V.v_4, V.v_0, V.v_p]
      · rw [k, V.v_5, V.v_2, V.v_q]
    · rcases cov z hz with ⟨v, hv, k⟩ | k | k | k | k | k | k
      · rw [k, conj v hv]; exact fun e => M.n1 v hv (sub_inj _ (M.cn v hv) v hv e)
      · rw [k, V.v_p]; omega
      · rw [k, V.v_q]; omega
      · rw [k, V.v_0]; omega
      · rw [k, V.v_2]; omega
      · rw [k, V.v_4]; omega
      · rw [k, V.v_5]; omega
  have Mc := cut_map M' m4 m5 o4 o5
  let al := cutA ot (L + 4) (L + 5)
  have al4 : al (L + 4) = L + 4 := if_pos rfl
  have al5 : al (L + 5) = L + 5 := by show (if L + 5 = L + 4 then L + 4 else if L + 5 = L + 5 then L + 5 else ot (L + 5)) = L + 5; rw [if_neg (by omega), if_pos rfl]
  have alz : ∀ z, z ≠ L + 4 → z ≠ L + 5 → al z = ot z := fun z z1 z2 => by show (if z = L + 4 then L + 4 else if z = L + 5 then L + 5 else ot z) = ot z; rw [if_neg z1, if_neg z2]
  have alS : ∀ z ∈ S, al z = ot z := fun z hz => by have := hL z hz; exact alz z (by omega) (by omega)
  have sc : ∀ z ∈ blowS S L, Eqv (fstep (blowS S L) (face al nx')) z (nx' (al z)) := fun z hz => .step ⟨hz, rfl⟩
  have t1 : Eqv (fstep (blowS S L) (face al nx')) (L + 1) p := by have := sc _ m1; rw [alz _ (by omega) (by omega), o1, V.v_0] at this; exact this
  have t3 : Eqv (fstep (blowS S L) (face al nx')) (L + 3) q := by have := sc _ m3; rw [alz _ (by omega) (by omega), o3, V.v_2] at this; exact this
  have sb : ∀ v, Eqv (fstep (blowS S L) (face al nx')) (subP p q L v) v := fun v => by
    by_cases c1 : v = p
    · rw [c1, sub_p]; exact t1
    · by_cases c2 : v = q
      · rw [c2, sub_q]; exact t3
      · rw [sub_o v c1 c2]; exact .refl _
  have t0 : Eqv (fstep (blowS S L) (face al nx')) L (nx p) := by have := sc _ m0; rw [alz _ (by omega) (by omega), o0, V.v_1] at this; exact this.trans (sb _)
  have t2 : Eqv (fstep (blowS S L) (face al nx')) (L + 2) (nx q) := by have := sc _ m2; rw [alz _ (by omega) (by omega), o2, V.v_3] at this; exact this.trans (sb _)
  have t4 : Eqv (fstep (blowS S L) (face al nx')) (L + 4) L := by have := sc _ m4; rw [al4, V.v_4] at this; exact this
  have t5 : Eqv (fstep (blowS S L) (face al nx')) (L + 5) (L + 2) := by have := sc _ m5; rw [al5, V.v_5] at this; exact this
  have tone : Eqv (fstep (blowS S L) (face al nx')) one (L + 4) := by have := sc _ (mS _ V.h1); rw [alS one V.h1, V.o1, V.v_p] at this; exact this
  have ttwo : Eqv (fstep (blowS S L) (face al nx')) two (L + 5) := by have := sc _ (mS _ V.h2); rw [alS two V.h2, V.o2, V.v_q] at this; exact this
  have stO : ∀ z ∈ S, Rim S nx z (nx (ot z)) := fun z hz => .step ⟨hz, rfl⟩
  have hg : ∀ x y, fstep S (face ot nx) x y → Eqv (fstep (blowS S L) (face al nx')) x y := by
    rintro z v ⟨hz, rfl⟩
    show Eqv _ z (nx (ot z))
    by_cases c1 : z = one
    · rw [c1, V.o1]; exact tone.trans (t4.trans t0)
    · by_cases c2 : z = two
      · rw [c2, V.o2]; exact ttwo.trans (t5.trans t2)
      · have s := sc z (mS z hz)
        rw [alS z hz] at s
        have n1 : ot z ≠ p := fun e => c1 (by rw [← ot_ot z, e, V.op])
        have n2 : ot z ≠ q := fun e => c2 (by rw [← ot_ot z, e, V.oq])
        rw [V.v_o _ (M.ca z hz) n1 n2] at s
        exact s.trans (sb _)
  let f : Int → Int := fun z => if z = L ∨ z = L + 4 then one else if z = L + 2 ∨ z = L + 5 then two else if z = L + 1 then p else if z = L + 3 then q else z
  have f_1 : ∀ z, (z = L ∨ z = L + 4) → f z = one := fun z h => if_pos h
  have f_2 : ∀ z, (z = L + 2 ∨ z = L + 5) → f z = two := fun z h => by show (if z = L ∨ z = L + 4 then one else if z = L + 2 ∨ z = L + 5 then two else _) = two; rw [if_neg (by omega), if_pos h]
  have f_p : f (L + 1) = p := by show (if L + 1 = L ∨ L + 1 = L + 4 then one else if L + 1 = L + 2 ∨ L + 1 = L + 5 then two else if L + 1 = L + 1 then p else _) = p; rw [if_neg (by omega), if_neg (by omega), if_pos rfl]
  have f_q : f (L + 3) = q := by show (if L + 3 = L ∨ L + 3 = L + 4 then one else if L + 3 = L + 2 ∨ L + 3 = L + 5 then two else if L + 3 = L + 1 then p else if L + 3 = L + 3 then q else _) = q; rw [if_neg (by omega), if_neg (by omega), if_neg (by omega), if_pos rfl]
  have f_S : ∀ z ∈ S, f z = z := fun z hz => by
    have := hL z hz
    show (if z = L ∨ z = L + 4 then one else if z = L + 2 ∨ z = L + 5 then two else if z = L + 1 then p else if z = L + 3 then q else z) = z
    rw [if_neg (by omega), if_neg (by omega), if_neg (by omega), if_neg (by omega)]
  have f_sub : ∀ v ∈ S, f (subP p q L v) = v := fun v hv => by
    by_cases c1 : v = p
    · rw [c1, sub_p, f_p]
    · by_cases c2 : v = q
      · rw [c2, sub_q, f_q]
      · rw [sub_o v c1 c2, f_S v hv]
  have hf' : ∀ x y, fstep (blowS S L) (face al nx') x y → Eqv (fstep S (face ot nx)) (f x) (f y) := by
    rintro z v ⟨hz, rfl⟩
    show Eqv _ (f z) (f (nx' (al z)))
    rcases mem_blowS.mp hz with k | k | k | k | k | k | k
    · rw [f_S z k, alS z k]
      have s := stO z k
      by_cases c1 : ot z = p
      · have e1 : z = one := by rw [← ot_ot z, c1, V.op]
        rw [c1, V.v_p, f_1 (L + 4) (.inr rfl), e1]; exact .refl _
      · by_cases c2 : ot z = q
        · have e1 : z = two := by rw [← ot_ot z, c2, V.oq]
          rw [c2, V.v_q, f_2 (L + 5) (.inr rfl), e1]; exact .refl _
        · rw [V.v_o _ (M.ca z k) c1 c2, f_sub _ (M.cn _ (M.ca z k))]; exact s
    · have s := stO one V.h1
      rw [V.o1] at s
      rw [k, alz _ (by omega) (by omega), o0, V.v_1, f_1 L (.inl rfl), f_sub _ (M.cn _ V.hp)]; exact s
    · rw [k, alz _ (by omega) (by omega), o1, V.v_0, f_p, f_S p V.hp]; exact .refl _
    · have s := stO two V.h2
      rw [V.o2] at s
      rw [k, alz _ (by omega) (by omega), o2, V.v_3, f_2 (L + 2) (.inl rfl), f_sub _ (M.cn _ V.hq)]; exact s
    · rw [k, alz _ (by omega) (by omega), o3, V.v_2, f_q, f_S q V.hq]; exact .refl _
    · rw [k, al4, V.v_4, f_1 (L + 4) (.inr rfl), f_1 L (.inl rfl)]; exact .refl _
    · rw [k, al5, V.v_5, f_2 (L + 5) (.inr rfl), f_2 (L + 2) (.inl rfl)]; exact .refl _
  obtain ⟨n, hn, hl⟩ := W.eul
  have cc : Cls (blowS S L) (fstep (blowS S L) (face al nx')) n := by
    refine cls_maps id f hg hf' (fun z hz => mS z hz) ?_ ?_ ?_ hn
    · intro z hz
      rcases mem_blowS.mp hz with k | k | k | k | k | k | k
      · rw [f_S z k]; exact k
      · rw [f_1 z (.inl k)]; exact V.h1
      · rw [k, f_p]; exact V.hp
      · rw [f_2 z (.inl k)]; exact V.h2
      · rw [k, f_q]; exact V.hq
      · rw [f_1 z (.inr k)]; exact V.h1
      · rw [f_2 z (.inr k)]; exact V.h2
    · intro z hz
      show Eqv _ (f z) z
      rcases mem_blowS.mp hz with k | k | k | k | k | k | k
      · rw [f_S z k]; exact .refl _
      · rw [f_1 z (.inl k), k]; exact tone.trans t4
      · rw [k, f_p]; exact t1.symm
      · rw [f_2 z (.inl k), k]; exact ttwo.trans t5
      · rw [k, f_q]; exact t3.symm
      · rw [f_1 z (.inr k), k]; exact tone
      · rw [f_2 z (.inr k), k]; exact ttwo
    · intro z hz
      show Eqv _ (f z) z
      rw [f_S z hz]; exact .refl _
  have both : Eqv (fstep (blowS S L) (face al nx')) (L + 4) (L + 5) := tone.symm.trans ((Eqv.mono hg hr).trans ttwo)
  have fin := add_cls M' m4 m5 o4 o5 cc both
  have len : (blowS S L).length = S.length + 6 := by unfold blowS; rw [List.length_append]; rfl
  refine ⟨⟨M', List.ne_nil_of_mem m0, ?_, ⟨n + 1, fin.1, by rw [len]; omega⟩, fun z hz => ?_⟩, fin.2⟩
  · have cn : ∀ z ∈ blowS S L, Eqv (cs (blowS S L) ot nx') z (nx' z) := fun z hz => .step ⟨hz, .inr rfl⟩
    have co : ∀ z ∈ blowS S L, Eqv (cs (blowS S L) ot nx') z (ot z) := fun z hz => .step ⟨hz, .inl rfl⟩
    have k0 := cn L m0; rw [V.v_0] at k0
    have k1 := co L m0; rw [o0] at k1
    have k2 := cn _ m2; rw [V.v_2] at k2
    have k3 := co _ m2; rw [o2] at k3
    have k4 := cn _ m4; rw [V.v_4] at k4
    have k5 := cn _ m5; rw [V.v_5] at k5
    have sbc : ∀ v, Eqv (cs (blowS S L) ot nx') (subP p q L v) v := fun v => by
      by_cases c1 : v = p
      · rw [c1, sub_p]; exact k1.symm.trans k0
      · by_cases c2 : v = q
        · rw [c2, sub_q]; exact k3.symm.trans k2
        · rw [sub_o v c1 c2]; exact .refl _
    have old : ∀ u v, Eqv (cs S ot nx) u v → Eqv (cs (blowS S L) ot nx') u v := fun u v e => Eqv.mono (fun z w h => by
      obtain ⟨hz, h | h⟩ := h
      · exact .step ⟨mS z hz, .inl h⟩
      · subst h
        have s := cn _ (sub_m z hz)
        rw [conj z hz] at s
        exact (sbc z).symm.trans (s.trans (sbc _))) e
    have toS : ∀ z ∈ blowS S L, Eqv (cs (blowS S L) ot nx') p z := fun z hz => by
      have hpq := old _ _ (W.conn p V.hp q V.hq)
      rcases mem_blowS.mp hz with k | k | k | k | k | k | k
      · exact old _ _ (W.conn p V.hp z k)
      · rw [k]; exact k0.symm
      · rw [k]; exact k0.symm.trans k1
      · rw [k]; exact hpq.trans k2.symm
      · rw [k]; exact hpq.trans (k2.symm.trans k3)
      · rw [k]; exact k0.symm.trans k4.symm
      · rw [k]; exact hpq.trans (k2.symm.trans k5.symm)
    exact fun u hu v hv => (toS u hu).symm.trans (toS v hv)
  · rcases mem_blowS.mp hz with k | k | k | k | k | k | k
    · exact W.pos z k
    all_goals omega
/-! PartP: a parting done by seating: what it makes. Plain Lean. -/
/-! Comb: the web of a comb. Plain Lean. -/
/-! ### a torus of n places -/
structure Tor (n : Int) (lf rt ab bl : Int → Int) : Prop where
  pos : 0 < n
  blf : ∀ k, 0 ≤ k → k < n → 0 ≤ lf k ∧ lf k < n
  brt : ∀ k, 0 ≤ k → k < n → 0 ≤ rt k ∧ rt k < n
  bab : ∀ k, 0 ≤ k → k < n → 0 ≤ ab k ∧ ab k < n
  bbl : ∀ k, 0 ≤ k → k < n → 0 ≤ bl k ∧ bl k < n
  rl : ∀ k, 0 ≤ k → k < n → rt (lf k) = k
  lr : ∀ k, 0 ≤ k → k < n → lf (rt k) = k
  ba : ∀ k, 0 ≤ k → k < n → bl (ab k) = k
  ab' : ∀ k, 0 ≤ k → k < n → ab (bl k) = k
  com : ∀ k, 0 ≤ k → k < n → ab (rt k) = rt (ab k)
  reach : ∀ P : Int → Prop, P 0 → (∀ k, 0 ≤ k → k < n → (P k ↔ P (lf k))) → (∀ k, 0 ≤ k → k < n → (P k ↔ P (ab k))) → ∀ k, 0 ≤ k → k < n → P k
/-- the dict that the comb's corners make, behind m bubbles -/
def combD (lf ab : Int → Int) : Nat → List Int × (Int → Int)
  | 0 => ([], fun _ => 0)
  | m + 1 =>
    let k : Int := m
    let D := combD lf ab m
    (putS3 (putS3 D.1 (6 * k) (6 * k + 2) (6 * k + 4)) (6 * k + 1) (6 * lf k + 3) (6 * ab k + 5),
      seatF (seatF D.2 (6 * k) (6 * k + 2) (6 * k + 4)) (6 * k + 1) (6 * lf k + 3) (6 * ab k + 5))
section
variable {n : Int} {lf rt ab bl : Int → Int}
theorem comb_nd (m : Nat) : (combD lf ab m).1.Nodup := by
  induction m with
  | zero => exact List.Pairwise.nil
  | succ m ih => exact nd_putS3 (nd_putS3 ih)
theorem comb_mem (m : Nat) (x : Int) : x ∈ (combD lf ab m).1 ↔ ∃ k : Int, 0 ≤ k ∧ k < m ∧ (x = 6 * k ∨ x = 6 * k + 2 ∨ x = 6 * k + 4 ∨ x = 6 * k + 1 ∨ x = 6 * lf k + 3 ∨ x = 6 * ab k + 5) := by
  induction m with
  | zero =>
    refine ⟨fun h => absurd h List.not_mem_nil, fun ⟨k, h0, h1, _⟩ => ?_⟩
    omega
  | succ m ih =>
    show x ∈ putS3 (putS3 (combD lf ab m).1 (6 * (m : Int)) (6 * (m : Int) + 2) (6 * (m : Int) + 4)) (6 * (m : Int) + 1) (6 * lf m + 3) (6 * ab m + 5) ↔ _
    rw [mem_putS3, mem_putS3, ih]
    constructor
    · rintro ((⟨k, h0, h1, h⟩ | h | h | h) | h | h | h)
      · exact ⟨k, h0, by omega, h⟩
      · exact ⟨m, by omega, by omega, .inl h⟩
      · exact ⟨m, by omega, by omega, .inr (.inl h)⟩
      · exact ⟨m, by omega, by omega, .inr (.inr (.inl h))⟩
      · exact ⟨m, by omega, by omega, .inr (.inr (.inr (.inl h)))⟩
      · exact ⟨m, by omega, by omega, .inr (.inr (.inr (.inr (.inl h))))⟩
      · exact ⟨m, by omega, by omega, .inr (.inr (.inr (.inr (.inr h))))⟩
    · rintro ⟨k, h0, h1, h⟩
      by_cases e : k = m
      · subst e
        rcases h with h | h | h | h | h | h
        · exact .inl (.inr (.inl h))
        · exact .inl (.inr (.inr (.inl h)))
        · exact .inl (.inr (.inr (.inr h)))
        · exact .inr (.inl h)
        · exact .inr (.inr (.inl h))
        · exact .inr (.inr (.inr h))
      · exact .inl (.inl ⟨k, h0, by omega, h⟩)
theorem comb_vals (T : Tor n lf rt ab bl) (m : Nat) (hm : (m : Int) ≤ n) : ∀ k : Int, 0 ≤ k → k < m →
    (combD lf ab m).2 (6 * k) = 6 * k + 2 ∧ (combD lf ab m).2 (6 * k + 2) = 6 * k + 4 ∧ (combD lf ab m).2 (6 * k + 4) = 6 * k ∧
    (combD lf ab m).2 (6 * k + 1) = 6 * lf k + 3 ∧ (combD lf ab m).2 (6 * lf k + 3) = 6 * ab k + 5 ∧ (combD lf ab m).2 (6 * ab k + 5) = 6 * k + 1 := by
  induction m with
  | zero => intro k h0 h1; omega
  | succ m ih =>
    intro k h0 h1
    have ih := ih (by omega)
    have e : (combD lf ab (m + 1)).2 = seatF (seatF (combD lf ab m).2 (6 * (m : Int)) (6 * (m : Int) + 2) (6 * (m : Int) + 4)) (6 * (m : Int) + 1) (6 * lf m + 3) (6 * ab m + 5) := rfl
    rw [e]
    by_cases hk : k = m
    · subst hk
      refine ⟨?_, ?_, ?_, ?_, ?_, ?_⟩
      · rw [seat_o (by omega) (by omega) (by omega), seat_1 (by omega) (by omega)]
      · rw [seat_o (by omega) (by omega) (by omega), seat_2 (by omega)]
      · rw [seat_o (by omega) (by omega) (by omega), seat_3]
      · rw [seat_1 (by omega) (by omega)]
      · rw [seat_2 (by omega)]
      · rw [seat_3]
    · have hkm : k < m := by omega
      obtain ⟨v1, v2, v3, v4, v5, v6⟩ := ih k h0 hkm
      have nl : lf k ≠ lf m := fun q => hk (by rw [← T.rl k h0 (by omega), q, T.rl m (by omega) (by omega)])
      have na : ab k ≠ ab m := fun q => hk (by rw [← T.ba k h0 (by omega), q, T.ba m (by omega) (by omega)])
      refine ⟨?_, ?_, ?_, ?_, ?_, ?_⟩
      · rw [seat_o (by omega) (by omega) (by omega), seat_o (by omega) (by omega) (by omega)]; exact v1
      · rw [seat_o (by omega) (by omega) (by omega), seat_o (by omega) (by omega) (by omega)]; exact v2
      · rw [seat_o (by omega) (by omega) (by omega), seat_o (by omega) (by omega) (by omega)]; exact v3
      · rw [seat_o (by omega) (by omega) (by omega), seat_o (by omega) (by omega) (by omega)]; exact v4
      · rw [seat_o (by omega) (by omega) (by omega), seat_o (by omega) (by omega) (by omega)]; exact v5
      · rw [seat_o (by omega) (by omega) (by omega), seat_o (by omega) (by omega) (by omega)]; exact v6
/-- by its kind -/
theorem six_way (x : Int) (h0 : 0 ≤ x) (h1 : x < 6 * n) : ∃ k, 0 ≤ k ∧ k < n ∧ (x = 6 * k ∨ x = 6 * k + 1 ∨ x = 6 * k + 2 ∨ x = 6 * k + 3 ∨ x = 6 * k + 4 ∨ x = 6 * k + 5) :=
  ⟨x / 6, by omega, by omega, by omega⟩
structure CombV (n : Int) (lf rt ab bl : Int → Int) (S : List Int) (nx : Int → Int) : Prop where
  T : Tor n lf rt ab bl
  nd : S.Nodup
  mem : ∀ x, x ∈ S ↔ 0 ≤ x ∧ x < 6 * n
  v0 : ∀ k, 0 ≤ k → k < n → nx (6 * k) = 6 * k + 2
  v2 : ∀ k, 0 ≤ k → k < n → nx (6 * k + 2) = 6 * k + 4
  v4 : ∀ k, 0 ≤ k → k < n → nx (6 * k + 4) = 6 * k
  v1 : ∀ k, 0 ≤ k → k < n → nx (6 * k + 1) = 6 * lf k + 3
  v3 : ∀ k, 0 ≤ k → k < n → nx (6 * k + 3) = 6 * ab (rt k) + 5
  v5 : ∀ k, 0 ≤ k → k < n → nx (6 * k + 5) = 6 * bl k + 1
theorem comb_v (T : Tor n lf rt ab bl) : CombV n lf rt ab bl (combD lf ab n.toNat).1 (combD lf ab n.toNat).2 := by
  have en : ((n.toNat : Nat) : Int) = n := Int.toNat_of_nonneg (by have := T.pos; omega)
  have V := comb_vals T n.toNat (by omega)
  refine ⟨T, comb_nd _, fun x => ?_, fun k h0 h1 => (V k h0 (by omega)).1, fun k h0 h1 => (V k h0 (by omega)).2.1, fun k h0 h1 => (V k h0 (by omega)).2.2.1, fun k h0 h1 => (V k h0 (by omega)).2.2.2.1, fun k h0 h1 => ?_, fun k h0 h1 => ?_⟩
  · rw [comb_mem, en]
    constructor
    · rintro ⟨k, h0, h1, h⟩
      have a := T.blf k h0 h1
      have b := T.bab k h0 h1
      omega
    · rintro ⟨h0, h1⟩
      obtain ⟨k, k0, k1, h⟩ := six_way x h0 h1
      rcases h with h | h | h | h | h | h
      · exact ⟨k, k0, k1, .inl h⟩
      · exact ⟨k, k0, k1, .inr (.inr (.inr (.inl h)))⟩
      · exact ⟨k, k0, k1, .inr (.inl h)⟩
      · exact ⟨rt k, (T.brt k k0 k1).1, (T.brt k k0 k1).2, .inr (.inr (.inr (.inr (.inl (by rw [T.lr k k0 k1]; exact h)))))⟩
      · exact ⟨k, k0, k1, .inr (.inr (.inl h))⟩
      · exact ⟨bl k, (T.bbl k k0 k1).1, (T.bbl k k0 k1).2, .inr (.inr (.inr (.inr (.inr (by rw [T.ab' k k0 k1]; exact h)))))⟩
  · have q := (V (rt k) (T.brt k h0 h1).1 (by have := (T.brt k h0 h1).2; omega)).2.2.2.2.1
    rw [T.lr k h0 h1] at q
    exact q
  · have q := (V (bl k) (T.bbl k h0 h1).1 (by have := (T.bbl k h0 h1).2; omega)).2.2.2.2.2
    rw [T.ab' k h0 h1] at q
    exact q
variable {S : List Int} {nx : Int → Int}
theorem CombV.map (C : CombV n lf rt ab bl S nx) : Map S ot nx := by
  have T := C.T
  refine ⟨C.nd, fun x hx => ?_, fun x hx => ?_, fun x _ => ot_ot x, fun x hx => ?_, fun x hx => ?_⟩
  · rw [C.mem] at hx ⊢
    unfold ot
    split <;> omega
  all_goals
    obtain ⟨h0, h1⟩ := (C.mem x).mp hx
    obtain ⟨k, k0, k1, h⟩ := six_way x h0 h1
    have a := T.blf k k0 k1
    have b := T.bbl k k0 k1
    have r := T.brt k k0 k1
    have ar := T.bab _ r.1 r.2
    have av := T.bab k k0 k1
    try rw [C.mem]
    rcases h with rfl | rfl | rfl | rfl | rfl | rfl
  · rw [C.v0 k k0 k1]; omega
  · rw [C.v1 k k0 k1]; omega
  · rw [C.v2 k k0 k1]; omega
  · rw [C.v3 k k0 k1]; omega
  · rw [C.v4 k k0 k1]; omega
  · rw [C.v5 k k0 k1]; omega
  · rw [C.v0 k k0 k1, C.v2 k k0 k1, C.v4 k k0 k1]
  · rw [C.v1 k k0 k1, C.v3 _ a.1 a.2, T.rl k k0 k1, C.v5 _ av.1 av.2, T.ba k k0 k1]
  · rw [C.v2 k k0 k1, C.v4 k k0 k1, C.v0 k k0 k1]
  · rw [C.v3 k k0 k1, C.v5 _ ar.1 ar.2, T.ba _ r.1 r.2, C.v1 _ r.1 r.2, T.lr k k0 k1]
  · rw [C.v4 k k0 k1, C.v0 k k0 k1, C.v2 k k0 k1]
  · have l := T.blf _ b.1 b.2
    rw [C.v5 k k0 k1, C.v1 _ b.1 b.2, C.v3 _ l.1 l.2, T.rl _ b.1 b.2, T.ab' k k0 k1]
  · rw [C.v0 k k0 k1]; omega
  · rw [C.v1 k k0 k1]; omega
  · rw [C.v2 k k0 k1]; omega
  · rw [C.v3 k k0 k1]; omega
  · rw [C.v4 k k0 k1]; omega
  · rw [C.v5 k k0 k1]; omega
theorem CombV.conn (C : CombV n lf rt ab bl S nx) : ∀ x ∈ S, ∀ y ∈ S, Eqv (cs S ot nx) x y := by
  have T := C.T
  have m : ∀ k, 0 ≤ k → k < n → ∀ i, 0 ≤ i → i < 6 → 6 * k + i ∈ S := fun k k0 k1 i i0 i1 => (C.mem _).mpr ⟨by omega, by omega⟩
  have st : ∀ x ∈ S, Eqv (cs S ot nx) x (nx x) := fun x hx => .step ⟨hx, .inr rfl⟩
  have so : ∀ x ∈ S, Eqv (cs S ot nx) x (ot x) := fun x hx => .step ⟨hx, .inl rfl⟩
  have o0 : ∀ k : Int, ot (6 * k) = 6 * k + 1 := fun k => by unfold ot; rw [if_pos (by omega)]
  have o2 : ∀ k : Int, ot (6 * k + 2) = 6 * k + 3 := fun k => by unfold ot; rw [if_pos (by omega)]; omega
  have o4 : ∀ k : Int, ot (6 * k + 4) = 6 * k + 5 := fun k => by unfold ot; rw [if_pos (by omega)]; omega
  have i0 : ∀ k, 0 ≤ k → k < n → 6 * k ∈ S := fun k k0 k1 => by have := m k k0 k1 0 (by decide) (by decide); rwa [Int.add_zero] at this
  have e2 : ∀ k, 0 ≤ k → k < n → Eqv (cs S ot nx) (6 * k) (6 * k + 2) := fun k k0 k1 => by have := st _ (i0 k k0 k1); rwa [C.v0 k k0 k1] at this
  have e4 : ∀ k, 0 ≤ k → k < n → Eqv (cs S ot nx) (6 * k) (6 * k + 4) := fun k k0 k1 => by have := st _ (m k k0 k1 4 (by decide) (by decide)); rw [C.v4 k k0 k1] at this; exact this.symm
  have e1 : ∀ k, 0 ≤ k → k < n → Eqv (cs S ot nx) (6 * k) (6 * k + 1) := fun k k0 k1 => by have := so _ (i0 k k0 k1); rwa [o0] at this
  have e3 : ∀ k, 0 ≤ k → k < n → Eqv (cs S ot nx) (6 * k) (6 * k + 3) := fun k k0 k1 => by have := so _ (m k k0 k1 2 (by decide) (by decide)); rw [o2] at this; exact (e2 k k0 k1).trans this
  have e5 : ∀ k, 0 ≤ k → k < n → Eqv (cs S ot nx) (6 * k) (6 * k + 5) := fun k k0 k1 => by have := so _ (m k k0 k1 4 (by decide) (by decide)); rw [o4] at this; exact (e4 k k0 k1).trans this
  have z : ∀ k, 0 ≤ k → k < n → Eqv (cs S ot nx) 0 (6 * k) := by
    refine T.reach _ (.refl _) (fun k k0 k1 => ?_) (fun k k0 k1 => ?_)
    · have a := T.blf k k0 k1
      have q : Eqv (cs S ot nx) (6 * k) (6 * lf k) := by
        have := st _ (m k k0 k1 1 (by decide) (by decide))
        rw [C.v1 k k0 k1] at this
        exact ((e1 k k0 k1).trans this).trans (e3 _ a.1 a.2).symm
      exact ⟨fun h => h.trans q, fun h => h.trans q.symm⟩
    · have a := T.bab k k0 k1
      have q : Eqv (cs S ot nx) (6 * ab k) (6 * k) := by
        have := st _ (m _ a.1 a.2 5 (by decide) (by decide))
        rw [C.v5 _ a.1 a.2, T.ba k k0 k1] at this
        exact ((e5 _ a.1 a.2).trans this).trans (e1 k k0 k1).symm
      exact ⟨fun h => h.trans q.symm, fun h => h.trans q⟩
  have all : ∀ x ∈ S, Eqv (cs S ot nx) 0 x := fun x hx => by
    obtain ⟨h0, h1⟩ := (C.mem x).mp hx
    obtain ⟨k, k0, k1, h⟩ := six_way x h0 h1
    rcases h with rfl | rfl | rfl | rfl | rfl | rfl
    · exact z k k0 k1
    · exact (z k k0 k1).trans (e1 k k0 k1)
    · exact (z k k0 k1).trans (e2 k k0 k1)
    · exact (z k k0 k1).trans (e3 k k0 k1)
    · exact (z k k0 k1).trans (e4 k k0 k1)
    · exact (z k k0 k1).trans (e5 k k0 k1)
  exact fun x hx y hy => (all x hx).symm.trans (all y hy)
/-- the six ends round bubble k -/
theorem CombV.face (C : CombV n lf rt ab bl S nx) : ∀ k, 0 ≤ k → k < n →
    face ot nx (6 * k) = 6 * lf k + 3 ∧ face ot nx (6 * lf k + 3) = 6 * lf k + 4 ∧ face ot nx (6 * lf k + 4) = 6 * bl (lf k) + 1 ∧ face ot nx (6 * bl (lf k) + 1) = 6 * bl (lf k) + 2 ∧
    face ot nx (6 * bl (lf k) + 2) = 6 * k + 5 ∧ face ot nx (6 * k + 5) = 6 * k := by
  intro k k0 k1
  have T := C.T
  have a := T.blf k k0 k1
  have b := T.bbl _ a.1 a.2
  have o0 : ∀ k : Int, ot (6 * k) = 6 * k + 1 := fun k => by unfold ot; rw [if_pos (by omega)]
  have o1 : ∀ k : Int, ot (6 * k + 1) = 6 * k := fun k => by unfold ot; rw [if_neg (by omega)]; omega
  have o2 : ∀ k : Int, ot (6 * k + 2) = 6 * k + 3 := fun k => by unfold ot; rw [if_pos (by omega)]; omega
  have o3 : ∀ k : Int, ot (6 * k + 3) = 6 * k + 2 := fun k => by unfold ot; rw [if_neg (by omega)]; omega
  have o4 : ∀ k : Int, ot (6 * k + 4) = 6 * k + 5 := fun k => by unfold ot; rw [if_pos (by omega)]; omega
  have o5 : ∀ k : Int, ot (6 * k + 5) = 6 * k + 4 := fun k => by unfold ot; rw [if_neg (by omega)]; omega
  refine ⟨?_, ?_, ?_, ?_, ?_, ?_⟩
  · show nx (ot _) = _
    rw [o0, C.v1 k k0 k1]
  · show nx (ot _) = _
    rw [o3, C.v2 _ a.1 a.2]
  · show nx (ot _) = _
    rw [o4, C.v5 _ a.1 a.2]
  · show nx (ot _) = _
    rw [o1, C.v0 _ b.1 b.2]
  · show nx (ot _) = _
    rw [o2, C.v3 _ b.1 b.2, T.com _ b.1 b.2, T.ab' _ a.1 a.2, T.rl k k0 k1]
  · show nx (ot _) = _
    rw [o5, C.v4 k k0 k1]
/-- the bubble on whose rim an end lies -/
def bubO (rt ab : Int → Int) (x : Int) : Int := if x % 6 = 0 ∨ x % 6 = 5 then x / 6 else if x % 6 = 3 ∨ x % 6 = 4 then rt (x / 6) else rt (ab (x / 6))
theorem CombV.bub (C : CombV n lf rt ab bl S nx) : ∀ x ∈ S, ∃ k, 0 ≤ k ∧ k < n ∧ bubO rt ab x = k ∧ (x = 6 * k ∨ x = 6 * lf k + 3 ∨ x = 6 * lf k + 4 ∨ x = 6 * bl (lf k) + 1 ∨ x = 6 * bl (lf k) + 2 ∨ x = 6 * k + 5) := by
  intro x hx
  have T := C.T
  obtain ⟨h0, h1⟩ := (C.mem x).mp hx
  obtain ⟨k, k0, k1, h⟩ := six_way x h0 h1
  have r := T.brt k k0 k1
  have a := T.bab k k0 k1
  have ra := T.brt _ a.1 a.2
  unfold bubO
  rcases h with rfl | rfl | rfl | rfl | rfl | rfl
  · exact ⟨k, k0, k1, by rw [if_pos (by omega)]; omega, .inl rfl⟩
  · refine ⟨rt (ab k), ra.1, ra.2, ?_, .inr (.inr (.inr (.inl (by rw [T.lr _ a.1 a.2, T.ba k k0 k1]))))⟩
    rw [if_neg (by omega), if_neg (by omega), show (6 * k + 1) / 6 = k by omega]
  · refine ⟨rt (ab k), ra.1, ra.2, ?_, .inr (.inr (.inr (.inr (.inl (by rw [T.lr _ a.1 a.2, T.ba k k0 k1])))))⟩
    rw [if_neg (by omega), if_neg (by omega), show (6 * k + 2) / 6 = k by omega]
  · refine ⟨rt k, r.1, r.2, ?_, .inr (.inl (by rw [T.lr k k0 k1]))⟩
    rw [if_neg (by omega), if_pos (by omega), show (6 * k + 3) / 6 = k by omega]
  · refine ⟨rt k, r.1, r.2, ?_, .inr (.inr (.inl (by rw [T.lr k k0 k1])))⟩
    rw [if_neg (by omega), if_pos (by omega), show (6 * k + 4) / 6 = k by omega]
  · exact ⟨k, k0, k1, by rw [if_pos (by omega)]; omega, .inr (.inr (.inr (.inr (.inr rfl))))⟩
theorem CombV.bub6 (C : CombV n lf rt ab bl S nx) : ∀ k, 0 ≤ k → k < n → bubO rt ab (6 * k) = k ∧ bubO rt ab (6 * lf k + 3) = k ∧ bubO rt ab (6 * lf k + 4) = k ∧ bubO rt ab (6 * bl (lf k) + 1) = k ∧ bubO rt ab (6 * bl (lf k) + 2) = k ∧ bubO rt ab (6 * k + 5) = k := by
  intro k k0 k1
  have T := C.T
  have a := T.blf k k0 k1
  have b := T.bbl _ a.1 a.2
  unfold bubO
  refine ⟨?_, ?_, ?_, ?_, ?_, ?_⟩
  · rw [if_pos (by omega)]; omega
  · rw [if_neg (by omega), if_pos (by omega), show (6 * lf k + 3) / 6 = lf k by omega, T.rl k k0 k1]
  · rw [if_neg (by omega), if_pos (by omega), show (6 * lf k + 4) / 6 = lf k by omega, T.rl k k0 k1]
  · rw [if_neg (by omega), if_neg (by omega), show (6 * bl (lf k) + 1) / 6 = bl (lf k) by omega, T.ab' _ a.1 a.2, T.rl k k0 k1]
  · rw [if_neg (by omega), if_neg (by omega), show (6 * bl (lf k) + 2) / 6 = bl (lf k) by omega, T.ab' _ a.1 a.2, T.rl k k0 k1]
  · rw [if_pos (by omega)]; omega
theorem CombV.inv (C : CombV n lf rt ab bl S nx) {x : Int} (hx : x ∈ S) : bubO rt ab (Fw.face ot nx x) = bubO rt ab x := by
  obtain ⟨k, k0, k1, e, h⟩ := C.bub x hx
  obtain ⟨f0, f1, f2, f3, f4, f5⟩ := C.face k k0 k1
  obtain ⟨g0, g1, g2, g3, g4, g5⟩ := C.bub6 k k0 k1
  rw [e]
  rcases h with rfl | rfl | rfl | rfl | rfl | rfl
  · rw [f0, g1]
  · rw [f1, g2]
  · rw [f2, g3]
  · rw [f3, g4]
  · rw [f4, g5]
  · rw [f5, g0]
theorem CombV.to0 (C : CombV n lf rt ab bl S nx) {x : Int} (hx : x ∈ S) : Eqv (fstep S (Fw.face ot nx)) x (6 * bubO rt ab x) := by
  obtain ⟨k, k0, k1, e, h⟩ := C.bub x hx
  obtain ⟨f0, f1, f2, f3, f4, f5⟩ := C.face k k0 k1
  have T := C.T
  have a := T.blf k k0 k1
  have b := T.bbl _ a.1 a.2
  rw [e]
  have s : ∀ {x y : Int}, 0 ≤ x → x < 6 * n → Fw.face ot nx x = y → Eqv (fstep S (Fw.face ot nx)) x y := fun h0 h1 e => .step ⟨(C.mem _).mpr ⟨h0, h1⟩, e.symm⟩
  have e5 := s (by omega) (by omega) f5
  have e4 := (s (by omega) (by omega) f4).trans e5
  have e3 := (s (by omega) (by omega) f3).trans e4
  have e2 := (s (by omega) (by omega) f2).trans e3
  have e1 := (s (by omega) (by omega) f1).trans e2
  rcases h with rfl | rfl | rfl | rfl | rfl | rfl
  · exact .refl _
  · exact e1
  · exact e2
  · exact e3
  · exact e4
  · exact e5
theorem CombV.len (C : CombV n lf rt ab bl S nx) : (S.length : Int) = 6 * n := by
  have hn := C.T.pos
  have p : S.Perm ((List.range (6 * n).toNat).map fun i : Nat => (i : Int)) := by
    refine (List.perm_ext_iff_of_nodup C.nd ?_).mpr fun x => ?_
    · exact List.Pairwise.map _ (fun a b h e => h (Int.ofNat.inj e)) List.nodup_range
    · rw [C.mem, List.mem_map]
      constructor
      · rintro ⟨h0, h1⟩
        exact ⟨x.toNat, List.mem_range.mpr (by omega), by omega⟩
      · rintro ⟨i, hi, rfl⟩
        have := List.mem_range.mp hi
        omega
  have e := p.length_eq
  rw [List.length_map, List.length_range] at e
  omega
theorem CombV.cls (C : CombV n lf rt ab bl S nx) : Cls S (fstep S (Fw.face ot nx)) n.toNat := by
  have T := C.T
  have hn := T.pos
  refine ⟨(List.range n.toNat).map fun i : Nat => 6 * (i : Int), by rw [List.length_map, List.length_range], fun x hx => ?_, fun x hx => ?_, ?_⟩
  · obtain ⟨i, hi, rfl⟩ := List.mem_map.mp hx
    have := List.mem_range.mp hi
    exact (C.mem _).mpr ⟨by omega, by omega⟩
  · obtain ⟨k, k0, k1, e, _⟩ := C.bub x hx
    refine ⟨6 * k, List.mem_map.mpr ⟨k.toNat, List.mem_range.mpr (by omega), by rw [Int.toNat_of_nonneg k0]⟩, ?_⟩
    have := C.to0 hx
    rwa [e] at this
  · refine List.Pairwise.map (R := fun a b : Nat => a < n.toNat ∧ b < n.toNat ∧ a ≠ b) _ (fun a b ⟨ha, hb, h⟩ e => h ?_) ?_
    · have key : ∀ x y, Eqv (fstep S (Fw.face ot nx)) x y → bubO rt ab x = bubO rt ab y := fun x y q => by
        induction q with
        | refl => rfl
        | step s => obtain ⟨hx, rfl⟩ := s; exact (C.inv hx).symm
        | symm _ ih => exact ih.symm
        | trans _ _ i1 i2 => exact i1.trans i2
      have q := key _ _ e
      rw [(C.bub6 a (by omega) (by omega)).1, (C.bub6 b (by omega) (by omega)).1] at q
      omega
    · refine List.Pairwise.imp_of_mem (R := fun a b => a ≠ b) (fun {a b} ha hb h => ⟨List.mem_range.mp ha, List.mem_range.mp hb, h⟩) List.nodup_range
theorem CombV.web (C : CombV n lf rt ab bl S nx) : Web S nx := by
  have hn := C.T.pos
  have hl := C.len
  refine ⟨C.map, fun e => ?_, C.conn, ⟨n.toNat, C.cls, by omega⟩, fun x hx => ((C.mem x).mp hx).1⟩
  rw [e] at hl
  simp at hl
  omega
end
/-! ### rows and columns -/
def prd (c b : Int) : Int := if b = 0 then c - 1 else b - 1
def scc (c b : Int) : Int := if b = c - 1 then 0 else b + 1
def lfO (c k : Int) : Int := k / c * c + prd c (k % c)
def rtO (c k : Int) : Int := k / c * c + scc c (k % c)
def abO (r c k : Int) : Int := prd r (k / c) * c + k % c
def blO (r c k : Int) : Int := scc r (k / c) * c + k % c
theorem dm {a b c : Int} (h0 : 0 ≤ b) (h1 : b < c) : (a * c + b) / c = a ∧ (a * c + b) % c = b := by
  have hc : c ≠ 0 := by omega
  refine ⟨?_, ?_⟩
  · rw [Int.add_comm, Int.add_mul_ediv_right _ _ hc, Int.ediv_eq_zero_of_lt h0 h1]; omega
  · rw [Int.add_comm, Int.add_mul_emod_self_right, Int.emod_eq_of_lt h0 h1]
theorem inb {r c a b : Int} (a0 : 0 ≤ a) (a1 : a < r) (b0 : 0 ≤ b) (b1 : b < c) : 0 ≤ a * c + b ∧ a * c + b < r * c := by
  have hc : 0 ≤ c := by omega
  have h1 : 0 ≤ a * c := Int.mul_nonneg a0 hc
  have h2 : (a + 1) * c ≤ r * c := Int.mul_le_mul_of_nonneg_right (by omega) hc
  rw [Int.add_mul] at h2
  omega
theorem rc {r c k : Int} (hc : 0 < c) (h0 : 0 ≤ k) (h1 : k < r * c) : (0 ≤ k / c ∧ k / c < r) ∧ (0 ≤ k % c ∧ k % c < c) ∧ k / c * c + k % c = k :=
  ⟨⟨Int.ediv_nonneg h0 (by omega), Int.ediv_lt_of_lt_mul hc h1⟩, ⟨Int.emod_nonneg _ (by omega), Int.emod_lt_of_pos _ hc⟩, by rw [Int.mul_comm]; exact Int.mul_ediv_add_emod k c⟩
theorem prd_b {c b : Int} (h0 : 0 ≤ b) (h1 : b < c) : 0 ≤ prd c b ∧ prd c b < c := by unfold prd; split <;> omega
theorem scc_b {c b : Int} (h0 : 0 ≤ b) (h1 : b < c) : 0 ≤ scc c b ∧ scc c b < c := by unfold scc; split <;> omega
theorem scc_prd {c b : Int} (h0 : 0 ≤ b) (h1 : b < c) : scc c (prd c b) = b := by unfold scc prd; split <;> split <;> omega
theorem prd_scc {c b : Int} (h0 : 0 ≤ b) (h1 : b < c) : prd c (scc c b) = b := by unfold scc prd; split <;> split <;> omega
theorem tor_rc {r c : Int} (hr : 0 < r) (hc : 0 < c) : Tor (r * c) (lfO c) (rtO c) (abO r c) (blO r c) := by
  have key : ∀ {P : Int → Prop}, (∀ a b, 0 ≤ a → a < r → 0 ≤ b → b < c → P (a * c + b)) → ∀ k, 0 ≤ k → k < r * c → P k := fun h k k0 k1 => by
    obtain ⟨⟨a0, a1⟩, ⟨b0, b1⟩, e⟩ := rc hc k0 k1
    rw [← e]
    exact h _ _ a0 a1 b0 b1
  have vl : ∀ a b, 0 ≤ b → b < c → lfO c (a * c + b) = a * c + prd c b := fun a b b0 b1 => by unfold lfO; rw [(dm b0 b1).1, (dm b0 b1).2]
  have vr : ∀ a b, 0 ≤ b → b < c → rtO c (a * c + b) = a * c + scc c b := fun a b b0 b1 => by unfold rtO; rw [(dm b0 b1).1, (dm b0 b1).2]
  have va : ∀ a b, 0 ≤ b → b < c → abO r c (a * c + b) = prd r a * c + b := fun a b b0 b1 => by unfold abO; rw [(dm b0 b1).1, (dm b0 b1).2]
  have vb : ∀ a b, 0 ≤ b → b < c → blO r c (a * c + b) = scc r a * c + b := fun a b b0 b1 => by unfold blO; rw [(dm b0 b1).1, (dm b0 b1).2]
  refine ⟨Int.mul_pos hr hc, key fun a b a0 a1 b0 b1 => ?_, key fun a b a0 a1 b0 b1 => ?_, key fun a b a0 a1 b0 b1 => ?_, key fun a b a0 a1 b0 b1 => ?_, key fun a b a0 a1 b0 b1 => ?_, key fun a b a0 a1 b0 b1 => ?_, key fun a b a0 a1 b0 b1 => ?_, key fun a b a0 a1 b0 b1 => ?_, key fun a b a0 a1 b0 b1 => ?_, fun P p0 hl ha => ?_⟩
  · rw [vl a b b0 b1]; exact inb a0 a1 (prd_b b0 b1).1 (prd_b b0 b1).2
  · rw [vr a b b0 b1]; exact inb a0 a1 (scc_b b0 b1).1 (scc_b b0 b1).2
  · rw [va a b b0 b1]; exact inb (prd_b a0 a1).1 (prd_b a0 a1).2 b0 b1
  · rw [vb a b b0 b1]; exact inb (scc_b a0 a1).1 (scc_b a0 a1).2 b0 b1
  · rw [vl a b b0 b1, vr _ _ (prd_b b0 b1).1 (prd_b b0 b1).2, scc_prd b0 b1]
  · rw [vr a b b0 b1, vl _ _ (scc_b b0 b1).1 (scc_b b0 b1).2, prd_scc b0 b1]
  · rw [va a b b0 b1, vb _ _ b0 b1, scc_prd a0 a1]
  · rw [vb a b b0 b1, va _ _ b0 b1, prd_scc a0 a1]
  · rw [vr a b b0 b1, va _ _ (scc_b b0 b1).1 (scc_b b0 b1).2, va a b b0 b1, vr _ _ b0 b1]
  · have col : ∀ j : Nat, (j : Int) < c → P (0 * c + j) := fun j => by
      induction j with
      | zero => intro _; rw [Int.zero_mul]; exact p0
      | succ j ih =>
        intro h
        have q := (hl (0 * c + (j + 1 : Nat)) (by rw [Int.zero_mul]; omega) (by
          have := (inb (r := r) (Int.le_refl 0) hr (b := ((j + 1 : Nat) : Int)) (by omega) h).2
          exact this)).mpr
        rw [vl _ _ (by omega) h] at q
        have e : prd c ((j + 1 : Nat) : Int) = j := by unfold prd; rw [if_neg (by omega)]; omega
        rw [e] at q
        exact q (ih (by omega))
    have row : ∀ (i : Nat) (b : Int), (i : Int) < r → 0 ≤ b → b < c → P (i * c + b) := fun i => by
      induction i with
      | zero =>
        intro b _ b0 b1
        have := col b.toNat (by omega)
        rw [Int.toNat_of_nonneg b0] at this
        exact this
      | succ i ih =>
        intro b h b0 b1
        have w := inb (r := r) (a := ((i + 1 : Nat) : Int)) (by omega) h b0 b1
        have q := (ha _ w.1 w.2).mpr
        rw [va _ _ b0 b1] at q
        have e : prd r ((i + 1 : Nat) : Int) = i := by unfold prd; rw [if_neg (by omega)]; omega
        rw [e] at q
        exact q (ih b (by omega) b0 b1)
    exact key fun a b a0 a1 b0 b1 => by
      have := row a.toNat b (by omega) b0 b1
      rw [Int.toNat_of_nonneg a0] at this
      exact this
/-- the comb's web -/
def cS (r c : Int) : List Int := (combD (lfO c) (abO r c) (r * c).toNat).1
def cN (r c : Int) : Int → Int := (combD (lfO c) (abO r c) (r * c).toNat).2
theorem comb_rc {r c : Int} (hr : 0 < r) (hc : 0 < c) : CombV (r * c) (lfO c) (rtO c) (abO r c) (blO r c) (cS r c) (cN r c) := comb_v (tor_rc hr hc)
/-! Rim: the rim from an end on; flooding; counting rims. Plain Lean. -/
structure Per (f : Int → Int) (x : Int) (n : Nat) : Prop where
  pos : 0 < n
  ret : iter f n x = x
  first : ∀ i, 0 < i → i < n → iter f i x ≠ x
def rimO (f : Int → Int) (x : Int) (n : Nat) : List Int := (List.range n).map fun i => iter f i x
section
variable {S : List Int} {f : Int → Int} {x y : Int} {n m : Nat}
theorem per_ex (P : Perm1 S f) (hx : x ∈ S) : ∃ n, n ≤ S.length ∧ Per f x n := by
  obtain ⟨n, h1, h2, h3⟩ := iter_first P hx
  refine ⟨n + 1, h1, Nat.succ_pos _, h2, fun i h0 hi => ?_⟩
  have := h3 (i - 1) (by omega)
  rwa [show i - 1 + 1 = i by omega] at this
theorem per_unique (h : Per f x n) (g : Per f x m) : n = m := by
  rcases Nat.lt_trichotomy n m with q | q | q
  · exact absurd h.ret (g.first n h.pos q)
  · exact q
  · exact absurd g.ret (h.first m g.pos q)
theorem rim_nd (P : Perm1 S f) (hx : x ∈ S) (h : Per f x n) : (rimO f x n).Nodup := by
  unfold rimO
  rw [List.nodup_iff_pairwise_ne, List.pairwise_map]
  refine List.Pairwise.imp_of_mem (fun {i j} hi hj hlt e => ?_) (List.pairwise_lt_range (n := n))
  have hj' := List.mem_range.mp hj
  obtain ⟨k, hk⟩ : ∃ k, j = (k + 1) + i := ⟨j - i - 1, by omega⟩
  rw [hk, Nat.add_comm (k + 1) i, iter_add] at e
  exact h.first (k + 1) (by omega) (by omega) (iter_inj P i hx (iter_mem P hx (k + 1)) e).symm
theorem per_mod (h : Per f x n) (i : Nat) : ∃ j, j < n ∧ iter f i x = iter f j x := by
  induction i with
  | zero => exact ⟨0, h.pos, rfl⟩
  | succ i ih =>
    obtain ⟨j, hj, e⟩ := ih
    by_cases c : j + 1 = n
    · refine ⟨0, h.pos, ?_⟩
      show f (iter f i x) = x
      rw [e]
      have := h.ret
      rw [← c] at this
      exact this
    · exact ⟨j + 1, by omega, by show f _ = f _; rw [e]⟩
theorem rim_mem (P : Perm1 S f) (hx : x ∈ S) (h : Per f x n) : y ∈ rimO f x n ↔ Eqv (fstep S f) x y := by
  unfold rimO
  rw [List.mem_map]
  constructor
  · rintro ⟨i, _, rfl⟩
    exact fstep_iter P hx i
  · intro e
    obtain ⟨i, _, q⟩ := eqv_iter P hx e
    obtain ⟨j, hj, q2⟩ := per_mod h i
    exact ⟨j, List.mem_range.mpr hj, by rw [← q2, q]⟩
theorem rim_sub (P : Perm1 S f) (hx : x ∈ S) (hy : y ∈ rimO f x n) : y ∈ S := by
  obtain ⟨i, _, rfl⟩ := List.mem_map.mp hy
  exact iter_mem P hx i
end
/-! ### flooding -/
/-! ### counting classes as they are met -/
/-- behind some ends: the ends passed, how many rims -/
structure Cnt (S : List Int) (f : Int → Int) (P : List Int) (n : Nat) : Prop where
  sub : ∀ x ∈ P, x ∈ S
  cl : ∀ x ∈ P, f x ∈ P
  reps : ∃ R : List Int, R.length = n ∧ (∀ x ∈ R, x ∈ S) ∧ (∀ x ∈ P, ∃ y ∈ R, Eqv (fstep S f) x y) ∧ (∀ x ∈ R, x ∈ P) ∧ R.Pairwise fun x y => ¬ Eqv (fstep S f) x y
section
variable {S : List Int} {f : Int → Int} {P : List Int} {n : Nat}
theorem Cnt.all (C : Cnt S f P n) (h : ∀ x ∈ S, x ∈ P) : Cls S (fstep S f) n := by
  obtain ⟨R, h1, h2, h3, h4, h5⟩ := C.reps
  exact ⟨R, h1, h2, fun x hx => h3 x (h x hx), h5⟩
theorem Cnt.closed (C : Cnt S f P n) (Pm : Perm1 S f) {x y : Int} (hx : x ∈ P) (e : Eqv (fstep S f) x y) : y ∈ P := by
  obtain ⟨i, hi, rfl⟩ := eqv_iter Pm (C.sub x hx) e
  clear e hi
  induction i with
  | zero => exact hx
  | succ i ih => exact C.cl _ ih
/-- one rim more -/
theorem Cnt.more (C : Cnt S f P n) (Pm : Perm1 S f) {P' : List Int} {e : Int} (he : e ∈ S) (hn : e ∉ P) (hs : ∀ x ∈ P, x ∈ P') (hc : ∀ x ∈ P', f x ∈ P') (he' : e ∈ P') (hx : ∀ x ∈ P', x ∈ P ∨ Eqv (fstep S f) e x) : Cnt S f P' (n + 1) := by
  obtain ⟨R, h1, h2, h3, h4, h5⟩ := C.reps
  refine ⟨fun x h => ?_, hc, e :: R, by rw [List.length_cons, h1], fun x h => ?_, fun x h => ?_, fun x h => ?_, List.Pairwise.cons (fun y hy q => ?_) h5⟩
  · rcases hx x h with q | q
    · exact C.sub x q
    · obtain ⟨i, _, rfl⟩ := eqv_iter Pm he q
      exact iter_mem Pm he i
  · rcases List.mem_cons.mp h with rfl | h
    · exact he
    · exact h2 x h
  · rcases hx x h with q | q
    · obtain ⟨y, hy, r⟩ := h3 x q
      exact ⟨y, List.mem_cons_of_mem _ hy, r⟩
    · exact ⟨e, List.mem_cons_self, q.symm⟩
  · rcases List.mem_cons.mp h with rfl | h
    · exact he'
    · exact hs x (h4 x h)
  · exact hn (C.closed Pm (h4 y hy) q.symm)
end
/-! Fd: dicts by whole numbers: their keys in order and what stands at each. -/
def kvI (S : List Int) (f : Int → V) : List (Key × V) := S.map fun x => (Sum.inl x, f x)
def dI (S : List Int) (f : Int → V) : HO := .dK (kvI S f)
abbrev dW (S : List Int) (nx : Int → Int) : HO := dI S fun x => .int (nx x)
section
variable {S : List Int} {f g : Int → V} {k : Int} {v : V} {H H1 H' : Hp} {a : Addr}
theorem kvI_len : (kvI S f).length = S.length := by unfold kvI; rw [List.length_map]
theorem valV_in (h : k ∈ S) : valV (kvI S f) (Sum.inl k) = some (f k) := by
  unfold kvI
  induction S with
  | nil => exact absurd h List.not_mem_nil
  | cons x r ih =>
    by_cases e : x = k
    · subst e; exact valV_pos rfl
    · rw [List.map_cons, valV_neg (fun z => e (Sum.inl.inj z))]
      exact ih ((List.mem_cons.mp h).resolve_left fun z => e z.symm)
theorem valV_out (h : k ∉ S) : valV (kvI S f) (Sum.inl k) = none := by
  unfold kvI
  induction S with
  | nil => rfl
  | cons x r ih =>
    rw [List.map_cons, valV_neg (fun z => h (by rw [← (Sum.inl.inj z : x = k)]; exact List.mem_cons_self))]
    exact ih fun z => h (List.mem_cons_of_mem _ z)
theorem valV_some : (valV (kvI S f) (Sum.inl k)).isSome = decide (k ∈ S) := by
  by_cases h : k ∈ S
  · rw [valV_in h, decide_eq_true h]; rfl
  · rw [valV_out h, decide_eq_false h]; rfl
theorem putK_I : putK (kvI S f) (Sum.inl k) v = kvI (putS S k) fun x => if x = k then v else f x := by
  unfold putK putS
  rw [valV_any, valV_some]
  by_cases h : k ∈ S
  · rw [if_pos (decide_eq_true h), if_pos h]
    unfold kvI
    rw [List.map_map]
    refine List.map_congr_left fun x _ => ?_
    show (if (Sum.inl x : Key) = Sum.inl k then ((Sum.inl x : Key), v) else (Sum.inl x, f x)) = _
    by_cases e : x = k
    · rw [if_pos (by rw [e])]
      show _ = ((Sum.inl x : Key), if x = k then v else f x)
      rw [if_pos e]
    · rw [if_neg (fun z => e (Sum.inl.inj z))]
      show _ = ((Sum.inl x : Key), if x = k then v else f x)
      rw [if_neg e]
  · rw [if_neg (fun z => h (of_decide_eq_true z)), if_neg h]
    unfold kvI
    rw [List.map_append, List.map_singleton]
    have e : (fun x : Int => if x = k then v else f x) k = v := if_pos rfl
    rw [e]
    congr 1
    exact List.map_congr_left fun x hx => by
      show _ = ((Sum.inl x : Key), if x = k then v else f x)
      rw [if_neg (fun z : x = k => h (z ▸ hx))]
/-! ### readings -/
variable {Q : VK} {σ : St} {nx bk ct : St → Hp → Prop} {rt : VK} {td ty tv : TE} {R : Bool → Hp → Prop}
def rDGet : R2 := fun x y H Q => ∃ a v, x = .ref a ∧ DGet H a y (some v) ∧ Q v H
def rDIn : R2 := fun y x H Q => ∃ a o, x = .ref a ∧ DGet H a y o ∧ Q (.bl o.isSome) H
def rDNotIn : R2 := fun y x H Q => ∃ a o, x = .ref a ∧ DGet H a y o ∧ Q (.bl (!o.isSome)) H
theorem r_dgetS (h : td σ H fun x H1 => ty σ H1 fun y H2 => rDGet x y H2 Q) : tDGet td ty σ H Q := h
theorem r_dinS (h : ty σ H fun y H1 => td σ H1 fun x H2 => rDIn y x H2 Q) : tDIn ty td σ H Q := h
theorem r_dnotinS (h : ty σ H fun y H1 => td σ H1 fun x H2 => rDNotIn y x H2 Q) : tDNotIn ty td σ H Q := h
theorem r_dget (hd : Rd H a (dI S f)) (hm : k ∈ S) (h : Q (f k) H) : rDGet (.ref a) (.int k) H Q := ⟨a, _, rfl, .inl ⟨_, Sum.inl k, hd, rfl, (valV_in hm).symm⟩, h⟩
theorem r_din (hd : Rd H a (dI S f)) (h : Q (.bl (decide (k ∈ S))) H) : rDIn (.int k) (.ref a) H Q := ⟨a, _, rfl, .inl ⟨_, Sum.inl k, hd, rfl, rfl⟩, by rw [valV_some]; exact h⟩
theorem r_dnotin (hd : Rd H a (dI S f)) (h : Q (.bl (!decide (k ∈ S))) H) : rDNotIn (.int k) (.ref a) H Q := ⟨a, _, rfl, .inl ⟨_, Sum.inl k, hd, rfl, rfl⟩, by rw [valV_some]; exact h⟩
def rDPut : V → V → V → Hp → (Hp → Prop) → Prop := fun x y v H N => ∃ a H4, x = .ref a ∧ DPut H a y v H4 ∧ N H4
theorem r_dputS (h : tv σ H fun v H1 => td σ H1 fun x H2 => ty σ H2 fun y H3 => rDPut x y v H3 fun H4 => nx σ H4) : sDPut td ty tv ⟨nx, rt, bk, ct⟩ σ H := h
theorem r_dput {N : Hp → Prop} (hd : H a = some (dI S f)) (hl : S.length < sizeLine) (h : N (upd H a (dI (putS S k) fun x => if x = k then v else f x))) : rDPut (.ref a) (.int k) v H N := by
  refine ⟨a, _, rfl, .inl ⟨_, Sum.inl k, hd, rfl, by rw [kvI_len]; exact hl, rfl⟩, ?_⟩
  rw [putK_I]
  exact h
theorem r_dputW {N : Hp → Prop} {w : Int → Int} {y : Int} (hd : H a = some (dW S w)) (hl : S.length < sizeLine) (h : N (upd H a (dW (putS S k) (fset w k y)))) : rDPut (.ref a) (.int k) (.int y) H N := by
  refine r_dput hd hl ?_
  have e : (fun x => if x = k then V.int y else V.int (w x)) = fun x => V.int (fset w k y x) := funext fun x => by unfold fset; split <;> rfl
  rw [e]
  exact h
/-- len, list, dict -/
def rLenD : List V → Hp → VK → Prop := fun xs H Q => ∃ a kvs, xs = [V.ref a] ∧ Rd H a (.dK kvs) ∧ Q (.int kvs.length) H
def rListRd : List V → Hp → VK → Prop := fun xs H Q => ∃ (a : Addr) (kvs : List (Key × V)), xs = [.ref a] ∧ Rd H a (.dK kvs) ∧ ∀ p, H p = none → Q (.ref p) (upd H p (.lst (kvs.map fun kv => kV kv.1)))
def rDictRd : List V → Hp → VK → Prop := fun xs H Q => ∃ (a : Addr) (kvs : List (Key × V)), xs = [.ref a] ∧ Rd H a (.dK kvs) ∧ ∀ p, H p = none → Q (.ref p) (upd H p (.dK kvs))
theorem r_lenD (hd : Rd H a (dI S f)) (h : Q (.int S.length) H) : rLenD [.ref a] H Q := ⟨a, _, rfl, hd, by rw [kvI_len]; exact h⟩
theorem r_listD (hd : Rd H a (dI S f)) (h : ∀ p, Free H p → Q (.ref p) (upd H p (.lst (S.map V.int)))) : rListRd [.ref a] H Q := ⟨a, _, rfl, hd, fun p hp => by
  have e : (kvI S f).map (fun kv => kV kv.1) = S.map V.int := by unfold kvI; rw [List.map_map]; rfl
  rw [e]
  exact h p hp⟩
theorem r_dictD (hd : Rd H a (dI S f)) (h : ∀ p, Free H p → Q (.ref p) (upd H p (dI S f))) : rDictRd [.ref a] H Q := ⟨a, _, rfl, hd, h⟩
theorem r_all {K : PySem.W.Frag} {bs : List Bool} (hs : SqL K H a (bs.map V.bl)) (h : Q (.bl (bs.all id)) H) : rAll K [.ref a] H Q := ⟨a, bs, rfl, hs, h⟩
theorem r_bm0 {K : PySem.W.Frag} {T : String} {r : V → List V → Hp → VK → Prop} {to : TE} (h : to σ H fun x H1 => tyV K T x H1 ∧ r x [] H1 Q) : tBM0 K T r to σ H Q := h
theorem isi_dictR {K : PySem.W.Frag} (hd : H a = some (dI S f)) (h : Q (.bl true) H) : rIsi K [.ref a, .ty "dict"] H Q := isi_dict hd h
/-! ### a dict that is walked is locked -/
end
/-! ### while, with something kept in mind -/
/-! ### Rd carried on -/
section
variable {H H1 H' : Hp} {a p : Addr} {u o : HO}
theorem rd_in (h : H a = some u) : Rd H a u := .inl h
theorem rd_frz {ob : Obj} (h : H a = some (.frz ob u)) : Rd H a u := .inr ⟨ob, h⟩
theorem rdb_ne (hn : a ≠ p) (h : Rd H a u) : Rd (upd H p o) a u := by
  unfold Rd
  rw [upd_ne hn]
  exact h
theorem ne_rd (h : Rd H a u) (h0 : Free H p) : a ≠ p := h.elim (fun e => ne_of_none e h0) fun ⟨_, e⟩ => ne_of_none e h0
theorem ne_rd' (h : Rd H p u) (h0 : Free H a) : a ≠ p := (ne_rd h h0).symm
theorem rdb_new (hp : Free H p) (h : Rd H a u) : Rd (upd H p o) a u := rdb_ne (ne_rd h hp) h
theorem rdb_same (s : Same H H') (h : Rd H a u) : Rd H' a u := same_rd s h
theorem ne_kind {x y : HO} (h1 : H a = some x) (h2 : H p = some y) (h : x ≠ y) : a ≠ p := fun e => h (by rw [e, h2] at h1; cases h1; rfl)
end
/-! ### comprehensions that leave the heap as it is -/
section
variable {K : PySem.W.Frag} {H : Hp} {Q : VK} {σ : St} {a : Addr} {tl te : TE} {tt : TT} {i : Nat}
theorem wipe1 : wipe σ [i] = σ.set i none := rfl
end
/-! Fm: min and max of a tuple of whole numbers. -/
/-! ### min(xs, key=len) of lists: one of them -/
/-! Lp: loops by what is passed and what is left; lists of lists. -/
section
variable {σ : St} {H : Hp} {nx : St → Hp → Prop} {rt : VK} {K : PySem.W.Frag} {a : Addr}
/-- .. of a tuple of values -/
theorem r_forT {xs : List V} {g : TG} {tb : TS} (hs : SqT K H a xs) (Pv : List V → List V → St → Hp → Prop) (h0 : Pv [] xs σ H) (hG : ∀ pre post σ H, xs = pre ++ post → Pv pre post σ H → SqT K H a xs)
    (hb : ∀ pre x post σ H, xs = pre ++ x :: post → Pv pre (x :: post) σ H → g x σ H fun σ2 H2 => tb ⟨Pv (pre ++ [x]) post, rt, nx, Pv (pre ++ [x]) post⟩ σ2 H2) (hd : ∀ σ H, Pv xs [] σ H → nx σ H) :
    ∃ a', V.ref a = .ref a' ∧ (∃ ys, SqT K H a' ys) ∧ ∃ W : Nat → Nat → St → Hp → Prop, (∃ m, W 0 m σ H) ∧ ∀ i m σ H, W i m σ H →
      ((Itt K a').stop i H ∧ nx σ H) ∨ ((Itt K a').go i H ∧ ∃ N : St → Hp → Prop, (∀ σ' H', N σ' H' → ∃ m', m' < m ∧ W (i + 1) m' σ' H') ∧ ∀ x H', (Itt K a').yld i H x H' → g x σ H' fun σ2 H2 => tb ⟨N, rt, nx, N⟩ σ2 H2) := by
  refine ⟨a, rfl, ⟨_, hs⟩, ?_⟩
  refine r_it (walk_tup (xs := xs)) (fun i σ H => Pv (xs.take i) (xs.drop i) σ H) (by rw [List.take_zero, List.drop_zero]; exact h0) (fun i σ H _ p => hG _ _ σ H (List.take_append_drop i xs).symm p) (fun i x σ H H' hi p y => ?_) (fun σ H p => ?_)
  · obtain ⟨rfl, hx⟩ := y
    have e1 : xs.drop i = x :: xs.drop (i + 1) := by
      obtain ⟨hl, hx'⟩ := List.getElem?_eq_some_iff.mp hx
      rw [List.drop_eq_getElem_cons hl, hx']
    have e2 : xs.take (i + 1) = xs.take i ++ [x] := by rw [List.take_succ, hx]; rfl
    rw [e2]
    rw [e1] at p
    exact hb _ x _ σ H' (by rw [← e1, List.take_append_drop]) p
  · rw [List.take_length, List.drop_length] at p
    exact hd σ H p
end
/-! ### lists of lists -/
inductive Refs (H : Hp) : List Addr → List (List Int) → Prop
  | nil : Refs H [] []
  | cons {a : Addr} {l : List Int} {as : List Addr} {ls : List (List Int)} (h : H a = some (.lst (l.map V.int))) (r : Refs H as ls) : Refs H (a :: as) (l :: ls)
section
variable {H H' : Hp} {as : List Addr} {ls : List (List Int)} {p : Addr} {o : HO}
theorem Refs.imp (h : Refs H as ls) (k : ∀ a ∈ as, ∀ u, H a = some u → H' a = some u) : Refs H' as ls := by
  induction h with
  | nil => exact .nil
  | cons h r ih => exact .cons (k _ List.mem_cons_self _ h) (ih fun a ha => k a (List.mem_cons_of_mem _ ha))
theorem Refs.same (h : Refs H as ls) (s : Same H H') : Refs H' as ls := h.imp fun a _ u e => s a u e
theorem Refs.len (h : Refs H as ls) : as.length = ls.length := by
  induction h with
  | nil => rfl
  | cons h r ih => rw [List.length_cons, List.length_cons, ih]
theorem Refs.snoc {a : Addr} {l : List Int} (h : Refs H as ls) (e : H a = some (.lst (l.map V.int))) : Refs H (as ++ [a]) (ls ++ [l]) := by
  induction h with
  | nil => exact .cons e .nil
  | cons h r ih => exact .cons h ih
theorem Refs.get (h : Refs H as ls) {i : Nat} {a : Addr} (e : as[i]? = some a) : ∃ l, ls[i]? = some l ∧ H a = some (.lst (l.map V.int)) := by
  induction h generalizing i with
  | nil => cases e
  | cons h r ih =>
    cases i with
    | zero => cases e; exact ⟨_, rfl, h⟩
    | succ i => exact ih e
theorem Refs.mem (h : Refs H as ls) {a : Addr} (e : a ∈ as) : ∃ l ∈ ls, H a = some (.lst (l.map V.int)) := by
  obtain ⟨i, hi⟩ := List.getElem?_of_mem e
  obtain ⟨l, hl, q⟩ := h.get hi
  exact ⟨l, List.mem_of_getElem? hl, q⟩
end
/-! ### two sorted lists of the same -/
theorem sorted_eq : ∀ {l m : List Int}, l.Perm m → l.Pairwise (· ≤ ·) → m.Pairwise (· ≤ ·) → l = m
  | [], m, h, _, _ => (List.nil_perm.mp h).symm ▸ rfl
  | x :: r, [], h, _, _ => absurd h.length_eq (by simp)
  | x :: r, y :: t, h, h1, h2 => by
    have e : x = y := by
      obtain ⟨a1, _⟩ := List.pairwise_cons.mp h1
      obtain ⟨b1, _⟩ := List.pairwise_cons.mp h2
      have hx : x ∈ y :: t := h.subset List.mem_cons_self
      have hy : y ∈ x :: r := h.symm.subset List.mem_cons_self
      rcases List.mem_cons.mp hx with q | q
      · exact q
      · rcases List.mem_cons.mp hy with q' | q'
        · exact q'.symm
        · exact Int.le_antisymm (a1 y q') (b1 x q)
    subst e
    rw [sorted_eq (List.Perm.cons_inv h) (List.pairwise_cons.mp h1).2 (List.pairwise_cons.mp h2).2]
/-! ### slices -/
def cutI (ns : List Int) (lo hi : Option Int) : List Int := (ns.drop (HT.sIx ns.length 0 lo)).take (HT.sIx ns.length ns.length hi - HT.sIx ns.length 0 lo)
theorem cutV_map {ns : List Int} {lo hi : Option Int} : cutV (ns.map V.int) lo hi = (cutI ns lo hi).map V.int := by
  unfold cutV cutI
  rw [List.length_map, List.map_take, List.map_drop]
section
variable {σ : St} {H : Hp} {Q : VK} {K : PySem.W.Frag}
theorem r_sl {r : V → Option Int → Option Int → Hp → VK → Prop} {te : TE} {tl th : TO} (h : te σ H fun x H1 => tl σ H1 fun l H2 => th σ H2 fun u H3 => r x l u H3 Q) : tSl r te tl th σ H Q := h
theorem r_noPart {R : Option Int → Hp → Prop} (h : R none H) : tNoPart σ H R := h
theorem r_part {R : Option Int → Hp → Prop} {t : TE} (h : t σ H fun x H1 => ∃ i, x = .int i ∧ R (some i) H1) : tPart t σ H R := h
theorem r_partI {i : Int} {P : Int → Prop} (h : P i) : ∃ j, V.int i = .int j ∧ P j := ⟨i, rfl, h⟩
def rRev (K : PySem.W.Frag) (x : V) (H : Hp) (Q : VK) : Prop := ∃ a xs, x = .ref a ∧ SqL K H a xs ∧ ∀ p, H p = none → Q (.ref p) (upd H p (.lst xs.reverse))
theorem r_revS {te : TE} (h : te σ H fun x H1 => rRev K x H1 Q) : tRevL K te σ H Q := h
theorem r_rev {a : Addr} {ns : List Int} (hs : SqL K H a (ns.map V.int)) (h : ∀ p, Free H p → Q (.ref p) (upd H p (.lst (ns.reverse.map V.int)))) : rRev K (.ref a) H Q :=
  ⟨a, _, rfl, hs, fun p hp => by rw [← List.map_reverse]; exact h p hp⟩
theorem r_cat {l b : Addr} {xs zs : List V} (h1 : H l = some (.lst xs)) (h2 : H b = some (.lst zs)) (hz : xs.length + zs.length ≤ sizeLine) (h : ∀ p, Free H p → Q (.ref p) (upd H p (.lst (xs ++ zs)))) : rCat (.ref l) (.ref b) H Q := ⟨l, b, xs, zs, rfl, rfl, h1, h2, hz, h⟩
theorem r_rep {l : Addr} {xs : List V} {k : Int} (h1 : H l = some (.lst xs)) (k0 : 0 ≤ k) (k1 : k < 1000) (hz : xs.length * k.toNat ≤ sizeLine) (h : ∀ p, Free H p → Q (.ref p) (upd H p (.lst (List.replicate k.toNat xs).flatten))) : rRep (.ref l) (.int k) H Q :=
  ⟨l, k, xs, rfl, rfl, h1, by omega, by omega, hz, h⟩
theorem r_lcO {tl : TE} {g : TG} {tt : TT} {te : TE} {vs : List Nat} (h : tl σ H fun x H1 => tLc (iList K (tC x)) g tt te vs σ H1 Q) : tLc (iList K tl) g tt te vs σ H Q := h
theorem r_slL {a : Addr} {ns : List Int} {lo hi : Option Int} (hs : SqL K H a (ns.map V.int)) (h : ∀ p, Free H p → Q (.ref p) (upd H p (.lst ((cutI ns lo hi).map V.int)))) : rSlL K (.ref a) lo hi H Q :=
  ⟨a, _, rfl, hs, fun p hp => by rw [cutV_map]; exact h p hp⟩
end
/-! Fx: defs that raise, try. -/
def adOf (mg : Str → Option Value) (x : Str) : Addr := match mg x with
  | some (.ref a) => a
  | _ => 0
theorem adOf_eq {mg : Str → Option Value} {x : Str} {a : Addr} (h : mg x = some (.ref a)) : adOf mg x = a := by unfold adOf; rw [h]
/-- a class of refusals as it stands -/
structure Exq (K : PySem.W.Frag) (mg : Str → Option Value) (x : Str) (C : Addr) : Prop where
  g : mg x = some (.ref C)
  q : PySem.W.excIn K C [.type "ValueError", .type "Exception", .type "BaseException", .type "object"] "ValueError.__new__" = true
  k : PySem.W.keepIn K (.ref C) = true
  b : PySem.W.subIn K (.ref C) (.type "BaseException") = some true
  t : PySem.W.typeIn K (.ref C) = some (.type "type")
  i : PySem.W.isClsIn K C = true
section
variable {K : PySem.W.Frag} {h : Heap} {mg : Str → Option Value} {x : Str} {C S : Addr}
theorem exq_mk (X : K.In h) (G : h.Ns mainGlobals mg) (a : PySem.W.nsIn K mainGlobals x = some (some (.ref C))) (q : PySem.W.excIn K C [.type "ValueError", .type "Exception", .type "BaseException", .type "object"] "ValueError.__new__" = true) (k : PySem.W.keepIn K (.ref C) = true)
    (b : PySem.W.subIn K (.ref C) (.type "BaseException") = some true) (t : PySem.W.typeIn K (.ref C) = some (.type "type")) (i : PySem.W.isClsIn K C = true) : Exq K mg x (adOf mg x) ∧ adOf mg x = C := by
  have g := PySem.W.mg_of X G a
  have e := adOf_eq g
  rw [e]
  exact ⟨⟨g, q, k, b, t, i⟩, rfl⟩
theorem exm_pair {c : Value} {b : Bool} (h1 : PySem.W.subIn K (.ref S) (.type "BaseException") = some true) (h2 : PySem.W.isClsIn K S = true) (h3 : PySem.W.typeIn K (.ref S) = some (.type "type")) (h4 : PySem.W.subIn K c (.ref S) = some b) :
    PySem.W.exmOne K c (.ref S) = some b := by
  unfold PySem.W.exmOne
  rw [h1]
  unfold PySem.W.isClsIn at h2
  simp only [PySem.W.kitCls, h3, h4, h2]
  rfl
end
/-- which handler takes which -/
def Exm (G : Gx) (L : List Str) : Prop := ∀ (i j : Nat) (x y : Str), L[i]? = some x → L[j]? = some y → PySem.W.exmOne G.K (.ref (G.ad x)) (.ref (G.ad y)) = some (decide (i = j))
def tRaise (E : XK) (C : Addr) : TS := fun _ _ H => E (.ref C) none H
def tTryM (G : Gx) (L : List (Str × TS)) (tb : WX → TS) : TS := fun D σ H => tb (wMany G.K (fun _ _ _ _ => False) D (L.map fun p => (Value.ref (G.ad p.1), fun _ _ _ => p.2))) D σ H
section
variable {σ : St} {H : Hp} {Q : VK} {D : Ends} {G : Gx}
theorem r_raise {E : XK} {C : Addr} (h : E (.ref C) none H) : tRaise E C D σ H := h
theorem r_callS {sp : Sp} {E : St → XK} {t : TA} (h : t σ H fun vs H1 => sp vs H1 Q (E σ)) : tCallS sp E t σ H Q := h
theorem wMany_hit {W : WX} {x : Str} {ts : TS} {d : Option Addr} : ∀ (L : List (Str × TS)) (i : Nat), L[i]? = some (x, ts) → (∀ j y, j ≤ i → (L.map Prod.fst)[j]? = some y → PySem.W.exmOne G.K (.ref (G.ad x)) (.ref (G.ad y)) = some (decide (i = j))) → ts D σ H →
    wMany G.K W D (L.map fun p => (Value.ref (G.ad p.1), fun _ _ _ => p.2)) (.ref (G.ad x)) d σ H
  | [], i, h, _, _ => by cases h
  | (y, u) :: r, 0, h, m, k => by
    cases h
    exact ⟨true, m 0 _ (Nat.le_refl _) rfl, fun _ _ _ => k, fun z => Bool.noConfusion z⟩
  | (y, u) :: r, i + 1, h, m, k => by
    refine ⟨false, m 0 y (Nat.zero_le _) rfl, fun z => Bool.noConfusion z, fun _ => wMany_hit r i h (fun j y' hj e => ?_) k⟩
    rw [m (j + 1) y' (Nat.succ_le_succ hj) e]
    congr 1
    exact decide_eq_decide.mpr ⟨fun q => by omega, fun q => by omega⟩
/-- the try whose body raises a class of the list -/
theorem hit {L : List (Str × TS)} {N : List Str} {x : Str} {ts : TS} {d : Option Addr} (X : Exm G N) (i : Nat) (h : L[i]? = some (x, ts)) (hN : L.map Prod.fst = N) (k : ts D σ H) :
    wMany G.K (fun _ _ _ _ => False) D (L.map fun p => (Value.ref (G.ad p.1), fun _ _ _ => p.2)) (.ref (G.ad x)) d σ H :=
  wMany_hit L i h (fun j y _ e => X i j x y (by rw [← hN, List.getElem?_map, h]; rfl) (by rw [← hN]; exact e)) k
end
section
variable {P : Program} {w : World} {K : PySem.W.Frag} {mg : Str → Option Value} {base : Heap}
theorem Df.ofX {x : Str} {st : Stmt} {N ps : List Str} {k : Nat} {sp : Sp} (F : FnIs K mg x st ps) (S : FnScope N ps (defScope st)) (len : ∀ vs H Q E, sp vs H Q E → vs.length = ps.length)
    (hbody : ∀ (f : Addr) (cdv : Value) (A : Around) (outer : List Env) (s : Shared) (H : Hp) (vs : List V) (Q : VK) (E : XK), Room k (A.deeper (PyProof.Rows.envOfC x (defScope st) s.heap.objs.size f cdv)) → sp vs H Q E →
      ∃ t, PSs (cxOf (L2.CX P w) P w K mg base N x (defScope st) f cdv A outer s H E) (defBody st) t ∧ t ⟨fun _ H' => Q .non H', Q, fun _ _ => False, fun _ _ => False⟩ (start N vs) H) : Df P w K mg base (L2.CX P w) x (k + 1) ps sp := by
  obtain ⟨f, fd, hm, hf, hb⟩ := F
  exact ⟨f, fd, hm, hf.kp, hb, hf.okX S len fun cdv A outer s H vs Q E hr h => hbody f cdv A outer s H vs Q E hr h⟩
end
section
variable {X : Cx} {CX : CXT} {j k : Nat} {ps : List Str} {sp : Sp} {E : St → XK} {x : Str} {p pos : Pos} {e : Expr} {es : List Expr} {t : TA}
theorem pe_dfS (D : Df X.prog X.w X.K X.mg X.base CX x k ps sp) (hr : Room j X.A) (hk : k ≤ j) (hx : ∀ σ, PassesAt CX X σ (E σ)) (ha : PA X (e :: es) t) (hg : Gl X x := by rfl) (hdb : (x == ("__debug__" : Str)) = false := by decide)
    (he : starEach (e :: es) X.env = (false, eval e X.env) :: starEach es X.env := by rfl) (hpl : (backTo pos (starEach es X.env)).any (·.1) = false := by rfl) : PE X (.Call (.Name x p) (e :: es) [] pos) (tCallS sp E t) := by
  obtain ⟨f, fd, hm, hkp, hb, ok⟩ := D
  exact pe_callS (ok.mono hk) (hr) hg hm hkp hb hx ha hdb he hpl
end
local macro_rules | `(tactic| walk_at "ne") => `(tactic| first
  | ((with_reducible refine ne_rd (H := ?Hb) (u := ?ub) ?h1 ?h0); (case h0 => with_reducible assumption); (case h1 => walk_at "rdx"))
  | ((with_reducible refine ne_rd' (H := ?Hb) (u := ?ub) ?h1 ?h0); (case h0 => with_reducible assumption); (case h1 => walk_at "rdx")))
local macro_rules | `(tactic| walk_at "rd1") => `(tactic| first
  | with_reducible assumption
  | ((with_reducible refine rdb_new ?hn ?_); (case hn => with_reducible assumption))
  | ((with_reducible refine rdb_ne ?hn ?_); (case hn => walk_at "ne"))
  | ((with_reducible refine rdb_same (H := ?Hb) ?hn ?_); (case hn => with_reducible assumption)))
local macro_rules | `(tactic| walk_at "rdx") => `(tactic| ((repeat walk_at "rd1"); done))
local macro_rules | `(tactic| walk_at "rd") => `(tactic| first
  | ((with_reducible refine rd_in ?hi); (case hi => walk_at "hp"))
  | walk_at "rdx"
  | ((with_reducible refine rd_frz (ob := ?ob) ?hi); (case hi => walk_at "hp")))
local macro_rules | `(tactic| walk_at "mem") => `(tactic| with_reducible assumption)
local macro_rules | `(tactic| walk_at "st") => `(tactic| first
  | with_reducible refine r_dgetS ?_
  | with_reducible refine r_dinS ?_
  | with_reducible refine r_dnotinS ?_
  | with_reducible refine r_dputS ?_
  | with_reducible refine r_bm0 ?_
  | ((with_reducible refine r_dget (S := ?S) (f := ?f) ?hd ?hm ?_); (case hd => walk_at "rd"); (case hm => walk_at "mem"))
  | ((with_reducible refine r_din (S := ?S) (f := ?f) ?hd ?_); (case hd => walk_at "rd"))
  | ((with_reducible refine r_dnotin (S := ?S) (f := ?f) ?hd ?_); (case hd => walk_at "rd"))
  | ((with_reducible refine r_lenD (S := ?S) (f := ?f) ?hd ?_); (case hd => walk_at "rd"))
  | ((with_reducible refine r_listD (S := ?S) (f := ?f) ?hd ?_); (case hd => walk_at "rd"))
  | ((with_reducible refine r_dictD (S := ?S) (f := ?f) ?hd ?_); (case hd => walk_at "rd"))
  | ((with_reducible refine r_dputW (S := ?S) (w := ?w) ?hd ?hl ?_); (case hd => walk_at "hp"); (case hl => walk_at "sz"))
  | ((with_reducible refine isi_dictR (S := ?S) (f := ?f) ?hd ?_); (case hd => walk_at "hp")))
/-! Wb: the makers of webs. -/
/-! ### other -/
def sp_l_other (G : Gx) : Sp := fun vs H Q _ => ∃ e : Int, vs = [.int e] ∧ Q (.int (ot e)) H
/-! _law_other: slots _law_end -/
theorem c_other {G : Gx} {e : Int} {H : Hp} {Q : VK} {E : XK} (h : Q (.int (ot e)) H) : sp_l_other G [.int e] H Q E := ⟨e, rfl, h⟩
/-! ### seat -/
/-! seat: slots web, ends -/
/-! _law_seat: slots _law_web_here, _law_ends, _law_k -/
/-! ### combs -/
/-! comb_corners: slots row, col, rows, cols, own, left, above -/
/-! comb: slots rows, cols, web, row, col, ends -/
abbrev cL (r c : Int) (m : Nat) : HO := dW (combD (lfO c) (abO r c) m).1 (combD (lfO c) (abO r c) m).2
/-! _law_comb: slots _law_rows, _law_cols, _law_web_here, _law_k, _law_row, _law_col, _law_left, _law_above -/
local macro_rules | `(tactic| walk_at "st") => `(tactic| first
  | with_reducible refine c_other ?_)
/-! Wf: rims, floods, faults of webs. -/
/-! ### rim -/
/-! _law_rim: slots _law_web_here, _law_end, _law_found, _law_k, _law_at -/
/-! ### is_web -/
/-! _law_is_web: slots _law_found, _law_due, _law_end -/
/-! ### flood -/
/-! _law_flood: slots _law_found, _law_begin, _law_seen, _law_row, _law_at, _law_goal -/
structure Fl (S : List Int) (nx : Int → Int) (b : Int) (T R : List Int) : Prop where
  sub : ∀ x ∈ T, x ∈ S
  nd : T.Nodup
  beg : b ∈ T
  row : ∀ x ∈ R, x ∈ T
  rle : R.length ≤ T.length
  cl : ∀ x ∈ T, x ∈ R ∨ (nx x ∈ T ∧ ot x ∈ T)
theorem Fl.le {S : List Int} {nx : Int → Int} {b : Int} {T R : List Int} (F : Fl S nx b T R) : T.length ≤ S.length := sub_len F.nd F.sub
/-! ### count_rims -/
/-! _law_count_rims: slots _law_found, _law_passed, _law_many, _law_end, _law_at -/
/-! ### fault -/
/-! _law_fault: slots _law_found, _law_ends, _law_lone, _law_astray, _law_odd, _law_seen, _law_apart, _law_many, _law_end -/
/-! Wg: what the laws do to webs. -/
/-! ### corner, loop -/
/-! _law_corner: slots _law_web_here, _law_end -/
/-! _law_loop: slots _law_web_here, _law_film -/
/-! ### push -/
def pushB (nx : Int → Int) (e : Int) (b : Bool) : Int → Int := if b = true then pullF nx e else pushF nx e
/-! _law_push: slots _law_web_here, _law_film, _law_back, _law_e, _law_a, _law_b, _law_o, _law_c, _law_d, _law_made -/
/-! ### one_bubble -/
/-! _law_one_bubble: slots _law_web_here, _law_film -/
/-! ### blow -/
/-! _law_blow: slots _law_web_here, _law_end, _law_first, _law_e, _law_a, _law_b, _law_made, _law_new -/
/-! ### part -/
/-! _law_part: slots _law_web_here, _law_one, _law_two, _law_first, _law_made, _law_new, _law_p, _law_half, _law_away, _law_x, _law_y -/
/-! ### mended -/
/-! _law_mended: slots _law_web_here, _law_end, _law_left, _law_x, _law_y, _law_gone, _law_made, _law_at, _law_goal -/
/-! Wi: a film taken out. -/
def Looped (nx : Int → Int) (e : Int) : Prop := nx e = ot e ∨ nx (nx e) = ot e
instance {nx : Int → Int} {e : Int} : Decidable (Looped nx e) := by unfold Looped; exact inferInstance
def wS (S : List Int) (nx : Int → Int) (e : Int) : List Int := if Looped nx e then burstLS S nx e else burstS S nx e
def wN (nx : Int → Int) (e : Int) : Int → Int := if Looped nx e then burstLN nx e else burstN nx e
/-! _law_without: slots _law_web_here, _law_film, _law_left, _law_made, _law_at, _law_third -/
/-! Wj: all rims. -/
open Classical in
noncomputable def rimL (f : Int → Int) (x : Int) : List Int := if h : ∃ n, Per f x n then rimO f x (Classical.choose h) else []
theorem rimL_eq {f : Int → Int} {x : Int} {n : Nat} (P : Per f x n) : rimL f x = rimO f x n := by
  unfold rimL
  have h : ∃ n, Per f x n := ⟨n, P⟩
  rw [dif_pos h, per_unique (Classical.choose_spec h) P]
def putL (P l : List Int) : List Int := l.foldl putS P
noncomputable def rimsG (f : Int → Int) : List Int → List Int → List (List Int)
  | [], _ => []
  | e :: r, P => if e ∈ P then rimsG f r P else rimL f e :: rimsG f r (putL P (rimL f e))
structure Srt (S es : List Int) : Prop where
  perm : es.Perm S
  le : es.Pairwise (· ≤ ·)
theorem Srt.eq {S es es' : List Int} (h : Srt S es) (h' : Srt S es') : es = es' := sorted_eq (h.perm.trans h'.perm.symm) h.le h'.le
theorem Srt.of {S S' es es' : List Int} (h : Srt S es) (h' : Srt S' es') (p : S.Perm S') : es = es' := sorted_eq ((h.perm.trans p).trans h'.perm.symm) h.le h'.le
/-! _law_rims: slots _law_web_here, _law_found, _law_passed, _law_end, _law_at -/
/-! Wk: webs drawn. -/
theorem rimL_sub {S : List Int} {f : Int → Int} (Pm : Perm1 S f) {x y : Int} (hx : x ∈ S) (hy : y ∈ rimL f x) : y ∈ S := by
  obtain ⟨n, _, P⟩ := per_ex Pm hx
  rw [rimL_eq P] at hy
  exact rim_sub Pm hx hy
theorem rimL_mem {S : List Int} {f : Int → Int} (Pm : Perm1 S f) {x y : Int} (hx : x ∈ S) : y ∈ rimL f x ↔ Eqv (fstep S f) x y := by
  obtain ⟨n, _, P⟩ := per_ex Pm hx
  rw [rimL_eq P]
  exact rim_mem Pm hx P
structure Drawn (S : List Int) (nx : Int → Int) (f : Int) : Prop where
  web : Web S nx
  lt : ∀ x ∈ S, x < 2 * f
  len : S.length ≤ 345
  f0 : 0 ≤ f
theorem Drawn.same {S S' : List Int} {nx : Int → Int} {f : Int} (D : Drawn S nx f) (nd : S'.Nodup) (h : ∀ z, z ∈ S' ↔ z ∈ S) : Drawn S' nx f :=
  ⟨D.web.same nd h fun _ _ => rfl, fun x hx => D.lt x ((h x).mp hx), Nat.le_trans (sub_len nd fun z hz => (h z).mp hz) D.len, D.f0⟩
/-! _law_step: slots _law_web_here, _law_first, _law_cell_here, _law_what, _law_pick, _law_walk, _law_ends, _law_end, _law_one, _law_film, _law_two -/
/-! Iso: a web with other numbers. -/
structure Iso (S : List Int) (nx : Int → Int) (S' : List Int) (nx' : Int → Int) (g h : Int → Int) : Prop where
  gm : ∀ x ∈ S, g x ∈ S'
  hm : ∀ y ∈ S', h y ∈ S
  hg : ∀ x ∈ S, h (g x) = x
  gh : ∀ y ∈ S', g (h y) = y
  go : ∀ x ∈ S, g (ot x) = ot (g x)
  gn : ∀ x ∈ S, g (nx x) = nx' (g x)
section
variable {S S' : List Int} {nx nx' g h : Int → Int}
theorem Iso.symm (I : Iso S nx S' nx' g h) (M : Map S ot nx) : Iso S' nx' S nx h g :=
  ⟨I.hm, I.gm, I.gh, I.hg, fun y hy => by
    have e := I.go (h y) (I.hm y hy)
    rw [I.gh y hy] at e
    rw [← e, I.hg _ (M.ca _ (I.hm y hy))], fun y hy => by
    have e := I.gn (h y) (I.hm y hy)
    rw [I.gh y hy] at e
    rw [← e, I.hg _ (M.cn _ (I.hm y hy))]⟩
theorem Iso.map (I : Iso S nx S' nx' g h) (M : Map S ot nx) (nd : S'.Nodup) : Map S' ot nx' := by
  have J := I.symm M
  have ca : ∀ y ∈ S', ot y ∈ S' := fun y hy => by
    have e := I.go (h y) (I.hm y hy)
    rw [I.gh y hy] at e
    rw [← e]
    exact I.gm _ (M.ca _ (I.hm y hy))
  have ev : ∀ y ∈ S', nx' y = g (nx (h y)) := fun y hy => by
    have e := I.gn (h y) (I.hm y hy)
    rw [I.gh y hy] at e
    exact e.symm
  have cn : ∀ y ∈ S', nx' y ∈ S' := fun y hy => by
    rw [ev y hy]
    exact I.gm _ (M.cn _ (I.hm y hy))
  refine ⟨nd, ca, cn, fun y _ => ot_ot y, fun y hy => ?_, fun y hy z => ?_⟩
  · have hS := I.hm y hy
    rw [ev y hy, ← I.gn _ (M.cn _ hS), ← I.gn _ (M.cn _ (M.cn _ hS)), M.n3 _ hS, I.gh y hy]
  · rw [ev y hy] at z
    have q := congrArg h z
    rw [I.hg _ (M.cn _ (I.hm y hy))] at q
    exact M.n1 _ (I.hm y hy) q
theorem Iso.face (I : Iso S nx S' nx' g h) (M : Map S ot nx) {x : Int} (hx : x ∈ S) : g (face ot nx x) = face ot nx' (g x) := by
  show g (nx (ot x)) = nx' (ot (g x))
  rw [I.gn _ (M.ca x hx), I.go x hx]
theorem Iso.web (I : Iso S nx S' nx' g h) (W : Web S nx) (nd : S'.Nodup) (pos : ∀ y ∈ S', 0 ≤ y) (len : S'.length = S.length) : Web S' nx' := by
  have M := W.map
  have M' := I.map M nd
  have J := I.symm M
  obtain ⟨n, cl, e6⟩ := W.eul
  refine ⟨M', fun z => ?_, fun x hx y hy => ?_, ⟨n, ?_, by rw [len]; exact e6⟩, pos⟩
  · rw [z] at len
    exact W.ne (List.length_eq_zero_iff.mp len.symm)
  · have c := W.conn _ (I.hm x hx) _ (I.hm y hy)
    have c' : Eqv (cs S' ot nx') (g (h x)) (g (h y)) := Eqv.map (f := g) (fun u v ⟨hu, e⟩ => by
      rcases e with e | e
      · exact .step ⟨I.gm u hu, .inl (by rw [e, I.go u hu])⟩
      · exact .step ⟨I.gm u hu, .inr (by rw [e, I.gn u hu])⟩) c
    rw [I.gh x hx, I.gh y hy] at c'
    exact c'
  · exact cls_maps g h (fun x y ⟨hx, e⟩ => .step ⟨I.gm x hx, by rw [e, I.face M hx]⟩) (fun x y ⟨hx, e⟩ => .step ⟨I.hm x hx, by rw [e, J.face M' hx]⟩) I.gm I.hm (fun x hx => by rw [I.gh x hx]; exact .refl _) (fun x hx => by rw [I.hg x hx]; exact .refl _) cl
theorem Iso.rim (I : Iso S nx S' nx' g h) (M : Map S ot nx) {x y : Int} (e : Rim S nx x y) : Rim S' nx' (g x) (g y) :=
  Eqv.map (f := g) (fun u v ⟨hu, e⟩ => .step ⟨I.gm u hu, by rw [e, I.face M hu]⟩) e
end
/-! ### the product by a prime -/
local macro_rules | `(tactic| walk_at "st") => `(tactic| first
  | with_reducible refine r_sl ?_
  | with_reducible refine r_noPart ?_
  | with_reducible refine r_part ?_
  | with_reducible refine r_partI ?_
  | with_reducible refine r_revS ?_
  | ((with_reducible refine r_rev (ns := ?ns) ?hs ?_); (case hs => walk_at "sq"))
  | ((with_reducible refine r_slL (ns := ?ns) ?hs ?_); (case hs => walk_at "sq")))
/-! Wl: drawn webs. -/
/-! _law_web: slots _law_script, _law_most, _law_rows, _law_cols, _law_big, _law_web_here, _law_first, _law_cell_here -/
/-! ### renumbered -/
/-! _law_renumbered: slots _law_web_here, _law_cell_here, _law_kind, _law_by, _law_turn, _law_goal, _law_end, _law_new, _law_made -/
/-! ### drawn -/
/-! _law_drawn_web: slots _law_script, _law_most -/
/-! Wm: corners. -/
inductive RefO (H : Hp) : List Addr → List HO → Prop
  | nil : RefO H [] []
  | cons {a : Addr} {o : HO} {as : List Addr} {os : List HO} (h : H a = some o) (r : RefO H as os) : RefO H (a :: as) (o :: os)
section
variable {H H' : Hp} {as : List Addr} {os : List HO} {p : Addr} {o : HO}
theorem RefO.imp (h : RefO H as os) (k : ∀ a ∈ as, ∀ u, H a = some u → H' a = some u) : RefO H' as os := by
  induction h with
  | nil => exact .nil
  | cons h r ih => exact .cons (k _ List.mem_cons_self _ h) (ih fun a ha => k a (List.mem_cons_of_mem _ ha))
theorem RefO.same (h : RefO H as os) (s : Same H H') : RefO H' as os := h.imp fun a _ u e => s a u e
theorem RefO.len (h : RefO H as os) : as.length = os.length := by
  induction h with
  | nil => rfl
  | cons h r ih => rw [List.length_cons, List.length_cons, ih]
theorem RefO.snoc {a : Addr} (h : RefO H as os) (e : H a = some o) : RefO H (as ++ [a]) (os ++ [o]) := by
  induction h with
  | nil => exact .cons e .nil
  | cons h r ih => exact .cons h ih
theorem RefO.get (h : RefO H as os) {i : Nat} {a : Addr} (e : as[i]? = some a) : ∃ o, os[i]? = some o ∧ H a = some o := by
  induction h generalizing i with
  | nil => cases e
  | cons h r ih =>
    cases i with
    | zero => cases e; exact ⟨_, rfl, h⟩
    | succ i => exact ih e
end
/-! ### a comprehension over two lists of refs, side by side, each turn a True -/
/-! ### other -/
def sp_p_other (G : Gx) : Sp := sp_l_other G
/-! other: slots end -/
theorem c_otherP {G : Gx} {e : Int} {H : Hp} {Q : VK} {E : XK} (h : Q (.int (ot e)) H) : sp_p_other G [.int e] H Q E := ⟨e, rfl, h⟩
local macro_rules | `(tactic| walk_at "st") => `(tactic| first
  | with_reducible refine c_otherP ?_
  | with_reducible refine r_raise ?_
  | with_reducible refine r_callS ?_)
/-! ### corner -/
/-! corner: slots web, end -/
/-! ### corners -/
def isMin (nx : Int → Int) (e : Int) : Bool := decide (e ≤ nx e ∧ e ≤ nx (nx e))
/-! corners: slots web, found, end, one -/
/-! _law_corners: slots _law_web_here, _law_found, _law_end, _law_one -/
/-! ### is_corner, are_corners -/
/-! _law_is_corner: slots _law_found, _law_due, _law_end -/
/-! _law_are_corners: slots _law_found, _law_due, _law_one, _law_two -/
/-! ### turned dict, free -/
/-! _law_turned_dict: slots _law_web_here, _law_made, _law_end -/
/-! _law_free: slots _law_web_here -/
/-! Wn: the program's rims. -/
/-! rim: slots web, end, found, at -/
/-! rims: slots web, found, passed, end, one, at -/
/-! ### are_ends, are_rims -/
/-! _law_are_ends: slots _law_found, _law_due, _law_end -/
/-! _law_are_rims: slots _law_found, _law_due, _law_one, _law_two -/
/-! Wq: the program's deeds at a web. -/
theorem r_lcOT {K : PySem.W.Frag} {σ : St} {H : Hp} {Q : VK} {tl : TE} {g : TG} {tt : TT} {te : TE} {vs : List Nat} (h : tl σ H fun x H1 => tLc (iTup K (tC x)) g tt te vs σ H1 Q) : tLc (iTup K tl) g tt te vs σ H Q := h
/-! looped: slots web, film -/
/-! film_there: slots web, film -/
/-! two_corners: slots web, film -/
/-! ### pushed, pulled -/
/-! pushed: slots web, film, e, a, b, o, c, d, made -/
/-! pulled: slots web, film, e, a, b, o, c, d, made -/
/-! ### blown -/
/-! blown: slots web, end, first, e, a, b, made, low -/
/-! ### put_in_place, mend -/
/-! put_in_place: slots web, end, gone, after, ahead -/
/-! mend: slots web, end, one, two, kept, lost -/
/-! ### without, burst -/
/-! without: slots web, film, made, low, left, end -/
/-! burst: slots web, film -/
/-! PartQ: a bubble parted, in the program's order. -/
/-! Wr: a bubble parted; all deeds by orders. -/
/-! halved: slots web, end, far, gone, after, ahead -/
/-! parted: slots web, one, two, first, made, low -/
/-! ### pick -/
/-! _law_pick: slots _law_web_here, _law_cell_here, _law_pick_here, _law_kind, _law_ends -/
/-! Ws: deeds by orders, as the laws do them. -/
theorem iteDt {c A B : Prop} [Decidable c] (h : c) (k : A) : if decide c = true then A else B := by rw [decide_eq_true h, if_pos rfl]; exact k
theorem iteDf {c A B : Prop} [Decidable c] (h : ¬ c) (k : B) : if decide c = true then A else B := by rw [decide_eq_false h, if_neg Bool.false_ne_true]; exact k
theorem iteNDt {c A B : Prop} [Decidable c] (h : c) (k : B) : if (!decide c) = true then A else B := by rw [decide_eq_true h]; exact iteNt k
theorem iteNDf {c A B : Prop} [Decidable c] (h : ¬ c) (k : A) : if (!decide c) = true then A else B := by rw [decide_eq_false h]; exact iteNf k
local macro_rules | `(tactic| walk_at "st") => `(tactic| first
  | ((with_reducible refine iteDt ?hc ?_); (case hc => (with_reducible rfl)))
  | ((with_reducible refine iteDf ?hc ?_); (case hc => decide +kernel))
  | ((with_reducible refine iteNDt ?hc ?_); (case hc => (with_reducible rfl)))
  | ((with_reducible refine iteNDf ?hc ?_); (case hc => decide +kernel)))
inductive Ord where
  | push (f : Int)
  | pull (f : Int)
  | burst (f : Int)
  | part (o t f : Int)
  | blow (e f : Int)
/-- new films stand above all -/
def Ord.ok (S : List Int) : Ord → Prop
  | .part _ _ f => ∀ x ∈ S, x < 2 * f
  | .blow _ f => ∀ x ∈ S, x < 2 * f
  | _ => True
/-! ### move -/
/-! _law_move: slots _law_web_here, _law_order, _law_word, _law_made -/
/-! ### move_word -/
/-! _law_move_word: slots _law_web_here, _law_order, _law_name, _law_one -/
/-! ### moved -/
/-! _law_moved: slots _law_web_here, _law_order -/
/-! ### move_right -/
/-! _law_move_right: slots _law_web_here, _law_order, _law_handed, _law_word, _law_made, _law_due -/
/-! RimT: all rims together are all ends, once each. -/
theorem rimL_nd {S : List Int} {f : Int → Int} (Pm : Perm1 S f) {x : Int} (hx : x ∈ S) : (rimL f x).Nodup := by
  obtain ⟨n, _, P⟩ := per_ex Pm hx
  rw [rimL_eq P]
  exact rim_nd Pm hx P
/-! ### a comprehension over a list that leaves the heap as it is -/
theorem r_yes1 {σ : St} {H : Hp} {R : Bool → Hp → Prop} (h : R true H) : tYes σ H R := h
/-- .. whose test and item may make new things -/
theorem r_lcS {K : PySem.W.Frag} {H : Hp} {Q : VK} {σ : St} {a : Addr} {tl te : TE} {tt : TT} {i : Nat} {ns : List Int} (p : Int → Bool) (e : Int → V) (hs : SqL K H a (ns.map V.int)) (ht : ∀ Q : VK, Q (.ref a) H → tl σ H Q) (hn : ns.length < sizeLine)
    (h1 : ∀ x ∈ ns, ∀ H', Same H H' → ∀ R : Bool → Hp → Prop, (∀ H'', Same H' H'' → R (p x) H'') → tt (σ.set i (some (.int x))) H' R)
    (h2 : ∀ x ∈ ns, p x = true → ∀ H', Same H H' → ∀ Q : VK, (∀ H'', Same H' H'' → Q (e x) H'') → te (σ.set i (some (.int x))) H' Q)
    (h : ∀ D H', Same H H' → Free H D → H' D = some (.lst ((ns.filter p).map e)) → Q (.ref D) H') : tLc (iList K tl) (gName i) tt te [i] σ H Q := by
  refine ht _ ⟨a, rfl, ⟨_, hs⟩, fun D hD => ?_⟩
  refine lc_list (xs := ns.map V.int) (fun j H' => Same H H' ∧ H' D = some (.lst (((ns.take j).filter p).map e))) ⟨same_new (Same.refl H) hD, upd_same⟩ (fun j H' _ q => lst_same q.1 hs) (fun j x H' hx q => ?_) (fun H' q => ?_)
  · obtain ⟨s1, e1⟩ := q
    obtain ⟨n, hj, rfl⟩ := map_get hx
    have hm : n ∈ ns := List.mem_of_getElem? hj
    have et : ns.take (j + 1) = ns.take j ++ [n] := by rw [List.take_succ, hj]; rfl
    rw [wipe1]
    show _ ∧ _
    have es : (σ.set i none).set i (some (.int n)) = σ.set i (some (.int n)) := List.set_set _
    refine ⟨by rw [es]; exact List.set_set _, ?_⟩
    rw [es]
    refine h1 n hm H' s1 _ fun H2 s2 => ?_
    cases hp : p n with
    | true =>
      rw [if_pos rfl]
      refine h2 n hm hp H2 (s1.trans s2) _ fun H3 s3 => ⟨_, s3 _ _ (s2 _ _ e1), ?_, same_mut ((s1.trans s2).trans s3) hD, ?_⟩
      · rw [List.length_map]
        refine Nat.lt_of_le_of_lt (Nat.le_trans (List.length_filter_le _ _) ?_) hn
        rw [List.length_take]
        exact Nat.min_le_right _ _
      · rw [upd_same, et, List.filter_append, List.map_append]
        simp [hp]
    | false =>
      rw [if_neg Bool.false_ne_true, et, List.filter_append]
      refine ⟨s1.trans s2, ?_⟩
      have q : [n].filter p = [] := by simp [hp]
      rw [q, List.append_nil]
      exact s2 _ _ e1
  · rw [List.length_map, List.take_length] at q
    exact h D H' q.1 hD q.2
/-! PushT: a push taken back, twice, four times. -/
section
variable {S : List Int} {nx : Int → Int} {e o a b c d : Int}
theorem Film.no (F : Film S nx e o a b c d) : nx e ≠ ot e ∧ nx (nx e) ≠ ot e := by
  rw [F.ea, F.ab, F.eo]
  exact ⟨F.n_oa.symm, F.n_ob.symm⟩
def sw (e z : Int) : Int := if z = e then ot e else if z = ot e then e else z
end
/-! CntT: how long a rim is, and what a deed makes of it. -/
noncomputable def eqB (S : List Int) (f : Int → Int) (x y : Int) : Bool := @decide (Eqv (fstep S f) x y) (Classical.propDecidable _)
theorem eqB_iff {S : List Int} {f : Int → Int} {x y : Int} : eqB S f x y = true ↔ Eqv (fstep S f) x y := by
  unfold eqB
  exact @decide_eq_true_iff _ (Classical.propDecidable _)
/-- from an end of S one stays in S -/
theorem eqv_mem {S : List Int} {f : Int → Int} (Pm : Perm1 S f) {x y : Int} (hx : x ∈ S) (e : Eqv (fstep S f) x y) : y ∈ S := by
  obtain ⟨n, _, rfl⟩ := eqv_iter Pm hx e
  exact iter_mem Pm hx n
/-- a rim's length, counted over all ends -/
theorem rim_cnt {S : List Int} {f : Int → Int} (Pm : Perm1 S f) (nd : S.Nodup) {x : Int} (hx : x ∈ S) : (rimL f x).length = S.countP (eqB S f x) := by
  rw [List.countP_eq_length_filter]
  refine Nat.le_antisymm (sub_len (rimL_nd Pm hx) fun y hy => ?_) (sub_len (nd.filter _) fun y hy => ?_)
  · exact List.mem_filter.mpr ⟨rimL_sub Pm hx hy, eqB_iff.mpr ((rimL_mem Pm hx).mp hy)⟩
  · exact (rimL_mem Pm hx).mpr (eqB_iff.mp (List.mem_filter.mp hy).2)
structure Fold (S : List Int) (f : Int → Int) (S' : List Int) (f' : Int → Int) (φ ψ : Int → Int) : Prop where
  fwd : ∀ u ∈ S', Eqv (fstep S f) (φ u) (φ (f' u))
  bwd : ∀ u ∈ S, Eqv (fstep S' f') (ψ u) (ψ (f u))
  back : ∀ y ∈ S', φ y ∈ S → Eqv (fstep S' f') (ψ (φ y)) y
theorem Fold.iff {S S' : List Int} {f f' φ ψ : Int → Int} (F : Fold S f S' f' φ ψ) (Pm : Perm1 S f) {x y : Int} (hx : x ∈ S) (hx1 : Eqv (fstep S f) (φ x) x) (hx2 : Eqv (fstep S' f') (ψ x) x) (hy : y ∈ S') : Eqv (fstep S' f') x y ↔ Eqv (fstep S f) x (φ y) := by
  constructor
  · intro e
    exact hx1.symm.trans (Eqv.map (f := φ) (fun u v ⟨hu, q⟩ => by rw [q]; exact F.fwd u hu) e)
  · intro e
    have h := Eqv.map (f := ψ) (fun u v ⟨hu, q⟩ => by rw [q]; exact F.bwd u hu) e
    exact (hx2.symm.trans h).trans (F.back y hy (eqv_mem Pm hx e))
/-- .. so its length behind the deed is counted by what stood ahead -/
theorem Fold.len {S S' : List Int} {f f' φ ψ : Int → Int} (F : Fold S f S' f' φ ψ) (Pm : Perm1 S f) (Pm' : Perm1 S' f') (nd' : S'.Nodup) {x : Int} (hx : x ∈ S) (hx' : x ∈ S') (hx1 : Eqv (fstep S f) (φ x) x) (hx2 : Eqv (fstep S' f') (ψ x) x) :
    (rimL f' x).length = S'.countP fun y => eqB S f x (φ y) := by
  rw [rim_cnt Pm' nd' hx']
  exact List.countP_congr fun y hy => by rw [eqB_iff, eqB_iff]; exact F.iff Pm hx hx1 hx2 hy
/-! ### a bubble blown -/
def blowP (e a b L z : Int) : Int := if z = L then a else if z = L + 2 then b else if z = L + 4 then e else if z = L + 1 then L + 1 else if z = L + 3 then L + 1 else if z = L + 5 then L + 1 else z
theorem blow_fold {S : List Int} {nx nx' : Int → Int} {e a b L : Int} (M : Map S ot nx) (M' : Map (blowS S L) ot nx') (V : BlowV S nx nx' e a b L) (hL : ∀ x ∈ S, x < L) (h2 : L % 2 = 0) : Fold S (face ot nx) (blowS S L) (face ot nx') (blowP e a b L) id := by
  obtain ⟨o0, o1, o2, o3, o4, o5⟩ := ot_L h2
  have ph0 : blowP e a b L L = a := by unfold blowP; rw [if_pos rfl]
  have ph2 : blowP e a b L (L + 2) = b := by unfold blowP; rw [if_neg (by omega), if_pos rfl]
  have ph4 : blowP e a b L (L + 4) = e := by unfold blowP; rw [if_neg (by omega), if_neg (by omega), if_pos rfl]
  have ph1 : blowP e a b L (L + 1) = L + 1 := by unfold blowP; rw [if_neg (by omega), if_neg (by omega), if_neg (by omega), if_pos rfl]
  have ph3 : blowP e a b L (L + 3) = L + 1 := by unfold blowP; rw [if_neg (by omega), if_neg (by omega), if_neg (by omega), if_neg (by omega), if_pos rfl]
  have ph5 : blowP e a b L (L + 5) = L + 1 := by unfold blowP; rw [if_neg (by omega), if_neg (by omega), if_neg (by omega), if_neg (by omega), if_neg (by omega), if_pos rfl]
  have phS : ∀ z ∈ S, blowP e a b L z = z := fun z hz => by
    have := hL z hz
    unfold blowP
    rw [if_neg (by omega), if_neg (by omega), if_neg (by omega), if_neg (by omega), if_neg (by omega), if_neg (by omega)]
  have memS : ∀ z ∈ S, z ∈ blowS S L := fun z hz => mem_blowS.mpr (.inl hz)
  have memN : ∀ z, New6 L z → z ∈ blowS S L := fun z hz => mem_blowS.mpr (.inr hz)
  have st : ∀ z, z ∈ blowS S L → Eqv (fstep (blowS S L) (face ot nx')) z (face ot nx' z) := fun z hz => .step ⟨hz, rfl⟩
  refine ⟨fun u hu => ?_, fun u hu => ?_, fun y hy hp => ?_⟩
  · show Eqv _ _ (blowP e a b L (nx' (ot u)))
    rcases mem_blowS.mp hu with hu | hu
    · have hou := M.ca u hu
      rw [phS u hu]
      have s0 : Eqv (fstep S (face ot nx)) u (nx (ot u)) := .step ⟨hu, rfl⟩
      by_cases c1 : ot u = e
      · rw [c1, V.v_e, ph0]
        rw [c1, V.ea] at s0
        exact s0
      by_cases c2 : ot u = a
      · rw [c2, V.v_a, ph2]
        rw [c2, V.ab] at s0
        exact s0
      by_cases c3 : ot u = b
      · rw [c3, V.v_b, ph4]
        rw [c3, V.be] at s0
        exact s0
      rw [V.v_o _ hou c1 c2 c3, phS _ (M.cn _ hou)]
      exact s0
    · rcases hu with h | h | h | h | h | h
      · rw [h, o0, V.v_1, ph0, phS a V.ha]; exact .refl _
      · rw [h, o1, V.v_0, ph1, ph5]; exact .refl _
      · rw [h, o2, V.v_3, ph2, phS b V.hb]; exact .refl _
      · rw [h, o3, V.v_2, ph3, ph1]; exact .refl _
      · rw [h, o4, V.v_5, ph4, phS e V.he]; exact .refl _
      · rw [h, o5, V.v_4, ph5, ph3]; exact .refl _
  · show Eqv _ u (nx (ot u))
    have hou := M.ca u hu
    have s0 := st u (memS u hu)
    by_cases c1 : ot u = e
    · have s1 := st L (memN L (.inl rfl))
      rw [show face ot nx' u = L by show nx' (ot u) = L; rw [c1, V.v_e]] at s0
      rw [show face ot nx' L = a by show nx' (ot L) = a; rw [o0, V.v_1]] at s1
      rw [c1, V.ea]
      exact s0.trans s1
    by_cases c2 : ot u = a
    · have s1 := st (L + 2) (memN _ (by unfold New6; omega))
      rw [show face ot nx' u = L + 2 by show nx' (ot u) = L + 2; rw [c2, V.v_a]] at s0
      rw [show face ot nx' (L + 2) = b by show nx' (ot (L + 2)) = b; rw [o2, V.v_3]] at s1
      rw [c2, V.ab]
      exact s0.trans s1
    by_cases c3 : ot u = b
    · have s1 := st (L + 4) (memN _ (by unfold New6; omega))
      rw [show face ot nx' u = L + 4 by show nx' (ot u) = L + 4; rw [c3, V.v_b]] at s0
      rw [show face ot nx' (L + 4) = e by show nx' (ot (L + 4)) = e; rw [o4, V.v_5]] at s1
      rw [c3, V.be]
      exact s0.trans s1
    rw [show face ot nx' u = nx (ot u) by show nx' (ot u) = _; exact V.v_o _ hou c1 c2 c3] at s0
    exact s0
  · show Eqv _ (blowP e a b L y) y
    rcases mem_blowS.mp hy with hy' | hy'
    · rw [phS y hy']; exact .refl _
    · rcases hy' with h | h | h | h | h | h
      · subst h
        have s1 := st y hy
        rw [show face ot nx' y = a by show nx' (ot y) = a; rw [o0, V.v_1]] at s1
        rw [ph0]; exact s1.symm
      · rw [h, ph1] at hp; have := hL _ hp; omega
      · rw [h] at hy ⊢
        have s1 := st _ hy
        rw [show face ot nx' (L + 2) = b by show nx' (ot (L + 2)) = b; rw [o2, V.v_3]] at s1
        rw [ph2]; exact s1.symm
      · rw [h, ph3] at hp; have := hL _ hp; omega
      · rw [h] at hy ⊢
        have s1 := st _ hy
        rw [show face ot nx' (L + 4) = e by show nx' (ot (L + 4)) = e; rw [o4, V.v_5]] at s1
        rw [ph4]; exact s1.symm
      · rw [h, ph5] at hp; have := hL _ hp; omega
/-! ### a film turned -/
structure Turn (S : List Int) (nx nx' : Int → Int) (e o a b c d u v : Int) : Prop where
  F : Film S nx e o a b c d
  uv : (u = e ∧ v = o) ∨ (u = o ∧ v = e)
  tb : nx' b = c
  td : nx' d = a
  ta : nx' a = u
  tc : nx' c = v
  tu : nx' (ot u) = b
  tv : nx' (ot v) = d
  off : ∀ z ∈ S, ¬ Six e o a b c d z → nx' z = nx z
theorem turn_fold {S : List Int} {nx nx' : Int → Int} {e o a b c d u v : Int} (T : Turn S nx nx' e o a b c d u v) : Fold S (face ot nx) S (face ot nx') (fun z => if z = u then b else if z = v then d else z) (fun z => if z = e then c else if z = o then a else z) := by
  have F := T.F
  have M := F.M
  have nu : ∀ {z}, z ≠ e → z ≠ o → z ≠ u ∧ z ≠ v := fun {z} h1 h2 => by
    rcases T.uv with ⟨h, h'⟩ | ⟨h, h'⟩
    · rw [h, h']; exact ⟨h1, h2⟩
    · rw [h, h']; exact ⟨h2, h1⟩
  have un : ∀ {z}, z ≠ u → z ≠ v → z ≠ e ∧ z ≠ o := fun {z} h1 h2 => by
    rcases T.uv with ⟨h, h'⟩ | ⟨h, h'⟩
    · rw [h] at h1; rw [h'] at h2; exact ⟨h1, h2⟩
    · rw [h] at h1; rw [h'] at h2; exact ⟨h2, h1⟩
  have nuv : u ≠ v := by
    rcases T.uv with ⟨h, h'⟩ | ⟨h, h'⟩
    · rw [h, h']; exact F.n_eo
    · rw [h, h']; exact Ne.symm F.n_eo
  have uS : u ∈ S := by
    rcases T.uv with ⟨h, _⟩ | ⟨h, _⟩
    · rw [h]; exact F.he
    · rw [h]; exact F.ho
  have vS : v ∈ S := by
    rcases T.uv with ⟨_, h⟩ | ⟨_, h⟩
    · rw [h]; exact F.ho
    · rw [h]; exact F.he
  have ph : ∀ {z}, z ≠ e → z ≠ o → (if z = u then b else if z = v then d else z) = z := fun h1 h2 => by
    obtain ⟨h3, h4⟩ := nu h1 h2
    rw [if_neg h3, if_neg h4]
  have ps : ∀ {z}, z ≠ e → z ≠ o → (if z = e then c else if z = o then a else z) = z := fun h1 h2 => by rw [if_neg h1, if_neg h2]
  have st : ∀ z, z ∈ S → Eqv (fstep S (face ot nx)) z (nx (ot z)) := fun z hz => .step ⟨hz, rfl⟩
  have st' : ∀ z, z ∈ S → Eqv (fstep S (face ot nx')) z (nx' (ot z)) := fun z hz => .step ⟨hz, rfl⟩
  have ao := Ne.symm F.n_oa
  have ae := Ne.symm F.n_ea
  have bo := Ne.symm F.n_ob
  have be := Ne.symm F.n_eb
  have co := Ne.symm F.n_oc
  have ce := Ne.symm F.n_ec
  have d_o := Ne.symm F.n_od
  have de := Ne.symm F.n_ed
  have se := st e F.he
  rw [F.eo, F.oc] at se
  have so := st o F.ho
  rw [F.oe, F.ea] at so
  -- an end whose other end is none of the six
  have other : ∀ z ∈ S, z ≠ e → z ≠ o → ot z ≠ a → ot z ≠ b → ot z ≠ c → ot z ≠ d → nx' (ot z) = nx (ot z) ∧ nx (ot z) ≠ e ∧ nx (ot z) ≠ o := fun z hz z1 z2 h1 h2 h3 h4 => by
    have hoz := M.ca z hz
    have h5 : ot z ≠ e := fun q => z2 (by rw [← ot_ot z, q, F.eo])
    have h6 : ot z ≠ o := fun q => z1 (by rw [← ot_ot z, q, F.oe])
    refine ⟨T.off _ hoz ?_, fun q => h2 (M.ninj hoz F.hb (q.trans F.be.symm)), fun q => h4 (M.ninj hoz F.hd (q.trans F.do_.symm))⟩
    rintro (q | q | q | q | q | q)
    · exact h5 q
    · exact h6 q
    · exact h1 q
    · exact h2 q
    · exact h3 q
    · exact h4 q
  refine ⟨fun z hz => ?_, fun z hz => ?_, fun y hy _ => ?_⟩
  · show Eqv _ (if z = u then b else if z = v then d else z) (if nx' (ot z) = u then b else if nx' (ot z) = v then d else nx' (ot z))
    by_cases z1 : z = u
    · rw [if_pos z1, z1, T.tu, ph be bo]; exact .refl _
    by_cases z2 : z = v
    · rw [if_neg z1, if_pos z2, z2, T.tv, ph de d_o]; exact .refl _
    obtain ⟨z3, z4⟩ := un z1 z2
    rw [if_neg z1, if_neg z2]
    have s0 := st z hz
    by_cases c1 : ot z = b
    · rw [c1, T.tb, ph ce co]
      rw [c1, F.be] at s0
      exact s0.trans se
    by_cases c2 : ot z = d
    · rw [c2, T.td, ph ae ao]
      rw [c2, F.do_] at s0
      exact s0.trans so
    by_cases c3 : ot z = a
    · rw [c3, T.ta, if_pos rfl]
      rw [c3, F.ab] at s0
      exact s0
    by_cases c4 : ot z = c
    · rw [c4, T.tc, if_neg (Ne.symm nuv), if_pos rfl]
      rw [c4, F.cd] at s0
      exact s0
    obtain ⟨q1, q2, q3⟩ := other z hz z3 z4 c3 c1 c4 c2
    rw [q1, ph q2 q3]
    exact s0
  · show Eqv _ (if z = e then c else if z = o then a else z) (if nx (ot z) = e then c else if nx (ot z) = o then a else nx (ot z))
    by_cases z1 : z = e
    · rw [if_pos z1, z1, F.eo, F.oc, ps ce co]; exact .refl _
    by_cases z2 : z = o
    · rw [if_neg z1, if_pos z2, z2, F.oe, F.ea, ps ae ao]; exact .refl _
    rw [if_neg z1, if_neg z2]
    have s0 := st' z hz
    by_cases c1 : ot z = b
    · rw [c1, F.be, if_pos rfl]
      rw [c1, T.tb] at s0
      exact s0
    by_cases c2 : ot z = d
    · rw [c2, F.do_, if_neg (Ne.symm F.n_eo), if_pos rfl]
      rw [c2, T.td] at s0
      exact s0
    by_cases c3 : ot z = a
    · rw [c3, F.ab, ps be bo]
      rw [c3, T.ta] at s0
      have s1 := st' u uS
      rw [T.tu] at s1
      exact s0.trans s1
    by_cases c4 : ot z = c
    · rw [c4, F.cd, ps de d_o]
      rw [c4, T.tc] at s0
      have s1 := st' v vS
      rw [T.tv] at s1
      exact s0.trans s1
    obtain ⟨q1, q2, q3⟩ := other z hz z1 z2 c3 c1 c4 c2
    rw [ps q2 q3, ← q1]
    exact s0
  · show Eqv _ (if (if y = u then b else if y = v then d else y) = e then c else if (if y = u then b else if y = v then d else y) = o then a else (if y = u then b else if y = v then d else y)) y
    by_cases z1 : y = u
    · rw [if_pos z1, ps be bo, z1]
      have s1 := st' u uS
      rw [T.tu] at s1
      exact s1.symm
    by_cases z2 : y = v
    · rw [if_neg z1, if_pos z2, ps de d_o, z2]
      have s1 := st' v vS
      rw [T.tv] at s1
      exact s1.symm
    obtain ⟨z3, z4⟩ := un z1 z2
    rw [if_neg z1, if_neg z2, ps z3 z4]
    exact .refl _
theorem push_turn {S : List Int} {nx : Int → Int} {e o a b c d : Int} (F : Film S nx e o a b c d) : Turn S nx (pushF nx e) e o a b c d o e := by
  obtain ⟨⟨v1, v2, v3, v4, v5, v6⟩, vo⟩ := push_vals F
  exact ⟨F, .inr ⟨rfl, rfl⟩, v2, v5, v6, v3, by rw [F.oe]; exact v1, by rw [F.eo]; exact v4, fun z _ h => vo z h⟩
theorem pull_turn {S : List Int} {nx : Int → Int} {e o a b c d : Int} (F : Film S nx e o a b c d) : Turn S nx (pullF nx e) e o a b c d e o := by
  obtain ⟨⟨v1, v2, v3, v4, v5, v6⟩, vo⟩ := pull_vals F
  exact ⟨F, .inl ⟨rfl, rfl⟩, v5, v2, v3, v6, by rw [F.eo]; exact v4, by rw [F.oe]; exact v1, fun z _ h => vo z h⟩
/-! Wt: labels of rims, and tallies by them. -/
theorem r_dget2 {σ : St} {H : Hp} {Q : VK} {td ty tx : TE} (h : td σ H fun x H1 => ∃ a, x = .ref a ∧ IsD H1 a ∧ ty σ H1 fun y H2 => tx σ H2 fun z H3 => ∃ o, DGet H3 a y o ∧ Q (o.getD z) H3) : tDGet2 td ty tx σ H Q := h
/-! ### label -/
def lbF (ls : List (List Int)) (z : Int) : Int := ((ls.find? fun l => decide (z ∈ l)).getD []).headD 0
structure Lab (S : List Int) (nx : Int → Int) (lb : Int → Int) : Prop where
  iff : ∀ x ∈ S, ∀ y ∈ S, lb x = lb y ↔ Rim S nx x y
  eq : ∃ es, Srt S es ∧ lb = lbF (rimsG (face ot nx) es [])
theorem Lab.one {S S' : List Int} {nx lb lb' : Int → Int} (h : Lab S nx lb) (h' : Lab S' nx lb') (p : S.Perm S') : lb = lb' := by
  obtain ⟨es, hs, rfl⟩ := h.eq
  obtain ⟨es', hs', rfl⟩ := h'.eq
  rw [hs.of hs' p]
/-! _law_label: slots _law_web_here, _law_found, _law_one, _law_end -/
/-! ### tallies -/
/-! Wu: neighbours. -/
/-! least_ends: slots web, found, one, end -/
/-! ### a comprehension that makes new things -/
/-! ### the tally over a rim's further sides -/
structure Rows (w : Int → Int) (L ks : List Int) : Prop where
  le : ks.Pairwise (· ≤ ·)
  nd : ks.Nodup
  mem : ∀ l, l ∈ ks ↔ ∃ y ∈ L, w y = l
theorem Rows.one {w : Int → Int} {L ks ks' : List Int} (h : Rows w L ks) (h' : Rows w L ks') : ks = ks' :=
  sorted_eq ((List.perm_ext_iff_of_nodup h.nd h'.nd).mpr fun l => (h.mem l).trans (h'.mem l).symm) h.le h'.le
/-! neighbours: slots web, end, least, many, at, beyond -/
/-! ### labels -/
/-! PartT: the two pieces of a parted bubble. -/
/-! MendT: how long rims are behind a burst. -/
noncomputable def mendP (nx : Int → Int) (t x y g : Int) : Int → Int := fun z => if z = y then nx g else if z = g then x else if z = t then (if nx t = x then x else nx g) else z
theorem mend_fold {S : List Int} {al nx : Int → Int} {t x y g : Int} (D : Mend S al nx t x y g) : Fold S (face al nx) (mendS S t y g) (face al (mendN nx x g)) id (mendP nx t x y g) := by
  have M := D.M
  have F := D.facts
  have M' := mend_map D
  have ag : al g = y := by rw [← D.yg]; exact M.aa y D.hy
  have st : ∀ z, z ∈ S → Eqv (fstep S (face al nx)) z (nx (al z)) := fun z hz => .step ⟨hz, rfl⟩
  have st' : ∀ z, z ∈ mendS S t y g → Eqv (fstep (mendS S t y g) (face al (mendN nx x g))) z (mendN nx x g (al z)) := fun z hz => .step ⟨hz, rfl⟩
  have sy := st y D.hy
  rw [D.yg] at sy
  have sg := st g F.hg
  rw [ag] at sg
  have stt := st t D.ht
  rw [D.tt] at stt
  have gx := D.gx
  have gy := D.gy
  have Py : mendP nx t x y g y = nx g := by unfold mendP; rw [if_pos rfl]
  have Pg : mendP nx t x y g g = x := by unfold mendP; rw [if_neg gy, if_pos rfl]
  have Pt : mendP nx t x y g t = if nx t = x then x else nx g := by unfold mendP; rw [if_neg F.ty, if_neg (Ne.symm F.gt), if_pos rfl]
  have Po : ∀ {z}, z ≠ t → z ≠ y → z ≠ g → mendP nx t x y g z = z := fun h1 h2 h3 => by unfold mendP; rw [if_neg h2, if_neg h3, if_neg h1]
  refine ⟨fun u hu => ?_, fun u hu => ?_, fun z hz _ => ?_⟩
  · show Eqv _ u (mendN nx x g (al u))
    have huS := (mem_mendS.mp hu).1
    have s0 := st u huS
    by_cases c1 : al u = x
    · rw [c1, mendN_x]
      rw [c1] at s0
      rcases D.cor with ⟨h1, h2, h3⟩ | ⟨h1, h2, h3⟩
      · rw [h2] at s0
        exact s0.trans sy
      · rw [h3] at s0
        rw [h1] at stt
        exact (s0.trans stt).trans sy
    by_cases c2 : nx (al u) = g
    · rw [mendN_q c1 c2]
      rw [c2] at s0
      rcases D.cor with ⟨h1, h2, h3⟩ | ⟨h1, h2, h3⟩
      · rw [h3] at sg
        rw [h1] at stt
        exact (s0.trans sg).trans stt
      · rw [h2] at sg
        exact s0.trans sg
    rw [mendN_o c1 c2]
    exact s0
  · show Eqv _ (mendP nx t x y g u) (mendP nx t x y g (nx (al u)))
    by_cases u1 : u = y
    · rw [u1, D.yg, Py, Po F.pt F.py F.pg]; exact .refl _
    by_cases u2 : u = g
    · rw [u2, ag, Pg]
      rcases D.cor with ⟨h1, h2, h3⟩ | ⟨h1, h2, h3⟩
      · rw [h3, Pt, if_pos h1]; exact .refl _
      · rw [h2, Po (Ne.symm F.tx) F.xy (Ne.symm gx)]; exact .refl _
    by_cases u3 : u = t
    · rw [u3, D.tt, Pt]
      rcases D.cor with ⟨h1, h2, h3⟩ | ⟨h1, h2, h3⟩
      · rw [if_pos h1, h1, Po (Ne.symm F.tx) F.xy (Ne.symm gx)]; exact .refl _
      · rw [if_neg (by rw [h1]; exact Ne.symm F.xy), h1, Py]; exact .refl _
    have hu' : u ∈ mendS S t y g := mem_mendS.mpr ⟨hu, u3, u1, u2⟩
    have hw := mem_mendS.mp (M'.ca u hu')
    rw [Po u3 u1 u2]
    have s0 := st' u hu'
    by_cases c1 : al u = x
    · rw [c1, mendN_x] at s0
      rw [c1]
      rcases D.cor with ⟨h1, h2, h3⟩ | ⟨h1, h2, h3⟩
      · rw [h2, Py]; exact s0
      · rw [h3, Pt, if_neg (by rw [h1]; exact Ne.symm F.xy)]; exact s0
    by_cases c2 : nx (al u) = g
    · rw [mendN_q c1 c2] at s0
      rw [c2, Pg]
      exact s0
    rw [mendN_o c1 c2] at s0
    have hwS := M.ca u hu
    have e1 : nx (al u) ≠ t := fun z => by
      rcases D.cor with ⟨h1, h2, h3⟩ | ⟨h1, h2, h3⟩
      · exact hw.2.2.1 (M.ninj hwS D.hy (z.trans h3.symm))
      · exact c1 (M.ninj hwS F.hx (z.trans h3.symm))
    have e2 : nx (al u) ≠ y := fun z => by
      rcases D.cor with ⟨h1, h2, h3⟩ | ⟨h1, h2, h3⟩
      · exact c1 (M.ninj hwS F.hx (z.trans h2.symm))
      · exact hw.2.1 (M.ninj hwS D.ht (z.trans h1.symm))
    rw [Po e1 e2 c2]
    exact s0
  · show Eqv _ (mendP nx t x y g z) z
    obtain ⟨_, h1, h2, h3⟩ := mem_mendS.mp hz
    rw [Po h1 h2 h3]
    exact .refl _
theorem mend_iff {S : List Int} {al nx : Int → Int} {t x y g : Int} (D : Mend S al nx t x y g) {u v : Int} (hu : u ∈ mendS S t y g) (hv : v ∈ mendS S t y g) : Eqv (fstep (mendS S t y g) (face al (mendN nx x g))) u v ↔ Eqv (fstep S (face al nx)) u v := by
  obtain ⟨h, h1, h2, h3⟩ := mem_mendS.mp hu
  have := (mend_fold D).iff (x := u) (y := v) D.M.perm h (.refl _) (by unfold mendP; rw [if_neg h2, if_neg h3, if_neg h1]; exact .refl _) hv
  exact this
/-! ### both bubbles of a film as one -/
theorem cut_rel {S : List Int} {nx : Int → Int} {e : Int} (M : Map S ot nx) (he : e ∈ S) (hr : ¬ Rim S nx e (ot e)) {x y : Int} :
    Eqv (fstep S (face (cutA ot e (ot e)) nx)) x y ↔ Rim S nx x y ∨ ((Rim S nx x e ∨ Rim S nx x (ot e)) ∧ (Rim S nx y e ∨ Rim S nx y (ot e))) := by
  have ho := M.ca e he
  rw [cut_face (nx := nx) (al := ot) rfl (ot_ot e)]
  have Pm := M.perm
  have j := swap_join Pm he ho hr
  have p1 : ∀ {x y}, Eqv (fstep S (swapF (face ot nx) e (ot e))) x y ↔ Eqv (plusPair (fstep S (face ot nx)) e (ot e)) x y := fun {x y} => by
    rw [swap_pair (f := face ot nx) he ho]
    constructor
    · exact Eqv.mono fun u v q => .step (.inl q)
    · exact Eqv.mono fun u v q => q.elim (fun q => .step q) fun ⟨q1, q2⟩ => by rw [q1, q2]; exact j
  rw [p1]
  constructor
  · exact eqv_pair
  · have up : ∀ {u v}, Rim S nx u v → Eqv (plusPair (fstep S (face ot nx)) e (ot e)) u v := fun h => Eqv.mono (fun u v q => .step (.inl q)) h
    have eo : Eqv (plusPair (fstep S (face ot nx)) e (ot e)) e (ot e) := .step (.inr ⟨rfl, rfl⟩)
    rintro (h | ⟨h1, h2⟩)
    · exact up h
    · have a1 : Eqv (plusPair (fstep S (face ot nx)) e (ot e)) x e := h1.elim (fun q => up q) (fun q => (up q).trans eo.symm)
      have a2 : Eqv (plusPair (fstep S (face ot nx)) e (ot e)) y e := h2.elim (fun q => up q) (fun q => (up q).trans eo.symm)
      exact a1.trans a2.symm
/-! ### hours_left -/
def hl (a b s : Int) : Int × Int := if a = 0 then (0, 1) else amt a (b * (6 - s))
/-! hours_left: slots gas, sides -/
/-! ### ahead: a pair of hours and a name -/
def aheadB (x y n z w m : Int) : Bool := decide (x * w < z * y) || (decide (x = z ∧ y = w) && decide (n < m))
/-! ahead: slots one, two -/
theorem decide_int (a b : Int) : decide (V.int a = V.int b) = decide (a = b) := by
  by_cases h : a = b
  · subst h; simp
  · rw [decide_eq_false h, decide_eq_false (fun e => h (by injection e))]
/-! ### first_to_go -/
structure Rw where
  name : Int
  a : Int
  b : Int
  sides : Int
structure RowAt (K : PySem.W.Frag) (H : Hp) (v : V) (r : Rw) : Prop where
  ex : ∃ t g, v = .ref t ∧ SqT K H t [.int r.name, .ref g, .int r.sides] ∧ SqT K H g [.int r.a, .int r.b]
theorem RowAt.up {K : PySem.W.Frag} {H H' : Hp} {v : V} {r : Rw} (s : Same H H') (h : RowAt K H v r) : RowAt K H' v r := by
  obtain ⟨t, g, e, h1, h2⟩ := h.ex
  exact ⟨t, g, e, same_tup s h1, same_tup s h2⟩
abbrev Go := Option (Int × Int × Int)
def goes (r : Rw) : Bool := decide (r.a = 0) || decide (r.sides < 6)
def goPick (x y n : Int) : Go → Go
  | none => some (x, y, n)
  | some (z, w, m) => if aheadB x y n z w m = true then some (x, y, n) else some (z, w, m)
theorem goPick_yes {x y n z w m : Int} (h : aheadB x y n z w m = true) : goPick x y n (some (z, w, m)) = some (x, y, n) := if_pos h
theorem goPick_no {x y n z w m : Int} (h : aheadB x y n z w m = false) : goPick x y n (some (z, w, m)) = some (z, w, m) := if_neg (by rw [h]; exact Bool.false_ne_true)
def goStep (f : Go) (r : Rw) : Go := if goes r = true then goPick (hl r.a r.b r.sides).1 (hl r.a r.b r.sides).2 r.name f else f
def firstGo (rs : List Rw) : Go := rs.foldl goStep none
/-- what stands for such a pair or None; the tuples are tracked -/
def GoAt (K : PySem.W.Frag) (H : Hp) (v : V) : Go → Prop
  | none => v = .non
  | some (x, y, n) => ∃ t h, v = .ref t ∧ H t = some (.tup [.ref h, .int n]) ∧ H h = some (.tup [.int x, .int y]) ∧ Low x y ∧ x.natAbs < 2 ^ 3950 ∧ y.natAbs < 2 ^ 3950
theorem GoAt.up {K : PySem.W.Frag} {H H' : Hp} {v : V} (s : Same H H') : ∀ {f : Go}, GoAt K H v f → GoAt K H' v f
  | none, h => h
  | some (x, y, n), h => by
    obtain ⟨t, a, e, h1, h2, r⟩ := h
    exact ⟨t, a, e, s _ _ h1, s _ _ h2, r⟩
/-! first_to_go: slots rows, found, name, gas, sides, going -/
/-! Fo: own classes: methods, making, tables of defs. -/
/-- a method as it stands -/
def MtIs (K : PySem.W.Frag) (C : Addr) (m q : Str) (st : Stmt) (ps : List Str) : Prop := ∃ (f : Addr) (fd : FuncData), Meth K C m f ∧ Fun K m q st f fd ∧ Binds K fd ps []
def Dm (P : Program) (w : World) (K : PySem.W.Frag) (mg : Str → Option Value) (base : Heap) (CX : CXT) (C : Addr) (m : Str) (k : Nat) (ps : List Str) (sp : Sp) : Prop :=
  ∃ (f : Addr) (fd : FuncData), L2.Cls K C ∧ Meth K C m f ∧ Binds K fd ps [] ∧ FnOk P w K mg base CX k f fd ps sp
section
variable {P : Program} {w : World} {K : PySem.W.Frag} {mg : Str → Option Value} {base : Heap} {C : Addr} {m q : Str} {st : Stmt} {N ps : List Str} {k : Nat} {sp : Sp}
theorem Dm.of (c : L2.Cls K C) (F : MtIs K C m q st ps) (S : FnScope N ps (defScope st)) (len : ∀ vs H Q E, sp vs H Q E → vs.length = ps.length)
    (hbody : ∀ (f : Addr) (cdv : Value) (A : Around) (outer : List Env) (s : Shared) (H : Hp) (vs : List V) (Q : VK) (E : XK), Room k (A.deeper (PyProof.Rows.envOfC q (defScope st) s.heap.objs.size f cdv)) → sp vs H Q E →
      ∃ t, PSs (cxOf CX0 P w K mg base N q (defScope st) f cdv A outer s H E).nox (defBody st) t ∧ t ⟨fun _ H' => Q .non H', Q, fun _ _ => False, fun _ _ => False⟩ (start N vs) H) : Dm P w K mg base CX0 C m (k + 1) ps sp := by
  obtain ⟨f, fd, hm, hf, hb⟩ := F
  exact ⟨f, fd, c, hm, hb, hf.ok S len fun cdv A outer s H vs Q E hr h => hbody f cdv A outer s H vs Q E hr h⟩
end
section
variable {X : Cx} {CX : CXT} {j k : Nat} {C : Addr} {ps : List Str} {sp : Sp} {E : XK} {ES : St → XK} {x m : Str} {p pos apos : Pos} {e o : Expr} {es : List Expr} {ta : TE} {t : TA}
/-- .. in a try -/
def tMethT (C : Addr) (m : Str) (sp : Sp) (E : St → XK) (ta : TE) (t : TA) : TE := fun σ H Q => ta σ H fun x H1 => ∃ a dx fs, x = .ref a ∧ H1 a = some (.ins C dx fs) ∧ fs.lookup m = none ∧ t σ H1 fun vs H2 => sp (x :: vs) H2 Q (E σ)
end
/-! ### a table of defs -/
/-! ### readings, step by step -/
def rFld (K : PySem.W.Frag) (f : Str) : V → Hp → VK → Prop := fun x H Q => ∃ a C dx fs v, x = .ref a ∧ H a = some (.ins C dx fs) ∧ L2.Cls K C ∧ NoAttr K C f ∧ fs.lookup f = some v ∧ Q v H
section
variable {σ : St} {H : Hp} {Q : VK} {nx bk ct : St → Hp → Prop} {rt : VK} {K : PySem.W.Frag} {ta tv : TE} {f m : Str} {C : Addr} {sp : Sp} {E : XK} {t : TA}
theorem r_fldS (h : ta σ H fun x H1 => rFld K f x H1 Q) : tFld K ta f σ H Q := h
def rSFld (K : PySem.W.Frag) (f : Str) : V → V → Hp → (Hp → Prop) → Prop := fun x y H N => ∃ a C dx fs, x = .ref a ∧ H a = some (.ins C dx fs) ∧ L2.Cls K C ∧ NoAttr K C f ∧ fs.length < 1000 ∧ N (upd H a (.ins C dx (putF f y fs)))
theorem r_sfldS (h : tv σ H fun y H1 => ta σ H1 fun x H2 => rSFld K f x y H2 fun H3 => nx σ H3) : sFld K ta tv f ⟨nx, rt, bk, ct⟩ σ H := h
theorem r_meth (h : ta σ H fun x H1 => ∃ a dx fs, x = .ref a ∧ H1 a = some (.ins C dx fs) ∧ fs.lookup m = none ∧ t σ H1 fun vs H2 => sp (x :: vs) H2 Q E) : tMeth C m sp [] E ta t σ H Q := by
  unfold tMeth
  have e : ∀ x : V, (fun (vs : List V) (H2 : Hp) => sp (x :: (vs ++ [])) H2 Q E) = fun vs H2 => sp (x :: vs) H2 Q E := fun x => by
    funext vs H2
    rw [List.append_nil]
  simp only [e]
  exact h
theorem r_methT {ES : St → XK} (h : ta σ H fun x H1 => ∃ a dx fs, x = .ref a ∧ H1 a = some (.ins C dx fs) ∧ fs.lookup m = none ∧ t σ H1 fun vs H2 => sp (x :: vs) H2 Q (ES σ)) : tMethT C m sp ES ta t σ H Q := h
theorem r_methA {a dx : Addr} {fs : List (Str × V)} {B : Prop} (hx : H a = some (.ins C dx fs)) (hl : fs.lookup m = none) (h : B) : ∃ a' dx fs, V.ref a = .ref a' ∧ H a' = some (.ins C dx fs) ∧ fs.lookup m = none ∧ B := ⟨a, dx, fs, rfl, hx, hl, h⟩
end
/-! Hd: what the head's facts give the walks. -/
section
variable {K : PySem.W.Frag} {h : Heap} {mg : Str → Option Value} {x q m : Str} {st : Stmt} {f : Addr} {fd : FuncData} {ps : List Str}
theorem fun_ofD (F : L2.FunD K x q (defArgs st) (defBody st) (defScope st) [] [] f fd) : Fun K x q st f fd := by
  obtain ⟨oc, od, dV, kV, doc, pm, an, cdv, ct, osl, rfl, lk, hcd, hD, hK⟩ := F.ex
  rcases hD with ⟨_, rfl⟩ | ⟨e, _⟩
  · exact ⟨⟨oc, od, kV, doc, pm, an, cdv, ct, osl, rfl, lk, hcd⟩, F.kp⟩
  · exact absurd rfl e
theorem fnis_ofD (X : K.In h) (G : h.Ns mainGlobals mg) (g : (He.Fa.glo x).ok K = true) (F : ∃ fd, L2.FunD K x x (defArgs st) (defBody st) (defScope st) [] [] (He.ga K x) fd)
    (hb : ∀ (kV doc pm : Value) (an : Option Addr) (cdv ct : Value) (us : List Value), us.length = ps.length → bindArgs (PySem.W.fnOf x x (defArgs st) (defBody st) (defScope st) .none kV doc pm an cdv ct) ⟨us, []⟩ = pure (ps.zip us)) : FnIs K mg x st ps := by
  obtain ⟨fd, F⟩ := F
  exact ⟨_, fd, He.glo_ok X G g, fun_ofD F, F.bindsN hb⟩
theorem law_ofD {fa : Addr} (X : K.In h) (G : h.Ns mainGlobals mg) (hfa : mg x = some (.ref fa)) (g : (He.Fa.glo x).ok K = true) (F : ∃ fd, L2.FunD K x x (defArgs st) (defBody st) (defScope st) [] [] (He.ga K x) fd) :
    ∃ (od an : Option Addr) (sl : Array (Option Value)) (oc kV dc pm cd ct : Value), K.lookup (He.ga K x) = some ⟨oc, od, .func (PySem.W.fnOf x x (defArgs st) (defBody st) (defScope st) .none kV dc pm an cd ct), sl⟩ ∧ PySem.W.codeIn K cd x = true ∧ PySem.W.keepIn K (.ref (He.ga K x)) = true := by
  obtain ⟨fd, F⟩ := F
  obtain ⟨⟨oc, od, kV, doc, pm, an, cdv, ct, osl, rfl, lk, hcd⟩, kp⟩ := fun_ofD F
  exact ⟨od, an, osl, oc, kV, doc, pm, cdv, ct, lk, hcd, kp⟩
end
/-! Rt: amounts as rational numbers. -/
abbrev am (q : Rat) : HO := .tup [.int q.num, .int (q.den : Int)]
theorem rat_mul_den (q : Rat) : q * (q.den : Int) = (q.num : Int) := by
  have h := Rat.num_divInt_den q
  rw [Rat.divInt_eq_div] at h
  have hd : ((q.den : Int) : Rat) ≠ 0 := by
    intro z
    have := (Rat.intCast_eq_zero_iff).mp z
    have := q.den_nz
    omega
  have := Rat.div_mul_cancel (a := (q.num : Rat)) hd
  rw [h] at this
  exact this
theorem rat_mk {p r : Int} (h1 : 1 ≤ r) (hg : Nat.gcd p.natAbs r.natAbs = 1) : ∃ q : Rat, q.num = p ∧ (q.den : Int) = r :=
  ⟨⟨p, r.natAbs, by omega, hg⟩, rfl, by show ((r.natAbs : Nat) : Int) = r; omega⟩
theorem ic_ne {d : Int} (h : d ≠ 0) : (d : Rat) ≠ 0 := fun z => h (Rat.intCast_eq_zero_iff.mp z)
theorem rat_cancel {a b c : Rat} (hc : c ≠ 0) (h : a * c = b * c) : a = b := by
  have e1 := Rat.mul_div_cancel (a := a) hc
  have e2 := Rat.mul_div_cancel (a := b) hc
  rw [← e1, ← e2, h]
theorem amt_eq {n d : Int} {q : Rat} (hd : d ≠ 0) (h : q * (d : Rat) = (n : Rat)) : amt n d = (q.num, (q.den : Int)) := by
  obtain ⟨h1, h2, h3⟩ := amt_spec (num := n) hd
  obtain ⟨q', e1, e2⟩ := rat_mk h1 h2
  have k := rat_mul_den q'
  rw [e1, e2] at k
  have hr : (((amt n d).2 : Int) : Rat) ≠ 0 := ic_ne (by omega)
  have e : q' = q := by
    refine rat_cancel (ic_ne hd) (rat_cancel hr ?_)
    rw [h]
    have e3 : ((((amt n d).1 * d : Int)) : Rat) = ((n * (amt n d).2 : Int) : Rat) := by rw [h3]
    rw [Rat.intCast_mul, Rat.intCast_mul] at e3
    rw [Rat.mul_assoc, Rat.mul_comm (d : Rat), ← Rat.mul_assoc, k]
    exact e3
  rw [← e]
  exact Prod.ext e1.symm e2.symm
theorem den_ne (q : Rat) : (q.den : Int) ≠ 0 := by have := q.den_nz; omega
theorem rat_lt (q r : Rat) : (q.num * (r.den : Int) < r.num * (q.den : Int)) ↔ q < r := by
  rw [Rat.lt_iff]
theorem rat_eq (q r : Rat) : (q.num = r.num ∧ (q.den : Int) = (r.den : Int)) ↔ q = r :=
  ⟨fun h => Rat.ext h.1 (by omega), fun h => by rw [h]; exact ⟨rfl, rfl⟩⟩
/-! ### how great they become -/
/-- parted by D it is a whole number; not beyond M -/
structure Bd (D M : Nat) (q : Rat) : Prop where
  i : ∃ a : Int, q * ((D : Int) : Rat) = (a : Rat)
  lo : -((M : Int) : Rat) ≤ q
  hi : q ≤ ((M : Int) : Rat)
theorem Bd.mul {D M : Nat} {q : Rat} (h : Bd D M q) (k : Nat) : Bd (D * k) M q := by
  obtain ⟨a, ha⟩ := h.i
  refine ⟨⟨a * (k : Int), ?_⟩, h.lo, h.hi⟩
  rw [Int.natCast_mul, Rat.intCast_mul, Rat.intCast_mul, ← Rat.mul_assoc, ha]
theorem Bd.up {D M N : Nat} {q : Rat} (h : Bd D M q) (k : M ≤ N) : Bd D N q := by
  have e : ((M : Int) : Rat) ≤ ((N : Int) : Rat) := Rat.intCast_le_intCast.mpr (by omega)
  exact ⟨h.i, by have := h.lo; grind, by have := h.hi; grind⟩
theorem Bd.add {D M N : Nat} {q r : Rat} (h : Bd D M q) (g : Bd D N r) : Bd D (M + N) (q + r) := by
  obtain ⟨a, ha⟩ := h.i
  obtain ⟨b, hb⟩ := g.i
  have e : (((M + N : Nat) : Int) : Rat) = ((M : Int) : Rat) + ((N : Int) : Rat) := by rw [Int.natCast_add, Rat.intCast_add]
  refine ⟨⟨a + b, by rw [Rat.intCast_add, ← ha, ← hb]; grind⟩, ?_, ?_⟩
  · have := h.lo; have := g.lo; grind
  · have := h.hi; have := g.hi; grind
theorem Bd.neg {D M : Nat} {q : Rat} (h : Bd D M q) : Bd D M (-q) := by
  obtain ⟨a, ha⟩ := h.i
  refine ⟨⟨-a, by rw [Rat.intCast_neg, ← ha]; grind⟩, ?_, ?_⟩
  · have := h.hi; grind
  · have := h.lo; grind
theorem Bd.sub {D M N : Nat} {q r : Rat} (h : Bd D M q) (g : Bd D N r) : Bd D (M + N) (q - r) := by
  rw [Rat.sub_eq_add_neg]
  exact h.add g.neg
theorem Bd.times {D M : Nat} {q : Rat} (h : Bd D M q) (m : Int) {N : Nat} (hm : M * m.natAbs ≤ N) : Bd D N (q * m) := by
  obtain ⟨a, ha⟩ := h.i
  have l := h.lo
  have u := h.hi
  have key : -((N : Int) : Rat) ≤ q * m ∧ q * m ≤ ((N : Int) : Rat) := by
    have e1 : (((M * m.natAbs : Nat) : Int) : Rat) ≤ ((N : Int) : Rat) := Rat.intCast_le_intCast.mpr (by omega)
    rw [Int.natCast_mul, Rat.intCast_mul] at e1
    rcases Int.le_total 0 m with c | c
    · have p : (0 : Rat) ≤ ((m : Int) : Rat) := Rat.intCast_nonneg.mpr c
      have e2 : ((m.natAbs : Nat) : Int) = m := by omega
      rw [e2] at e1
      have u1 := Rat.mul_le_mul_of_nonneg_right u p
      have v1 := Rat.mul_le_mul_of_nonneg_right l p
      grind
    · have p : (0 : Rat) ≤ (((-m : Int)) : Rat) := Rat.intCast_nonneg.mpr (by omega)
      have e2 : ((m.natAbs : Nat) : Int) = -m := by omega
      rw [e2] at e1
      have u1 := Rat.mul_le_mul_of_nonneg_right u p
      have v1 := Rat.mul_le_mul_of_nonneg_right l p
      rw [Rat.intCast_neg] at u1 v1 e1
      grind
  refine ⟨⟨a * m, by rw [Rat.intCast_mul, ← ha]; grind⟩, key.1, key.2⟩
theorem Bd.zero {D M : Nat} : Bd D M 0 := ⟨⟨0, by rw [Rat.zero_mul]; rfl⟩, by have : (0 : Rat) ≤ ((M : Int) : Rat) := Rat.intCast_nonneg.mpr (by omega); grind, Rat.intCast_nonneg.mpr (by omega)⟩
theorem Bd.int {D : Nat} (n : Int) : Bd D n.natAbs (n : Rat) := ⟨⟨n * D, by rw [Rat.intCast_mul]⟩, by rw [← Rat.intCast_neg, Rat.intCast_le_intCast]; omega, Rat.intCast_le_intCast.mpr (by omega)⟩
/-! Fa: a froth in the heap. -/
def fl (e n g l m r : Addr) (a b : Int) : List (Str × V) := [("ends", .ref e), ("names", .ref n), ("gases", .ref g), ("ledgers", .ref l), ("moment", .ref m), ("rows", .ref r), ("name_count", .int a), ("film_count", .int b)]
section
variable {e n g l m r p : Addr} {a b c : Int}
theorem fl_ends : (fl e n g l m r a b).lookup ("ends" : Str) = some (.ref e) := by rfl
theorem fl_names : (fl e n g l m r a b).lookup ("names" : Str) = some (.ref n) := by rfl
theorem fl_gases : (fl e n g l m r a b).lookup ("gases" : Str) = some (.ref g) := by rfl
theorem fl_ledgers : (fl e n g l m r a b).lookup ("ledgers" : Str) = some (.ref l) := by rfl
theorem fl_moment : (fl e n g l m r a b).lookup ("moment" : Str) = some (.ref m) := by rfl
theorem fl_rows : (fl e n g l m r a b).lookup ("rows" : Str) = some (.ref r) := by rfl
theorem fl_name_count : (fl e n g l m r a b).lookup ("name_count" : Str) = some (.int a) := by rfl
theorem fl_film_count : (fl e n g l m r a b).lookup ("film_count" : Str) = some (.int b) := by rfl
theorem pf_ends : putF ("ends" : Str) (.ref p) (fl e n g l m r a b) = fl p n g l m r a b := by rfl
theorem pf_names : putF ("names" : Str) (.ref p) (fl e n g l m r a b) = fl e p g l m r a b := by rfl
theorem pf_moment : putF ("moment" : Str) (.ref p) (fl e n g l m r a b) = fl e n g l p r a b := by rfl
end
/-- what the text says of the class -/
structure FrT (G : Gx) : Prop where
  cl : L2.Cls G.K (G.ad "Froth")
  ends : NoAttr G.K (G.ad "Froth") "ends"
  names : NoAttr G.K (G.ad "Froth") "names"
  gases : NoAttr G.K (G.ad "Froth") "gases"
  ledgers : NoAttr G.K (G.ad "Froth") "ledgers"
  moment : NoAttr G.K (G.ad "Froth") "moment"
  rows : NoAttr G.K (G.ad "Froth") "rows"
  name_count : NoAttr G.K (G.ad "Froth") "name_count"
  film_count : NoAttr G.K (G.ad "Froth") "film_count"
/-! ### the data -/
structure LRow where
  hour : Rat
  gas : Rat
  sides : Int
structure BRow where
  hour : Rat
  word : Str
  args : List Int
structure Fr where
  S : List Int
  nx : Int → Int
  N : List Int
  nm : Int → Int
  g : List Int
  gs : Int → Rat
  l : List Int
  lg : Int → List LRow
  mo : Rat
  bk : List BRow
  nc : Int
  fc : Int
/-- where it stands -/
structure FA where
  dx : Addr
  e : Addr
  n : Addr
  g : Addr
  l : Addr
  m : Addr
  r : Addr
  ga : Int → Addr
  la : Int → Addr
  lr : Int → List Addr
  rr : List Addr
def LRowAt (H : Hp) (a : Addr) (r : LRow) : Prop := ∃ h g, H a = some (.tup [.ref h, .ref g, .int r.sides]) ∧ H h = some (am r.hour) ∧ H g = some (am r.gas)
def BRowAt (H : Hp) (a : Addr) (r : BRow) : Prop := ∃ h, H a = some (.tup (.ref h :: .str r.word :: r.args.map V.int)) ∧ H h = some (am r.hour)
inductive All2 {α β : Type} (P : α → β → Prop) : List α → List β → Prop
  | nil : All2 P [] []
  | cons {a : α} {b : β} {as : List α} {bs : List β} (h : P a b) (r : All2 P as bs) : All2 P (a :: as) (b :: bs)
section
variable {α β : Type} {P Q : α → β → Prop} {as : List α} {bs : List β}
theorem All2.imp (h : All2 P as bs) (k : ∀ a b, a ∈ as → P a b → Q a b) : All2 Q as bs := by
  induction h with
  | nil => exact .nil
  | cons h r ih => exact .cons (k _ _ List.mem_cons_self h) (ih fun a b ha => k a b (List.mem_cons_of_mem _ ha))
theorem All2.len (h : All2 P as bs) : as.length = bs.length := by
  induction h with
  | nil => rfl
  | cons h r ih => rw [List.length_cons, List.length_cons, ih]
theorem All2.snoc {a : α} {b : β} (h : All2 P as bs) (e : P a b) : All2 P (as ++ [a]) (bs ++ [b]) := by
  induction h with
  | nil => exact .cons e .nil
  | cons h r ih => exact .cons h ih
theorem All2.get (h : All2 P as bs) {i : Nat} {a : α} (e : as[i]? = some a) : ∃ b, bs[i]? = some b ∧ P a b := by
  induction h generalizing i with
  | nil => cases e
  | cons h r ih =>
    cases i with
    | zero => cases e; exact ⟨_, rfl, h⟩
    | succ i => exact ih e
end
/-- tuples stay -/
def TK (H H' : Hp) : Prop := ∀ b xs, H b = some (.tup xs) → H' b = some (.tup xs)
def Imm : HO → Prop
  | .tup _ => True
  | _ => False
section
variable {H H' H2 : Hp} {p : Addr} {o u : HO}
theorem TK.refl : TK H H := fun _ _ h => h
theorem TK.trans (h : TK H H') (k : TK H' H2) : TK H H2 := fun b xs e => k b xs (h b xs e)
theorem tk_same (s : Same H H') : TK H H' := fun b xs e => s b _ e
theorem tk_upd (h : H p = some u) (hu : ¬ Imm u) : TK H (upd H p o) := fun b xs e => at_ne e fun z => by rw [z, h] at e; cases e; exact hu trivial
theorem LRowAt.tk {a : Addr} {r : LRow} (k : TK H H') (h : LRowAt H a r) : LRowAt H' a r := by
  obtain ⟨x, y, e1, e2, e3⟩ := h
  exact ⟨x, y, k _ _ e1, k _ _ e2, k _ _ e3⟩
theorem BRowAt.tk {a : Addr} {r : BRow} (k : TK H H') (h : BRowAt H a r) : BRowAt H' a r := by
  obtain ⟨x, e1, e2⟩ := h
  exact ⟨x, k _ _ e1, k _ _ e2⟩
end
def insO (G : Gx) (A : FA) (F : Fr) : HO := .ins (G.ad "Froth") A.dx (fl A.e A.n A.g A.l A.m A.r F.nc F.fc)
structure FAt (G : Gx) (H : Hp) (x : Addr) (A : FA) (F : Fr) : Prop where
  t : FrT G
  ins : H x = some (insO G A F)
  ends : H A.e = some (dW F.S F.nx)
  names : H A.n = some (dW F.N F.nm)
  gases : H A.g = some (dI F.g fun k => .ref (A.ga k))
  leds : H A.l = some (dI F.l fun k => .ref (A.la k))
  led : ∀ k ∈ F.l, H (A.la k) = some (.lst ((A.lr k).map V.ref))
  rows : H A.r = some (.lst (A.rr.map V.ref))
  gas : ∀ k ∈ F.g, H (A.ga k) = some (am (F.gs k))
  mom : H A.m = some (am F.mo)
  lrow : ∀ k ∈ F.l, All2 (LRowAt H) (A.lr k) (F.lg k)
  brow : All2 (BRowAt H) A.rr F.bk
  en : A.e ≠ A.n
  eg : A.e ≠ A.g
  el : A.e ≠ A.l
  ng : A.n ≠ A.g
  nl : A.n ≠ A.l
  gl : A.g ≠ A.l
  rl : ∀ k ∈ F.l, A.la k ≠ A.r
  ll : ∀ k ∈ F.l, ∀ j ∈ F.l, A.la k = A.la j → k = j
def reg (x : Addr) (A : FA) (F : Fr) (b : Addr) : Prop := b = x ∨ b = A.e ∨ b = A.n ∨ b = A.g ∨ b = A.l ∨ b = A.r ∨ ∃ k ∈ F.l, b = A.la k
structure Kept (R : Addr → Prop) (H H' : Hp) : Prop where
  a : ∀ b u, H b = some u → (¬ R b ∨ Imm u) → H' b = some u
  fr : ∀ b, Free H' b → Free H b
section
variable {G : Gx} {H H' H2 : Hp} {x y p : Addr} {A B : FA} {F F2 : Fr} {o u : HO} {R R2 : Addr → Prop}
theorem Kept.refl : Kept R H H := ⟨fun _ _ e _ => e, fun _ f => f⟩
theorem Kept.same (s : Same H H') : Kept R H H' := ⟨fun b u e _ => s b u e, fun b f => s.free f⟩
theorem free_upd {b p : Addr} {o : HO} (f : Free (upd H p o) b) : Free H b := by
  by_cases e : b = p
  · subst e
    unfold Free at f
    rw [upd_same] at f
    cases f
  · unfold Free at f ⊢
    rw [upd_ne e] at f
    exact f
theorem Kept.trans (h : Kept R H H') (k : Kept R2 H' H2) (i : ∀ b, R2 b → R b ∨ Free H b) : Kept R H H2 := by
  refine ⟨fun b u e c => ?_, fun b f => h.fr b (k.fr b f)⟩
  have e' := h.a b u e c
  refine k.a b u e' (c.imp (fun n z => ?_) id)
  rcases i b z with q | q
  · exact n q
  · unfold Free at q; rw [q] at e; cases e
theorem Kept.put (hp : R p) (hu : H p = some u) (hi : ¬ Imm u) : Kept R H (upd H p o) := by
  refine ⟨fun b v e c => at_ne e fun z => ?_, fun b f => free_upd f⟩
  subst z
  rcases c with n | n
  · exact n hp
  · rw [hu] at e; cases e; exact hi n
theorem Kept.tk (h : Kept R H H') : TK H H' := fun b xs e => h.a b _ e (.inr trivial)
theorem FAt.up (h : FAt G H x A F) (k : ∀ b u, H b = some u → (reg x A F b ∨ Imm u) → H' b = some u) : FAt G H' x A F := by
  have tk : TK H H' := fun b xs e => k b _ e (.inr trivial)
  exact ⟨h.t, k _ _ h.ins (.inl (.inl rfl)), k _ _ h.ends (.inl (.inr (.inl rfl))), k _ _ h.names (.inl (.inr (.inr (.inl rfl)))), k _ _ h.gases (.inl (.inr (.inr (.inr (.inl rfl))))), k _ _ h.leds (.inl (.inr (.inr (.inr (.inr (.inl rfl)))))),
    fun j hj => k _ _ (h.led j hj) (.inl (.inr (.inr (.inr (.inr (.inr (.inr ⟨j, hj, rfl⟩))))))), k _ _ h.rows (.inl (.inr (.inr (.inr (.inr (.inr (.inl rfl))))))), fun j hj => tk _ _ (h.gas j hj), tk _ _ h.mom,
    fun j hj => (h.lrow j hj).imp fun _ _ _ q => q.tk tk, h.brow.imp fun _ _ _ q => q.tk tk, h.en, h.eg, h.el, h.ng, h.nl, h.gl, h.rl, h.ll⟩
theorem FAt.same (h : FAt G H x A F) (s : Same H H') : FAt G H' x A F := h.up fun b u e _ => s b u e
/-! ### each kind of change -/
theorem FAt.xla (h : FAt G H x A F) {k : Int} (hk : k ∈ F.l) : x ≠ A.la k := ne_kind h.ins (h.led k hk) fun z => by cases z
theorem FAt.nr (h : FAt G H x A F) : A.n ≠ A.r := ne_kind h.names h.rows fun z => by cases z
theorem FAt.ela (h : FAt G H x A F) {k : Int} (hk : k ∈ F.l) : A.e ≠ A.la k := ne_kind h.ends (h.led k hk) fun z => by cases z
theorem FAt.nla (h : FAt G H x A F) {k : Int} (hk : k ∈ F.l) : A.n ≠ A.la k := ne_kind h.names (h.led k hk) fun z => by cases z
theorem FAt.gla (h : FAt G H x A F) {k : Int} (hk : k ∈ F.l) : A.g ≠ A.la k := ne_kind h.gases (h.led k hk) fun z => by cases z
theorem FAt.lla (h : FAt G H x A F) {k : Int} (hk : k ∈ F.l) : A.l ≠ A.la k := ne_kind h.leds (h.led k hk) fun z => by cases z
theorem rg_la {k : Int} (hk : k ∈ F.l) : reg x A F (A.la k) := .inr (.inr (.inr (.inr (.inr (.inr ⟨k, hk, rfl⟩)))))
theorem FAt.addLed {t : Addr} {row : LRow} {k : Int} (h : FAt G H x A F) (hk : k ∈ F.l) (ht : LRowAt H t row) :
    FAt G (upd H (A.la k) (.lst ((A.lr k).map V.ref ++ [.ref t]))) x { A with lr := fun j => if j = k then A.lr k ++ [t] else A.lr j } { F with lg := fun j => if j = k then F.lg k ++ [row] else F.lg j } := by
  have tk : TK H (upd H (A.la k) (.lst ((A.lr k).map V.ref ++ [.ref t]))) := tk_upd (h.led k hk) fun z => z
  refine ⟨h.t, at_ne h.ins (h.xla hk), at_ne h.ends (h.ela hk), at_ne h.names (h.nla hk), at_ne h.gases (h.gla hk), at_ne h.leds (h.lla hk), fun j hj => ?_, at_ne h.rows (h.rl k hk).symm, fun k hk => tk _ _ (h.gas k hk), tk _ _ h.mom, fun j hj => ?_, h.brow.imp fun _ _ _ q => q.tk tk, h.en, h.eg, h.el, h.ng, h.nl, h.gl, h.rl, h.ll⟩
  · by_cases e : j = k
    · subst e; dsimp only; rw [if_pos rfl, upd_same, List.map_append]; rfl
    · dsimp only; rw [if_neg e]; exact at_ne (h.led j hj) fun z => e (h.ll j hj k hk z)
  · by_cases e : j = k
    · subst e; dsimp only; rw [if_pos rfl, if_pos rfl]; exact ((h.lrow j hk).snoc ht).imp fun _ _ _ q => q.tk tk
    · dsimp only; rw [if_neg e, if_neg e]; exact (h.lrow j hj).imp fun _ _ _ q => q.tk tk
/-! ### reading and storing its fields -/
section
variable {Q : VK} {dx e n g l m r : Addr} {a b : Int}
theorem f_ends (t : FrT G) (h : H x = some (.ins (G.ad "Froth") dx (fl e n g l m r a b))) (k : Q (.ref e) H) : rFld G.K "ends" (.ref x) H Q := ⟨x, _, _, _, _, rfl, h, t.cl, t.ends, fl_ends, k⟩
theorem f_names (t : FrT G) (h : H x = some (.ins (G.ad "Froth") dx (fl e n g l m r a b))) (k : Q (.ref n) H) : rFld G.K "names" (.ref x) H Q := ⟨x, _, _, _, _, rfl, h, t.cl, t.names, fl_names, k⟩
theorem f_gases (t : FrT G) (h : H x = some (.ins (G.ad "Froth") dx (fl e n g l m r a b))) (k : Q (.ref g) H) : rFld G.K "gases" (.ref x) H Q := ⟨x, _, _, _, _, rfl, h, t.cl, t.gases, fl_gases, k⟩
theorem f_ledgers (t : FrT G) (h : H x = some (.ins (G.ad "Froth") dx (fl e n g l m r a b))) (k : Q (.ref l) H) : rFld G.K "ledgers" (.ref x) H Q := ⟨x, _, _, _, _, rfl, h, t.cl, t.ledgers, fl_ledgers, k⟩
theorem f_moment (t : FrT G) (h : H x = some (.ins (G.ad "Froth") dx (fl e n g l m r a b))) (k : Q (.ref m) H) : rFld G.K "moment" (.ref x) H Q := ⟨x, _, _, _, _, rfl, h, t.cl, t.moment, fl_moment, k⟩
theorem f_rows (t : FrT G) (h : H x = some (.ins (G.ad "Froth") dx (fl e n g l m r a b))) (k : Q (.ref r) H) : rFld G.K "rows" (.ref x) H Q := ⟨x, _, _, _, _, rfl, h, t.cl, t.rows, fl_rows, k⟩
theorem f_name_count (t : FrT G) (h : H x = some (.ins (G.ad "Froth") dx (fl e n g l m r a b))) (k : Q (.int a) H) : rFld G.K "name_count" (.ref x) H Q := ⟨x, _, _, _, _, rfl, h, t.cl, t.name_count, fl_name_count, k⟩
theorem f_film_count (t : FrT G) (h : H x = some (.ins (G.ad "Froth") dx (fl e n g l m r a b))) (k : Q (.int b) H) : rFld G.K "film_count" (.ref x) H Q := ⟨x, _, _, _, _, rfl, h, t.cl, t.film_count, fl_film_count, k⟩
variable {N : Hp → Prop}
theorem fl_few : (fl e n g l m r a b).length < 1000 := by show 8 < 1000; decide
theorem s_ends (t : FrT G) (h : H x = some (.ins (G.ad "Froth") dx (fl e n g l m r a b))) (k : N (upd H x (.ins (G.ad "Froth") dx (fl p n g l m r a b)))) : rSFld G.K "ends" (.ref x) (.ref p) H N := ⟨x, _, _, _, rfl, h, t.cl, t.ends, fl_few, by rw [pf_ends]; exact k⟩
theorem s_names (t : FrT G) (h : H x = some (.ins (G.ad "Froth") dx (fl e n g l m r a b))) (k : N (upd H x (.ins (G.ad "Froth") dx (fl e p g l m r a b)))) : rSFld G.K "names" (.ref x) (.ref p) H N := ⟨x, _, _, _, rfl, h, t.cl, t.names, fl_few, by rw [pf_names]; exact k⟩
theorem s_moment (t : FrT G) (h : H x = some (.ins (G.ad "Froth") dx (fl e n g l m r a b))) (k : N (upd H x (.ins (G.ad "Froth") dx (fl e n g l p r a b)))) : rSFld G.K "moment" (.ref x) (.ref p) H N := ⟨x, _, _, _, rfl, h, t.cl, t.moment, fl_few, by rw [pf_moment]; exact k⟩
end
end
local macro_rules | `(tactic| walk_at "ft") => `(tactic| with_reducible assumption)
local macro_rules | `(tactic| walk_at "st") => `(tactic| first
  | with_reducible refine r_fldS ?_
  | with_reducible refine r_sfldS ?_
  | with_reducible refine r_meth ?_
  | with_reducible refine r_methT ?_
  | ((with_reducible refine f_ends (dx := ?dx) (e := ?e) (n := ?n) (g := ?g) (l := ?l) (m := ?m) (r := ?r) (a := ?a) (b := ?b) ?ht ?hh ?_); (case ht => walk_at "ft"); (case hh => walk_at "hp"))
  | ((with_reducible refine f_names (dx := ?dx) (e := ?e) (n := ?n) (g := ?g) (l := ?l) (m := ?m) (r := ?r) (a := ?a) (b := ?b) ?ht ?hh ?_); (case ht => walk_at "ft"); (case hh => walk_at "hp"))
  | ((with_reducible refine f_gases (dx := ?dx) (e := ?e) (n := ?n) (g := ?g) (l := ?l) (m := ?m) (r := ?r) (a := ?a) (b := ?b) ?ht ?hh ?_); (case ht => walk_at "ft"); (case hh => walk_at "hp"))
  | ((with_reducible refine f_ledgers (dx := ?dx) (e := ?e) (n := ?n) (g := ?g) (l := ?l) (m := ?m) (r := ?r) (a := ?a) (b := ?b) ?ht ?hh ?_); (case ht => walk_at "ft"); (case hh => walk_at "hp"))
  | ((with_reducible refine f_moment (dx := ?dx) (e := ?e) (n := ?n) (g := ?g) (l := ?l) (m := ?m) (r := ?r) (a := ?a) (b := ?b) ?ht ?hh ?_); (case ht => walk_at "ft"); (case hh => walk_at "hp"))
  | ((with_reducible refine f_rows (dx := ?dx) (e := ?e) (n := ?n) (g := ?g) (l := ?l) (m := ?m) (r := ?r) (a := ?a) (b := ?b) ?ht ?hh ?_); (case ht => walk_at "ft"); (case hh => walk_at "hp"))
  | ((with_reducible refine f_name_count (dx := ?dx) (e := ?e) (n := ?n) (g := ?g) (l := ?l) (m := ?m) (r := ?r) (a := ?a) (b := ?b) ?ht ?hh ?_); (case ht => walk_at "ft"); (case hh => walk_at "hp"))
  | ((with_reducible refine f_film_count (dx := ?dx) (e := ?e) (n := ?n) (g := ?g) (l := ?l) (m := ?m) (r := ?r) (a := ?a) (b := ?b) ?ht ?hh ?_); (case ht => walk_at "ft"); (case hh => walk_at "hp"))
  | ((with_reducible refine s_ends (dx := ?dx) (e := ?e) (n := ?n) (g := ?g) (l := ?l) (m := ?m) (r := ?r) (a := ?a) (b := ?b) ?ht ?hh ?_); (case ht => walk_at "ft"); (case hh => walk_at "hp"))
  | ((with_reducible refine s_names (dx := ?dx) (e := ?e) (n := ?n) (g := ?g) (l := ?l) (m := ?m) (r := ?r) (a := ?a) (b := ?b) ?ht ?hh ?_); (case ht => walk_at "ft"); (case hh => walk_at "hp"))
  | ((with_reducible refine s_moment (dx := ?dx) (e := ?e) (n := ?n) (g := ?g) (l := ?l) (m := ?m) (r := ?r) (a := ?a) (b := ?b) ?ht ?hh ?_); (case ht => walk_at "ft"); (case hh => walk_at "hp")))
/-! Fb: what the deeds do to a froth: sides, standing, ledgers. -/
/-! ### the sides -/
def sd (F : Fr) (k : Int) : Int := ((F.N.countP fun e => decide (F.nm e = k) : Nat) : Int)
/-! tally: slots froth, sides, name, end -/
/-! ### gas and sides of each -/
/-! standing: slots froth, found, sides, name -/
/-! ### the ledgers -/
theorem reg_at {G : Gx} {H : Hp} {x b : Addr} {A : FA} {F : Fr} (h : FAt G H x A F) (r : reg x A F b) : ∃ u, H b = some u ∧ ¬ Imm u := by
  rcases r with rfl | rfl | rfl | rfl | rfl | rfl | ⟨k, hk, rfl⟩
  · exact ⟨_, h.ins, fun z => z⟩
  · exact ⟨_, h.ends, fun z => z⟩
  · exact ⟨_, h.names, fun z => z⟩
  · exact ⟨_, h.gases, fun z => z⟩
  · exact ⟨_, h.leds, fun z => z⟩
  · exact ⟨_, h.rows, fun z => z⟩
  · exact ⟨_, h.led k hk, fun z => z⟩
/-- only the ledgers are other ones -/
structure Jn (G : Gx) (H1 : Hp) (x : Addr) (A : FA) (F : Fr) (H' : Hp) (la : Int → Addr) (lr : Int → List Addr) (l : List Int) (lg : Int → List LRow) : Prop where
  f : FAt G H' x { A with la := la, lr := lr } { F with l := l, lg := lg }
  k : Kept (reg x A F) H1 H'
  r : ∀ b, reg x { A with la := la, lr := lr } { F with l := l, lg := lg } b → reg x A F b ∨ Free H1 b
section
variable {G : Gx} {H H1 H' H2 : Hp} {x : Addr} {A : FA} {F : Fr} {la : Int → Addr} {lr : Int → List Addr} {l : List Int} {lg : Int → List LRow}
theorem Jn.same (j : Jn G H1 x A F H' la lr l lg) (s : Same H' H2) : Jn G H1 x A F H2 la lr l lg := ⟨j.f.same s, j.k.trans (R2 := fun _ => False) (Kept.same s) fun _ z => z.elim, j.r⟩
theorem Jn.put (j : Jn G H1 x A F H' la lr l lg) {p : Addr} {o : HO} (hr : reg x { A with la := la, lr := lr } { F with l := l, lg := lg } p) : Kept (reg x A F) H1 (upd H' p o) := by
  refine ⟨fun b u e c => ?_, fun b f => j.k.fr b (free_upd f)⟩
  refine at_ne (j.k.a b u e c) fun z => ?_
  subst z
  obtain ⟨v, hv, hi⟩ := reg_at j.f hr
  have e' := j.k.a b u e c
  rw [hv] at e'
  cases e'
  rcases c with c | c
  · rcases j.r b hr with q | q
    · exact c q
    · unfold Free at q; rw [q] at e; cases e
  · exact hi c
theorem Jn.add (j : Jn G H1 x A F H' la lr l lg) {k : Int} {t : Addr} {row : LRow} (hk : k ∈ l) (ht : LRowAt H' t row) :
    Jn G H1 x A F (upd H' (la k) (.lst ((lr k).map V.ref ++ [.ref t]))) la (fun i => if i = k then lr k ++ [t] else lr i) l (fun i => if i = k then lg k ++ [row] else lg i) :=
  ⟨j.f.addLed hk ht, j.put (rg_la (k := k) hk), j.r⟩
end
noncomputable def noteL (F : Fr) (g0 : List Int) (gs0 : Int → Rat) (w0 : Int → Int) (k : Int) : List LRow :=
  if k ∈ g0 then if k ∈ F.g then if F.gs k = gs0 k ∧ sd F k = w0 k then F.lg k else F.lg k ++ [⟨F.mo, F.gs k, sd F k⟩] else F.lg k ++ [⟨F.mo, 0, 0⟩]
  else if k ∈ F.g then [⟨F.mo, F.gs k, sd F k⟩] else F.lg k
/-! note: slots froth, ahead, behind, name -/
/-! Fc: deeds at a froth. -/
/-- the froth at x was (A, F) at H and is (A', F') at H'; nothing else was touched -/
structure Did (G : Gx) (H : Hp) (x : Addr) (A : FA) (F : Fr) (H' : Hp) (A' : FA) (F' : Fr) : Prop where
  f : FAt G H' x A' F'
  k : Kept (reg x A F) H H'
  r : ∀ b, reg x A' F' b → reg x A F b ∨ Free H b
section
variable {G : Gx} {H H1 H2 : Hp} {x p : Addr} {A A1 A2 : FA} {F F1 F2 : Fr}
theorem Did.same (d : Did G H x A F H1 A1 F1) (s : Same H1 H2) : Did G H x A F H2 A1 F1 := ⟨d.f.same s, d.k.trans (R2 := fun _ => False) (Kept.same s) fun _ z => z.elim, d.r⟩
theorem Did.trans (d : Did G H x A F H1 A1 F1) (e : Did G H1 x A1 F1 H2 A2 F2) : Did G H x A F H2 A2 F2 :=
  ⟨e.f, d.k.trans e.k d.r, fun b hb => (e.r b hb).elim (d.r b) fun q => .inr (d.k.fr b q)⟩
theorem Did.put (d : Did G H x A F H1 A1 F1) {o : HO} (hr : reg x A1 F1 p) : Kept (reg x A F) H (upd H1 p o) := by
  obtain ⟨v, hv, hi⟩ := reg_at d.f hr
  exact d.k.trans (Kept.put hr hv hi) d.r
end
/-! ### a row written -/
noncomputable def wrF (F : Fr) (g0 : List Int) (gs0 : Int → Rat) (w0 : Int → Int) (l' : List Int) (row : BRow) : Fr := { F with l := l', lg := noteL F g0 gs0 w0, bk := F.bk ++ [row] }
/-! written: slots froth, ahead, row -/
/-! Fg: what holds of a froth between deeds. -/
structure G0 (F : Fr) : Prop where
  web : Web F.S F.nx
  nk : ∀ e, e ∈ F.N ↔ e ∈ F.S
  nnd : F.N.Nodup
  lab : ∀ x ∈ F.S, ∀ y ∈ F.S, F.nm x = F.nm y ↔ Rim F.S F.nx x y
  on : ∀ k, k ∈ F.g ↔ ∃ x ∈ F.S, F.nm x = k
  gnd : F.g.Nodup
  fc : ∀ x ∈ F.S, x < 2 * F.fc
  few : F.g.length ≤ 60
structure Good (F : Fr) : Prop extends G0 F where
  gp : ∀ k ∈ F.g, 0 ≤ F.gs k
  lnd : F.l.Nodup
  gl : ∀ k ∈ F.g, k ∈ F.l
  nc : ∀ k ∈ F.l, 0 ≤ k ∧ k < F.nc
def Mt (t : Nat) : Nat := 10 ^ 14 * (t + 1)
structure LimT (F : Fr) (t D : Nat) : Prop where
  D0 : 0 < D
  D1 : D ≤ 60 ^ t
  gs : ∀ k ∈ F.g, Bd D (Mt t) (F.gs k)
  mo : Bd D (Mt t) F.mo
  lr : ∀ k ∈ F.l, ∀ r ∈ F.lg k, Bd D (Mt t) r.hour ∧ Bd D (Mt t) r.gas ∧ 0 ≤ r.sides ∧ r.sides ≤ 1000
  br : ∀ r ∈ F.bk, Bd D (Mt t) r.hour
  ll : F.l.length ≤ 36 + t
  lg : ∀ k ∈ F.l, (F.lg k).length ≤ t + 1
  bk : F.bk.length ≤ t
theorem G0.six {F : Fr} (g : G0 F) : F.S.length = 6 * F.g.length := by
  obtain ⟨n, ⟨R, h1, h2, h3, h4⟩, h5⟩ := g.web.eul
  have e : (R.map F.nm).Perm F.g := by
    refine (List.perm_ext_iff_of_nodup ?_ g.gnd).mpr fun k => ?_
    · refine List.pairwise_map.mpr (List.Pairwise.imp_of_mem (fun {x y} hx hy h z => ?_) h4)
      exact h ((g.lab x (h2 x hx) y (h2 y hy)).mp z)
    · rw [g.on]
      constructor
      · intro h
        obtain ⟨x, hx, e⟩ := List.mem_map.mp h
        exact ⟨x, h2 x hx, e⟩
      · rintro ⟨x, hx, e⟩
        obtain ⟨y, hy, q⟩ := h3 x hx
        exact List.mem_map.mpr ⟨y, hy, by rw [← e]; exact ((g.lab x hx y (h2 y hy)).mpr q).symm⟩
  have := e.length_eq
  rw [List.length_map, h1] at this
  omega
theorem G0.sl {F : Fr} (g : G0 F) : F.S.length ≤ 360 := by have := g.six; have := g.few; omega
theorem G0.nl {F : Fr} (g : G0 F) : F.N.length ≤ 360 := Nat.le_trans (sub_len g.nnd fun z hz => (g.nk z).mp hz) g.sl
theorem sd_le {F : Fr} (k : Int) (h : F.N.length ≤ 360) : 0 ≤ sd F k ∧ sd F k ≤ 360 := by
  unfold sd
  have := List.countP_le_length (p := fun e => decide (F.nm e = k)) (l := F.N)
  omega
theorem G0.one {F : Fr} (g : G0 F) {k : Int} (hk : k ∈ F.g) : 1 ≤ sd F k := by
  obtain ⟨x, hx, e⟩ := (g.on k).mp hk
  unfold sd
  have : 0 < F.N.countP fun e => decide (F.nm e = k) := List.countP_pos_iff.mpr ⟨x, (g.nk x).mpr hx, decide_eq_true e⟩
  omega
/-! Fh: names of bubbles behind deeds (plain). -/
theorem on_of {S : List Int} {nx nm : Int → Int} {g : List Int} (W : Web S nx) (lab : ∀ x ∈ S, ∀ y ∈ S, nm x = nm y ↔ Rim S nx x y) (gnd : g.Nodup) (sub : ∀ x ∈ S, nm x ∈ g) (len : S.length = 6 * g.length) : ∀ k, k ∈ g ↔ ∃ x ∈ S, nm x = k := by
  obtain ⟨n, ⟨R, h1, h2, h3, h4⟩, h5⟩ := W.eul
  have nd : (R.map nm).Nodup := List.pairwise_map.mpr (List.Pairwise.imp_of_mem (fun {x y} hx hy h z => h ((lab x (h2 x hx) y (h2 y hy)).mp z)) h4)
  have sb : ∀ k ∈ R.map nm, k ∈ g := fun k hk => by
    obtain ⟨x, hx, rfl⟩ := List.mem_map.mp hk
    exact sub x (h2 x hx)
  intro k
  constructor
  · intro hk
    by_cases c : k ∈ R.map nm
    · obtain ⟨x, hx, e⟩ := List.mem_map.mp c
      exact ⟨x, h2 x hx, e⟩
    · have := sub_len (List.nodup_cons.mpr ⟨c, nd⟩) (m := g) fun z hz => (List.mem_cons.mp hz).elim (fun e => e ▸ hk) (sb z)
      rw [List.length_cons, List.length_map] at this
      omega
  · rintro ⟨x, hx, rfl⟩
    exact sub x hx
theorem Fold.rim {S S' : List Int} {f f' φ ψ : Int → Int} (F : Fold S f S' f' φ ψ) {x y : Int} (hx : x ∈ S') (hy : y ∈ S') (px : φ x ∈ S) (py : φ y ∈ S) : Eqv (fstep S' f') x y ↔ Eqv (fstep S f) (φ x) (φ y) := by
  constructor
  · exact Eqv.map (f := φ) fun u v ⟨hu, q⟩ => by rw [q]; exact F.fwd u hu
  · intro e
    have h := Eqv.map (f := ψ) (fun u v ⟨hu, q⟩ => by rw [q]; exact F.bwd u hu) e
    exact ((F.back x hx px).symm.trans h).trans (F.back y hy py)
/-! ### a film pushed or pulled -/
def turnM (nm nx' : Int → Int) (e : Int) : Int → Int := fset (fset nm e (nm (nx' (ot e)))) (ot e) (fset nm e (nm (nx' (ot e))) (nx' (ot (ot e))))
theorem turn_nm {S : List Int} {nx nx' nm : Int → Int} {e o a b c d u v : Int} (T : Turn S nx nx' e o a b c d u v) : turnM nm nx' e = fun z => nm (if z = u then b else if z = v then d else z) := funext fun z => by
  have F := T.F
  unfold turnM
  rw [ot_ot]
  have eo := F.eo
  rcases T.uv with ⟨rfl, rfl⟩ | ⟨rfl, rfl⟩
  · have h1 : nx' (ot u) = b := T.tu
    have h2 : nx' u = d := by rw [← F.oe]; exact T.tv
    rw [h1, h2, eo]
    unfold fset
    by_cases z1 : z = v
    · subst z1
      rw [if_pos rfl, if_neg (Ne.symm F.n_ed), if_neg (Ne.symm F.n_eo), if_pos rfl]
    · rw [if_neg z1]
      by_cases z2 : z = u
      · rw [if_pos z2, if_pos z2]
      · rw [if_neg z2, if_neg z2, if_neg z1]
  · have h1 : nx' (ot v) = d := T.tv
    have h2 : nx' v = b := by rw [← F.oe]; exact T.tu
    rw [h1, h2, eo]
    unfold fset
    by_cases z1 : z = u
    · rw [if_pos z1, if_pos z1, if_neg (Ne.symm F.n_eb)]
    · rw [if_neg z1, if_neg z1]
      by_cases z2 : z = v
      · rw [if_pos z2, if_pos z2]
      · rw [if_neg z2, if_neg z2]
theorem turn_of {S : List Int} {nx : Int → Int} {e : Int} (M : Map S ot nx) (he : e ∈ S) (hl : ¬ Looped nx e) (b : Bool) : ∃ u v, Turn S nx (pushB nx e b) e (ot e) (nx e) (nx (nx e)) (nx (ot e)) (nx (nx (ot e))) u v := by
  have F := film_of M he (fun z => hl (.inl z)) (fun z => hl (.inr z))
  cases b with
  | true => exact ⟨_, _, pull_turn F⟩
  | false => exact ⟨_, _, push_turn F⟩
theorem pushB_web {S : List Int} {nx : Int → Int} {e : Int} (W : Web S nx) (he : e ∈ S) (hl : ¬ Looped nx e) (b : Bool) : Web S (pushB nx e b) := by
  cases b with
  | true => exact pull_web W he (fun z => hl (.inl z)) (fun z => hl (.inr z))
  | false => exact push_web W he (fun z => hl (.inl z)) (fun z => hl (.inr z))
def turn0 (F : Fr) (b : Bool) (f : Int) : Fr := { F with nx := pushB F.nx (2 * f) b, nm := turnM F.nm (pushB F.nx (2 * f) b) (2 * f) }
theorem turn_g0 {F : Fr} (g : G0 F) {b : Bool} {f : Int} (he : 2 * f ∈ F.S) (hl : ¬ Looped F.nx (2 * f)) : G0 (turn0 F b f) := by
  have M := g.web.map
  have W := pushB_web g.web he hl b
  obtain ⟨u, v, T⟩ := turn_of M he hl b
  have e := turn_nm (nm := F.nm) T
  have φm : ∀ z ∈ F.S, (if z = u then F.nx (F.nx (2 * f)) else if z = v then F.nx (F.nx (ot (2 * f))) else z) ∈ F.S := fun z hz => by
    split
    · exact T.F.hb
    · split
      · exact T.F.hd
      · exact hz
  have lab : ∀ x ∈ F.S, ∀ y ∈ F.S, (turn0 F b f).nm x = (turn0 F b f).nm y ↔ Rim F.S (pushB F.nx (2 * f) b) x y := fun x hx y hy => by
    show turnM F.nm (pushB F.nx (2 * f) b) (2 * f) x = turnM F.nm (pushB F.nx (2 * f) b) (2 * f) y ↔ _
    rw [e]
    exact (g.lab _ (φm x hx) _ (φm y hy)).trans ((turn_fold T).rim hx hy (φm x hx) (φm y hy)).symm
  exact ⟨W, g.nk, g.nnd, lab, on_of W lab g.gnd (fun x hx => by
    show turnM F.nm (pushB F.nx (2 * f) b) (2 * f) x ∈ F.g
    rw [e]
    exact (g.on _).mpr ⟨_, φm x hx, rfl⟩) g.six, g.gnd, g.fc, g.few⟩
/-! ### a film away -/
theorem loop_fold {S : List Int} {nx : Int → Int} {e : Int} (W : Web S nx) (he : e ∈ S) (hloop : Looped nx e) :
    (∃ z0 z1, ((z0 = e ∧ z1 = ot e) ∨ (z0 = ot e ∧ z1 = e)) ∧ ∀ z ∈ S, Rim S nx z z0 → z = z0) ∧
    ∀ x ∈ loopS S nx e, ∀ y ∈ loopS S nx e, Eqv (fstep (loopS S nx e) (face (fun z => if z = ot (loopT nx e) then z else ot z) nx)) x y ↔ Rim S nx x y := by
  have M := W.map
  have ho := M.ca e he
  have hoe : ot e ≠ e := ot_ne e
  obtain ⟨t, z0, z1, et, ht, te, to, hz0, hz1, z01, zc, f0, f1, f2, cor⟩ : ∃ t z0 z1, loopT nx e = t ∧ t ∈ S ∧ t ≠ e ∧ t ≠ ot e ∧ z0 ∈ S ∧ z1 ∈ S ∧ z0 ≠ z1 ∧ ((z0 = e ∧ z1 = ot e) ∨ (z0 = ot e ∧ z1 = e)) ∧ nx (ot z0) = z0 ∧ nx (ot z1) = t ∧ nx t = z1 ∧
      (∀ z ∈ S, nx z = e ∨ nx z = ot e ∨ nx z = t ↔ z = e ∨ z = ot e ∨ z = t) := by
    by_cases c1 : nx e = ot e
    · have ht := M.cn _ (M.cn e he)
      refine ⟨nx (nx e), ot e, e, if_pos c1, ht, M.n2 he, by rw [← c1]; exact M.n12 he, ho, he, hoe, .inr ⟨rfl, rfl⟩, by rw [ot_ot]; exact c1, by rw [← c1], M.n3 e he, fun z hz => ?_⟩
      constructor
      · rintro (q | q | q)
        · exact .inr (.inr (M.ninj hz ht (q.trans (M.n3 e he).symm)))
        · exact .inl (M.ninj hz he (q.trans c1.symm))
        · exact .inr (.inl ((M.ninj hz (M.cn e he) q).trans c1))
      · rintro (q | q | q)
        · exact .inr (.inl (by rw [q]; exact c1))
        · exact .inr (.inr (by rw [q, ← c1]))
        · exact .inl (by rw [q]; exact M.n3 e he)
    · have c2 : nx (nx e) = ot e := hloop.resolve_left c1
      have ht := M.cn e he
      have h3 := M.n3 e he
      rw [c2] at h3
      refine ⟨nx e, e, ot e, if_neg c1, ht, M.n1 e he, by rw [← c2]; exact (M.n12 he).symm, he, ho, hoe.symm, .inl ⟨rfl, rfl⟩, h3, by rw [ot_ot], c2, fun z hz => ?_⟩
      constructor
      · rintro (q | q | q)
        · exact .inr (.inl (M.ninj hz ho (q.trans h3.symm)))
        · exact .inr (.inr (M.ninj hz ht (q.trans c2.symm)))
        · exact .inl (M.ninj hz he q)
      · rintro (q | q | q)
        · exact .inr (.inr (by rw [q]))
        · exact .inl (by rw [q]; exact h3)
        · exact .inr (.inl (by rw [q]; exact c2))
  have zmem : ∀ z, (z = e ∨ z = ot e ∨ z = t) ↔ (z = z0 ∨ z = z1 ∨ z = t) := fun z => by
    rcases zc with ⟨q1, q2⟩ | ⟨q1, q2⟩
    · rw [q1, q2]
    · rw [q1, q2]
      constructor
      · rintro (q | q | q)
        · exact .inr (.inl q)
        · exact .inl q
        · exact .inr (.inr q)
      · rintro (q | q | q)
        · exact .inr (.inl q)
        · exact .inl q
        · exact .inr (.inr q)
  have hu : ot t ∈ S := M.ca t ht
  have u_no : ¬ (ot t = e ∨ ot t = ot e ∨ ot t = t) := by
    rintro (q | q | q)
    · exact to (by rw [← ot_ot t, q])
    · exact te (by rw [← ot_ot t, q, ot_ot])
    · exact ot_ne t q
  have memL : ∀ z, z ∈ loopS S nx e ↔ z ∈ S ∧ ¬ (z = e ∨ z = ot e ∨ z = t) := fun z => by
    unfold loopS
    rw [et, List.mem_filter, decide_eq_true_eq]
    exact ⟨fun ⟨q, a, b, c⟩ => ⟨q, fun h => h.elim a fun h => h.elim b c⟩, fun ⟨q, h⟩ => ⟨q, fun a => h (.inl a), fun a => h (.inr (.inl a)), fun a => h (.inr (.inr a))⟩⟩
  have uL : ot t ∈ loopS S nx e := (memL _).mpr ⟨hu, u_no⟩
  rw [et]
  generalize hal : (fun z => if z = ot t then z else ot z) = al
  have alu : al (ot t) = ot t := by rw [← hal]; exact if_pos rfl
  have alz : ∀ z, z ≠ ot t → al z = ot z := fun z h => by rw [← hal]; exact if_neg h
  have otL : ∀ z, z ∈ S → ¬ (z = e ∨ z = ot e ∨ z = t) → z ≠ ot t → ¬ (ot z = e ∨ ot z = ot e ∨ ot z = t) := fun z hz h1 h2 => by
    rintro (q | q | q)
    · exact h1 (.inr (.inl (by rw [← q, ot_ot])))
    · exact h1 (.inl (by rw [← ot_ot z, q, ot_ot]))
    · exact h2 (by rw [← q, ot_ot])
  have nxL : ∀ z, z ∈ S → ¬ (z = e ∨ z = ot e ∨ z = t) → ¬ (nx z = e ∨ nx z = ot e ∨ nx z = t) := fun z hz h q => h ((cor z hz).mp q)
  have st : ∀ z ∈ S, Rim S nx z (nx (ot z)) := fun z hz => .step ⟨hz, rfl⟩
  have s_u : Rim S nx (ot t) z1 := by have := st _ hu; rw [ot_ot, f2] at this; exact this
  have s_1 : Rim S nx z1 t := by have := st _ hz1; rw [f1] at this; exact this
  have s_t : Rim S nx t (nx (ot t)) := st t ht
  have pu_no : ¬ (nx (ot t) = e ∨ nx (ot t) = ot e ∨ nx (ot t) = t) := nxL _ hu u_no
  refine ⟨⟨z0, z1, zc, fun z hz q => ?_⟩, fun x hx y hy => ?_⟩
  · have inv := Eqv.inv (A := fun z => z = z0) (fun a b h => ?_) q
    · exact inv.mpr rfl
    · obtain ⟨ha, rfl⟩ := h
      constructor
      · rintro rfl
        exact f0
      · intro h
        have h2 : nx (ot a) = nx (ot z0) := h.trans f0.symm
        exact M.ainj ha hz0 (M.ninj (M.ca a ha) (M.ca _ hz0) h2)
  · let f : Int → Int := fun z => if z = e ∨ z = ot e ∨ z = t then ot t else z
    have f_b : ∀ z, (z = e ∨ z = ot e ∨ z = t) → f z = ot t := fun z h => if_pos h
    have f_o : ∀ z, ¬ (z = e ∨ z = ot e ∨ z = t) → f z = z := fun z h => if_neg h
    have Fo : Fold S (face ot nx) (loopS S nx e) (face al nx) id f := by
      refine ⟨fun z hz => ?_, fun z hz => ?_, fun y hy _ => ?_⟩
      · obtain ⟨zS, zn⟩ := (memL z).mp hz
        show Rim S nx z (nx (al z))
        by_cases c2 : z = ot t
        · rw [c2, alu]; exact (s_u.trans s_1).trans s_t
        · rw [alz z c2]; exact st z zS
      · show Eqv _ (f z) (f (nx (ot z)))
        by_cases c : z = e ∨ z = ot e ∨ z = t
        · rw [f_b z c]
          rcases (zmem z).mp c with q | q | q
          · rw [q, f0, f_b z0 ((zmem z0).mpr (.inl rfl))]; exact .refl _
          · rw [q, f1, f_b t (.inr (.inr rfl))]; exact .refl _
          · rw [q, f_o _ pu_no]
            exact .step ⟨uL, by unfold face; rw [alu]⟩
        · rw [f_o z c]
          by_cases c2 : z = ot t
          · rw [c2, ot_ot, f2, f_b z1 ((zmem z1).mpr (.inr (.inl rfl)))]; exact .refl _
          · have h1 := otL z hz c c2
            rw [f_o _ (nxL _ (M.ca z hz) h1)]
            exact .step ⟨(memL z).mpr ⟨hz, c⟩, by unfold face; rw [alz z c2]⟩
      · show Eqv _ (f y) y
        rw [f_o y ((memL y).mp hy).2]; exact .refl _
    exact Fo.rim hx hy ((memL x).mp hx).1 ((memL y).mp hy).1
structure Away (S : List Int) (nx : Int → Int) (e : Int) (S' : List Int) (nx' : Int → Int) : Prop where
  web : Web S' nx'
  len : S'.length + 6 = S.length
  sub : ∀ z ∈ S', z ∈ S
  nr : ¬ Rim S nx e (ot e)
  rim : ∀ x ∈ S', ∀ y ∈ S', Rim S' nx' x y ↔ Rim S nx x y ∨ ((Rim S nx x e ∨ Rim S nx x (ot e)) ∧ (Rim S nx y e ∨ Rim S nx y (ot e)))
theorem away {S : List Int} {nx : Int → Int} {e : Int} (W : Web S nx) (he : e ∈ S) (hc : Looped nx e ∨ ¬ Rim S nx e (ot e)) : Away S nx e (wS S nx e) (wN nx e) := by
  have M := W.map
  by_cases hl : Looped nx e
  · have B := burstL_web W he hl
    obtain ⟨⟨z0, z1, zc, al⟩, rel⟩ := loop_fold W he hl
    unfold wS wN
    rw [if_pos hl, if_pos hl]
    have D := B.D
    have inL : ∀ z ∈ burstLS S nx e, z ∈ loopS S nx e := fun z hz => (mem_mendS.mp hz).1
    have ne : ∀ z ∈ burstLS S nx e, z ≠ ot (loopT nx e) := fun z hz => (mem_mendS.mp hz).2.1
    have sub : ∀ z ∈ burstLS S nx e, z ∈ S := fun z hz => (List.mem_filter.mp (inL z hz)).1
    have nz : ∀ z ∈ burstLS S nx e, z ≠ e ∧ z ≠ ot e := fun z hz => by
      have := of_decide_eq_true (List.mem_filter.mp (inL z hz)).2
      exact ⟨this.1, this.2.1⟩
    have e0 : z0 ≠ z1 := by
      rcases zc with ⟨q1, q2⟩ | ⟨q1, q2⟩
      · rw [q1, q2]; exact (ot_ne e).symm
      · rw [q1, q2]; exact ot_ne e
    have h1 : z1 ∈ S := by
      rcases zc with ⟨q1, q2⟩ | ⟨q1, q2⟩
      · rw [q2]; exact M.ca e he
      · rw [q2]; exact he
    have nr : ¬ Rim S nx e (ot e) := fun q => by
      have : Rim S nx z1 z0 := by
        rcases zc with ⟨q1, q2⟩ | ⟨q1, q2⟩
        · rw [q1, q2]; exact q.symm
        · rw [q1, q2]; exact q
      exact e0 (al z1 h1 this).symm
    refine ⟨B.web, B.len, sub, nr, fun x hx y hy => ?_⟩
    have a1 : Eqv (fstep (burstLS S nx e) (face ot (burstLN nx e))) x y ↔ Eqv (fstep (burstLS S nx e) (face (fun z => if z = ot (loopT nx e) then z else ot z) (burstLN nx e))) x y := by
      constructor
      · exact Eqv.mono fun u v ⟨hu, q⟩ => .step ⟨hu, by rw [q]; show burstLN nx e (ot u) = burstLN nx e (if u = ot (loopT nx e) then u else ot u); rw [if_neg (ne u hu)]⟩
      · exact Eqv.mono fun u v ⟨hu, q⟩ => .step ⟨hu, by rw [q]; show burstLN nx e (if u = ot (loopT nx e) then u else ot u) = burstLN nx e (ot u); rw [if_neg (ne u hu)]⟩
    have a2 := (a1.trans (mend_iff D hx hy)).trans (rel x (inL x hx) y (inL y hy))
    refine a2.trans ⟨.inl, ?_⟩
    have to1 : ∀ z ∈ burstLS S nx e, Rim S nx z e ∨ Rim S nx z (ot e) → Rim S nx z z1 := fun z hz q => by
      have n0 : ¬ Rim S nx z z0 := fun q => by
        have := al z (sub z hz) q
        rcases zc with ⟨q1, q2⟩ | ⟨q1, q2⟩
        · exact (nz z hz).1 (this.trans q1)
        · exact (nz z hz).2 (this.trans q1)
      rcases zc with ⟨q1, q2⟩ | ⟨q1, q2⟩
      · rw [q1] at n0; rw [q2]; exact q.resolve_left n0
      · rw [q1] at n0; rw [q2]; exact q.resolve_right n0
    rintro (q | ⟨q1, q2⟩)
    · exact q
    · exact (to1 x hx q1).trans (to1 y hy q2).symm
  · have hr := hc.resolve_left hl
    have h1 : nx e ≠ ot e := fun z => hl (.inl z)
    have h2 : nx (nx e) ≠ ot e := fun z => hl (.inr z)
    have B := burst_web W he h1 h2 hr
    unfold wS wN
    rw [if_neg hl, if_neg hl]
    have D1 := B.D1
    have D2 := B.D2
    have in1 : ∀ z ∈ burstS S nx e, z ∈ m1S S nx e := fun z hz => (mem_mendS.mp hz).1
    have sub : ∀ z ∈ burstS S nx e, z ∈ S := fun z hz => (mem_mendS.mp (in1 z hz)).1
    have alS2 : ∀ z ∈ burstS S nx e, cutA ot e (ot e) z = ot z := fun z hz => by
      unfold cutA
      rw [if_neg (mem_mendS.mp (mem_mendS.mp hz).1).2.1, if_neg (mem_mendS.mp hz).2.1]
    refine ⟨B.web, B.len, sub, hr, fun x hx y hy => ?_⟩
    have a1 : Eqv (fstep (burstS S nx e) (face ot (burstN nx e))) x y ↔ Eqv (fstep (burstS S nx e) (face (cutA ot e (ot e)) (burstN nx e))) x y := by
      constructor
      · exact Eqv.mono fun u v ⟨hu, q⟩ => .step ⟨hu, by rw [q]; show burstN nx e (ot u) = burstN nx e (cutA ot e (ot e) u); rw [alS2 u hu]⟩
      · exact Eqv.mono fun u v ⟨hu, q⟩ => .step ⟨hu, by rw [q]; show burstN nx e (cutA ot e (ot e) u) = burstN nx e (ot u); rw [alS2 u hu]⟩
    exact (a1.trans ((mend_iff D2 hx hy).trans (mend_iff D1 (in1 x hx) (in1 y hy)))).trans (cut_rel W.map he hr)
theorem rim_perm {S S' : List Int} {nx nx' : Int → Int} (h : ∀ x, x ∈ S' ↔ x ∈ S) (hn : ∀ x ∈ S, nx' (ot x) = nx (ot x)) {x y : Int} : Rim S' nx' x y ↔ Rim S nx x y := by
  constructor
  · exact Eqv.mono fun u v ⟨hu, q⟩ => .step ⟨(h u).mp hu, by rw [q]; exact hn u ((h u).mp hu)⟩
  · exact Eqv.mono fun u v ⟨hu, q⟩ => .step ⟨(h u).mpr hu, by rw [q]; exact (hn u hu).symm⟩
/-- a film is away: gone's ends are kept's -/
def renM (nm : Int → Int) (gone kept : Int) : Int → Int := fun z => if nm z = gone then kept else nm z
def away0 (F : Fr) (S' : List Int) (f gone kept : Int) (gs' : Int → Rat) : Fr := { F with S := S', nx := wN F.nx (2 * f), N := S', nm := renM F.nm gone kept, g := F.g.filter fun j => decide (j ≠ gone), gs := gs' }
theorem away_g0 {F : Fr} (g : G0 F) {S' : List Int} {f gone kept : Int} {gs' : Int → Rat} (he : 2 * f ∈ F.S) (hc : Looped F.nx (2 * f) ∨ ¬ Rim F.S F.nx (2 * f) (ot (2 * f))) (nd : S'.Nodup) (hS : ∀ z, z ∈ S' ↔ z ∈ wS F.S F.nx (2 * f))
    (hk : (gone = F.nm (2 * f) ∧ kept = F.nm (ot (2 * f))) ∨ (gone = F.nm (ot (2 * f)) ∧ kept = F.nm (2 * f))) : G0 (away0 F S' f gone kept gs') ∧ gone ∈ F.g ∧ kept ∈ F.g ∧ gone ≠ kept := by
  have M := g.web.map
  have ho := M.ca _ he
  have A := away g.web he hc
  have W' : Web S' (wN F.nx (2 * f)) := A.web.same nd hS fun _ _ => rfl
  have sub : ∀ z ∈ S', z ∈ F.S := fun z hz => A.sub z ((hS z).mp hz)
  have gne : F.nm (2 * f) ≠ F.nm (ot (2 * f)) := fun z => A.nr ((g.lab _ he _ ho).mp z)
  have ge : F.nm (2 * f) ∈ F.g := (g.on _).mpr ⟨_, he, rfl⟩
  have go : F.nm (ot (2 * f)) ∈ F.g := (g.on _).mpr ⟨_, ho, rfl⟩
  have k3 : gone ∈ F.g ∧ kept ∈ F.g ∧ gone ≠ kept := by
    rcases hk with ⟨q1, q2⟩ | ⟨q1, q2⟩
    · rw [q1, q2]; exact ⟨ge, go, gne⟩
    · rw [q1, q2]; exact ⟨go, ge, gne.symm⟩
  obtain ⟨hgg, hkg, gk⟩ := k3
  have two : ∀ z ∈ F.S, (Rim F.S F.nx z (2 * f) ∨ Rim F.S F.nx z (ot (2 * f))) ↔ (F.nm z = gone ∨ F.nm z = kept) := fun z hz => by
    rw [← g.lab z hz _ he, ← g.lab z hz _ ho]
    rcases hk with ⟨q1, q2⟩ | ⟨q1, q2⟩
    · rw [q1, q2]
    · rw [q1, q2]; exact Or.comm
  have lab : ∀ x ∈ S', ∀ y ∈ S', renM F.nm gone kept x = renM F.nm gone kept y ↔ Rim S' (wN F.nx (2 * f)) x y := fun x hx y hy => by
    have hx' := sub x hx
    have hy' := sub y hy
    have r1 : Rim S' (wN F.nx (2 * f)) x y ↔ Rim (wS F.S F.nx (2 * f)) (wN F.nx (2 * f)) x y := rim_perm hS fun _ _ => rfl
    rw [r1, A.rim x ((hS x).mp hx) y ((hS y).mp hy), two x hx', two y hy', ← g.lab x hx' y hy']
    unfold renM
    by_cases c1 : F.nm x = gone
    · by_cases c2 : F.nm y = gone
      · rw [if_pos c1, if_pos c2]; exact ⟨fun _ => .inl (c1.trans c2.symm), fun _ => rfl⟩
      · rw [if_pos c1, if_neg c2]
        constructor
        · exact fun z => .inr ⟨.inl c1, .inr z.symm⟩
        · rintro (z | ⟨_, z⟩)
          · exact absurd (z.symm.trans c1) c2
          · exact (z.resolve_left c2).symm
    · by_cases c2 : F.nm y = gone
      · rw [if_neg c1, if_pos c2]
        constructor
        · exact fun z => .inr ⟨.inr z, .inl c2⟩
        · rintro (z | ⟨z, _⟩)
          · exact absurd (z.trans c2) c1
          · exact z.resolve_left c1
      · rw [if_neg c1, if_neg c2]
        constructor
        · exact .inl
        · rintro (z | ⟨z1, z2⟩)
          · exact z
          · exact (z1.resolve_left c1).trans (z2.resolve_left c2).symm
  have gnd' : (F.g.filter fun j => decide (j ≠ gone)).Nodup := g.gnd.filter _
  have glen : (F.g.filter fun j => decide (j ≠ gone)).length + 1 = F.g.length := by
    have e := g.gnd.erase_eq_filter gone
    have : (F.g.filter fun j => decide (j ≠ gone)) = F.g.erase gone := by
      rw [e]
      exact List.filter_congr fun x _ => by
        by_cases q : x = gone
        · simp [q]
        · simp [q]
    rw [this, List.length_erase_of_mem hgg]
    have := List.length_pos_of_mem hgg
    omega
  refine ⟨⟨W', fun _ => Iff.rfl, nd, lab, on_of W' lab gnd' (fun x hx => ?_) ?_, gnd', fun x hx => g.fc x (sub x hx), ?_⟩, hgg, hkg, gk⟩
  · have hx' := sub x hx
    show renM F.nm gone kept x ∈ F.g.filter fun j => decide (j ≠ gone)
    unfold renM
    by_cases c : F.nm x = gone
    · rw [if_pos c]; exact List.mem_filter.mpr ⟨hkg, decide_eq_true gk.symm⟩
    · rw [if_neg c]; exact List.mem_filter.mpr ⟨(g.on _).mpr ⟨x, hx', rfl⟩, decide_eq_true c⟩
  · have e1 := ((List.perm_ext_iff_of_nodup nd A.web.map.nd).mpr hS).length_eq
    have e2 := A.len
    have e3 := g.six
    show S'.length = 6 * (F.g.filter fun j => decide (j ≠ gone)).length
    omega
  · show (F.g.filter fun j => decide (j ≠ gone)).length ≤ 60
    have := g.few
    omega
/-! ### a bubble blown -/
def blowM (nm : Int → Int) (e a b L name : Int) : Int → Int := fun z => if z = L + 1 ∨ z = L + 3 ∨ z = L + 5 then name else nm (blowP e a b L z)
def blow0 (F : Fr) (N' : List Int) (e : Int) (q : Rat) : Fr := { F with S := blowS F.S (2 * F.fc), nx := blowF F.nx e (2 * F.fc), N := N', nm := blowM F.nm e (F.nx e) (F.nx (F.nx e)) (2 * F.fc) F.nc, g := F.g ++ [F.nc], gs := fun k => if k = F.nc then q else F.gs k, nc := F.nc + 1, fc := F.fc + 3 }
theorem fstep_out {S : List Int} {f : Int → Int} {x y : Int} (hx : x ∉ S) (hf : ∀ z ∈ S, f z ∈ S) (e : Eqv (fstep S f) x y) : y = x := by
  have inv := Eqv.inv (A := fun z => z = x) (fun a b h => ?_) e
  · exact inv.mp rfl
  · obtain ⟨ha, rfl⟩ := h
    exact ⟨fun z => absurd (z ▸ ha) hx, fun z => absurd (z ▸ hf a ha) hx⟩
theorem blow_g0 {F : Fr} (g : G0 F) {N' : List Int} {e : Int} {q : Rat} (he : e ∈ F.S) (f0 : 0 ≤ F.fc) (hn : F.nc ∉ F.g) (few : F.g.length < 60) (nd : N'.Nodup) (hN : ∀ z, z ∈ N' ↔ z ∈ blowS F.S (2 * F.fc)) : G0 (blow0 F N' e q) := by
  have M := g.web.map
  have V := blow_vals M he g.fc
  obtain ⟨W', len⟩ := blow_web g.web he g.fc (by omega) (by omega)
  have Fo := blow_fold M W'.map V g.fc (by omega)
  have h2 : (2 * F.fc) % 2 = 0 := by omega
  have hL := g.fc
  have inS : ∀ z, z ∈ blowS F.S (2 * F.fc) → ¬ (z = 2 * F.fc + 1 ∨ z = 2 * F.fc + 3 ∨ z = 2 * F.fc + 5) → blowP e (F.nx e) (F.nx (F.nx e)) (2 * F.fc) z ∈ F.S := fun z hz hn => by
    unfold blowP
    rcases mem_blowS.mp hz with q | q
    · have := hL z q
      rw [if_neg (by omega), if_neg (by omega), if_neg (by omega), if_neg (by omega), if_neg (by omega), if_neg (by omega)]
      exact q
    · unfold New6 at q
      split
      · exact V.ha
      · split
        · exact V.hb
        · split
          · exact V.he
          · exact absurd q (by omega)
  have odd : ∀ z, (z = 2 * F.fc + 1 ∨ z = 2 * F.fc + 3 ∨ z = 2 * F.fc + 5) → blowP e (F.nx e) (F.nx (F.nx e)) (2 * F.fc) z = 2 * F.fc + 1 := fun z hz => by
    unfold blowP
    rw [if_neg (by omega), if_neg (by omega), if_neg (by omega)]
    split
    · rfl
    · split
      · rfl
      · split
        · rfl
        · omega
  have out : 2 * F.fc + 1 ∉ F.S := fun z => by have := hL _ z; omega
  have Pc : ∀ z ∈ F.S, face ot F.nx z ∈ F.S := fun z hz => M.perm.mem z hz
  obtain ⟨o0, o1, o2, o3, o4, o5⟩ := ot_L h2
  have i1 : 2 * F.fc + 1 ∈ blowS F.S (2 * F.fc) := mem_blowS.mpr (.inr (by unfold New6; omega))
  have i5 : 2 * F.fc + 5 ∈ blowS F.S (2 * F.fc) := mem_blowS.mpr (.inr (by unfold New6; omega))
  have r15 : Rim (blowS F.S (2 * F.fc)) (blowF F.nx e (2 * F.fc)) (2 * F.fc + 1) (2 * F.fc + 5) := .step ⟨i1, by show _ = blowF F.nx e (2 * F.fc) (ot (2 * F.fc + 1)); rw [o1, V.v_0]⟩
  have r53 : Rim (blowS F.S (2 * F.fc)) (blowF F.nx e (2 * F.fc)) (2 * F.fc + 5) (2 * F.fc + 3) := .step ⟨i5, by show _ = blowF F.nx e (2 * F.fc) (ot (2 * F.fc + 5)); rw [o5, V.v_4]⟩
  have odd1 : ∀ z, (z = 2 * F.fc + 1 ∨ z = 2 * F.fc + 3 ∨ z = 2 * F.fc + 5) → Rim (blowS F.S (2 * F.fc)) (blowF F.nx e (2 * F.fc)) (2 * F.fc + 1) z := fun z hz => by
    rcases hz with q | q | q
    · rw [q]; exact .refl _
    · rw [q]; exact r15.trans r53
    · rw [q]; exact r15
  have sep : ∀ x ∈ blowS F.S (2 * F.fc), ∀ y ∈ blowS F.S (2 * F.fc), (x = 2 * F.fc + 1 ∨ x = 2 * F.fc + 3 ∨ x = 2 * F.fc + 5) → ¬ (y = 2 * F.fc + 1 ∨ y = 2 * F.fc + 3 ∨ y = 2 * F.fc + 5) → ¬ Rim (blowS F.S (2 * F.fc)) (blowF F.nx e (2 * F.fc)) x y := fun x hx y hy cx cy r => by
    have q := Eqv.map (f := blowP e (F.nx e) (F.nx (F.nx e)) (2 * F.fc)) (fun u v ⟨hu, q⟩ => by rw [q]; exact Fo.fwd u hu) r
    rw [odd x cx] at q
    have := fstep_out out Pc q
    have := inS y hy cy
    simp_all
  have lab : ∀ x ∈ blowS F.S (2 * F.fc), ∀ y ∈ blowS F.S (2 * F.fc), (blow0 F N' e q).nm x = (blow0 F N' e q).nm y ↔ Rim (blowS F.S (2 * F.fc)) (blowF F.nx e (2 * F.fc)) x y := fun x hx y hy => by
    show blowM F.nm e (F.nx e) (F.nx (F.nx e)) (2 * F.fc) F.nc x = blowM F.nm e (F.nx e) (F.nx (F.nx e)) (2 * F.fc) F.nc y ↔ _
    unfold blowM
    by_cases cx : x = 2 * F.fc + 1 ∨ x = 2 * F.fc + 3 ∨ x = 2 * F.fc + 5
    · by_cases cy : y = 2 * F.fc + 1 ∨ y = 2 * F.fc + 3 ∨ y = 2 * F.fc + 5
      · rw [if_pos cx, if_pos cy]; exact ⟨fun _ => (odd1 x cx).symm.trans (odd1 y cy), fun _ => rfl⟩
      · rw [if_pos cx, if_neg cy]
        exact ⟨fun z => absurd ((g.on _).mpr ⟨_, inS y hy cy, z.symm⟩) hn, fun z => absurd z (sep x hx y hy cx cy)⟩
    · by_cases cy : y = 2 * F.fc + 1 ∨ y = 2 * F.fc + 3 ∨ y = 2 * F.fc + 5
      · rw [if_neg cx, if_pos cy]
        exact ⟨fun z => absurd ((g.on _).mpr ⟨_, inS x hx cx, z⟩) hn, fun z => absurd z.symm (sep y hy x hx cy cx)⟩
      · rw [if_neg cx, if_neg cy]
        exact (g.lab _ (inS x hx cx) _ (inS y hy cy)).trans (Fo.rim hx hy (inS x hx cx) (inS y hy cy)).symm
  have gnd : (F.g ++ [F.nc]).Nodup := List.nodup_append.mpr ⟨g.gnd, List.pairwise_singleton _ _, fun a ha b hb z => hn (by rw [← List.mem_singleton.mp hb, ← z]; exact ha)⟩
  refine ⟨W', hN, nd, lab, on_of W' lab gnd (fun x hx => ?_) ?_, gnd, fun x hx => ?_, ?_⟩
  · show blowM F.nm e (F.nx e) (F.nx (F.nx e)) (2 * F.fc) F.nc x ∈ _
    unfold blowM
    split
    · exact List.mem_append.mpr (.inr List.mem_cons_self)
    · rename_i c
      exact List.mem_append.mpr (.inl ((g.on _).mpr ⟨_, inS x hx c, rfl⟩))
  · show (blowS F.S (2 * F.fc)).length = 6 * (F.g ++ [F.nc]).length
    rw [len, List.length_append, List.length_singleton]
    have := g.six
    omega
  · show x < 2 * (F.fc + 3)
    rcases mem_blowS.mp hx with q | q
    · have := hL x q; omega
    · unfold New6 at q; omega
  · show (F.g ++ [F.nc]).length ≤ 60
    rw [List.length_append, List.length_singleton]
    omega
/-! ### a bubble parted -/
def partP (one two p q L z : Int) : Int := if z = L ∨ z = L + 5 then two else if z = L + 4 ∨ z = L + 2 then one else if z = L + 1 then p else if z = L + 3 then q else z
structure Parted (S : List Int) (nx : Int → Int) (one two L : Int) (S' : List Int) (nx' : Int → Int) : Prop where
  in_ : ∀ z ∈ S', partP one two (ot one) (ot two) L z ∈ S
  rep : ∀ z ∈ S', Rim S' nx' z (partP one two (ot one) (ot two) L z)
  nr : ¬ Rim S' nx' one two
  old : ∀ y ∈ S, Rim S nx one y → Rim S' nx' one y ∨ Rim S' nx' two y
  fwd : ∀ x ∈ S, ∀ y ∈ S, Rim S' nx' x y → Rim S nx x y
  bwd : ∀ x ∈ S, ∀ y ∈ S, ¬ Rim S nx one x → Rim S nx x y → Rim S' nx' x y
theorem part_rel {S : List Int} {nx : Int → Int} {one two L : Int} (W : Web S nx) (h1 : one ∈ S) (h2 : two ∈ S) (hf : one / 2 ≠ two / 2) (hr : Rim S nx one two) (hL : ∀ x ∈ S, x < L) (h0 : 0 ≤ L) (hL2 : L % 2 = 0) : Parted S nx one two L (blowS S L) (partF nx one two L) := by
  have M := W.map
  obtain ⟨W', nr⟩ := part_web W h1 h2 hf hr hL h0 hL2
  have BV := part_vals M h1 h2 hf hL
  obtain ⟨o0, o1, o2, o3, o4, o5⟩ := ot_L hL2
  have M' := W'.map
  generalize partF nx one two L = n at *
  generalize hp_ : ot one = p at *
  generalize hq_ : ot two = q at *
  have mS : ∀ z ∈ S, z ∈ blowS S L := fun z hz => mem_blowS.mpr (.inl hz)
  have mN : ∀ z, New6 L z → z ∈ blowS S L := fun z hz => mem_blowS.mpr (.inr hz)
  have st : ∀ z, z ∈ blowS S L → ∀ w, n (ot z) = w → Eqv (fstep (blowS S L) (face ot n)) z w := fun z hz w e => .step ⟨hz, by rw [← e]; rfl⟩
  have i0 := mN L (.inl rfl)
  have i1 := mN (L + 1) (by unfold New6; omega)
  have i2 := mN (L + 2) (by unfold New6; omega)
  have i3 := mN (L + 3) (by unfold New6; omega)
  have i4 := mN (L + 4) (by unfold New6; omega)
  have i5 := mN (L + 5) (by unfold New6; omega)
  have t1 := st one (mS one h1) (L + 4) (by rw [hp_, BV.v_p])
  have t2 := st (L + 4) i4 (L + 2) (by rw [o4, BV.v_5])
  have t3 := st (L + 2) i2 (subP p q L (nx q)) (by rw [o2, BV.v_3])
  have t4 := st two (mS two h2) (L + 5) (by rw [hq_, BV.v_q])
  have t5 := st (L + 5) i5 L (by rw [o5, BV.v_4])
  have t6 := st L i0 (subP p q L (nx p)) (by rw [o0, BV.v_1])
  have t7 := st (L + 1) i1 p (by rw [o1, BV.v_0])
  have t8 := st (L + 3) i3 q (by rw [o3, BV.v_2])
  have sub : ∀ v, Eqv (fstep (blowS S L) (face ot n)) (subP p q L v) v := fun v => by
    unfold subP
    by_cases a : v = p
    · rw [if_pos a, a]; exact t7
    · rw [if_neg a]
      by_cases b : v = q
      · rw [if_pos b, b]; exact t8
      · rw [if_neg b]; exact .refl _
  have A : ∀ y, Rim S nx one y → Rim (blowS S L) n one y ∨ Rim (blowS S L) n two y := fun y hy => by
    obtain ⟨k, hk, rfl⟩ := eqv_iter M.perm h1 hy
    clear hy hk
    induction k with
    | zero => exact .inl (.refl _)
    | succ k ih =>
      have hu := iter_mem M.perm h1 k
      show _ ∨ _
      rw [show iter (face ot nx) (k + 1) one = nx (ot (iter (face ot nx) k one)) from rfl]
      generalize iter (face ot nx) k one = u at *
      by_cases c1 : u = one
      · rw [c1, hp_]
        exact .inr ((((t4.trans t5).trans t6)).trans (sub _))
      by_cases c2 : u = two
      · rw [c2, hq_]
        exact .inl ((((t1.trans t2).trans t3)).trans (sub _))
      have hou := M.ca u hu
      have c3 : ot u ≠ p := fun z => c1 (by rw [← ot_ot u, z, BV.op])
      have c4 : ot u ≠ q := fun z => c2 (by rw [← ot_ot u, z, BV.oq])
      have s := (st u (mS u hu) _ (BV.v_o _ hou c3 c4)).trans (sub _)
      exact ih.imp (fun z => z.trans s) (fun z => z.trans s)
  have pS : ∀ z ∈ S, partP one two p q L z = z := fun z hz => by
    have := hL z hz
    unfold partP
    rw [if_neg (by omega), if_neg (by omega), if_neg (by omega), if_neg (by omega)]
  have p0 : partP one two p q L L = two := by unfold partP; rw [if_pos (.inl rfl)]
  have p5 : partP one two p q L (L + 5) = two := by unfold partP; rw [if_pos (.inr rfl)]
  have p4 : partP one two p q L (L + 4) = one := by unfold partP; rw [if_neg (by omega), if_pos (.inl rfl)]
  have p2 : partP one two p q L (L + 2) = one := by unfold partP; rw [if_neg (by omega), if_pos (.inr rfl)]
  have p1 : partP one two p q L (L + 1) = p := by unfold partP; rw [if_neg (by omega), if_neg (by omega), if_pos rfl]
  have p3 : partP one two p q L (L + 3) = q := by unfold partP; rw [if_neg (by omega), if_neg (by omega), if_neg (by omega), if_pos rfl]
  have ps : ∀ v ∈ S, partP one two p q L (subP p q L v) = v := fun v hv => by
    unfold subP
    by_cases a : v = p
    · rw [if_pos a, a, p1]
    · rw [if_neg a]
      by_cases b : v = q
      · rw [if_pos b, b, p3]
      · rw [if_neg b, pS v hv]
  have s0 : ∀ z ∈ S, Rim S nx z (nx (ot z)) := fun z hz => .step ⟨hz, rfl⟩
  have six : ∀ z ∈ blowS S L, z ∈ S ∨ z = L ∨ z = L + 1 ∨ z = L + 2 ∨ z = L + 3 ∨ z = L + 4 ∨ z = L + 5 := fun z hz => (mem_blowS.mp hz).imp id fun h => by unfold New6 at h; omega
  have np := M.cn _ BV.hp
  have nq := M.cn _ BV.hq
  have s1 : Rim S nx one (nx p) := by have := s0 one h1; rw [hp_] at this; exact this
  have s2 : Rim S nx two (nx q) := by have := s0 two h2; rw [hq_] at this; exact this
  have stp : ∀ u ∈ blowS S L, Rim S nx (partP one two p q L u) (partP one two p q L (n (ot u))) := fun u hu => by
    rcases six u hu with h | h | h | h | h | h | h
    · rw [pS u h]
      by_cases c1 : u = one
      · rw [c1, hp_, BV.v_p, p4]; exact .refl _
      by_cases c2 : u = two
      · rw [c2, hq_, BV.v_q, p5]; exact .refl _
      have hou := M.ca u h
      have c3 : ot u ≠ p := fun z => c1 (by rw [← ot_ot u, z, BV.op])
      have c4 : ot u ≠ q := fun z => c2 (by rw [← ot_ot u, z, BV.oq])
      rw [BV.v_o _ hou c3 c4, ps _ (M.cn _ hou)]
      exact s0 u h
    · rw [h, p0, o0, BV.v_1, ps _ np]; exact hr.symm.trans s1
    · rw [h, p1, o1, BV.v_0, pS p BV.hp]; exact .refl _
    · rw [h, p2, o2, BV.v_3, ps _ nq]; exact hr.trans s2
    · rw [h, p3, o3, BV.v_2, pS q BV.hq]; exact .refl _
    · rw [h, p4, o4, BV.v_5, p2]; exact .refl _
    · rw [h, p5, o5, BV.v_4, p0]; exact .refl _
  refine ⟨fun z hz => ?_, fun z hz => ?_, fun z => nr ((t1.symm.trans z).trans t4), fun y _ hy => A y hy, fun x hx y hy r => ?_, fun x hx y hy nx1 r => ?_⟩
  · rw [hp_, hq_]
    rcases six z hz with h | h | h | h | h | h | h
    · rw [pS z h]; exact h
    · rw [h, p0]; exact h2
    · rw [h, p1]; exact BV.hp
    · rw [h, p2]; exact h1
    · rw [h, p3]; exact BV.hq
    · rw [h, p4]; exact h1
    · rw [h, p5]; exact h2
  · rw [hp_, hq_]
    rcases six z hz with h | h | h | h | h | h | h
    · rw [pS z h]; exact .refl _
    · rw [h, p0]; exact (t4.trans t5).symm
    · rw [h, p1]; exact t7
    · rw [h, p2]; exact (t1.trans t2).symm
    · rw [h, p3]; exact t8
    · rw [h, p4]; exact t1.symm
    · rw [h, p5]; exact t4.symm
  · have q := Eqv.map (f := partP one two p q L) (fun u v ⟨hu, e⟩ => by rw [e]; exact stp u hu) r
    rw [pS x hx, pS y hy] at q
    exact q
  · obtain ⟨k, hk, rfl⟩ := eqv_iter M.perm hx r
    clear hk r hy
    induction k with
    | zero => exact .refl _
    | succ k ih =>
      have hu := iter_mem M.perm hx k
      have ru := fstep_iter M.perm hx k
      rw [show iter (face ot nx) (k + 1) x = nx (ot (iter (face ot nx) k x)) from rfl]
      generalize iter (face ot nx) k x = u at *
      have c1 : u ≠ one := fun z => nx1 (by rw [z] at ru; exact ru.symm)
      have c2 : u ≠ two := fun z => nx1 (by rw [z] at ru; exact hr.trans ru.symm)
      have hou := M.ca u hu
      have c3 : ot u ≠ p := fun z => c1 (by rw [← ot_ot u, z, BV.op])
      have c4 : ot u ≠ q := fun z => c2 (by rw [← ot_ot u, z, BV.oq])
      exact ih.trans ((st u (mS u hu) _ (BV.v_o _ hou c3 c4)).trans (sub _))
def partNm (nm : Int → Int) (one two L : Int) (R1 R2 : List Int) (old name : Int) : Int → Int := fun z => if z ∈ R2 then name else if z ∈ R1 then old else fset (fset nm (L + 1) (nm (ot one))) (L + 3) (fset nm (L + 1) (nm (ot one)) (ot two)) z
noncomputable def part0 (F : Fr) (S' N' : List Int) (one two : Int) (q : Rat) : Fr := { F with S := S', nx := partF F.nx one two (2 * F.fc), N := N', nm := partNm F.nm one two (2 * F.fc) (rimL (face ot (partF F.nx one two (2 * F.fc))) one) (rimL (face ot (partF F.nx one two (2 * F.fc))) two) (F.nm one) F.nc, g := F.g ++ [F.nc], gs := fun k => if k = F.nm one then F.gs (F.nm one) - q else if k = F.nc then q else F.gs k, nc := F.nc + 1, fc := F.fc + 3 }
theorem part_g0 {F : Fr} (g : G0 F) {S' N' : List Int} {one two : Int} {q : Rat} (h1 : one ∈ F.S) (h2 : two ∈ F.S) (hf : one / 2 ≠ two / 2) (hr : Rim F.S F.nx one two) (f0 : 0 ≤ F.fc) (hn : F.nc ∉ F.g) (few : F.g.length < 60)
    (ndS : S'.Nodup) (hS : ∀ z, z ∈ S' ↔ z ∈ blowS F.S (2 * F.fc)) (nd : N'.Nodup) (hN : ∀ z, z ∈ N' ↔ z ∈ S') : G0 (part0 F S' N' one two q) := by
  have M := g.web.map
  have hL := g.fc
  obtain ⟨W0, _⟩ := part_web g.web h1 h2 hf hr hL (by omega) (by omega)
  have P := part_rel g.web h1 h2 hf hr hL (by omega) (by omega)
  have len0 : (blowS F.S (2 * F.fc)).length = F.S.length + 6 := by unfold blowS; rw [List.length_append]; rfl
  have W' : Web S' (partF F.nx one two (2 * F.fc)) := W0.same ndS hS fun _ _ => rfl
  have rS : ∀ {x y}, Rim S' (partF F.nx one two (2 * F.fc)) x y ↔ Rim (blowS F.S (2 * F.fc)) (partF F.nx one two (2 * F.fc)) x y := rim_perm hS fun _ _ => rfl
  have mS : ∀ z ∈ F.S, z ∈ S' := fun z hz => (hS z).mpr (mem_blowS.mpr (.inl hz))
  have m1 := fun y => rimL_mem (y := y) W'.map.perm (mS one h1)
  have m2 := fun y => rimL_mem (y := y) W'.map.perm (mS two h2)
  have six : ∀ z ∈ S', z ∈ F.S ∨ z = 2 * F.fc ∨ z = 2 * F.fc + 1 ∨ z = 2 * F.fc + 2 ∨ z = 2 * F.fc + 3 ∨ z = 2 * F.fc + 4 ∨ z = 2 * F.fc + 5 := fun z hz => (mem_blowS.mp ((hS z).mp hz)).imp id fun h => by unfold New6 at h; omega
  generalize hn' : partF F.nx one two (2 * F.fc) = n at *
  have φm : ∀ z ∈ S', partP one two (ot one) (ot two) (2 * F.fc) z ∈ F.S := fun z hz => P.in_ z ((hS z).mp hz)
  have rep : ∀ z ∈ S', Rim S' n z (partP one two (ot one) (ot two) (2 * F.fc) z) := fun z hz => rS.mpr (P.rep z ((hS z).mp hz))
  have ho1 := hL _ (M.ca one h1)
  have ho2 := hL _ (M.ca two h2)
  have key : ∀ z ∈ S', partNm F.nm one two (2 * F.fc) (rimL (face ot n) one) (rimL (face ot n) two) (F.nm one) F.nc z = if z ∈ rimL (face ot n) two then F.nc else if z ∈ rimL (face ot n) one then F.nm one else F.nm (partP one two (ot one) (ot two) (2 * F.fc) z) := fun z hz => by
    unfold partNm
    by_cases c2 : z ∈ rimL (face ot n) two
    · rw [if_pos c2, if_pos c2]
    rw [if_neg c2, if_neg c2]
    by_cases c1 : z ∈ rimL (face ot n) one
    · rw [if_pos c1, if_pos c1]
    rw [if_neg c1, if_neg c1]
    have k1 : partP one two (ot one) (ot two) (2 * F.fc) z ≠ one := fun e => c1 ((m1 z).mpr (by have := rep z hz; rw [e] at this; exact this.symm))
    have k2 : partP one two (ot one) (ot two) (2 * F.fc) z ≠ two := fun e => c2 ((m2 z).mpr (by have := rep z hz; rw [e] at this; exact this.symm))
    unfold fset
    unfold partP at k1 k2 ⊢
    by_cases a0 : z = 2 * F.fc ∨ z = 2 * F.fc + 5
    · rw [if_pos a0] at k2; exact absurd rfl k2
    rw [if_neg a0] at k1 k2 ⊢
    by_cases a4 : z = 2 * F.fc + 4 ∨ z = 2 * F.fc + 2
    · rw [if_pos a4] at k1; exact absurd rfl k1
    rw [if_neg a4] at k1 k2 ⊢
    by_cases a3 : z = 2 * F.fc + 3
    · rw [if_pos a3, if_neg (show ¬ z = 2 * F.fc + 1 by omega), if_pos a3, if_neg (show ¬ ot two = 2 * F.fc + 1 by omega)]
    · rw [if_neg a3]
      by_cases a1 : z = 2 * F.fc + 1
      · rw [if_pos a1, if_pos a1]
      · rw [if_neg a1, if_neg a1, if_neg a3]
  have nr : ¬ Rim S' n one two := fun z => P.nr (rS.mp z)
  have neither : ∀ z ∈ S', z ∉ rimL (face ot n) two → z ∉ rimL (face ot n) one → ¬ Rim F.S F.nx one (partP one two (ot one) (ot two) (2 * F.fc) z) := fun z hz c2 c1 r => by
    rcases P.old _ (φm z hz) r with q | q
    · exact c1 ((m1 z).mpr ((rS.mpr q).trans (rep z hz).symm))
    · exact c2 ((m2 z).mpr ((rS.mpr q).trans (rep z hz).symm))
  have lab : ∀ x ∈ S', ∀ y ∈ S', (part0 F S' N' one two q).nm x = (part0 F S' N' one two q).nm y ↔ Rim S' n x y := fun x hx y hy => by
    show partNm F.nm one two (2 * F.fc) (rimL (face ot (partF F.nx one two (2 * F.fc))) one) (rimL (face ot (partF F.nx one two (2 * F.fc))) two) (F.nm one) F.nc x = partNm F.nm one two (2 * F.fc) (rimL (face ot (partF F.nx one two (2 * F.fc))) one) (rimL (face ot (partF F.nx one two (2 * F.fc))) two) (F.nm one) F.nc y ↔ _
    rw [hn', key x hx, key y hy]
    have old_in : F.nm one ∈ F.g := (g.on _).mpr ⟨one, h1, rfl⟩
    have ing : ∀ z ∈ S', F.nm (partP one two (ot one) (ot two) (2 * F.fc) z) ∈ F.g := fun z hz => (g.on _).mpr ⟨_, φm z hz, rfl⟩
    by_cases x2 : x ∈ rimL (face ot n) two
    · rw [if_pos x2]
      by_cases y2 : y ∈ rimL (face ot n) two
      · rw [if_pos y2]; exact ⟨fun _ => ((m2 x).mp x2).symm.trans ((m2 y).mp y2), fun _ => rfl⟩
      · rw [if_neg y2]
        refine ⟨fun z => absurd ?_ hn, fun z => absurd ((m2 y).mpr (((m2 x).mp x2).trans z)) y2⟩
        rw [z]
        split
        · exact old_in
        · exact ing y hy
    · rw [if_neg x2]
      by_cases y2 : y ∈ rimL (face ot n) two
      · rw [if_pos y2]
        refine ⟨fun z => absurd ?_ hn, fun z => absurd ((m2 x).mpr (((m2 y).mp y2).trans z.symm)) x2⟩
        rw [← z]
        split
        · exact old_in
        · exact ing x hx
      · rw [if_neg y2]
        by_cases x1 : x ∈ rimL (face ot n) one
        · rw [if_pos x1]
          by_cases y1 : y ∈ rimL (face ot n) one
          · rw [if_pos y1]; exact ⟨fun _ => ((m1 x).mp x1).symm.trans ((m1 y).mp y1), fun _ => rfl⟩
          · rw [if_neg y1]
            exact ⟨fun z => absurd ((g.lab _ h1 _ (φm y hy)).mp z) (neither y hy y2 y1), fun z => absurd ((m1 y).mpr (((m1 x).mp x1).trans z)) y1⟩
        · rw [if_neg x1]
          by_cases y1 : y ∈ rimL (face ot n) one
          · rw [if_pos y1]
            exact ⟨fun z => absurd ((g.lab _ h1 _ (φm x hx)).mp z.symm) (neither x hx x2 x1), fun z => absurd ((m1 x).mpr (((m1 y).mp y1).trans z.symm)) x1⟩
          · rw [if_neg y1, g.lab _ (φm x hx) _ (φm y hy)]
            constructor
            · intro z
              exact ((rep x hx).trans (rS.mpr (P.bwd _ (φm x hx) _ (φm y hy) (neither x hx x2 x1) z))).trans (rep y hy).symm
            · intro z
              exact P.fwd _ (φm x hx) _ (φm y hy) (rS.mp (((rep x hx).symm.trans z).trans (rep y hy)))
  have gnd : (F.g ++ [F.nc]).Nodup := List.nodup_append.mpr ⟨g.gnd, List.pairwise_singleton _ _, fun a ha b hb z => hn (by rw [← List.mem_singleton.mp hb, ← z]; exact ha)⟩
  have W2 : Web (part0 F S' N' one two q).S (part0 F S' N' one two q).nx := by
    show Web S' (partF F.nx one two (2 * F.fc))
    rw [hn']
    exact W'
  have lab2 : ∀ x ∈ (part0 F S' N' one two q).S, ∀ y ∈ (part0 F S' N' one two q).S, (part0 F S' N' one two q).nm x = (part0 F S' N' one two q).nm y ↔ Rim (part0 F S' N' one two q).S (part0 F S' N' one two q).nx x y := by
    show ∀ x ∈ S', ∀ y ∈ S', (part0 F S' N' one two q).nm x = (part0 F S' N' one two q).nm y ↔ Rim S' (partF F.nx one two (2 * F.fc)) x y
    rw [hn']
    exact lab
  refine ⟨W2, hN, nd, lab2, on_of W2 lab2 gnd (fun x hx => ?_) ?_, gnd, fun x hx => ?_, ?_⟩
  · show partNm F.nm one two (2 * F.fc) (rimL (face ot (partF F.nx one two (2 * F.fc))) one) (rimL (face ot (partF F.nx one two (2 * F.fc))) two) (F.nm one) F.nc x ∈ _
    rw [hn', key x hx]
    split
    · exact List.mem_append.mpr (.inr List.mem_cons_self)
    · split
      · exact List.mem_append.mpr (.inl ((g.on _).mpr ⟨one, h1, rfl⟩))
      · exact List.mem_append.mpr (.inl ((g.on _).mpr ⟨_, φm x hx, rfl⟩))
  · show S'.length = 6 * (F.g ++ [F.nc]).length
    have e1 := ((List.perm_ext_iff_of_nodup ndS W0.map.nd).mpr hS).length_eq
    rw [e1, len0, List.length_append, List.length_singleton]
    have := g.six
    omega
  · show x < 2 * (F.fc + 3)
    rcases mem_blowS.mp ((hS x).mp hx) with q | q
    · have := hL x q; omega
    · unfold New6 at q; omega
  · show (F.g ++ [F.nc]).length ≤ 60
    rw [List.length_append, List.length_singleton]
    omega
/-! Fe: the deeds. -/
/-- nothing of it is too great -/
def Lm (F : Fr) : Prop := ∃ t D, LimT F t D ∧ t ≤ 500
theorem Lm.bk {F : Fr} (l : Lm F) : F.bk.length ≤ 100000 := by
  obtain ⟨t, D, lt, ht⟩ := l
  have := lt.bk
  omega
/-! ### push and pull -/
def wordB (b : Bool) : Str := if b = true then "pull" else "push"
noncomputable def turnF (F : Fr) (b : Bool) (f : Int) (l' : List Int) : Fr := wrF (turn0 F b f) F.g F.gs (sd F) l' ⟨F.mo, wordB b, [f]⟩
def LOk (F : Fr) (g' l' : List Int) : Prop := l'.Nodup ∧ ∀ j, j ∈ l' ↔ j ∈ F.l ∨ j ∈ g'
/-! turned: slots froth, order, ahead, film, made, end -/
/-! Ff: bursts. -/
/-! renamed: slots froth, gone, kept, names, end -/
/-! ### a film burst -/
def bK (F : Fr) (f : Int) : Int := min (F.nm (2 * f)) (F.nm (ot (2 * f)))
def bG (F : Fr) (f : Int) : Int := max (F.nm (2 * f)) (F.nm (ot (2 * f)))
def joinG (F : Fr) (gone kept : Int) : Int → Rat := fun j => if j = kept then F.gs kept + F.gs gone else F.gs j
theorem bKG (F : Fr) (f : Int) : (bG F f = F.nm (2 * f) ∧ bK F f = F.nm (ot (2 * f))) ∨ (bG F f = F.nm (ot (2 * f)) ∧ bK F f = F.nm (2 * f)) := by
  unfold bG bK
  omega
noncomputable def burstF (F : Fr) (S' : List Int) (f : Int) (l' : List Int) : Fr := wrF (away0 F S' f (bG F f) (bK F f) (joinG F (bG F f) (bK F f))) F.g F.gs (sd F) l' ⟨F.mo, "burst", [f, bG F f, bK F f]⟩
def SOk (F : Fr) (f : Int) (S' : List Int) : Prop := S'.Nodup ∧ ∀ z, z ∈ S' ↔ z ∈ wS F.S F.nx (2 * f)
/-! bursting: slots froth, order, ahead, film, made, hands, kept, gone -/
/-! Fi: blowing, parting. -/
def GasOk (n d : Int) : Prop := 1 ≤ n ∧ n ≤ 1000000 ∧ 1 ≤ d ∧ d ≤ 60
instance {n d : Int} : Decidable (GasOk n d) := by unfold GasOk; exact inferInstance
def qt (n d : Int) : Rat := (n : Rat) / (d : Rat)
theorem qt_mul {n d : Int} (h : d ≠ 0) : qt n d * (d : Rat) = (n : Rat) := Rat.div_mul_cancel (ic_ne h)
/-! gas_of: slots num, den -/
/-! room: slots froth -/
/-! new_name: slots froth, gas, name -/
theorem Good.fc0 {F : Fr} (g : G0 F) : 0 ≤ F.fc := by
  obtain ⟨x, hx⟩ := List.exists_mem_of_ne_nil _ g.web.ne
  have := g.fc x hx
  have := g.web.pos x hx
  omega
theorem Good.nnc {F : Fr} (g : Good F) : F.nc ∉ F.l := fun h => by have := g.nc _ h; omega
theorem Good.nng {F : Fr} (g : Good F) : F.nc ∉ F.g := fun h => g.nnc (g.gl _ h)
noncomputable def blowF' (F : Fr) (N' : List Int) (e : Int) (q : Rat) (l' : List Int) : Fr := wrF (blow0 F N' e q) F.g F.gs (sd F) l' ⟨F.mo, "blow", [F.nc]⟩
def NOk (F : Fr) (N' : List Int) : Prop := N'.Nodup ∧ ∀ z, z ∈ N' ↔ z ∈ blowS F.S (2 * F.fc)
/-! blowing: slots froth, order, ahead, first, made, gas, low, name, end -/
/-! Fj: parting. -/
noncomputable def partF' (F : Fr) (S' N' : List Int) (one two : Int) (q : Rat) (l' : List Int) : Fr := wrF (part0 F S' N' one two q) F.g F.gs (sd F) l' ⟨F.mo, "part", [F.nm one, F.nc]⟩
def POk (F : Fr) (S' N' : List Int) : Prop := S'.Nodup ∧ (∀ z, z ∈ S' ↔ z ∈ blowS F.S (2 * F.fc)) ∧ N'.Nodup ∧ ∀ z, z ∈ N' ↔ z ∈ S'
theorem qt_pos {n d : Int} (h1 : 0 < n) (h2 : 0 < d) : 0 < qt n d := by
  unfold qt
  refine (Rat.lt_div_iff (Rat.intCast_pos.mpr h2)).mpr ?_
  rw [Rat.zero_mul]
  exact Rat.intCast_pos.mpr h1
theorem qt_le {n d m : Int} (h1 : n ≤ m) (h0 : 0 ≤ m) (h2 : 1 ≤ d) : qt n d ≤ (m : Rat) := by
  unfold qt
  refine Rat.not_lt.mp fun h => ?_
  have q := (Rat.lt_div_iff (Rat.intCast_pos.mpr (show 0 < d by omega))).mp h
  rw [← Rat.intCast_mul, Rat.intCast_lt_intCast] at q
  have : m * 1 ≤ m * d := Int.mul_le_mul_of_nonneg_left h2 h0
  omega
theorem qt_nn {n d : Int} (h1 : 0 ≤ n) (h2 : 1 ≤ d) : 0 ≤ qt n d := by
  rcases Int.lt_or_eq_of_le h1 with h | h
  · exact Rat.le_of_lt (qt_pos h (by omega))
  · rw [← h]
    unfold qt
    have : ((0 : Int) : Rat) / (d : Rat) = 0 := by
      refine rat_cancel (ic_ne (show d ≠ 0 by omega)) ?_
      rw [Rat.div_mul_cancel (ic_ne (show d ≠ 0 by omega)), Rat.zero_mul]
      rfl
    rw [this]
    exact Rat.le_refl
theorem qt_bd {n d : Int} {M : Nat} (h0 : 0 ≤ n) (h1 : n ≤ (M : Int)) (h2 : 1 ≤ d) : Bd d.natAbs M (qt n d) := by
  have ed : ((d.natAbs : Nat) : Int) = d := by omega
  have e := qt_mul (n := n) (show d ≠ 0 by omega)
  refine ⟨⟨n, by rw [ed]; exact e⟩, ?_, qt_le h1 (by omega) h2⟩
  have := qt_nn h0 h2
  have q : (0 : Rat) ≤ ((M : Int) : Rat) := Rat.intCast_nonneg.mpr (by omega)
  grind
/-! parting: slots froth, order, ahead, one, two, first, made, gas, old, low, name, end -/
/-! Fk: waiting. -/
def goG (F : Fr) (hr : Rat) (k : Int) : Rat := F.gs k + hr * ((sd F k - 6 : Int) : Rat)
def goF (F : Fr) (hr : Rat) : Fr := { F with gs := fun k => if k ∈ F.g then goG F hr k else F.gs k, mo := F.mo + hr }
/-! go_by: slots froth, hours, sides, name -/
/-! ### the first to go -/
noncomputable def rowOf (F : Fr) (k : Int) : Rw := ⟨k, (F.gs k).num, ((F.gs k).den : Int), sd F k⟩
noncomputable def firstF (F : Fr) : Go := firstGo (F.g.map (rowOf F))
/-! to_go: slots froth, found, name -/
/-! Fl: one goes; waits. -/
/-! ### one goes -/
structure Edge (F : Fr) (name e : Int) : Prop where
  s : e ∈ F.S
  n : F.nm e = name
  o : F.nm (ot e) ≠ name
structure LeastE (F : Fr) (name e : Int) : Prop extends Edge F name e where
  le : ∀ z, Edge F name z → e ≤ z
noncomputable def gone0 (F : Fr) (S' : List Int) (e : Int) : Fr := away0 F S' (e / 2) (F.nm e) (F.nm (ot e)) F.gs
noncomputable def goneF (F : Fr) (S' : List Int) (e : Int) (l' : List Int) : Fr := wrF (gone0 F S' e) F.g F.gs (sd F) l' ⟨F.mo, "gone", [e / 2, F.nm e, F.nm (ot e)]⟩
theorem edge_two {F : Fr} {name e : Int} (g : G0 F) (E : Edge F name e) : 2 * (e / 2) ∈ F.S ∧ ¬ Rim F.S F.nx (2 * (e / 2)) (ot (2 * (e / 2))) ∧ ((F.nm e = F.nm (2 * (e / 2)) ∧ F.nm (ot e) = F.nm (ot (2 * (e / 2)))) ∨ (F.nm e = F.nm (ot (2 * (e / 2))) ∧ F.nm (ot e) = F.nm (2 * (e / 2)))) := by
  have M := g.web.map
  have ho := M.ca _ E.s
  rcases ot_or (x := 2 * (e / 2)) (y := e) (by omega) with z | z
  · rw [z]
    exact ⟨E.s, fun r => E.o (by rw [← E.n]; exact ((g.lab _ E.s _ ho).mpr r).symm), .inl ⟨rfl, rfl⟩⟩
  · rw [z, ot_ot]
    exact ⟨ho, fun r => E.o (by rw [← E.n]; exact (g.lab _ ho _ E.s).mpr r), .inr ⟨rfl, rfl⟩⟩
/-! let_go: slots froth, name, ahead, between, end, kept -/
/-! Fn: what holds behind each deed (plain). -/
structure LimM (F : Fr) (t s D M : Nat) : Prop where
  D0 : 0 < D
  D1 : D ≤ 60 ^ s
  gs : ∀ k ∈ F.g, Bd D M (F.gs k)
  mo : Bd D M F.mo
  lr : ∀ k ∈ F.l, ∀ r ∈ F.lg k, Bd D M r.hour ∧ Bd D M r.gas ∧ 0 ≤ r.sides ∧ r.sides ≤ 1000
  br : ∀ r ∈ F.bk, Bd D M r.hour
  ll : F.l.length ≤ 36 + t
  lg : ∀ k ∈ F.l, (F.lg k).length ≤ t + 1
  bk : F.bk.length ≤ t
theorem LimM.of {F : Fr} {t D : Nat} (l : LimT F t D) : LimM F t t D (Mt t) := ⟨l.D0, l.D1, l.gs, l.mo, l.lr, l.br, l.ll, l.lg, l.bk⟩
theorem LimM.to {F : Fr} {t D M : Nat} (l : LimM F t t D M) (h : M ≤ Mt t) : LimT F t D :=
  ⟨l.D0, l.D1, fun k hk => (l.gs k hk).up h, l.mo.up h, fun k hk r hr => ⟨(l.lr k hk r hr).1.up h, (l.lr k hk r hr).2.1.up h, (l.lr k hk r hr).2.2⟩, fun r hr => (l.br r hr).up h, l.ll, l.lg, l.bk⟩
/-- finer, greater -/
theorem LimM.fine {F : Fr} {t s D M c M' : Nat} (l : LimM F t s D M) (hc : 0 < c) (hc2 : c ≤ 60) (hM : M ≤ M') : LimM F t (s + 1) (D * c) M' := by
  have b : ∀ {q}, Bd D M q → Bd (D * c) M' q := fun h => (h.mul c).up hM
  refine ⟨Nat.mul_pos l.D0 hc, ?_, fun k hk => b (l.gs k hk), b l.mo, fun k hk r hr => ⟨b (l.lr k hk r hr).1, b (l.lr k hk r hr).2.1, (l.lr k hk r hr).2.2⟩, fun r hr => b (l.br r hr), l.ll, l.lg, l.bk⟩
  calc D * c ≤ 60 ^ s * 60 := Nat.mul_le_mul l.D1 hc2
    _ = 60 ^ (s + 1) := (Nat.pow_succ 60 s).symm
/-- later -/
theorem LimM.later {F : Fr} {t s D M t' s' M' : Nat} (l : LimM F t s D M) (ht : t ≤ t') (hs : s ≤ s') (hM : M ≤ M') : LimM F t' s' D M' := by
  have b : ∀ {q}, Bd D M q → Bd D M' q := fun h => h.up hM
  exact ⟨l.D0, Nat.le_trans l.D1 (Nat.pow_le_pow_right (by decide) hs), fun k hk => b (l.gs k hk), b l.mo, fun k hk r hr => ⟨b (l.lr k hk r hr).1, b (l.lr k hk r hr).2.1, (l.lr k hk r hr).2.2⟩, fun r hr => b (l.br r hr), by have := l.ll; omega, fun k hk => by have := l.lg k hk; omega, by have := l.bk; omega⟩
theorem LimM.lm {F : Fr} {t D M : Nat} (l : LimM F t t D M) (h : M ≤ Mt t) (ht : t ≤ 500) : Lm F := ⟨t, D, l.to h, ht⟩
/-! ### a row written -/
theorem wr_g0 {F1 : Fr} (g1 : G0 F1) {g0 : List Int} {gs0 : Int → Rat} {w0 : Int → Int} {l' : List Int} {row : BRow} : G0 (wrF F1 g0 gs0 w0 l' row) := ⟨g1.web, g1.nk, g1.nnd, g1.lab, g1.on, g1.gnd, g1.fc, g1.few⟩
theorem wr_good {F F1 : Fr} (g : Good F) (g1 : G0 F1) (gp : ∀ k ∈ F1.g, 0 ≤ F1.gs k) (hnc : F.nc ≤ F1.nc) (new : ∀ k ∈ F1.g, k ∈ F.l ∨ (k = F.nc ∧ F.nc < F1.nc ∧ 0 ≤ F.nc)) {gs0 : Int → Rat} {w0 : Int → Int} {g0 l' : List Int} {row : BRow} (lo : LOk F F1.g l') : Good (wrF F1 g0 gs0 w0 l' row) := by
  refine ⟨wr_g0 g1, gp, lo.1, fun k hk => (lo.2 k).mpr (.inr hk), fun k hk => ?_⟩
  have key : k ∈ F.l → 0 ≤ k ∧ k < F1.nc := fun q => by have := g.nc k q; omega
  show 0 ≤ k ∧ k < F1.nc
  rcases (lo.2 k).mp hk with q | q
  · exact key q
  · rcases new k q with q | ⟨q1, q2, q3⟩
    · exact key q
    · rw [q1]; exact ⟨q3, q2⟩
theorem wr_lim {F F1 : Fr} {t s D M : Nat} (u : LimM F t s D M) (hl : F1.l = F.l) (hlg : F1.lg = F.lg) (hbk : F1.bk = F.bk) (hmo : F1.mo = F.mo) (gs1 : ∀ k ∈ F1.g, Bd D M (F1.gs k)) (sdb : ∀ k, 0 ≤ sd F1 k ∧ sd F1 k ≤ 1000)
    (new : ∀ k ∈ F1.g, k ∈ F.l ∨ k = F.nc) {gs0 : Int → Rat} {w0 : Int → Int} {l' : List Int} {row : BRow} (hrow : row.hour = F.mo) (sub0 : ∀ k ∈ F.g, k ∈ F.l) (lo : LOk F F1.g l') : LimM (wrF F1 F.g gs0 w0 l' row) (t + 1) s D M := by
  have mo' : Bd D M F1.mo := by rw [hmo]; exact u.mo
  refine ⟨u.D0, u.D1, gs1, mo', fun k hk r hr => ?_, fun r hr => ?_, ?_, fun k hk => ?_, ?_⟩
  · have hr : r ∈ noteL F1 F.g gs0 w0 k := hr
    have old : ∀ {r}, k ∈ F.l → r ∈ F1.lg k → Bd D M r.hour ∧ Bd D M r.gas ∧ 0 ≤ r.sides ∧ r.sides ≤ 1000 := fun hk hr => by rw [hlg] at hr; exact u.lr k hk _ hr
    have new1 : k ∈ F1.g → Bd D M (F1.mo) ∧ Bd D M (F1.gs k) ∧ 0 ≤ sd F1 k ∧ sd F1 k ≤ 1000 := fun h => ⟨mo', gs1 k h, sdb k⟩
    unfold noteL at hr
    by_cases c0 : k ∈ F.g
    · have kl := sub0 k c0
      rw [if_pos c0] at hr
      by_cases c1 : k ∈ F1.g
      · rw [if_pos c1] at hr
        split at hr
        · exact old kl hr
        · rcases List.mem_append.mp hr with q | q
          · exact old kl q
          · rw [List.mem_singleton.mp q]; exact new1 c1
      · rw [if_neg c1] at hr
        rcases List.mem_append.mp hr with q | q
        · exact old kl q
        · rw [List.mem_singleton.mp q]; exact ⟨mo', Bd.zero, by show (0 : Int) ≤ 0; decide, by show (0 : Int) ≤ 1000; decide⟩
    · rw [if_neg c0] at hr
      by_cases c1 : k ∈ F1.g
      · rw [if_pos c1] at hr
        rw [List.mem_singleton.mp hr]; exact new1 c1
      · rw [if_neg c1] at hr
        rcases (lo.2 k).mp hk with q | q
        · exact old q hr
        · exact absurd q c1
  · have hr : r ∈ F1.bk ++ [row] := hr
    rw [hbk] at hr
    rcases List.mem_append.mp hr with q | q
    · exact u.br r q
    · rw [List.mem_singleton.mp q, hrow]; exact u.mo
  · show l'.length ≤ 36 + (t + 1)
    have := sub_len lo.1 (m := F.nc :: F.l) fun z hz => by
      rcases (lo.2 z).mp hz with q | q
      · exact List.mem_cons_of_mem _ q
      · exact (new z q).elim (List.mem_cons_of_mem _) fun e => e ▸ List.mem_cons_self
    rw [List.length_cons] at this
    have := u.ll
    omega
  · show (noteL F1 F.g gs0 w0 k).length ≤ (t + 1) + 1
    unfold noteL
    have old : k ∈ F.l → (F1.lg k).length ≤ t + 1 := fun h => by rw [hlg]; exact u.lg k h
    by_cases c0 : k ∈ F.g
    · have := old (sub0 k c0)
      rw [if_pos c0]
      split
      · split
        · omega
        · rw [List.length_append, List.length_singleton]; omega
      · rw [List.length_append, List.length_singleton]; omega
    · rw [if_neg c0]
      split
      · rw [List.length_singleton]; omega
      · rename_i c1
        have := old (((lo.2 k).mp hk).resolve_right c1)
        omega
  · show (F1.bk ++ [row]).length ≤ t + 1
    rw [hbk, List.length_append, List.length_singleton]
    have := u.bk
    omega
theorem sdb_of {F : Fr} (g : G0 F) (k : Int) : 0 ≤ sd F k ∧ sd F k ≤ 1000 := by have := sd_le (F := F) k g.nl; omega
/-! ### the sum of all gas -/
def sumR (l : List Int) (f : Int → Rat) : Rat := (l.map f).sum
def tot (F : Fr) : Rat := sumR F.g F.gs
theorem sumR_nil {f : Int → Rat} : sumR [] f = 0 := rfl
theorem sumR_cons {a : Int} {l : List Int} {f : Int → Rat} : sumR (a :: l) f = f a + sumR l f := by unfold sumR; rw [List.map_cons, List.sum_cons]
theorem sumR_app {l m : List Int} {f : Int → Rat} : sumR (l ++ m) f = sumR l f + sumR m f := by
  induction l with
  | nil => rw [List.nil_append, sumR_nil, Rat.zero_add]
  | cons a l ih => rw [List.cons_append, sumR_cons, sumR_cons, ih, Rat.add_assoc]
theorem sumR_congr {l : List Int} {f g : Int → Rat} (h : ∀ k ∈ l, f k = g k) : sumR l f = sumR l g := by unfold sumR; rw [List.map_congr_left h]
theorem sumR_add {l : List Int} {f g : Int → Rat} : sumR l (fun k => f k + g k) = sumR l f + sumR l g := by
  induction l with
  | nil => rw [sumR_nil, sumR_nil, sumR_nil, Rat.zero_add]
  | cons a l ih => rw [sumR_cons, sumR_cons, sumR_cons, ih]; grind
theorem sumR_mul {l : List Int} {f : Int → Rat} {c : Rat} : sumR l (fun k => c * f k) = c * sumR l f := by
  induction l with
  | nil => rw [sumR_nil, sumR_nil, Rat.mul_zero]
  | cons a l ih => rw [sumR_cons, sumR_cons, ih]; grind
theorem sumR_perm {l m : List Int} {f : Int → Rat} (h : l.Perm m) : sumR l f = sumR m f := by
  induction h with
  | nil => rfl
  | cons x _ ih => rw [sumR_cons, sumR_cons, ih]
  | swap x y l => rw [sumR_cons, sumR_cons, sumR_cons, sumR_cons]; grind
  | trans _ _ i1 i2 => rw [i1, i2]
/-- a count, name by name -/
theorem cnt_sum {nm : Int → Int} {g : List Int} (nd : g.Nodup) : ∀ {N : List Int}, (∀ e ∈ N, nm e ∈ g) → sumR g (fun k => (((N.countP fun e => decide (nm e = k) : Nat) : Int) : Rat)) = ((N.length : Int) : Rat)
  | [], _ => by
    have : sumR g (fun k => ((((([] : List Int).countP fun e => decide (nm e = k)) : Nat) : Int) : Rat)) = sumR g fun k => 0 * (0 : Rat) := sumR_congr fun k _ => by rw [List.countP_nil, Rat.zero_mul]; rfl
    rw [this, sumR_mul, Rat.zero_mul]
    rfl
  | a :: N, h => by
    have ih := cnt_sum nd (N := N) fun e he => h e (List.mem_cons_of_mem _ he)
    have e1 : (fun k => ((((a :: N).countP fun e => decide (nm e = k) : Nat) : Int) : Rat)) = fun k => (((N.countP fun e => decide (nm e = k) : Nat) : Int) : Rat) + (if k = nm a then 1 else 0) := funext fun k => by
      rw [List.countP_cons]
      by_cases c : nm a = k
      · rw [if_pos (by rw [c]; exact decide_eq_true rfl), if_pos c.symm, Int.natCast_add, Rat.intCast_add]; rfl
      · rw [if_neg (by rw [decide_eq_false c]; exact Bool.false_ne_true), if_neg (Ne.symm c), Nat.add_zero, Rat.add_zero]
    rw [e1, sumR_add, ih]
    have ha := h a List.mem_cons_self
    have e2 : sumR g (fun k => if k = nm a then (1 : Rat) else 0) = 1 := by
      clear e1 ih h
      induction g with
      | nil => exact absurd ha List.not_mem_nil
      | cons b g ih =>
        obtain ⟨n1, n2⟩ := List.nodup_cons.mp nd
        rw [sumR_cons]
        by_cases c : b = nm a
        · have z : sumR g (fun k => if k = nm a then (1 : Rat) else 0) = sumR g fun k => 0 * (0 : Rat) := sumR_congr fun k hk => by rw [if_neg (fun q : k = nm a => n1 (by rw [c, ← q]; exact hk)), Rat.zero_mul]
          rw [if_pos c, z, sumR_mul, Rat.zero_mul, Rat.add_zero]
        · rw [if_neg c, ih n2 ((List.mem_cons.mp ha).resolve_left (Ne.symm c)), Rat.zero_add]
    rw [e2, List.length_cons, Int.natCast_add, Rat.intCast_add]
    rfl
theorem sd_sum {F : Fr} (g : G0 F) : sumR F.g (fun k => ((sd F k : Int) : Rat)) = ((6 * (F.g.length : Int) : Int) : Rat) := by
  have e := cnt_sum (nm := F.nm) g.gnd (N := F.N) fun e he => (g.on _).mpr ⟨e, (g.nk e).mp he, rfl⟩
  have : F.N.length = F.S.length := ((List.perm_ext_iff_of_nodup g.nnd g.web.map.nd).mpr g.nk).length_eq
  rw [this, g.six] at e
  exact e
def Lim (F : Fr) (n : Nat) : Prop := ∃ t D, LimT F t D ∧ t + F.g.length ≤ n ∧ tot F ≤ (((100000000 * (t + 1) : Nat) : Int) : Rat)
theorem sumR_nn : ∀ {l : List Int} {f : Int → Rat}, (∀ k ∈ l, 0 ≤ f k) → 0 ≤ sumR l f
  | [], _, _ => by rw [sumR_nil]; exact Rat.le_refl
  | a :: l, f, h => by
    rw [sumR_cons]
    have i := sumR_nn (l := l) (f := f) fun k hk => h k (List.mem_cons_of_mem _ hk)
    have j := h a List.mem_cons_self
    grind
theorem sumR_le : ∀ {l : List Int} {f : Int → Rat}, (∀ k ∈ l, 0 ≤ f k) → ∀ k ∈ l, f k ≤ sumR l f
  | [], _, _, k, hk => absurd hk List.not_mem_nil
  | a :: l, f, h, k, hk => by
    rw [sumR_cons]
    have i := sumR_nn (l := l) (f := f) fun k hk => h k (List.mem_cons_of_mem _ hk)
    have j := h a List.mem_cons_self
    rcases List.mem_cons.mp hk with q | q
    · rw [q]; grind
    · have := sumR_le (l := l) (f := f) (fun k hk => h k (List.mem_cons_of_mem _ hk)) k q
      grind
/-! Fp: who goes first; hours go by (plain). -/
noncomputable def hrsQ (q : Rat) (s : Int) : Rat := if q = 0 then 0 else q / ((6 - s : Int) : Rat)
noncomputable def hrs (F : Fr) (k : Int) : Rat := hrsQ (F.gs k) (sd F k)
def Goes (F : Fr) (k : Int) : Prop := F.gs k = 0 ∨ sd F k < 6
theorem hl_rat {q : Rat} {s : Int} (hs : q ≠ 0 → s < 6) : hl q.num (q.den : Int) s = ((hrsQ q s).num, ((hrsQ q s).den : Int)) := by
  unfold hl hrsQ
  by_cases c : q = 0
  · rw [if_pos (Rat.num_eq_zero.mpr c), if_pos c]; rfl
  · rw [if_neg (fun z => c (Rat.num_eq_zero.mp z)), if_neg c]
    have h6 : (6 - s : Int) ≠ 0 := by have := hs c; omega
    refine amt_eq (Int.mul_ne_zero (den_ne q) h6) ?_
    rw [Rat.intCast_mul, Rat.mul_comm (((q.den : Nat) : Int) : Rat), ← Rat.mul_assoc, Rat.div_mul_cancel (ic_ne h6)]
    exact rat_mul_den q
theorem ahead_rat {q r : Rat} {n m : Int} : aheadB q.num (q.den : Int) n r.num (r.den : Int) m = true ↔ q < r ∨ (q = r ∧ n < m) := by
  unfold aheadB
  rw [Bool.or_eq_true, Bool.and_eq_true, decide_eq_true_eq, decide_eq_true_eq, decide_eq_true_eq, rat_lt, rat_eq]
structure First (F : Fr) (l : List Int) (n : Int) : Prop where
  m : n ∈ l
  g : Goes F n
  le : ∀ k ∈ l, Goes F k → hrs F n < hrs F k ∨ (hrs F n = hrs F k ∧ n ≤ k)
theorem goes_row {F : Fr} {k : Int} : goes (rowOf F k) = true ↔ Goes F k := by
  unfold goes rowOf Goes
  rw [Bool.or_eq_true, decide_eq_true_eq, decide_eq_true_eq]
  exact or_congr Rat.num_eq_zero Iff.rfl
def FirstP (F : Fr) (l : List Int) (acc : Go) : Prop := (acc = none ∧ ∀ k ∈ l, ¬ Goes F k) ∨ ∃ n, First F l n ∧ acc = some ((hrs F n).num, ((hrs F n).den : Int), n)
theorem first_step {F : Fr} {l : List Int} {acc : Go} {a : Int} (h : FirstP F l acc) : FirstP F (l ++ [a]) (goStep acc (rowOf F a)) := by
  unfold goStep
  have mm : ∀ {k}, k ∈ l ++ [a] → k ∈ l ∨ k = a := fun h => (List.mem_append.mp h).imp id fun h => List.mem_singleton.mp h
  have ma : a ∈ l ++ [a] := List.mem_append.mpr (.inr List.mem_cons_self)
  by_cases c : Goes F a
  · rw [if_pos (goes_row.mpr c)]
    have e : hl (rowOf F a).a (rowOf F a).b (rowOf F a).sides = ((hrs F a).num, ((hrs F a).den : Int)) := hl_rat fun z => c.resolve_left z
    rw [e]
    rcases h with ⟨rfl, h⟩ | ⟨n, h, rfl⟩
    · exact .inr ⟨a, ⟨ma, c, fun k hk gk => (mm hk).elim (fun q => absurd gk (h k q)) fun q => by rw [q]; exact .inr ⟨rfl, Int.le_refl _⟩⟩, rfl⟩
    · show FirstP F (l ++ [a]) (goPick (hrs F a).num ((hrs F a).den : Int) a (some ((hrs F n).num, ((hrs F n).den : Int), n)))
      by_cases b : hrs F a < hrs F n ∨ (hrs F a = hrs F n ∧ a < n)
      · rw [goPick_yes (ahead_rat.mpr b)]
        refine .inr ⟨a, ⟨ma, c, fun k hk gk => ?_⟩, rfl⟩
        rcases mm hk with q | q
        · have := h.le k q gk
          rcases b with b | ⟨b1, b2⟩
          · rcases this with z | ⟨z, _⟩
            · exact .inl (by grind)
            · exact .inl (by grind)
          · rcases this with z | ⟨z, z2⟩
            · exact .inl (by grind)
            · exact .inr ⟨b1.trans z, by omega⟩
        · rw [q]; exact .inr ⟨rfl, Int.le_refl _⟩
      · rw [goPick_no (by
          cases q : aheadB (hrs F a).num ((hrs F a).den : Int) a (hrs F n).num ((hrs F n).den : Int) n with
          | false => rfl
          | true => exact absurd (ahead_rat.mp q) b)]
        refine .inr ⟨n, ⟨List.mem_append.mpr (.inl h.m), h.g, fun k hk gk => ?_⟩, rfl⟩
        rcases mm hk with q | q
        · exact h.le k q gk
        · rw [q]
          by_cases z : hrs F n < hrs F a
          · exact .inl z
          · have z1 : hrs F n = hrs F a := by
              have : ¬ hrs F a < hrs F n := fun y => b (.inl y)
              grind
            refine .inr ⟨z1, Int.not_lt.mp fun y => b (.inr ⟨z1.symm, y⟩)⟩
  · rw [if_neg (fun z => c (goes_row.mp z))]
    rcases h with ⟨rfl, h⟩ | ⟨n, h, rfl⟩
    · exact .inl ⟨rfl, fun k hk => (mm hk).elim (h k) fun q => q ▸ c⟩
    · exact .inr ⟨n, ⟨List.mem_append.mpr (.inl h.m), h.g, fun k hk gk => (mm hk).elim (fun q => h.le k q gk) fun q => absurd (q ▸ gk) c⟩, rfl⟩
theorem first_all {F : Fr} : ∀ (l pre : List Int) (acc : Go), FirstP F pre acc → FirstP F (pre ++ l) ((l.map (rowOf F)).foldl goStep acc)
  | [], pre, acc, h => by rw [List.append_nil]; exact h
  | a :: l, pre, acc, h => by
    have := first_all l (pre ++ [a]) _ (first_step h)
    rw [List.append_assoc] at this
    exact this
theorem first_spec (F : Fr) : FirstP F F.g (firstF F) := by
  have := first_all (F := F) F.g [] none (.inl ⟨rfl, fun k hk => absurd hk List.not_mem_nil⟩)
  exact this
theorem First.one {F : Fr} {l : List Int} {n m : Int} (h : First F l n) (h' : First F l m) : n = m := by
  have a := h.le m h'.m h'.g
  have b := h'.le n h.m h.g
  rcases a with a | ⟨a, a2⟩
  · rcases b with b | ⟨b, _⟩
    · exact absurd b (by grind)
    · exact absurd a (by grind)
  · rcases b with b | ⟨_, b2⟩
    · exact absurd b (by grind)
    · omega
theorem div_nn {q : Rat} {m : Int} (h : 0 ≤ q) (hm : 0 < m) : 0 ≤ q / (m : Rat) := by
  refine Rat.not_lt.mp fun z => ?_
  have := (Rat.div_lt_iff (Rat.intCast_pos.mpr hm)).mp z
  rw [Rat.zero_mul] at this
  grind
theorem hrs_nn {F : Fr} {k : Int} (h : 0 ≤ F.gs k) (gk : Goes F k) : 0 ≤ hrs F k := by
  unfold hrs hrsQ
  split
  · exact Rat.le_refl
  · rename_i c
    exact div_nn h (by have := gk.resolve_left c; omega)
/-- gas, hours and sides -/
theorem hrs_mul {F : Fr} {k : Int} (h : F.gs k = 0 ∨ sd F k < 6) : hrs F k * ((6 - sd F k : Int) : Rat) = F.gs k := by
  unfold hrs hrsQ
  by_cases c : F.gs k = 0
  · rw [if_pos c, Rat.zero_mul, c]
  · rw [if_neg c]
    exact Rat.div_mul_cancel (ic_ne (by have := h.resolve_left c; omega))
theorem sixm (s : Int) : ((s - 6 : Int) : Rat) = -((6 - s : Int) : Rat) := by rw [← Rat.intCast_neg]; congr 1; omega
/-- nobody has less than none while the first one is waited for -/
theorem goG_nn {F : Fr} {h : Rat} {k : Int} (g0 : 0 ≤ F.gs k) (h0 : 0 ≤ h) (hk : Goes F k → h ≤ hrs F k) : 0 ≤ goG F h k := by
  unfold goG
  by_cases c : sd F k < 6
  · have h1 := hk (.inr c)
    have h2 := hrs_mul (F := F) (k := k) (.inr c)
    have p : (0 : Rat) ≤ ((6 - sd F k : Int) : Rat) := Rat.intCast_nonneg.mpr (by omega)
    have := Rat.mul_le_mul_of_nonneg_right h1 p
    rw [sixm]
    grind
  · have p : (0 : Rat) ≤ ((sd F k - 6 : Int) : Rat) := Rat.intCast_nonneg.mpr (by omega)
    have := Rat.mul_nonneg h0 p
    grind
theorem goG_pos {F : Fr} {h : Rat} {k : Int} (g0 : 0 < F.gs k) (h0 : 0 ≤ h) (hk : Goes F k → h < hrs F k) : 0 < goG F h k := by
  unfold goG
  by_cases c : sd F k < 6
  · have h1 := hk (.inr c)
    have h2 := hrs_mul (F := F) (k := k) (.inr c)
    have p : (0 : Rat) < ((6 - sd F k : Int) : Rat) := Rat.intCast_pos.mpr (by omega)
    have := Rat.mul_lt_mul_of_pos_right h1 p
    rw [sixm]
    grind
  · have p : (0 : Rat) ≤ ((sd F k - 6 : Int) : Rat) := Rat.intCast_nonneg.mpr (by omega)
    have := Rat.mul_nonneg h0 p
    grind
theorem goG_zero {F : Fr} {k : Int} (gk : Goes F k) : goG F (hrs F k) k = 0 := by
  unfold goG
  have := hrs_mul gk
  rw [sixm]
  grind
theorem go_gs {F : Fr} {h : Rat} {k : Int} (hk : k ∈ F.g) : (goF F h).gs k = goG F h k := if_pos hk
theorem go_g0 {F : Fr} (g : G0 F) {h : Rat} : G0 (goF F h) := ⟨g.web, g.nk, g.nnd, g.lab, g.on, g.gnd, g.fc, g.few⟩
theorem go_good {F : Fr} (g : Good F) {h : Rat} (h0 : 0 ≤ h) (hk : ∀ k ∈ F.g, Goes F k → h ≤ hrs F k) : Good (goF F h) :=
  ⟨go_g0 g.toG0, fun k hk' => by rw [go_gs (F := F) hk']; exact goG_nn (g.gp k hk') h0 (hk k hk'), g.lnd, g.gl, g.nc⟩
theorem go_tot {F : Fr} (g : G0 F) {h : Rat} : tot (goF F h) = tot F := by
  unfold tot
  show sumR F.g (goF F h).gs = sumR F.g F.gs
  rw [sumR_congr fun k hk => go_gs (h := h) hk]
  have e : sumR F.g (goG F h) = sumR F.g (fun k => F.gs k + h * (((sd F k : Int) : Rat) + ((-6 : Int) : Rat))) := sumR_congr fun k _ => by
    unfold goG
    rw [Int.sub_eq_add_neg, Rat.intCast_add]
  rw [e, sumR_add, sumR_mul, sumR_add, sd_sum g]
  have c6 : ∀ l : List Int, sumR l (fun _ => ((-6 : Int) : Rat)) = ((-6 * (l.length : Int) : Int) : Rat) := fun l => by
    induction l with
    | nil => rw [sumR_nil]; rfl
    | cons a l ih => rw [sumR_cons, ih, ← Rat.intCast_add]; congr 1; rw [List.length_cons]; omega
  rw [c6, ← Rat.intCast_add]
  have : (6 * (F.g.length : Int) + -6 * (F.g.length : Int)) = 0 := by omega
  rw [this, Rat.intCast_zero, Rat.mul_zero, Rat.add_zero]
/-- the sizes -/
theorem go_bd {F : Fr} {t s D M N : Nat} (l : LimM F t s D M) (g : G0 F) {h : Rat} (hb : Bd D 100000000000 h) (hN : M + 100000000000000 ≤ N) : LimM (goF F h) t s D N ∧ ∀ k ∈ F.g, Bd D 100000000000000 (h * ((sd F k - 6 : Int) : Rat)) := by
  have tm : ∀ k ∈ F.g, Bd D 100000000000000 (h * ((sd F k - 6 : Int) : Rat)) := fun k hk => hb.times _ (by
    have := sd_le (F := F) k g.nl
    have : (sd F k - 6).natAbs ≤ 360 := by omega
    calc 100000000000 * (sd F k - 6).natAbs ≤ 100000000000 * 360 := Nat.mul_le_mul_left _ this
      _ ≤ 100000000000000 := by decide)
  have b : ∀ {q}, Bd D M q → Bd D N q := fun h => h.up (by omega)
  refine ⟨⟨l.D0, l.D1, fun k hk => ?_, (l.mo.add hb).up (by omega), fun k hk r hr => ⟨b (l.lr k hk r hr).1, b (l.lr k hk r hr).2.1, (l.lr k hk r hr).2.2⟩, fun r hr => b (l.br r hr), l.ll, l.lg, l.bk⟩, tm⟩
  rw [go_gs (F := F) hk]
  exact ((l.gs k hk).add (tm k hk)).up hN
theorem hrs_bd {F : Fr} {t s D M : Nat} (l : LimM F t s D M) {k : Int} (hk : k ∈ F.g) (gk : Goes F k) (s1 : 1 ≤ sd F k) (h0 : 0 ≤ hrs F k) {N : Nat} (hN : hrs F k ≤ ((N : Int) : Rat)) : Bd (D * 60) N (hrs F k) := by
  obtain ⟨a, ha⟩ := (l.gs k hk).i
  have lo : -((N : Int) : Rat) ≤ hrs F k := by
    have q : (0 : Rat) ≤ ((N : Int) : Rat) := Rat.intCast_nonneg.mpr (by omega)
    grind
  refine ⟨?_, lo, hN⟩
  by_cases c : F.gs k = 0
  · refine ⟨0, ?_⟩
    have : hrs F k = 0 := by unfold hrs hrsQ; rw [if_pos c]
    rw [this, Rat.zero_mul, Rat.intCast_zero]
  · have s6 := gk.resolve_left c
    have m := hrs_mul gk
    -- (6 - s) divides 60
    obtain ⟨u, hu⟩ : ∃ u : Int, (6 - sd F k) * u = 60 := by
      have : sd F k = 1 ∨ sd F k = 2 ∨ sd F k = 3 ∨ sd F k = 4 ∨ sd F k = 5 := by omega
      rcases this with e | e | e | e | e
      · exact ⟨12, by rw [e]; rfl⟩
      · exact ⟨15, by rw [e]; rfl⟩
      · exact ⟨20, by rw [e]; rfl⟩
      · exact ⟨30, by rw [e]; rfl⟩
      · exact ⟨60, by rw [e]; rfl⟩
    refine ⟨a * u, ?_⟩
    rw [Int.natCast_mul, Rat.intCast_mul, Rat.intCast_mul, ← ha, ← m]
    have h60 : (((60 : Nat) : Int) : Rat) = ((6 - sd F k : Int) : Rat) * ((u : Int) : Rat) := by rw [← Rat.intCast_mul, hu]; rfl
    rw [h60]
    grind
/-! Fq: bubbles go (plain). -/
theorem filter_perm {g : List Int} {n : Int} (nd : g.Nodup) (h : n ∈ g) : g.Perm (n :: g.filter fun j => decide (j ≠ n)) := by
  refine (List.perm_ext_iff_of_nodup nd ?_).mpr fun z => ?_
  · exact List.nodup_cons.mpr ⟨fun q => of_decide_eq_true (List.mem_filter.mp q).2 rfl, nd.filter _⟩
  · rw [List.mem_cons, List.mem_filter, decide_eq_true_eq]
    constructor
    · intro q
      by_cases c : z = n
      · exact .inl c
      · exact .inr ⟨q, c⟩
    · rintro (q | q)
      · exact q ▸ h
      · exact q.1
theorem gone_g0 {F : Fr} {n e : Int} {S' : List Int} (g : G0 F) (E : Edge F n e) (so : SOk F (e / 2) S') : G0 (gone0 F S' e) ∧ F.nm (ot e) ∈ F.g ∧ F.nm (ot e) ≠ n := by
  obtain ⟨t2, nr, hk⟩ := edge_two g E
  obtain ⟨g1, gg, kg, gk⟩ := away_g0 (gs' := F.gs) g t2 (.inr nr) so.1 so.2 hk
  exact ⟨g1, kg, E.o⟩
theorem gone_in {F : Fr} {n e : Int} (g : G0 F) (E : Edge F n e) : n ∈ F.g := (g.on n).mpr ⟨e, E.s, E.n⟩
theorem gone_g {F : Fr} {n e : Int} {S' l' : List Int} (E : Edge F n e) : (goneF F S' e l').g = F.g.filter fun j => decide (j ≠ n) := by
  show (F.g.filter fun j => decide (j ≠ F.nm e)) = _
  rw [E.n]
theorem gone_len {F : Fr} {n e : Int} {S' l' : List Int} (g : G0 F) (E : Edge F n e) : (goneF F S' e l').g.length + 1 = F.g.length := by
  rw [gone_g E]
  have := (filter_perm g.gnd (gone_in g E)).length_eq
  rw [List.length_cons] at this
  omega
theorem gone_good {F : Fr} {n e : Int} {S' l' : List Int} (g : Good F) (E : Edge F n e) (so : SOk F (e / 2) S') (lo : LOk F (F.g.filter fun j => decide (j ≠ n)) l') : Good (goneF F S' e l') := by
  obtain ⟨g1, _, _⟩ := gone_g0 g.toG0 E so
  have sub : ∀ k ∈ (gone0 F S' e).g, k ∈ F.g := fun k hk => (List.mem_filter.mp hk).1
  refine wr_good g g1 (fun k hk => g.gp k (sub k hk)) (Int.le_refl _) (fun k hk => .inl (g.gl k (sub k hk))) ?_
  show LOk F (F.g.filter fun j => decide (j ≠ F.nm e)) l'
  rw [E.n]
  exact lo
theorem gone_lim {F : Fr} {n e : Int} {S' l' : List Int} {t s D M : Nat} (l : LimM F t s D M) (g : Good F) (E : Edge F n e) (so : SOk F (e / 2) S') (lo : LOk F (F.g.filter fun j => decide (j ≠ n)) l') : LimM (goneF F S' e l') (t + 1) s D M := by
  obtain ⟨g1, _, _⟩ := gone_g0 g.toG0 E so
  have sub : ∀ k ∈ (gone0 F S' e).g, k ∈ F.g := fun k hk => (List.mem_filter.mp hk).1
  refine wr_lim (F1 := gone0 F S' e) l rfl rfl rfl rfl (fun k hk => l.gs k (sub k hk)) (sdb_of g1) (fun k hk => .inl (g.gl k (sub k hk))) rfl g.gl ?_
  show LOk F (F.g.filter fun j => decide (j ≠ F.nm e)) l'
  rw [E.n]
  exact lo
theorem gone_tot {F : Fr} {n e : Int} {S' l' : List Int} (g : G0 F) (E : Edge F n e) (h0 : F.gs n = 0) : tot (goneF F S' e l') = tot F := by
  unfold tot
  rw [gone_g E, sumR_perm (filter_perm g.gnd (gone_in g E)), sumR_cons, h0, Rat.zero_add]
  rfl
/-- a bubble among several has a side with another one beyond -/
theorem edge_ex {F : Fr} (g : G0 F) {n : Int} (hn : n ∈ F.g) (h2 : 2 ≤ F.g.length) : ∃ e, Edge F n e := by
  by_cases c : ∃ e, Edge F n e
  · exact c
  · exfalso
    have M := g.web.map
    have no : ∀ e ∈ F.S, F.nm e = n → F.nm (ot e) = n := fun e he q => by
      by_cases z : F.nm (ot e) = n
      · exact z
      · exact absurd ⟨e, he, q, z⟩ c
    have oo : ∀ e ∈ F.S, F.nm e = n ↔ F.nm (ot e) = n := fun e he => ⟨no e he, fun q => by have := no _ (M.ca e he) q; rwa [ot_ot] at this⟩
    have nn : ∀ e ∈ F.S, F.nm (F.nx e) = F.nm (ot e) := fun e he => by
      refine ((g.lab _ (M.ca e he) _ (M.cn e he)).mpr (.step ⟨M.ca e he, ?_⟩)).symm
      show F.nx e = F.nx (ot (ot e))
      rw [ot_ot]
    obtain ⟨x, hx, ex⟩ := (g.on n).mp hn
    have all : ∀ y ∈ F.S, F.nm y = n := fun y hy => by
      have inv := Eqv.inv (A := fun z => F.nm z = n) (fun a b h => ?_) (g.web.conn x hx y hy)
      · exact inv.mp ex
      · obtain ⟨ha, q | q⟩ := h
        · rw [q]; exact oo a ha
        · rw [q, nn a ha]; exact oo a ha
    have : F.g.length ≤ [n].length := sub_len g.gnd fun k hk => by
      obtain ⟨y, hy, e⟩ := (g.on k).mp hk
      rw [← e, all y hy]
      exact List.mem_cons_self
    rw [List.length_singleton] at this
    omega
/-- who goes first is not alone -/
theorem first_two {F : Fr} (g : Good F) (ht : 0 < tot F) {n : Int} (f : First F F.g n) : 2 ≤ F.g.length := by
  refine Nat.not_lt.mp fun c => ?_
  have l1 : F.g.length = 1 := by have := List.length_pos_of_mem f.m; omega
  obtain ⟨a, ha⟩ := List.length_eq_one_iff.mp l1
  have an : a = n := by have := f.m; rw [ha] at this; exact (List.mem_singleton.mp this).symm
  have s6 : sd F n = 6 := by
    have e := sd_sum g.toG0
    rw [ha, an, sumR_cons, sumR_nil, Rat.add_zero, Rat.intCast_inj] at e
    rw [e]; rfl
  have z : F.gs n = 0 := f.g.resolve_right (by omega)
  have : tot F = 0 := by
    unfold tot
    rw [ha, an, sumR_cons, sumR_nil, z, Rat.zero_add]
  rw [this] at ht
  exact absurd ht Rat.lt_irrefl
noncomputable def goneRow (F : Fr) (e : Int) : BRow := ⟨F.mo, "gone", [e / 2, F.nm e, F.nm (ot e)]⟩
/-- so many hours go by -/
inductive Waits : Fr → Rat → Fr → List BRow → Prop
  | stop {F : Fr} {q : Rat} (h : ∀ n, First F F.g n → q < hrs F n) : Waits F q (goF F q) []
  | go {F F' : Fr} {q : Rat} {n e : Int} {S' l' : List Int} {rows : List BRow} (f : First F F.g n) (hq : hrs F n ≤ q) (E : LeastE (goF F (hrs F n)) n e) (so : SOk (goF F (hrs F n)) (e / 2) S') (lo : LOk (goF F (hrs F n)) (F.g.filter fun j => decide (j ≠ n)) l')
      (w : Waits (goneF (goF F (hrs F n)) S' e l') (q - hrs F n) F' rows) : Waits F q F' (goneRow (goF F (hrs F n)) e :: rows)
/-- what holds while hours go by -/
structure WOk (F : Fr) (q : Rat) (t D : Nat) : Prop where
  g : Good F
  tp : 0 < tot F
  q0 : 0 ≤ q
  l : LimM F t t D (100000000000000 * t)
  qb : Bd D 100000000000 q
theorem first_le {F : Fr} {n : Int} (f : First F F.g n) : ∀ k ∈ F.g, Goes F k → hrs F n ≤ hrs F k := fun k hk gk => by
  rcases f.le k hk gk with z | ⟨z, _⟩
  · exact Rat.le_of_lt z
  · rw [z]; exact Rat.le_refl
theorem WOk.go {F : Fr} {q : Rat} {t D : Nat} (w : WOk F q t D) {n : Int} (f : First F F.g n) (hq : hrs F n ≤ q) : Bd (D * 60) 100000000000 (hrs F n) ∧ Good (goF F (hrs F n)) ∧ LimM (goF F (hrs F n)) t (t + 1) (D * 60) (100000000000000 * (t + 1)) ∧ (∀ k ∈ F.g, Bd (D * 60) 100000000000000 (hrs F n * ((sd F k - 6 : Int) : Rat))) ∧ (goF F (hrs F n)).gs n = 0 ∧ 0 ≤ hrs F n ∧ ∃ e, Edge (goF F (hrs F n)) n e := by
  have g := w.g
  have h0 := hrs_nn (g.gp n f.m) f.g
  have hb : Bd (D * 60) 100000000000 (hrs F n) := hrs_bd w.l f.m f.g (g.one f.m) h0 (by have := w.qb.hi; grind)
  have l1 := w.l.fine (c := 60) (by decide) (by decide) (Nat.le_refl _)
  obtain ⟨l2, tm⟩ := go_bd (N := 100000000000000 * (t + 1)) l1 g.toG0 hb (by omega)
  exact ⟨hb, go_good g h0 (first_le f), l2, tm, by rw [go_gs f.m]; exact goG_zero f.g, h0, edge_ex (F := goF F (hrs F n)) (go_g0 g.toG0) f.m (show 2 ≤ F.g.length from first_two g w.tp f)⟩
theorem WOk.next {F : Fr} {q : Rat} {t D : Nat} (w : WOk F q t D) {n e : Int} (f : First F F.g n) (hq : hrs F n ≤ q) (E : LeastE (goF F (hrs F n)) n e) {S' l' : List Int} (so : SOk (goF F (hrs F n)) (e / 2) S') (lo : LOk (goF F (hrs F n)) (F.g.filter fun j => decide (j ≠ n)) l') :
    WOk (goneF (goF F (hrs F n)) S' e l') (q - hrs F n) (t + 1) (D * 60) ∧ (goneF (goF F (hrs F n)) S' e l').g.length + 1 = F.g.length := by
  obtain ⟨hb, g1, l1, tm, z0, h0, _⟩ := w.go f hq
  refine ⟨⟨gone_good g1 E.toEdge so lo, by rw [gone_tot g1.toG0 E.toEdge z0, go_tot w.g.toG0]; exact w.tp, by grind, gone_lim l1 g1 E.toEdge so lo, ?_⟩, gone_len g1.toG0 E.toEdge⟩
  have b := (w.qb.mul 60).sub hb
  refine ⟨b.i, ?_, ?_⟩
  · have := w.qb.hi
    have q : (0 : Rat) ≤ (((100000000000 : Nat) : Int) : Rat) := Rat.intCast_nonneg.mpr (by omega)
    grind
  · have := w.qb.hi
    grind
theorem WOk.end {F : Fr} {q : Rat} {t D : Nat} (w : WOk F q t D) (h : ∀ n, First F F.g n → q < hrs F n) : Good (goF F q) ∧ LimT (goF F q) t D ∧ tot (goF F q) = tot F ∧ (∀ k ∈ F.g, Bd D 100000000000000 (q * ((sd F k - 6 : Int) : Rat))) ∧ ∀ k ∈ F.g, 0 < (goF F q).gs k := by
  have lt : ∀ k ∈ F.g, Goes F k → q < hrs F k := fun k hk gk => by
    rcases first_spec F with ⟨_, no⟩ | ⟨n, f, _⟩
    · exact absurd gk (no k hk)
    · have := h n f
      have := first_le f k hk gk
      grind
  obtain ⟨l2, tm⟩ := go_bd (N := 100000000000000 * (t + 1)) w.l w.g.toG0 w.qb (by omega)
  refine ⟨go_good w.g w.q0 fun k hk gk => Rat.le_of_lt (lt k hk gk), l2.to (by unfold Mt; omega), go_tot w.g.toG0, tm, fun k hk => ?_⟩
  rw [go_gs hk]
  by_cases z : F.gs k = 0
  · have := lt k hk (.inl z)
    have q0 := w.q0
    have hz : hrs F k = 0 := by unfold hrs hrsQ; rw [if_pos z]
    rw [hz] at this
    exact absurd this (by grind)
  · exact goG_pos (by have := w.g.gp k hk; grind) w.q0 (lt k hk)
/-- at its end a wait has left nobody without gas -/
theorem Waits.ok {F F' : Fr} {q : Rat} {rows : List BRow} (w : Waits F q F' rows) : ∀ {t D : Nat}, WOk F q t D → ∃ t' D', Good F' ∧ LimT F' t' D' ∧ tot F' = tot F ∧ (∀ k ∈ F'.g, 0 < F'.gs k) ∧ t' + F'.g.length = t + F.g.length ∧ t ≤ t' := by
  induction w with
  | stop h => exact fun o => ⟨_, _, (o.end h).1, (o.end h).2.1, (o.end h).2.2.1, (o.end h).2.2.2.2, rfl, Nat.le_refl _⟩
  | go f hq E so lo w ih =>
    intro t D o
    obtain ⟨o2, len⟩ := o.next f hq E so lo
    obtain ⟨t', D', h1, h2, h3, h4, h5, h6⟩ := ih o2
    obtain ⟨_, g1, _, _, z0, _, _⟩ := o.go f hq
    exact ⟨t', D', h1, h2, by rw [h3, gone_tot g1.toG0 E.toEdge z0, go_tot o.g.toG0], h4, by omega, by omega⟩
/-! Fs: waiting. -/
def TimeOk (n d : Int) : Prop := 0 ≤ n ∧ n ≤ 100000000000 ∧ 1 ≤ d ∧ d ≤ 60
instance {n d : Int} : Decidable (TimeOk n d) := by unfold TimeOk; exact inferInstance
def PosG (F : Fr) : Prop := ∀ k ∈ F.g, 0 < F.gs k
theorem g_ne {F : Fr} (g : G0 F) : F.g ≠ [] := fun z => by
  obtain ⟨x, hx⟩ := List.exists_mem_of_ne_nil _ g.web.ne
  have := (g.on (F.nm x)).mpr ⟨x, hx, rfl⟩
  rw [z] at this
  exact List.not_mem_nil this
theorem sum_pos : ∀ {l : List Int} {f : Int → Rat}, l ≠ [] → (∀ k ∈ l, 0 < f k) → 0 < sumR l f
  | [], _, h, _ => absurd rfl h
  | [a], f, _, h => by rw [sumR_cons, sumR_nil, Rat.add_zero]; exact h a List.mem_cons_self
  | a :: b :: l, f, _, h => by
    have i := sum_pos (l := b :: l) (f := f) (by simp) fun k hk => h k (List.mem_cons_of_mem _ hk)
    have j := h a List.mem_cons_self
    rw [sumR_cons]
    grind
theorem tot_pos {F : Fr} (g : G0 F) (p : PosG F) : 0 < tot F := sum_pos (g_ne g) p
theorem wok_of {F : Fr} (g : Good F) (p : PosG F) {t D : Nat} (l : LimT F t D) {n d : Int} (h : TimeOk n d) : WOk F (qt n d) (t + 1) (D * d.natAbs) := by
  obtain ⟨h1, h2, h3, h4⟩ := h
  have l1 := (LimM.of l).fine (c := d.natAbs) (M' := 100000000000000 * (t + 1)) (by omega) (by omega) (by unfold Mt; omega)
  have b := (qt_bd (n := n) (d := d) (M := 100000000000) h1 h2 h3).mul D
  rw [Nat.mul_comm] at b
  exact ⟨g, tot_pos g.toG0 p, qt_nn h1 h3, l1.later (by omega) (by omega) (Nat.le_refl _), b⟩
theorem WOk.lm {F : Fr} {q : Rat} {t D : Nat} (w : WOk F q t D) {h : Rat} (l : LimM (goF F h) t (t + 1) (D * 60) (100000000000000 * (t + 1))) (ht : t + 1 ≤ 500) : Lm (goF F h) :=
  (l.later (t' := t + 1) (s' := t + 1) (M' := Mt (t + 1)) (by omega) (by omega) (by unfold Mt; omega)).lm (Nat.le_refl _) ht
/-! waiting: slots froth, order, left, made, going -/
/-! Fu: a deed by its order. -/
inductive Od
  | turn (b : Bool) (f : Int)
  | burst (f : Int)
  | part (one two n d : Int)
  | blow (e n d : Int)
  | wait (n d : Int)
def Deed (F : Fr) (F' : Fr) (rows : List BRow) : Od → Prop
  | .turn b f => 2 * f ∈ F.S ∧ ¬ Looped F.nx (2 * f) ∧ ∃ l', LOk F F.g l' ∧ F' = turnF F b f l' ∧ rows = [⟨F.mo, wordB b, [f]⟩]
  | .burst f => 2 * f ∈ F.S ∧ ¬ Rim F.S F.nx (2 * f) (ot (2 * f)) ∧ ∃ S' l', SOk F f S' ∧ LOk F (F.g.filter fun j => decide (j ≠ bG F f)) l' ∧ F' = burstF F S' f l' ∧ rows = [⟨F.mo, "burst", [f, bG F f, bK F f]⟩]
  | .part a b n d => a ∈ F.S ∧ b ∈ F.S ∧ Rim F.S F.nx a b ∧ a / 2 ≠ b / 2 ∧ GasOk n d ∧ qt n d < F.gs (F.nm a) ∧ F.g.length < 60 ∧ ∃ S' N' l', POk F S' N' ∧ LOk F (F.g ++ [F.nc]) l' ∧ F' = partF' F S' N' a b (qt n d) l' ∧ rows = [⟨F.mo, "part", [F.nm a, F.nc]⟩]
  | .blow e n d => e ∈ F.S ∧ GasOk n d ∧ F.g.length < 60 ∧ ∃ N' l', NOk F N' ∧ LOk F (F.g ++ [F.nc]) l' ∧ F' = blowF' F N' e (qt n d) l' ∧ rows = [⟨F.mo, "blow", [F.nc]⟩]
  | .wait n d => TimeOk n d ∧ Waits F (qt n d) F' rows
/-! ### .. and all is well behind it -/
structure Ok (F : Fr) (m : Nat) : Prop where
  g : Good F
  p : PosG F
  l : Lim F m
theorem Ok.lm {F : Fr} {m : Nat} (o : Ok F m) (h : m ≤ 500) : Lm F := by
  obtain ⟨t, D, l, ht, _⟩ := o.l
  exact ⟨t, D, l, by omega⟩
theorem m8 (t : Nat) : 100000000 * (t + 1) ≤ Mt t := by unfold Mt; exact Nat.mul_le_mul_right _ (by decide)
/-- gas that is whole by D and not more than all gas -/
theorem bd_tot {F1 : Fr} {D t : Nat} (gp : ∀ k ∈ F1.g, 0 ≤ F1.gs k) (ht : tot F1 ≤ (((100000000 * (t + 1) : Nat) : Int) : Rat)) {k : Int} (hk : k ∈ F1.g) (hi : ∃ a : Int, F1.gs k * ((D : Int) : Rat) = (a : Rat)) : Bd D (Mt t) (F1.gs k) := by
  have h0 := gp k hk
  have h1 := sumR_le gp k hk
  have h2 : (((100000000 * (t + 1) : Nat) : Int) : Rat) ≤ ((Mt t : Int) : Rat) := Rat.intCast_le_intCast.mpr (by have := m8 t; omega)
  have h3 : (0 : Rat) ≤ ((Mt t : Int) : Rat) := Rat.intCast_nonneg.mpr (by omega)
  unfold tot at ht
  exact ⟨hi, by grind, by grind⟩
theorem lim_one {F F1 : Fr} {t D c : Nat} {m : Nat} (g : Good F) (l : LimT F t D) (hm : t + F.g.length ≤ m) (hc : 0 < c) (hc2 : c ≤ 60) (g1 : G0 F1) (hl : F1.l = F.l) (hlg : F1.lg = F.lg) (hbk : F1.bk = F.bk) (hmo : F1.mo = F.mo) (gp : ∀ k ∈ F1.g, 0 ≤ F1.gs k) (gi : ∀ k ∈ F1.g, ∃ a : Int, F1.gs k * (((D * c : Nat) : Int) : Rat) = (a : Rat))
    (ht : tot F1 ≤ (((100000000 * (t + 1 + 1) : Nat) : Int) : Rat)) (new : ∀ k ∈ F1.g, k ∈ F.l ∨ k = F.nc) {gs0 : Int → Rat} {w0 : Int → Int} {l' : List Int} {row : BRow} (hrow : row.hour = F.mo) (lo : LOk F F1.g l') (hg : F1.g.length ≤ F.g.length + 1) : Lim (wrF F1 F.g gs0 w0 l' row) (m + 2) := by
  have u := (LimM.of l).fine (c := c) (M' := Mt (t + 1)) hc hc2 (by unfold Mt; omega)
  have r := wr_lim u hl hlg hbk hmo (fun k hk => bd_tot gp ht hk (gi k hk)) (sdb_of g1) new (gs0 := gs0) (w0 := w0) (row := row) hrow g.gl lo
  refine ⟨t + 1, D * c, r.to (Nat.le_refl _), ?_, ht⟩
  show t + 1 + F1.g.length ≤ m + 2
  omega
theorem int_mul {q : Rat} {D c : Nat} (h : ∃ a : Int, q * ((D : Int) : Rat) = (a : Rat)) : ∃ a : Int, q * (((D * c : Nat) : Int) : Rat) = (a : Rat) := by
  obtain ⟨a, ha⟩ := h
  exact ⟨a * (c : Int), by rw [Int.natCast_mul, Rat.intCast_mul, Rat.intCast_mul, ← Rat.mul_assoc, ha]⟩
theorem int_add {q r : Rat} {D : Nat} (h : ∃ a : Int, q * ((D : Int) : Rat) = (a : Rat)) (k : ∃ a : Int, r * ((D : Int) : Rat) = (a : Rat)) : ∃ a : Int, (q + r) * ((D : Int) : Rat) = (a : Rat) := by
  obtain ⟨a, ha⟩ := h
  obtain ⟨b, hb⟩ := k
  exact ⟨a + b, by rw [Rat.intCast_add, ← ha, ← hb]; grind⟩
theorem int_sub {q r : Rat} {D : Nat} (h : ∃ a : Int, q * ((D : Int) : Rat) = (a : Rat)) (k : ∃ a : Int, r * ((D : Int) : Rat) = (a : Rat)) : ∃ a : Int, (q - r) * ((D : Int) : Rat) = (a : Rat) := by
  obtain ⟨a, ha⟩ := h
  obtain ⟨b, hb⟩ := k
  exact ⟨a - b, by rw [Rat.intCast_sub, ← ha, ← hb]; grind⟩
theorem qt_int {n d : Int} {D : Nat} (h : 1 ≤ d) : ∃ a : Int, qt n d * (((D * d.natAbs : Nat) : Int) : Rat) = (a : Rat) := by
  have e := qt_mul (n := n) (show d ≠ 0 by omega)
  have ed : ((d.natAbs : Nat) : Int) = d := by omega
  exact ⟨n * D, by rw [Int.natCast_mul, ed, Rat.intCast_mul, Rat.intCast_mul, ← e]; grind⟩
theorem t_up {q : Rat} {t : Nat} (h : q ≤ (((100000000 * (t + 1) : Nat) : Int) : Rat)) : q ≤ (((100000000 * (t + 1 + 1) : Nat) : Int) : Rat) := by
  have : (((100000000 * (t + 1) : Nat) : Int) : Rat) ≤ (((100000000 * (t + 1 + 1) : Nat) : Int) : Rat) := Rat.intCast_le_intCast.mpr (by omega)
  grind
/-- the sums -/
theorem join_tot {F : Fr} (g : G0 F) {gone kept : Int} (gg : gone ∈ F.g) (kg : kept ∈ F.g) (ne : gone ≠ kept) : sumR (F.g.filter fun j => decide (j ≠ gone)) (joinG F gone kept) = tot F := by
  have kf : kept ∈ F.g.filter fun j => decide (j ≠ gone) := List.mem_filter.mpr ⟨kg, decide_eq_true ne.symm⟩
  have p1 := filter_perm g.gnd gg
  have p2 := filter_perm (g.gnd.filter fun j => decide (j ≠ gone)) kf
  unfold tot
  rw [sumR_perm p1, sumR_cons, sumR_perm p2, sumR_perm p2, sumR_cons, sumR_cons]
  have e : sumR ((F.g.filter fun j => decide (j ≠ gone)).filter fun j => decide (j ≠ kept)) (joinG F gone kept) = sumR ((F.g.filter fun j => decide (j ≠ gone)).filter fun j => decide (j ≠ kept)) F.gs := sumR_congr fun k hk => by
    unfold joinG
    rw [if_neg (of_decide_eq_true (List.mem_filter.mp hk).2)]
  rw [e]
  unfold joinG
  rw [if_pos rfl]
  grind
theorem part_tot {F : Fr} (g : G0 F) {old nc : Int} {q : Rat} (og : old ∈ F.g) (hn : nc ∉ F.g) : sumR (F.g ++ [nc]) (fun k => if k = old then F.gs old - q else if k = nc then q else F.gs k) = tot F := by
  have p1 := filter_perm g.gnd og
  have on : old ≠ nc := fun z => hn (z ▸ og)
  rw [sumR_app, sumR_cons, sumR_nil, if_neg (Ne.symm on), if_pos rfl]
  unfold tot
  rw [sumR_perm p1, sumR_perm (f := F.gs) p1, sumR_cons, sumR_cons, if_pos rfl]
  have e : sumR (F.g.filter fun j => decide (j ≠ old)) (fun k => if k = old then F.gs old - q else if k = nc then q else F.gs k) = sumR (F.g.filter fun j => decide (j ≠ old)) F.gs := sumR_congr fun k hk => by
    obtain ⟨h1, h2⟩ := List.mem_filter.mp hk
    rw [if_neg (of_decide_eq_true h2), if_neg (fun z : k = nc => hn (z ▸ h1))]
  rw [e]
  grind
theorem blow_tot {F : Fr} {nc : Int} {q : Rat} (hn : nc ∉ F.g) : sumR (F.g ++ [nc]) (fun k => if k = nc then q else F.gs k) = tot F + q := by
  rw [sumR_app, sumR_cons, sumR_nil, if_pos rfl]
  unfold tot
  rw [sumR_congr (g := F.gs) fun k hk => by rw [if_neg fun z : k = nc => hn (z ▸ hk)]]
  grind
theorem Good.nc0 {F : Fr} (g : Good F) : 0 ≤ F.nc := by
  obtain ⟨x, hx⟩ := List.exists_mem_of_ne_nil _ (g_ne g.toG0)
  have := g.nc x (g.gl x hx)
  omega
theorem deed_ok {F F' : Fr} {m : Nat} {od : Od} {rows : List BRow} (o : Ok F m) (h : Deed F F' rows od) : Ok F' (m + 2) := by
  obtain ⟨g, p, t, D, l, hm, htt⟩ := o
  have ii : ∀ k ∈ F.g, ∃ a : Int, F.gs k * ((D : Int) : Rat) = (a : Rat) := fun k hk => (l.gs k hk).i
  cases od with
  | turn b f =>
    obtain ⟨hi, hl, l', lo, rfl, rfl⟩ := h
    have g1 := turn_g0 g.toG0 (b := b) hi hl
    exact ⟨wr_good g g1 g.gp (Int.le_refl _) (fun k hk => .inl (g.gl k hk)) lo, p, lim_one (F1 := turn0 F b f) (c := 1) g l hm (by decide) (by decide) g1 rfl rfl rfl rfl g.gp (fun k hk => int_mul (ii k hk)) (t_up htt) (fun k hk => .inl (g.gl k hk)) rfl lo (Nat.le_succ _)⟩
  | burst f =>
    obtain ⟨hi, hr, S', l', so, lo, rfl, rfl⟩ := h
    obtain ⟨g1, gg, kg, gk⟩ := away_g0 (gs' := joinG F (bG F f) (bK F f)) g.toG0 hi (.inr hr) so.1 so.2 (bKG F f)
    have sub : ∀ k ∈ (F.g.filter fun j => decide (j ≠ bG F f)), k ∈ F.g := fun k hk => (List.mem_filter.mp hk).1
    have pos : ∀ k ∈ F.g, 0 < joinG F (bG F f) (bK F f) k := fun k hk => by
      unfold joinG
      split
      · have := p _ kg; have := p _ gg; grind
      · exact p k hk
    have et : tot (away0 F S' f (bG F f) (bK F f) (joinG F (bG F f) (bK F f))) = tot F := join_tot g.toG0 gg kg gk
    refine ⟨wr_good g g1 (fun k hk => Rat.le_of_lt (pos k (sub k hk))) (Int.le_refl _) (fun k hk => .inl (g.gl k (sub k hk))) lo, fun k hk => pos k (sub k hk), ?_⟩
    refine lim_one (F1 := away0 F S' f (bG F f) (bK F f) (joinG F (bG F f) (bK F f))) (c := 1) g l hm (by decide) (by decide) g1 rfl rfl rfl rfl (fun k hk => Rat.le_of_lt (pos k (sub k hk))) (fun k hk => int_mul ?_) (by rw [et]; exact t_up htt) (fun k hk => .inl (g.gl k (sub k hk))) rfl lo (Nat.le_trans (List.length_filter_le _ _) (Nat.le_succ _))
    show ∃ a : Int, joinG F (bG F f) (bK F f) k * ((D : Int) : Rat) = (a : Rat)
    unfold joinG
    split
    · exact int_add (ii _ kg) (ii _ gg)
    · exact ii k (sub k hk)
  | part a b n d =>
    obtain ⟨i1, i2, hr, hf, hg, hb, hfl, S', N', l', po, lo, rfl, rfl⟩ := h
    have nng := Good.nng g
    have og : F.nm a ∈ F.g := (g.on _).mpr ⟨a, i1, rfl⟩
    have g1 := part_g0 (q := qt n d) g.toG0 i1 i2 hf hr (Good.fc0 g.toG0) nng hfl po.1 po.2.1 po.2.2.1 po.2.2.2
    have q0 : 0 < qt n d := qt_pos (by have := hg.1; omega) (by have := hg.2.2.1; omega)
    have pos : ∀ k ∈ (part0 F S' N' a b (qt n d)).g, 0 < (part0 F S' N' a b (qt n d)).gs k := fun k hk => by
      show 0 < (if k = F.nm a then F.gs (F.nm a) - qt n d else if k = F.nc then qt n d else F.gs k)
      split
      · grind
      · split
        · exact q0
        · rename_i c1 c2
          exact p k ((List.mem_append.mp hk).resolve_right fun z => c2 (List.mem_singleton.mp z))
    have new : ∀ k ∈ (part0 F S' N' a b (qt n d)).g, k ∈ F.l ∨ k = F.nc := fun k hk => (List.mem_append.mp hk).imp (g.gl k) fun z => List.mem_singleton.mp z
    have et : tot (part0 F S' N' a b (qt n d)) = tot F := part_tot g.toG0 og nng
    refine ⟨wr_good g g1 (fun k hk => Rat.le_of_lt (pos k hk)) (by show F.nc ≤ F.nc + 1; omega) (fun k hk => (new k hk).imp id fun z => ⟨z, by show F.nc < F.nc + 1; omega, Good.nc0 g⟩) lo, pos, ?_⟩
    refine lim_one (F1 := part0 F S' N' a b (qt n d)) (c := d.natAbs) g l hm (by have := hg.2.2.1; omega) (by have := hg.2.2.1; have := hg.2.2.2; omega) g1 rfl rfl rfl rfl (fun k hk => Rat.le_of_lt (pos k hk)) (fun k hk => ?_) (by rw [et]; exact t_up htt) new rfl lo (by show (F.g ++ [F.nc]).length ≤ _; rw [List.length_append]; exact Nat.le_refl _)
    show ∃ z : Int, (if k = F.nm a then F.gs (F.nm a) - qt n d else if k = F.nc then qt n d else F.gs k) * (((D * d.natAbs : Nat) : Int) : Rat) = (z : Rat)
    split
    · exact int_sub (int_mul (ii _ og)) (qt_int hg.2.2.1)
    · split
      · exact qt_int hg.2.2.1
      · rename_i c1 c2
        exact int_mul (ii k ((List.mem_append.mp hk).resolve_right fun z => c2 (List.mem_singleton.mp z)))
  | blow e n d =>
    obtain ⟨hi, hg, hfl, N', l', no, lo, rfl, rfl⟩ := h
    have nng := Good.nng g
    have g1 := blow_g0 (q := qt n d) g.toG0 hi (Good.fc0 g.toG0) nng hfl no.1 no.2
    have q0 : 0 < qt n d := qt_pos (by have := hg.1; omega) (by have := hg.2.2.1; omega)
    have pos : ∀ k ∈ (blow0 F N' e (qt n d)).g, 0 < (blow0 F N' e (qt n d)).gs k := fun k hk => by
      show 0 < (if k = F.nc then qt n d else F.gs k)
      split
      · exact q0
      · rename_i c2
        exact p k ((List.mem_append.mp hk).resolve_right fun z => c2 (List.mem_singleton.mp z))
    have new : ∀ k ∈ (blow0 F N' e (qt n d)).g, k ∈ F.l ∨ k = F.nc := fun k hk => (List.mem_append.mp hk).imp (g.gl k) fun z => List.mem_singleton.mp z
    have et : tot (blow0 F N' e (qt n d)) = tot F + qt n d := blow_tot nng
    have q6 : qt n d ≤ ((1000000 : Int) : Rat) := qt_le hg.2.1 (by decide) hg.2.2.1
    refine ⟨wr_good g g1 (fun k hk => Rat.le_of_lt (pos k hk)) (by show F.nc ≤ F.nc + 1; omega) (fun k hk => (new k hk).imp id fun z => ⟨z, by show F.nc < F.nc + 1; omega, Good.nc0 g⟩) lo, pos, ?_⟩
    refine lim_one (F1 := blow0 F N' e (qt n d)) (c := d.natAbs) g l hm (by have := hg.2.2.1; omega) (by have := hg.2.2.1; have := hg.2.2.2; omega) g1 rfl rfl rfl rfl (fun k hk => Rat.le_of_lt (pos k hk)) (fun k hk => ?_) ?_ new rfl lo (by show (F.g ++ [F.nc]).length ≤ _; rw [List.length_append]; exact Nat.le_refl _)
    · show ∃ z : Int, (if k = F.nc then qt n d else F.gs k) * (((D * d.natAbs : Nat) : Int) : Rat) = (z : Rat)
      split
      · exact qt_int hg.2.2.1
      · rename_i c2
        exact int_mul (ii k ((List.mem_append.mp hk).resolve_right fun z => c2 (List.mem_singleton.mp z)))
    · rw [et]
      have : (((100000000 * (t + 1) : Nat) : Int) : Rat) + ((1000000 : Int) : Rat) ≤ (((100000000 * (t + 1 + 1) : Nat) : Int) : Rat) := by rw [← Rat.intCast_add]; exact Rat.intCast_le_intCast.mpr (by omega)
      grind
  | wait n d =>
    obtain ⟨tk, w⟩ := h
    obtain ⟨t', D', h1, h2, h3, h4, h5, h6⟩ := w.ok (wok_of g p l tk)
    refine ⟨h1, h4, t', D', h2, by omega, ?_⟩
    rw [h3]
    have : (((100000000 * (t + 1) : Nat) : Int) : Rat) ≤ (((100000000 * (t' + 1) : Nat) : Int) : Rat) := Rat.intCast_le_intCast.mpr (by omega)
    grind
local macro_rules | `(tactic| walk_at "st") => `(tactic| first
  | ((with_reducible refine r_methA (dx := ?dx) (fs := ?fs) ?hx ?hl ?_); (case hx => walk_at "hp"); (case hl => rfl)))
/-! Fv: the methods of a froth. -/
/-! Froth.deed: slots self, order, change -/
/-! ### what is asked -/
/-! Froth.hour: slots self -/
/-! Froth.bubbles: slots self -/
/-! Froth.must_have: slots self, name -/
/-! Froth.gas: slots self, name -/
/-! Froth.sides: slots self, name -/
/-! Froth.bubble_of: slots self, end -/
/-! Froth.web: slots self -/
/-! Froth.next_to_go: slots self -/
/-! Froth.book: slots self -/
/-! Froth.ledger: slots self, name -/
/-! Fy: a froth begins. -/
def BegOk (r c : Int) (gs : List Int) : Prop := 1 ≤ r ∧ 1 ≤ c ∧ r * c ≤ 36 ∧ (gs.length : Int) = r * c ∧ ∀ x ∈ gs, 1 ≤ x ∧ x ≤ 1000000
/-! begin_fits: slots rows, cols, gases -/
/-! ### the froth that begins -/
def natI (n : Nat) : List Int := (List.range n).map Int.ofNat
theorem mem_natI {n : Nat} {k : Int} : k ∈ natI n ↔ 0 ≤ k ∧ k < n := by
  unfold natI
  rw [List.mem_map]
  constructor
  · rintro ⟨j, hj, rfl⟩
    have := List.mem_range.mp hj
    show 0 ≤ (j : Int) ∧ (j : Int) < n
    omega
  · rintro ⟨h0, h1⟩
    exact ⟨k.toNat, List.mem_range.mpr (by omega), by show ((k.toNat : Nat) : Int) = k; omega⟩
theorem natI_succ {n : Nat} : natI (n + 1) = natI n ++ [(n : Int)] := by
  unfold natI
  rw [List.range_succ, List.map_append]
  rfl
theorem natI_len {n : Nat} : (natI n).length = n := by unfold natI; rw [List.length_map, List.length_range]
theorem natI_nd : ∀ {n : Nat}, (natI n).Nodup
  | 0 => by unfold natI; exact List.Pairwise.nil
  | n + 1 => by
    rw [natI_succ]
    exact List.nodup_append.mpr ⟨natI_nd, List.pairwise_singleton _ _, fun a ha b hb e => by
      rw [List.mem_singleton.mp hb] at e
      have := mem_natI.mp ha
      omega⟩
def gsf (gs : List Int) (k : Int) : Rat := ((gs.getD k.toNat 0 : Int) : Rat)
def bNm (r c : Int) : Int → Int := bubO (rtO c) (abO r c)
def begF (r c : Int) (gs : List Int) (n : Nat) (N : List Int) : Fr := { S := cS r c, nx := cN r c, N := N, nm := bNm r c, g := natI n, gs := gsf gs, l := natI n, lg := fun k => [⟨0, gsf gs k, 6⟩], mo := 0, bk := [], nc := r * c, fc := 3 * r * c }
def BegN (r c : Int) (n : Nat) (N : List Int) : Prop := N.Nodup ∧ ∀ z, z ∈ N ↔ z ∈ cS r c ∧ bNm r c z < n
theorem beg_rim {r c : Int} (hr : 0 < r) (hc : 0 < c) {x y : Int} (hx : x ∈ cS r c) (hy : y ∈ cS r c) : bNm r c x = bNm r c y ↔ Rim (cS r c) (cN r c) x y := by
  have C := comb_rc hr hc
  constructor
  · intro h
    have h1 := C.to0 hx
    have h2 := C.to0 hy
    unfold bNm at h
    rw [← h] at h2
    exact h1.trans h2.symm
  · intro h
    have inv := Eqv.inv (A := fun z => bNm r c z = bNm r c y) (fun a b h => ?_) h
    · exact inv.mpr rfl
    · obtain ⟨ha, rfl⟩ := h
      unfold bNm
      rw [C.inv ha]
theorem beg_nm {r c : Int} (hr : 0 < r) (hc : 0 < c) {x : Int} (hx : x ∈ cS r c) : 0 ≤ bNm r c x ∧ bNm r c x < r * c := by
  obtain ⟨k, k0, k1, e, _⟩ := (comb_rc hr hc).bub x hx
  unfold bNm
  rw [e]
  exact ⟨k0, k1⟩
theorem beg_ok {r c : Int} {gs : List Int} (h : BegOk r c gs) {N : List Int} (hN : BegN r c gs.length N) : Ok (begF r c gs gs.length N) 36 := by
  obtain ⟨h1, h2, h3, h4, h5⟩ := h
  have hr : 0 < r := by omega
  have hc : 0 < c := by omega
  have C := comb_rc hr hc
  have W := C.web
  have nk : ∀ e, e ∈ N ↔ e ∈ cS r c := fun e => by
    rw [hN.2]
    exact ⟨fun z => z.1, fun z => ⟨z, by have := (beg_nm hr hc z).2; omega⟩⟩
  have lab : ∀ x ∈ cS r c, ∀ y ∈ cS r c, bNm r c x = bNm r c y ↔ Rim (cS r c) (cN r c) x y := fun x hx y hy => beg_rim hr hc hx hy
  have six : (cS r c).length = 6 * (natI gs.length).length := by
    rw [natI_len]
    have := C.len
    omega
  have g0 : G0 (begF r c gs gs.length N) := ⟨W, nk, hN.1, lab, on_of W lab natI_nd (fun x hx => mem_natI.mpr (show 0 ≤ bNm r c x ∧ bNm r c x < (gs.length : Int) by have := beg_nm hr hc hx; omega)) six, natI_nd, fun x hx => by
    have := ((C.mem x).mp hx).2
    show x < 2 * (3 * r * c)
    rw [Int.mul_assoc 3 r c]
    omega, by show (natI gs.length).length ≤ 60; rw [natI_len]; omega⟩
  have gv : ∀ k ∈ natI gs.length, ∃ n : Int, gsf gs k = (n : Rat) ∧ 1 ≤ n ∧ n ≤ 1000000 := fun k hk => by
    obtain ⟨k0, k1⟩ := mem_natI.mp hk
    refine ⟨gs.getD k.toNat 0, rfl, h5 _ ?_⟩
    rw [List.getD_eq_getElem?_getD, List.getElem?_eq_getElem (by omega)]
    exact List.getElem_mem _
  have pos : PosG (begF r c gs gs.length N) := fun k hk => by
    obtain ⟨n, e, n1, _⟩ := gv k hk
    show 0 < gsf gs k
    rw [e]
    exact Rat.intCast_pos.mpr (by omega)
  have bd : ∀ k ∈ natI gs.length, Bd 1 (Mt 0) (gsf gs k) := fun k hk => by
    obtain ⟨n, e, n1, n2⟩ := gv k hk
    rw [e]
    exact (Bd.int n).up (by unfold Mt; omega)
  refine ⟨⟨g0, fun k hk => Rat.le_of_lt (pos k hk), natI_nd, fun k hk => hk, fun k hk => ?_⟩, pos, 0, 1, ⟨by decide, by decide, bd, Bd.zero, fun k hk x hx => ?_, fun x hx => absurd hx List.not_mem_nil, by show (natI gs.length).length ≤ 36 + 0; rw [natI_len]; omega, fun k hk => Nat.le_refl _, Nat.le_refl _⟩, by show 0 + (natI gs.length).length ≤ 36; rw [natI_len]; omega, ?_⟩
  · have := mem_natI.mp hk
    show 0 ≤ k ∧ k < r * c
    omega
  · rw [List.mem_singleton.mp hx]
    exact ⟨Bd.zero, bd k hk, by show (0 : Int) ≤ 6; decide, by show (6 : Int) ≤ 1000; decide⟩
  · have le : ∀ l : List Int, (∀ k ∈ l, gsf gs k ≤ ((1000000 : Int) : Rat)) → sumR l (gsf gs) ≤ ((1000000 * (l.length : Int) : Int) : Rat) := fun l => by
      induction l with
      | nil => intro _; rw [sumR_nil]; exact Rat.intCast_nonneg.mpr (by simp)
      | cons a l ih =>
        intro hl
        rw [sumR_cons]
        have i := ih fun k hk => hl k (List.mem_cons_of_mem _ hk)
        have j := hl a List.mem_cons_self
        have e : ((1000000 * ((a :: l).length : Int) : Int) : Rat) = ((1000000 : Int) : Rat) + ((1000000 * (l.length : Int) : Int) : Rat) := by rw [← Rat.intCast_add]; congr 1; rw [List.length_cons]; omega
        rw [e]
        grind
    have q := le (natI gs.length) fun k hk => by
      obtain ⟨n, e, _, n2⟩ := gv k hk
      rw [e]
      exact Rat.intCast_le_intCast.mpr n2
    rw [natI_len] at q
    have z : ((1000000 * (gs.length : Int) : Int) : Rat) ≤ (((100000000 * (0 + 1) : Nat) : Int) : Rat) := Rat.intCast_le_intCast.mpr (by omega)
    show sumR (natI gs.length) (gsf gs) ≤ _
    grind
/-! Fz: a froth is made. -/
/-! Froth.__init__: slots self, rows, cols, gases, name, gas, end -/
/-! Ga: tables in the walk's end; all gas. -/
/-! ### l.clear() -/
/-! Froth.total: slots self, found, name -/
/-! Gb: what the froth laws begin with. -/
/-! _law_same: slots _law_found, _law_due -/
/-! ### the begin -/
/-! _law_begin: slots _law_cell_here, _law_drawn, _law_rows, _law_cols, _law_top, _law_gases, _law_number -/
/-! Gc: sides are the rim's ends; how a froth begins (plain). -/
theorem r_methF {G : Gx} {H : Hp} {x : Addr} {A : FA} {F : Fr} {m : Str} {B : Prop} (h : FAt G H x A F) (hl : (fl A.e A.n A.g A.l A.m A.r F.nc F.fc).lookup m = none) (hB : B) : ∃ a' dx fs, V.ref x = .ref a' ∧ H a' = some (.ins (G.ad "Froth") dx fs) ∧ fs.lookup m = none ∧ B := ⟨x, _, _, rfl, h.ins, hl, hB⟩
/-- a thing beside a froth is changed -/
theorem FAt.put {G : Gx} {H : Hp} {x p : Addr} {A : FA} {F : Fr} {u o : HO} (h : FAt G H x A F) (hp : H p = some u) (hi : ¬ Imm u) (nr : ¬ reg x A F p) : FAt G (upd H p o) x A F :=
  h.up fun b w e c => at_ne e fun z => by
    rcases c with c | c
    · exact nr (z ▸ c)
    · rw [z, hp] at e
      cases e
      exact hi c
def lrD (q r : Rat) (s : Int) : PyData := .tuple [.tuple [.int q.num, .int (q.den : Int)], .tuple [.int r.num, .int (r.den : Int)], .int s]
local macro_rules | `(tactic| walk_at "st") => `(tactic| first
  | ((with_reducible refine r_methF (A := ?A) (F := ?F) ?h ?hl ?_); (case h => with_reducible assumption); (case hl => rfl)))
/-! Gd: the orders of the froth laws, and a deed tried. -/
/-! _law_deed: slots _law_froth, _law_order_here, _law_word, _law_rows -/
/-! ### the next going, a wait -/
/-! _law_next: slots _law_froth, _law_going, _law_num, _law_den -/
/-! _law_wait_order: slots _law_froth, _law_kind, _law_num, _law_den, _law_going -/
/-! ### an order -/
/-! _law_order: slots _law_cell_here, _law_froth, _law_drawn, _law_what, _law_pick, _law_walk, _law_near, _law_num, _law_den, _law_kind, _law_web, _law_ends, _law_end, _law_one -/
/-! ### a number of it changed -/
theorem r_gsub {to ti : TE} {t : TSet} {v : V} {σ : St} {H : Hp} {Q : St → Hp → Prop} (h : to σ H fun o H1 => ti σ H1 fun i H2 => t o i v H2 fun H3 => Q σ H3) : gSub to ti t v σ H Q := h
/-! _law_wild: slots _law_cell_here, _law_order_here, _law_odd, _law_spot, _law_value, _law_parts -/
/-! Ge: all gas behind a deed (plain). -/
local macro_rules | `(tactic| walk_at "st") => `(tactic| first
  | ((with_reducible refine r_methF (A := ?A) (F := ?F) ?h ?hl ?_); (case h => with_reducible assumption); (case hl => rfl)))
/-! Gf: a picture. -/
theorem atI_0 {v : V} {r : List V} : atI (v :: r) 0 = some v := by
  unfold atI ixN
  rw [if_pos (by decide), if_pos (by rw [List.length_cons]; omega)]
  rfl
/-- the first ends of all rims -/
noncomputable def heads (nx : Int → Int) (es : List Int) : List Int := (rimsG (face ot nx) es []).map fun l => l.headD 0
/-! Froth.picture: slots self, found, one -/
local macro_rules | `(tactic| walk_at "st") => `(tactic| first
  | ((with_reducible refine r_methF (A := ?A) (F := ?F) ?h ?hl ?_); (case h => with_reducible assumption); (case hl => rfl)))
/-! Gg: what the froth laws ask of a froth: names, stand, a froth that was played. -/
/-- a froth that came of so many orders -/
inductive Rch : Nat → Fr → Prop
  | beg {r c : Int} {gs N : List Int} (h : BegOk r c gs) (hN : BegN r c gs.length N) : Rch 0 (begF r c gs gs.length N)
  | no {n : Nat} {F : Fr} (h : Rch n F) : Rch (n + 1) F
  | did {n : Nat} {F F' : Fr} {od : Od} {rows : List BRow} (h : Rch n F) (d : Deed F F' rows od) : Rch (n + 1) F'
theorem Ok.up {F : Fr} {m n : Nat} (o : Ok F m) (h : m ≤ n) : Ok F n := by
  obtain ⟨g, p, t, D, l, ht, tt⟩ := o
  exact ⟨g, p, t, D, l, by omega, tt⟩
theorem Rch.ok {n : Nat} {F : Fr} (h : Rch n F) : Ok F (36 + 2 * n) := by
  induction h with
  | beg h hN => exact beg_ok h hN
  | no h ih => exact ih.up (by omega)
  | did h d ih => exact (deed_ok ih d).up (by omega)
theorem Rch.up {n m : Nat} {F : Fr} (h : Rch n F) (k : n ≤ m) : Rch m F := by
  obtain ⟨j, rfl⟩ : ∃ j, m = n + j := ⟨m - n, by omega⟩
  clear k
  induction j with
  | zero => exact h
  | succ j ih => exact ih.no
/-! ### names -/
/-! _law_names: slots _law_froth, _law_names_here, _law_web, _law_end -/
/-! ### stand -/
structure SRow where
  name : Int
  gas : Rat
  sides : Int
def SRowAt (H : Hp) (a : Addr) (r : SRow) : Prop := ∃ g, H a = some (.tup [.int r.name, .ref g, .int r.sides]) ∧ H g = some (am r.gas)
theorem SRowAt.tk {H H' : Hp} {a : Addr} {r : SRow} (k : TK H H') (h : SRowAt H a r) : SRowAt H' a r := by
  obtain ⟨x, e1, e2⟩ := h
  exact ⟨x, k _ _ e1, k _ _ e2⟩
def StdAt (H : Hp) (p : Addr) (rows : List SRow) : Prop := ∃ as : List Addr, H p = some (.lst (as.map V.ref)) ∧ All2 (SRowAt H) as rows
theorem StdAt.same {H H' : Hp} {p : Addr} {rows : List SRow} (s : Same H H') (h : StdAt H p rows) : StdAt H' p rows := by
  obtain ⟨as, e, a⟩ := h
  exact ⟨as, s _ _ e, a.imp fun _ _ _ q => q.tk (tk_same s)⟩
/-! _law_stand: slots _law_froth, _law_rows, _law_name -/
theorem Srt.inc {S es : List Int} (h : Srt S es) (nd : S.Nodup) : es.Pairwise (· < ·) := by
  have nd' : es.Nodup := h.perm.nodup_iff.mpr nd
  exact List.Pairwise.imp₂ (fun a b (h1 : a ≤ b) (h2 : a ≠ b) => by omega) h.le nd'
/-! _law_stand_right: slots _law_rows, _law_last, _law_name, _law_gas, _law_sides_here -/
/-! _law_stand_same: slots _law_found, _law_due -/
/-! ### a froth of a script -/
/-! _law_froth: slots _law_script, _law_most, _law_rows, _law_cols, _law_gases, _law_froth_here, _law_cell_here -/
/-! ### names are counted -/
def newB : Od → Int
  | .part _ _ _ _ => 1
  | .blow _ _ _ => 1
  | _ => 0
theorem Waits.nc {F F' : Fr} {q : Rat} {rows : List BRow} (w : Waits F q F' rows) : F'.nc = F.nc ∧ F'.fc = F.fc := by
  induction w with
  | stop h => exact ⟨rfl, rfl⟩
  | go f hq E so lo w ih => exact ih
theorem deed_nc {F F' : Fr} {od : Od} {rows : List BRow} (h : Deed F F' rows od) : F'.nc = F.nc + newB od ∧ F'.fc = F.fc + 3 * newB od := by
  cases od with
  | turn b f => obtain ⟨hi, hl, l', lo, rfl, rfl⟩ := h; exact ⟨(Int.add_zero _).symm, (Int.add_zero _).symm⟩
  | burst f => obtain ⟨hi, hr, S', l', so, lo, rfl, rfl⟩ := h; exact ⟨(Int.add_zero _).symm, (Int.add_zero _).symm⟩
  | part a b n d => obtain ⟨i1, i2, hr, hf, hg, hb, hfl, S', N', l', po, lo, rfl, rfl⟩ := h; exact ⟨rfl, rfl⟩
  | blow e n d => obtain ⟨hi, hg, hfl, N', l', no, lo, rfl, rfl⟩ := h; exact ⟨rfl, rfl⟩
  | wait n d => obtain ⟨tk, w⟩ := h; rw [w.nc.1, w.nc.2]; exact ⟨(Int.add_zero _).symm, (Int.add_zero _).symm⟩
theorem newB01 (od : Od) : newB od = 0 ∨ newB od = 1 := by cases od <;> first | exact .inl rfl | exact .inr rfl
/-! _law_played: slots _law_script, _law_most, _law_rows, _law_cols, _law_gases_here, _law_froth, _law_many, _law_cell_here, _law_order_here, _law_word, _law_told -/
/-! _law_drive: slots _law_script, _law_most, _law_froth_here -/
local macro_rules | `(tactic| walk_at "st") => `(tactic| first
  | ((with_reducible refine r_methF (A := ?A) (F := ?F) ?h ?hl ?_); (case h => with_reducible assumption); (case hl => rfl)))
/-! Gh: rows of the day-book as data; orders for a web; sides, gases, names carried along. -/
def brD (r : BRow) : PyData := .tuple (.tuple [.int r.hour.num, .int (r.hour.den : Int)] :: .str r.word :: r.args.map PyData.int)
def WdOk (w : Str) : Prop := (PyData.str w).canLay0 = true
/-! ### orders for a web -/
/-! _law_film_order: slots _law_order_here, _law_first -/
local macro_rules | `(tactic| walk_at "st") => `(tactic| first
  | ((with_reducible refine r_methF (A := ?A) (F := ?F) ?h ?hl ?_); (case h => with_reducible assumption); (case hl => rfl)))
/-! Gs: the laws' own sums of amounts. -/
/-- a comprehension over any list, whose items may make new things -/
theorem r_lcV {K : PySem.W.Frag} {H : Hp} {Q : VK} {σ : St} {a : Addr} {tl te : TE} {i : Nat} {xs ys : List V} (hs : SqL K H a xs) (hl : xs.length = ys.length) (hn : xs.length < sizeLine) (ht : ∀ Q : VK, Q (.ref a) H → tl σ H Q)
    (h2 : ∀ (k : Nat) x y, xs[k]? = some x → ys[k]? = some y → ∀ H', Same H H' → ∀ Q : VK, (∀ H'', Same H' H'' → Q y H'') → te (σ.set i (some x)) H' Q)
    (h : ∀ D H', Same H H' → Free H D → H' D = some (.lst ys) → Q (.ref D) H') : tLc (iList K tl) (gName i) tYes te [i] σ H Q := by
  refine ht _ ⟨a, rfl, ⟨_, hs⟩, fun D hD => ?_⟩
  refine lc_list (xs := xs) (fun j H' => Same H H' ∧ H' D = some (.lst (ys.take j))) ⟨same_new (Same.refl H) hD, upd_same⟩ (fun j H' _ q => lst_same q.1 hs) (fun j x H' hx q => ?_) (fun H' q => ?_)
  · obtain ⟨s1, e1⟩ := q
    have hj : j < ys.length := by rw [← hl]; exact (List.getElem?_eq_some_iff.mp hx).1
    have hy : ys[j]? = some ys[j] := List.getElem?_eq_getElem hj
    have et : ys.take (j + 1) = ys.take j ++ [ys[j]] := by rw [List.take_succ, hy]; rfl
    rw [wipe1]
    have es : (σ.set i none).set i (some x) = σ.set i (some x) := List.set_set _
    refine ⟨by rw [es]; exact List.set_set _, ?_⟩
    rw [es]
    refine r_yes1 ?_
    rw [if_pos rfl]
    refine h2 j x _ hx hy H' s1 _ fun H3 s3 => ⟨_, s3 _ _ e1, ?_, same_mut (s1.trans s3) hD, ?_⟩
    · rw [List.length_take]
      omega
    · rw [upd_same, et]
  · obtain ⟨s1, e1⟩ := q
    rw [hl, List.take_length] at e1
    exact h D H' s1 hD e1
/-! _law_sum: slots _law_one, _law_two -/
/-! _law_less: slots _law_one, _law_two -/
/-! _law_so_many: slots _law_one, _law_many -/
/-! _law_under: slots _law_one, _law_two -/
local macro_rules | `(tactic| walk_at "st") => `(tactic| first
  | ((with_reducible refine r_methF (A := ?A) (F := ?F) ?h ?hl ?_); (case h => with_reducible assumption); (case hl => rfl)))
/-! Gi: sides counted by names, gases by names, names carried along, what is asked. -/
/-! _law_sides: slots _law_names_here, _law_sides_here, _law_end -/
/-! ### gases -/
/-! _law_gases: slots _law_rows, _law_found, _law_row -/
/-! ### names carried along -/
/-! _law_renamed: slots _law_names_here, _law_web, _law_gone, _law_kept, _law_made, _law_end -/
/-! ### what is asked -/
/-! _law_is_there: slots _law_froth_here, _law_name, _law_found -/
/-! _law_asked: slots _law_froth, _law_end, _law_name, _law_word -/
/-! _law_gas_word: slots _law_num, _law_den -/
/-! Gk: more loops and comprehensions. -/
theorem r_lcTS {K : PySem.W.Frag} {H : Hp} {Q : VK} {σ : St} {a : Addr} {tl te : TE} {i : Nat} {ns : List Int} (e : Int → V) (hs : SqT K H a (ns.map V.int)) (ht : ∀ Q : VK, Q (.ref a) H → tl σ H Q) (hn : ns.length < sizeLine)
    (h2 : ∀ x ∈ ns, ∀ H', Same H H' → ∀ Q : VK, (∀ H'', Same H' H'' → Q (e x) H'') → te (σ.set i (some (.int x))) H' Q)
    (h : ∀ D H', Same H H' → Free H D → H' D = some (.lst (ns.map e)) → Q (.ref D) H') : tLc (iTup K tl) (gName i) tYes te [i] σ H Q := by
  refine ht _ ⟨a, rfl, ⟨_, hs⟩, fun D hD => ?_⟩
  refine lc_tup (xs := ns.map V.int) (fun j H' => Same H H' ∧ H' D = some (.lst ((ns.take j).map e))) ⟨same_new (Same.refl H) hD, upd_same⟩ (fun j H' _ q => same_tup q.1 hs) (fun j x H' hx q => ?_) (fun H' q => ?_)
  · obtain ⟨s1, e1⟩ := q
    obtain ⟨n, hj, rfl⟩ := map_get hx
    have hm : n ∈ ns := List.mem_of_getElem? hj
    have et : ns.take (j + 1) = ns.take j ++ [n] := by rw [List.take_succ, hj]; rfl
    rw [wipe1]
    show _ ∧ _
    have es : (σ.set i none).set i (some (.int n)) = σ.set i (some (.int n)) := List.set_set _
    refine ⟨by rw [es]; exact List.set_set _, ?_⟩
    rw [es]
    refine r_yes1 ?_
    rw [if_pos rfl]
    refine h2 n hm H' s1 _ fun H3 s3 => ⟨_, s3 _ _ e1, ?_, same_mut (s1.trans s3) hD, ?_⟩
    · rw [List.length_map]
      refine Nat.lt_of_le_of_lt ?_ hn
      rw [List.length_take]
      exact Nat.min_le_right _ _
    · rw [upd_same, et, List.map_append]
      rfl
  · rw [List.length_map, List.take_length] at q
    exact h D H' q.1 hD q.2
/-! ### names changed at two ends -/
/-! Gp: the day-book and the hour behind a deed (plain). -/
structure WBk (F F' : Fr) (rows : List BRow) : Prop where
  bk : F'.bk = F.bk ++ rows
  mo : F.mo ≤ F'.mo
  hr : ∀ r ∈ rows, F.mo ≤ r.hour ∧ r.hour ≤ F'.mo
  inc : rows.Pairwise fun a b => a.hour ≤ b.hour
theorem Waits.mo {F F' : Fr} {q : Rat} {rows : List BRow} (w : Waits F q F' rows) : F'.mo = F.mo + q := by
  induction w with
  | stop h => rfl
  | @go F F' q n e S' l' rows f hq E so lo w ih =>
    rw [ih]
    show F.mo + hrs F n + (q - hrs F n) = F.mo + q
    grind
theorem Waits.wbk {F F' : Fr} {q : Rat} {rows : List BRow} (w : Waits F q F' rows) : ∀ {t D : Nat}, WOk F q t D → WBk F F' rows := by
  induction w with
  | @stop F q h =>
    intro t D o
    have := o.q0
    exact ⟨by rw [List.append_nil]; rfl, by show F.mo ≤ F.mo + q; grind, fun r hr => absurd hr List.not_mem_nil, .nil⟩
  | @go F F' q n e S' l' rows f hq E so lo w ih =>
    intro t D o
    obtain ⟨o2, len⟩ := o.next f hq E so lo
    obtain ⟨_, g1, _, _, z0, h0, _⟩ := o.go f hq
    obtain ⟨b, m, hr, inc⟩ := ih o2
    have m1 : (goneF (goF F (hrs F n)) S' e l').mo = F.mo + hrs F n := rfl
    rw [m1] at m hr
    refine ⟨?_, by grind, fun r hr' => ?_, List.pairwise_cons.mpr ⟨fun r hr' => (hr r hr').1, inc⟩⟩
    · rw [b]
      show (F.bk ++ [goneRow (goF F (hrs F n)) e]) ++ rows = F.bk ++ (goneRow (goF F (hrs F n)) e :: rows)
      rw [List.append_assoc]
      rfl
    · rcases List.mem_cons.mp hr' with rfl | hr'
      · exact ⟨by show F.mo ≤ F.mo + hrs F n; grind, m⟩
      · have := hr r hr'
        exact ⟨by grind, this.2⟩
theorem deed_wbk {F F' : Fr} {m : Nat} {od : Od} {rows : List BRow} (o : Ok F m) (h : Deed F F' rows od) : WBk F F' rows := by
  obtain ⟨g, p, t, D, l, hm, htt⟩ := o
  have one : ∀ {F' : Fr} {r : BRow}, F'.bk = F.bk ++ [r] → F'.mo = F.mo → r.hour = F.mo → WBk F F' [r] := fun {F' r} h1 h2 h3 =>
    ⟨h1, by rw [h2]; exact Rat.le_refl, fun r' hr' => by rw [List.mem_singleton.mp hr', h3, h2]; exact ⟨Rat.le_refl, Rat.le_refl⟩, List.pairwise_singleton _ _⟩
  cases od with
  | turn b f => obtain ⟨hi, hl, l', lo, rfl, rfl⟩ := h; exact one rfl rfl rfl
  | burst f => obtain ⟨hi, hr, S', l', so, lo, rfl, rfl⟩ := h; exact one rfl rfl rfl
  | part a b n d => obtain ⟨i1, i2, hr, hf, hg, hb, hfl, S', N', l', po, lo, rfl, rfl⟩ := h; exact one rfl rfl rfl
  | blow e n d => obtain ⟨hi, hg, hfl, N', l', no, lo, rfl, rfl⟩ := h; exact one rfl rfl rfl
  | wait n d => obtain ⟨tk, w⟩ := h; exact w.wbk (wok_of g p l tk)
/-- hours of the book rise, none is later than now -/
structure BkOk (F : Fr) : Prop where
  inc : F.bk.Pairwise fun a b => a.hour ≤ b.hour
  le : ∀ r ∈ F.bk, r.hour ≤ F.mo
theorem WBk.ok {F F' : Fr} {rows : List BRow} (w : WBk F F' rows) (b : BkOk F) : BkOk F' := by
  refine ⟨?_, fun r hr => ?_⟩
  · rw [w.bk]
    refine List.pairwise_append.mpr ⟨b.inc, w.inc, fun x hx y hy => ?_⟩
    have := b.le x hx
    have := (w.hr y hy).1
    grind
  · rw [w.bk] at hr
    rcases List.mem_append.mp hr with h | h
    · have := b.le r h
      have := w.mo
      grind
    · exact (w.hr r h).2
theorem Rch.bk {n : Nat} {F : Fr} (h : Rch n F) : BkOk F := by
  induction h with
  | beg h hN => exact ⟨.nil, fun r hr => absurd hr List.not_mem_nil⟩
  | no h ih => exact ih
  | did h d ih => exact (deed_wbk h.ok d).ok ih
/-! Gq: long waits: in the end all is still. -/
theorem Waits.none {F F' : Fr} {q : Rat} {rows : List BRow} (w : Waits F q F' rows) (no : ∀ k ∈ F.g, ¬ Goes F k) : F' = goF F q ∧ rows = [] := by
  cases w with
  | stop h => exact ⟨rfl, rfl⟩
  | go f => exact absurd f.g (no _ f.m)
theorem Kept.seq {K : PySem.W.Frag} {R : Addr → Prop} {H H1 H2 : Hp} {a : Addr} {xs : List V} (k : Kept R H1 H2) (s : Same H H1) (n : R a → Free H a) (h : SqL K H a xs) : SqL K H2 a xs := by
  rcases h with (h | ⟨o, h⟩) | h
  · exact .inl (.inl (k.a _ _ (s _ _ h) (.inl fun z => ne_of_none h (n z) rfl)))
  · exact .inl (.inr ⟨o, k.a _ _ (s _ _ h) (.inl fun z => ne_of_none h (n z) rfl)⟩)
  · exact .inr h
local macro_rules | `(tactic| walk_at "st") => `(tactic| first
  | ((with_reducible refine r_methF (A := ?A) (F := ?F) ?h ?hl ?_); (case h => with_reducible assumption); (case hl => rfl)))
/-! Gt: the laws' own first, least side, rows of those who went. -/
/-! ### the law's first -/
/-! _law_first: slots _law_rows, _law_found, _law_name, _law_gas, _law_sides, _law_hours -/
/-! _law_just_below: slots _law_going, _law_by -/
/-! _law_least_between: slots _law_web, _law_names_here, _law_name, _law_end -/
/-! _law_gone_row: slots _law_row, _law_hour, _law_part -/
theorem First.of {F : Fr} {l m : List Int} {n : Int} (p : ∀ z, z ∈ l ↔ z ∈ m) (f : First F l n) : First F m n := ⟨(p n).mp f.m, f.g, fun k hk => f.le k ((p k).mpr hk)⟩
local macro_rules | `(tactic| walk_at "st") => `(tactic| first
  | ((with_reducible refine r_methF (A := ?A) (F := ?F) ?h ?hl ?_); (case h => with_reducible assumption); (case hl => rfl)))
/-! Gu: a twin. -/
structure TwOk (F : Fr) : Prop where
  l : F.l.Nodup
  ll : F.l.length ≤ 1000
theorem TwOk.of {F : Fr} {m : Nat} (o : Ok F m) (h : m ≤ 500) : TwOk F := by
  obtain ⟨t, D, l, ht⟩ := o.lm h
  exact ⟨o.g.lnd, by have := l.ll; omega⟩
/-! Froth.twin: slots self, made, name -/
local macro_rules | `(tactic| walk_at "st") => `(tactic| first
  | ((with_reducible refine r_methF (A := ?A) (F := ?F) ?h ?hl ?_); (case h => with_reducible assumption); (case hl => rfl)))
/-! Gv: a heap without some changeable things; data that stands apart from them; a bubble's gas at an hour. -/
open Classical in
noncomputable def Ers (R : Addr → Prop) (H : Hp) : Hp := fun b => if R b ∧ ¬ ∃ xs, H b = some (.tup xs) then none else H b
section
variable {R R2 : Addr → Prop} {H H' : Hp} {b p : Addr} {u o : HO} {xs : List V}
theorem ers_tup (h : H b = some (.tup xs)) : Ers R H b = some (.tup xs) := by
  unfold Ers
  rw [if_neg fun z => z.2 ⟨xs, h⟩, h]
theorem ers_at (n : ¬ R b) (h : H b = some u) : Ers R H b = some u := by
  unfold Ers
  rw [if_neg fun z => n z.1, h]
theorem ers_back (h : Ers R H b = some u) : H b = some u ∧ (¬ R b ∨ Imm u) := by
  unfold Ers at h
  by_cases c : R b ∧ ¬ ∃ xs, H b = some (.tup xs)
  · rw [if_pos c] at h; cases h
  · rw [if_neg c] at h
    refine ⟨h, ?_⟩
    by_cases r : R b
    · obtain ⟨xs, e⟩ := Classical.byContradiction fun z => c ⟨r, z⟩
      rw [e] at h
      cases h
      exact .inr trivial
    · exact .inl r
theorem ers_same0 : Same (Ers R H) H := fun b u e => (ers_back e).1
theorem imm_tup (h : Imm u) : ∃ xs, u = .tup xs := by
  cases u <;> first | exact False.elim h | exact ⟨_, rfl⟩
theorem ers_same (s : Same H H') : Same (Ers R H) (Ers R H') := fun b u e => by
  obtain ⟨h, c⟩ := ers_back e
  rcases c with c | c
  · exact ers_at c (s _ _ h)
  · obtain ⟨xs, rfl⟩ := imm_tup c
    exact ers_tup (s _ _ h)
theorem ers_put (hp : R p) (hu : H p = some u) (i : ¬ Imm u) (j : ¬ Imm o) : Ers R (upd H p o) = Ers R H := by
  funext b
  unfold Ers
  by_cases e : b = p
  · subst e
    rw [if_pos ⟨hp, fun ⟨xs, z⟩ => by rw [upd_same] at z; cases z; exact j trivial⟩, if_pos ⟨hp, fun ⟨xs, z⟩ => by rw [hu] at z; cases z; exact i trivial⟩]
  · rw [upd_ne e]
end
mutual
theorem dp_same {K : PySem.W.Frag} {H H' : Hp} (s : Same H H') : ∀ {d : PyData} {v : V}, Dp K H v d → Dp K H' v d
  | _, _, .non => .non
  | _, _, .bl b => .bl b
  | _, _, .int i => .int i
  | _, _, .str x => .str x
  | _, _, .lst h a => .lst (s.seq h) (dpAll_same s a)
  | _, _, .tup h a => .tup (same_tup s h) (dpAll_same s a)
theorem dpAll_same {K : PySem.W.Frag} {H H' : Hp} (s : Same H H') : ∀ {ds : List PyData} {vs : List V}, DpAll K H vs ds → DpAll K H' vs ds
  | _, _, .nil => .nil
  | _, _, .cons h r => .cons (dp_same s h) (dpAll_same s r)
end
theorem dpAll_snoc {K : PySem.W.Frag} {H : Hp} {v : V} {d : PyData} : ∀ {vs : List V} {ds : List PyData}, DpAll K H vs ds → Dp K H v d → DpAll K H (vs ++ [v]) (ds ++ [d])
  | _, _, .nil, h => .cons h .nil
  | _, _, .cons a r, h => .cons a (dpAll_snoc r h)
/-- data whose changeable parts came behind H -/
def DpF (K : PySem.W.Frag) (H H' : Hp) (v : V) (d : PyData) : Prop := ∀ R : Addr → Prop, (∀ b, R b → ¬ Free H b) → Dp K (Ers R H') v d
section
variable {K : PySem.W.Frag} {H H0 H' H2 : Hp} {v : V} {d : PyData} {R : Addr → Prop}
theorem DpF.dp (h : DpF K H H' v d) : Dp K H' v d := dp_same ers_same0 (h (fun _ => False) fun b z => z.elim)
theorem DpF.same (h : DpF K H H' v d) (s : Same H' H2) : DpF K H H2 v d := fun R r => dp_same (ers_same s) (h R r)
theorem DpF.base (h : DpF K H H' v d) (s : Same H0 H) : DpF K H0 H' v d := fun R r => h R fun b z f => r b z (s.free f)
end
def amD (q : Rat) : PyData := .tuple [.int q.num, .int (q.den : Int)]
/-! ### a bubble's gas at an hour -/
noncomputable def gasAt (rows : List LRow) (mo q : Rat) : Option Rat :=
  match rows.head?, rows.getLast? with
  | some a, some z => if q < a.hour ∨ mo < q then none else if z.sides = 0 ∧ z.hour < q then none else
      match (rows.filter fun r => !decide (q < r.hour)).getLast? with
      | some w => some (w.gas + (q - w.hour) * ((w.sides - 6 : Int) : Rat))
      | none => none
  | _, _ => none
/-! Froth.gas_at: slots self, name, hour, rows, last, row -/
local macro_rules | `(tactic| walk_at "st") => `(tactic| first
  | ((with_reducible refine r_methF (A := ?A) (F := ?F) ?h ?hl ?_); (case h => with_reducible assumption); (case hl => rfl)))
/-! Gw: all that can be asked of a froth, as data. -/
/-! ### ledgers have rows -/
def LgOk (F : Fr) : Prop := ∀ k ∈ F.l, F.lg k ≠ []
theorem wr_lg {F F1 : Fr} {gs0 : Int → Rat} {w0 : Int → Int} {l' : List Int} {row : BRow} (h : LgOk F) (gl : ∀ k ∈ F.g, k ∈ F.l) (e : F1.lg = F.lg) (lo : ∀ j, j ∈ l' → j ∈ F.l ∨ j ∈ F1.g) : LgOk (wrF F1 F.g gs0 w0 l' row) := fun k hk => by
  have hk : k ∈ l' := hk
  show noteL F1 F.g gs0 w0 k ≠ []
  unfold noteL
  rw [e]
  by_cases c : k ∈ F.g
  · rw [if_pos c]
    have := h k (gl k c)
    split
    · split
      · exact this
      · simp
    · simp
  · rw [if_neg c]
    split
    · simp
    · rename_i c2
      exact h k ((lo k hk).resolve_right c2)
theorem Waits.lg {F F' : Fr} {q : Rat} {rows : List BRow} (w : Waits F q F' rows) : ∀ {t D : Nat}, WOk F q t D → LgOk F → LgOk F' := by
  induction w with
  | stop h => intro t D o l; exact l
  | @go F F' q n e S' l' rows f hq E so lo w ih =>
    intro t D o l
    obtain ⟨o2, len⟩ := o.next f hq E so lo
    refine ih o2 ?_
    have en : (goF F (hrs F n)).nm e = n := E.n
    refine wr_lg (F := goF F (hrs F n)) (F1 := gone0 (goF F (hrs F n)) S' e) l o.g.gl rfl fun j hj => ?_
    show j ∈ F.l ∨ j ∈ F.g.filter fun j => decide (j ≠ (goF F (hrs F n)).nm e)
    rw [en]
    exact (lo.2 j).mp hj
theorem deed_lg {F F' : Fr} {m : Nat} {od : Od} {rows : List BRow} (o : Ok F m) (h : Deed F F' rows od) (l : LgOk F) : LgOk F' := by
  obtain ⟨g, p, t, D, lt, hm, htt⟩ := o
  cases od with
  | turn b f => obtain ⟨hi, hl, l', lo, rfl, rfl⟩ := h; exact wr_lg (F1 := turn0 F b f) l g.gl rfl fun j hj => (lo.2 j).mp hj
  | burst f => obtain ⟨hi, hr, S', l', so, lo, rfl, rfl⟩ := h; exact wr_lg (F1 := away0 F S' f (bG F f) (bK F f) (joinG F (bG F f) (bK F f))) l g.gl rfl fun j hj => (lo.2 j).mp hj
  | part a b n d => obtain ⟨i1, i2, hr, hf, hg, hb, hfl, S', N', l', po, lo, rfl, rfl⟩ := h; exact wr_lg (F1 := part0 F S' N' a b (qt n d)) l g.gl rfl fun j hj => (lo.2 j).mp hj
  | blow e n d => obtain ⟨hi, hg, hfl, N', l', no, lo, rfl, rfl⟩ := h; exact wr_lg (F1 := blow0 F N' e (qt n d)) l g.gl rfl fun j hj => (lo.2 j).mp hj
  | wait n d => obtain ⟨tk, w⟩ := h; exact w.lg (wok_of g p lt tk) l
theorem Rch.lg {n : Nat} {F : Fr} (h : Rch n F) : LgOk F := by
  induction h with
  | beg h hN => intro k hk; show [_] ≠ []; simp
  | no h ih => exact ih
  | did h d ih => exact deed_lg h.ok d ih
/-! ### amounts that are asked -/
/-! ### the data -/
def srtI (l : List Int) : List Int := l.mergeSort fun a b => decide (a ≤ b)
theorem srtI_srt (l : List Int) : Srt l (srtI l) := by
  refine ⟨List.mergeSort_perm _ _, ?_⟩
  have := List.pairwise_mergeSort (le := fun a b : Int => decide (a ≤ b)) (fun a b c h1 h2 => by simp at h1 h2 ⊢; omega) (fun a b => by simp; omega) l
  exact this.imp fun h => by simpa using h
theorem Srt.eqI {l es : List Int} (h : Srt l es) : es = srtI l := h.eq (srtI_srt l)
def lrE (r : LRow) : PyData := lrD r.hour r.gas r.sides
def c3D (nx : Int → Int) (e : Int) : PyData := .tuple [.int e, .int (nx e), .int (nx (nx e))]
noncomputable def picD (F : Fr) : PyData := .tuple [.list (((srtI F.S).filter (isMin F.nx)).map (c3D F.nx)), .list ((heads F.nx (srtI F.S)).map fun e => .tuple [.int e, amD (F.gs (F.nm e))])]
def goD : Go → PyData
  | none => .none
  | some (x, y, n) => .tuple [.tuple [.int x, .int y], .int n]
noncomputable def headD (F : Fr) : List PyData := [picD F, amD F.mo, .list ((srtI F.g).map .int), .list (F.bk.map brD), amD (tot F), goD (firstF F)]
noncomputable def atD (F : Fr) (k : Int) (q : Rat) : PyData := match gasAt (F.lg k) F.mo q with
  | some g => amD g
  | none => .str "hour"
noncomputable def lastH (rows : List LRow) : Rat := match rows.getLast? with
  | some r => r.hour
  | none => 0
noncomputable def ledD (F : Fr) (k : Int) : List PyData := [.list ((F.lg k).map lrE), atD F k 0, atD F k (lastH (F.lg k)), atD F k F.mo]
noncomputable def nameD (F : Fr) (k : Int) : List PyData :=
  if k ∈ F.l then ledD F k ++ (if k ∈ F.g then [amD (F.gs k), .int (sd F k), .str ""] else [.str "bubble"]) else [.str "bubble"]
noncomputable def namesD (F : Fr) (n : Nat) : List PyData := (natI n).flatMap (nameD F)
def endD (F : Fr) (e : Int) : PyData := .tuple [.int e, .int (F.nx e), .int (F.nm e)]
noncomputable def allD (F : Fr) (n : Nat) : PyData := .list (headD F ++ namesD F n ++ (srtI F.S).map (endD F))
/-! ### .. can be compared -/
/-! ### a row of answers -/
structure Acc (K : PySem.W.Frag) (H : Hp) (p m : Addr) (H' : Hp) (xs : List V) (ds : List PyData) (n : Nat) : Prop where
  s : Same H H'
  e : H' p = some (.lst xs)
  len : xs.length ≤ n
  one : atI xs 1 = some (.ref m)
  dp : ∀ R : Addr → Prop, (∀ b, R b → ¬ Free H b) → DpAll K (Ers (fun b => R b ∨ b = p) H') xs ds
section
variable {K : PySem.W.Frag} {H H' H2 : Hp} {p m : Addr} {xs : List V} {ds : List PyData} {n : Nat} {v : V} {d : PyData} {R : Addr → Prop}
theorem Acc.same (a : Acc K H p m H' xs ds n) (s : Same H' H2) : Acc K H p m H2 xs ds n := ⟨a.s.trans s, s _ _ a.e, a.len, a.one, fun R r => dpAll_same (ers_same s) (a.dp R r)⟩
theorem atI_app {xs : List V} {v w : V} (h : atI xs 1 = some v) : atI (xs ++ [w]) 1 = some v := by
  unfold atI ixN at h ⊢
  rw [if_pos (by decide)] at h ⊢
  by_cases c : (1 : Int) < xs.length
  · rw [if_pos c] at h
    rw [if_pos (by rw [List.length_append]; omega)]
    simp only [Option.bind_some] at h ⊢
    rw [List.getElem?_append_left (by omega)]
    exact h
  · rw [if_neg c] at h
    cases h
theorem Acc.put (a : Acc K H p m H' xs ds n) (fp : Free H p) (h : ∀ R : Addr → Prop, (∀ b, R b → ¬ Free H b) → Dp K (Ers (fun b => R b ∨ b = p) H') v d) : Acc K H p m (upd H' p (.lst (xs ++ [v]))) (xs ++ [v]) (ds ++ [d]) (n + 1) := by
  refine ⟨same_mut a.s fp, upd_same, by rw [List.length_append]; have := a.len; show _ + 1 ≤ _; omega, atI_app a.one, fun R r => ?_⟩
  rw [ers_put (R := fun b => R b ∨ b = p) (o := .lst (xs ++ [v])) (.inr rfl) a.e (fun z => z) fun z => z]
  exact dpAll_snoc (a.dp R r) (h R r)
theorem Acc.up {k : Nat} (a : Acc K H p m H' xs ds n) (h : n ≤ k) : Acc K H p m H' xs ds k := ⟨a.s, a.e, Nat.le_trans a.len h, a.one, a.dp⟩
end
/-! ### gas at an hour, told -/
/-! _law_told_at: slots _law_froth, _law_name, _law_hour, _law_found -/
local macro_rules | `(tactic| walk_at "st") => `(tactic| first
  | ((with_reducible refine r_methF (A := ?A) (F := ?F) ?h ?hl ?_); (case h => with_reducible assumption); (case hl => rfl)))
/-! Gy: the walk of all that is asked. -/
/-! _law_all_asked: slots _law_froth, _law_most, _law_found, _law_name, _law_word, _law_rows, _law_hour, _law_web, _law_end -/
local macro_rules | `(tactic| walk_at "st") => `(tactic| first
  | ((with_reducible refine r_methF (A := ?A) (F := ?F) ?h ?hl ?_); (case h => with_reducible assumption); (case hl => rfl)))
/-! Hb: several froths side by side. -/
theorem Rch.ncb {n : Nat} {F : Fr} (h : Rch n F) : 0 ≤ F.nc ∧ F.nc ≤ 36 + n := by
  induction h with
  | @beg r c gs N h hN =>
    show 0 ≤ r * c ∧ r * c ≤ _
    have := h.2.2.1
    have h1 := h.1
    have h2 := h.2.1
    have r1 : r * 1 ≤ r * c := Int.mul_le_mul_of_nonneg_left h2 (by omega)
    omega
  | no h ih => omega
  | did h d ih =>
    have := (deed_nc d).1
    rename_i od _
    have := newB01 od
    omega
theorem deed_len {F F' : Fr} {m : Nat} {od : Od} {rows : List BRow} (o : Ok F m) (d : Deed F F' rows od) : F'.g.length ≤ F.g.length + 1 := by
  cases od with
  | turn b f => obtain ⟨hi, hl, l', lo, rfl, rfl⟩ := d; exact Nat.le_succ _
  | burst f => obtain ⟨hi, hr, S', l', so, lo, rfl, rfl⟩ := d; exact Nat.le_succ_of_le (List.length_filter_le _ _)
  | part a b n d => obtain ⟨i1, i2, hr, hf, hg, hb, hfl, S', N', l', po, lo, rfl, rfl⟩ := d; show (F.g ++ [F.nc]).length ≤ _; rw [List.length_append]; exact Nat.le_refl _
  | blow e n d => obtain ⟨hi, hg, hfl, N', l', no, lo, rfl, rfl⟩ := d; show (F.g ++ [F.nc]).length ≤ _; rw [List.length_append]; exact Nat.le_refl _
  | wait n d =>
    obtain ⟨tk, w⟩ := d
    obtain ⟨t, D, l, hm, htt⟩ := o.l
    obtain ⟨t', D', h1, h2, h3, h4, h5, h6⟩ := w.ok (wok_of o.g o.p l tk)
    omega
theorem Rch.few {n : Nat} {F : Fr} (h : Rch n F) : F.g.length ≤ 36 + n := by
  induction h with
  | beg h hN =>
    show (natI _).length ≤ _
    have := h.2.2.1
    have := h.2.2.2.1
    unfold natI
    rw [List.length_map, List.length_range]
    omega
  | no h ih => omega
  | did h d ih => have := deed_len h.ok d; omega
theorem Rch.fcnc {n : Nat} {F : Fr} (h : Rch n F) : F.fc = 3 * F.nc := by
  induction h with
  | @beg r c gs N h hN => exact Int.mul_assoc 3 r c
  | no h ih => exact ih
  | did h d ih =>
    obtain ⟨h1, h2⟩ := deed_nc d
    rw [h1, h2, ih]
    omega
/-! ### three froths and a list -/
structure Tri (G : Gx) (H : Hp) (x y z kp : Addr) (A B C : FA) (F F2 F3 : Fr) : Prop where
  fx : FAt G H x A F
  fy : FAt G H y B F2
  fz : FAt G H z C F3
  xy : ∀ b, reg x A F b → ¬ reg y B F2 b
  xz : ∀ b, reg x A F b → ¬ reg z C F3 b
  yz : ∀ b, reg y B F2 b → ¬ reg z C F3 b
  kx : ¬ reg x A F kp
  ky : ¬ reg y B F2 kp
  kz : ¬ reg z C F3 kp
section
variable {G : Gx} {H H' : Hp} {x y z kp : Addr} {A A' B C : FA} {F F' F2 F3 : Fr} {v : V} {dd : PyData}
theorem Tri.same (t : Tri G H x y z kp A B C F F2 F3) (s : Same H H') : Tri G H' x y z kp A B C F F2 F3 := ⟨t.fx.same s, t.fy.same s, t.fz.same s, t.xy, t.xz, t.yz, t.kx, t.ky, t.kz⟩
/-- the list is changed -/
theorem Tri.put {xs ys : List V} (t : Tri G H x y z kp A B C F F2 F3) (e : H kp = some (.lst xs)) : Tri G (upd H kp (.lst ys)) x y z kp A B C F F2 F3 :=
  ⟨t.fx.put e (fun z => z) t.kx, t.fy.put e (fun z => z) t.ky, t.fz.put e (fun z => z) t.kz, t.xy, t.xz, t.yz, t.kx, t.ky, t.kz⟩
end
local macro_rules | `(tactic| walk_at "st") => `(tactic| first
  | ((with_reducible refine r_methF (A := ?A) (F := ?F) ?h ?hl ?_); (case h => with_reducible assumption); (case hl => rfl)))
/-! Hc: who goes first, told; just at the going. -/
/-! _law_is_going: slots _law_found, _law_due -/
/-! _law_just_at: slots _law_going, _law_by -/
theorem Waits.sub {F F' : Fr} {q : Rat} {rows : List BRow} (w : Waits F q F' rows) : ∀ k ∈ F'.g, k ∈ F.g := by
  induction w with
  | stop h => exact fun k hk => hk
  | go f hq E so lo w ih => exact fun k hk => (List.mem_filter.mp (ih k hk)).1
/-! He: waiting in pieces (plain); froths that are alike but for the order of their keys. -/
/-! ### alike but for the order of keys -/
structure Eqf (F E : Fr) : Prop where
  S : E.S.Perm F.S
  N : E.N.Perm F.N
  l : E.l.Perm F.l
  nx : E.nx = F.nx
  nm : E.nm = F.nm
  g : E.g = F.g
  gs : E.gs = F.gs
  lg : E.lg = F.lg
  mo : E.mo = F.mo
  bk : E.bk = F.bk
  nc : E.nc = F.nc
  fc : E.fc = F.fc
section
variable {F E : Fr}
theorem Eqf.refl (F : Fr) : Eqf F F := ⟨.refl _, .refl _, .refl _, rfl, rfl, rfl, rfl, rfl, rfl, rfl, rfl, rfl⟩
theorem Eqf.sd (h : Eqf F E) : sd E = sd F := funext fun k => by
  unfold Fw.sd
  rw [h.nm, h.N.countP_eq]
theorem Eqf.goes (h : Eqf F E) {k : Int} : Goes E k ↔ Goes F k := by unfold Goes; rw [h.gs, h.sd]
theorem Eqf.hrs (h : Eqf F E) {k : Int} : hrs E k = hrs F k := by unfold Fw.hrs; rw [h.gs, h.sd]
theorem Eqf.first (h : Eqf F E) {n : Int} : First E E.g n ↔ First F F.g n := by
  rw [h.g]
  exact ⟨fun f => ⟨f.m, h.goes.mp f.g, fun k hk gk => by rw [← h.hrs, ← h.hrs]; exact f.le k hk (h.goes.mpr gk)⟩, fun f => ⟨f.m, h.goes.mpr f.g, fun k hk gk => by rw [h.hrs, h.hrs]; exact f.le k hk (h.goes.mp gk)⟩⟩
theorem Eqf.go (h : Eqf F E) (q : Rat) : Eqf (goF F q) (goF E q) := by
  refine ⟨h.S, h.N, h.l, h.nx, h.nm, h.g, funext fun k => ?_, h.lg, by show E.mo + q = F.mo + q; rw [h.mo], h.bk, h.nc, h.fc⟩
  show (if k ∈ E.g then goG E q k else E.gs k) = if k ∈ F.g then goG F q k else F.gs k
  unfold goG
  rw [h.g, h.gs, h.sd]
theorem Eqf.edge (h : Eqf F E) {n e : Int} : Edge E n e ↔ Edge F n e := ⟨fun z => ⟨h.S.mem_iff.mp z.s, by rw [← h.nm]; exact z.n, by rw [← h.nm]; exact z.o⟩, fun z => ⟨h.S.mem_iff.mpr z.s, by rw [h.nm]; exact z.n, by rw [h.nm]; exact z.o⟩⟩
theorem LeastE.one (h : Eqf F E) {n e f : Int} (a : LeastE F n e) (b : LeastE E n f) : e = f := by
  have h1 := a.le f (h.edge.mp b.toEdge)
  have h2 := b.le e (h.edge.mpr a.toEdge)
  omega
end
/-! ### nothing that is asked tells them apart -/
theorem Eqf.all {F E : Fr} (h : Eqf F E) (n : Nat) : allD E n = allD F n := by
  have eS : srtI E.S = srtI F.S := (srtI_srt E.S |> fun q : Srt E.S (srtI E.S) => (⟨q.perm.trans h.S, q.le⟩ : Srt F.S (srtI E.S))).eqI
  have eg : srtI E.g = srtI F.g := by rw [h.g]
  have et : tot E = tot F := by unfold tot; rw [h.g, h.gs]
  have er : rowOf E = rowOf F := funext fun k => by unfold rowOf; rw [h.gs, h.sd]
  have ef : firstF E = firstF F := by unfold firstF; rw [h.g, er]
  have ep : picD E = picD F := by unfold picD; rw [eS, h.nx, h.nm, h.gs]
  have ehd : Fw.headD E = Fw.headD F := by unfold Fw.headD; rw [ep, h.mo, eg, h.bk, et, ef]
  have ea : atD E = atD F := funext fun k => funext fun q => by unfold atD; rw [h.lg, h.mo]
  have en : nameD E = nameD F := funext fun k => by
    unfold nameD ledD
    rw [h.lg, ea, h.mo, h.g, h.gs, h.sd]
    by_cases c : k ∈ F.l
    · rw [if_pos c, if_pos (h.l.mem_iff.mpr c)]
    · rw [if_neg c, if_neg fun z => c (h.l.mem_iff.mp z)]
  have ee : endD E = endD F := funext fun e => by unfold endD; rw [h.nx, h.nm]
  unfold allD namesD
  rw [ehd, en, eS, ee]
/-! Le: the same deed at froths that are alike but for the order of keys. -/
section
variable {F E : Fr}
theorem Eqf.symm (h : Eqf F E) : Eqf E F := ⟨h.S.symm, h.N.symm, h.l.symm, h.nx.symm, h.nm.symm, h.g.symm, h.gs.symm, h.lg.symm, h.mo.symm, h.bk.symm, h.nc.symm, h.fc.symm⟩
theorem Eqf.trans {D : Fr} (h : Eqf F E) (k : Eqf E D) : Eqf F D := ⟨k.S.trans h.S, k.N.trans h.N, k.l.trans h.l, k.nx.trans h.nx, k.nm.trans h.nm, k.g.trans h.g, k.gs.trans h.gs, k.lg.trans h.lg, k.mo.trans h.mo, k.bk.trans h.bk, k.nc.trans h.nc, k.fc.trans h.fc⟩
theorem Eqf.rim (h : Eqf F E) {x y : Int} : Rim E.S E.nx x y ↔ Rim F.S F.nx x y := by
  rw [h.nx]
  exact rim_perm (fun z => h.S.mem_iff) fun _ _ => rfl
end
local macro_rules | `(tactic| walk_at "st") => `(tactic| first
  | ((with_reducible refine r_methF (A := ?A) (F := ?F) ?h ?hl ?_); (case h => with_reducible assumption); (case hl => rfl)))
/-! Ta: texts of numbers, amounts and rows. -/
theorem log_len {i : Int} (h : i.natAbs.log2 < 1920) : (Str.ofString (toString i)).length ≤ 1921 := by
  rw [ofString_length]
  exact int_text_length_le (k := 1920) (by decide) h
def strV : V → Str
  | .int i => Str.ofString (toString i)
  | .str s => s
  | _ => ""
def TxV (v : V) : Prop := (∃ i : Int, v = .int i ∧ i.natAbs.log2 < 1920) ∨ ∃ s : Str, v = .str s ∧ s.length ≤ 1921
def rStrAny : List V → Hp → VK → Prop := fun xs H Q => (∃ i, xs = [.int i] ∧ i.natAbs.log2 < 1920 ∧ Q (.str (toString i)) H) ∨ (∃ a, xs = [.str a] ∧ Q (.str a) H)
theorem call_str_any {X : Cx} : CallR X (.type "str") rStrAny := CallR.or call_str_int SkE.call_str_str
def rJoin (K : PySem.W.Frag) : V → List V → Hp → VK → Prop := fun x xs H Q => ∃ a p, ∃ ys : List Str, x = .str a ∧ xs = [.ref p] ∧ (SqL K H p (ys.map V.str) ∨ SqT K H p (ys.map V.str)) ∧ (ys.map (·.length)).sum + ys.length * a.length ≤ 16777216 ∧ Q (.str (Txt.join a ys)) H
theorem TxV.len {v : V} (h : TxV v) : (strV v).length ≤ 1921 := by
  rcases h with ⟨i, rfl, h⟩ | ⟨s, rfl, h⟩
  · exact log_len h
  · exact h
theorem r_strAny {v : V} {H : Hp} {Q : VK} (t : TxV v) (h : Q (.str (strV v)) H) : rStrAny [v] H Q := by
  rcases t with ⟨i, rfl, hi⟩ | ⟨s, rfl, hs⟩
  · exact .inl ⟨i, rfl, hi, h⟩
  · exact .inr ⟨s, rfl, h⟩
theorem txi {i : Int} (h : i.natAbs ≤ 10 ^ 60) : TxV (.int i) := .inl ⟨i, rfl, Nat.lt_of_le_of_lt (log2_mono h) (by decide +kernel)⟩
theorem txs {s : Str} (h : s.length ≤ 1921) : TxV (.str s) := .inr ⟨s, rfl, h⟩
/-! ### glueing -/
def glueS (a : Str) (l : List Str) : Str := l.foldl (fun acc s => acc ++ " " ++ s) a
theorem glueS_snoc {a s : Str} {l : List Str} : glueS a (l ++ [s]) = glueS a l ++ " " ++ s := by unfold glueS; rw [List.foldl_append]; rfl
theorem glueS_len {B : Nat} : ∀ {l : List Str} {a : Str}, (∀ s ∈ l, s.length ≤ B) → (glueS a l).length ≤ a.length + l.length * (B + 1)
  | [], a, _ => by show a.length ≤ _; rw [List.length_nil]; omega
  | s :: l, a, h => by
    have h1 := h s List.mem_cons_self
    have h2 := glueS_len (l := l) (a := a ++ " " ++ s) fun x hx => h x (List.mem_cons_of_mem _ hx)
    have l1 : (" " : Str).length = 1 := by decide
    rw [Str.length_append, Str.length_append, l1] at h2
    show (glueS (a ++ " " ++ s) l).length ≤ _
    rw [List.length_cons, Nat.add_mul, Nat.one_mul]
    omega
/-! ### amounts -/
def amS (q : Rat) : Str := if (q.den : Int) = 1 then Str.ofString (toString q.num) else Str.ofString (toString q.num) ++ "/" ++ Str.ofString (toString (q.den : Int))
structure AmTx (q : Rat) : Prop where
  n : q.num.natAbs.log2 < 1920
  d : (q.den : Int).natAbs.log2 < 1920
theorem AmTx.len {q : Rat} (h : AmTx q) : (amS q).length ≤ 3843 := by
  have l1 := log_len h.n
  have l2 := log_len h.d
  have l3 : ("/" : Str).length = 1 := by decide
  unfold amS
  split
  · omega
  · rw [Str.length_append, Str.length_append]; omega
/-! shown_amount: slots one -/
/-! ### rows -/
/-! shown_row: slots row, part -/
theorem cutV_tail1 {x : V} {xs : List V} : cutV (x :: xs) (some 1) none = xs := by
  unfold cutV HT.sIx
  dsimp only
  rw [if_neg (by decide)]
  have : min (1 : Int).toNat (x :: xs).length = 1 := by rw [List.length_cons]; show min 1 _ = 1; omega
  rw [this, List.take_of_length_le (by rw [List.length_drop]; exact Nat.le_refl _)]
  rfl
theorem tail_not {x : V} {xs : List V} : ¬ (HT.sIx (x :: xs).length 0 (some 1) = 0 ∧ HT.sIx (x :: xs).length (x :: xs).length none = (x :: xs).length) := by
  rintro ⟨z, _⟩
  unfold HT.sIx at z
  dsimp only at z
  rw [if_neg (by decide)] at z
  have : min (1 : Int).toNat (x :: xs).length = 1 := by rw [List.length_cons]; show min 1 _ = 1; omega
  omega
/-! Tn: what stands in rows and orders is not great (plain). -/
/-! ### what stands in the rows is not great -/
def NN (F : Fr) : Prop := ∀ e ∈ F.S, 0 ≤ e
theorem wS_sub {S : List Int} {nx : Int → Int} {e z : Int} (h : z ∈ wS S nx e) : z ∈ S := by
  unfold wS at h
  split at h
  · unfold burstLS m1S loopS mendS at h
    exact (List.mem_filter.mp (List.mem_filter.mp h).1).1
  · unfold burstS m1S mendS at h
    exact (List.mem_filter.mp (List.mem_filter.mp h).1).1
structure RowB (r : BRow) : Prop where
  a : ∀ i ∈ r.args, i.natAbs ≤ 10000
  n : r.args.length ≤ 10
  w : r.word.length ≤ 100
theorem nm_b {F : Fr} (g : Good F) {e : Int} (he : e ∈ F.S) : 0 ≤ F.nm e ∧ F.nm e < F.nc := g.nc _ (g.gl _ ((g.on _).mpr ⟨e, he, rfl⟩))
theorem wl6 : ("push" : Str).length ≤ 100 ∧ ("pull" : Str).length ≤ 100 ∧ ("burst" : Str).length ≤ 100 ∧ ("part" : Str).length ≤ 100 ∧ ("blow" : Str).length ≤ 100 ∧ ("gone" : Str).length ≤ 100 := by decide
theorem Waits.args {F F' : Fr} {q : Rat} {rows : List BRow} (w : Waits F q F' rows) : ∀ {t D : Nat}, WOk F q t D → NN F → F.fc ≤ 2000 → F.nc ≤ 2000 → NN F' ∧ ∀ r ∈ rows, RowB r := by
  induction w with
  | stop h => exact fun o n _ _ => ⟨n, fun r hr => absurd hr List.not_mem_nil⟩
  | @go F F' q n e S' l' rows f hq E so lo w ih =>
    intro t D o nn h1 h2
    obtain ⟨o2, len⟩ := o.next f hq E so lo
    have Es : e ∈ F.S := E.s
    obtain ⟨a, b⟩ := ih o2 (fun z hz => nn z (wS_sub ((so.2 z).mp hz))) h1 h2
    refine ⟨a, fun r hr => ?_⟩
    rcases List.mem_cons.mp hr with rfl | hr
    · have e0 := nn e Es
      have e1 := o.g.fc e Es
      have n1 := nm_b o.g Es
      have n2 := nm_b o.g (o.g.web.map.ca _ Es)
      refine ⟨fun i hi => ?_, by show 3 ≤ 10; decide, wl6.2.2.2.2.2⟩
      have hi : i ∈ [e / 2, F.nm e, F.nm (ot e)] := hi
      simp only [List.mem_cons, List.not_mem_nil, or_false] at hi
      rcases hi with rfl | rfl | rfl <;> omega
    · exact b r hr
theorem deed_args {F F' : Fr} {m : Nat} {od : Od} {rows : List BRow} (o : Ok F m) (h : Deed F F' rows od) (nn : NN F) (h1 : F.fc ≤ 2000) (h2 : F.nc ≤ 2000) : NN F' ∧ ∀ r ∈ rows, RowB r := by
  obtain ⟨g, p, t, D, l, hm, htt⟩ := o
  obtain ⟨w1, w2, w3, w4, w5, w6⟩ := wl6
  have fc0 := Good.fc0 g.toG0
  have nc0 := g.nc0
  cases od with
  | turn b f =>
    obtain ⟨hi, hl, l', lo, rfl, rfl⟩ := h
    refine ⟨nn, fun r hr => ?_⟩
    rw [List.mem_singleton.mp hr]
    have := nn _ hi
    have := g.fc _ hi
    refine ⟨fun i hi => ?_, by show 1 ≤ 10; decide, by cases b; exact w1; exact w2⟩
    rw [List.mem_singleton.mp (show i ∈ [f] from hi)]
    omega
  | burst f =>
    obtain ⟨hi, hr, S', l', so, lo, rfl, rfl⟩ := h
    refine ⟨fun z hz => nn z (wS_sub ((so.2 z).mp hz)), fun r hr => ?_⟩
    rw [List.mem_singleton.mp hr]
    have := nn _ hi
    have := g.fc _ hi
    have n1 := nm_b g hi
    have n2 := nm_b g (g.web.map.ca _ hi)
    refine ⟨fun i hi => ?_, by show 3 ≤ 10; decide, w3⟩
    have hi : i ∈ [f, bG F f, bK F f] := hi
    have hb := bKG F f
    simp only [List.mem_cons, List.not_mem_nil, or_false] at hi
    rcases hi with rfl | rfl | rfl <;> omega
  | part a b n d =>
    obtain ⟨i1, i2, hr, hf, hg, hb, hfl, S', N', l', po, lo, rfl, rfl⟩ := h
    have n1 := nm_b g i1
    refine ⟨fun z hz => ?_, fun r hr => ?_⟩
    · rcases mem_blowS.mp ((po.2.1 z).mp hz) with q | q
      · exact nn z q
      · unfold New6 at q; omega
    · rw [List.mem_singleton.mp hr]
      refine ⟨fun i hi => ?_, by show 2 ≤ 10; decide, w4⟩
      have hi : i ∈ [F.nm a, F.nc] := hi
      simp only [List.mem_cons, List.not_mem_nil, or_false] at hi
      rcases hi with rfl | rfl <;> omega
  | blow e n d =>
    obtain ⟨hi, hg, hfl, N', l', no, lo, rfl, rfl⟩ := h
    refine ⟨fun z hz => ?_, fun r hr => ?_⟩
    · rcases mem_blowS.mp hz with q | q
      · exact nn z q
      · unfold New6 at q; omega
    · rw [List.mem_singleton.mp hr]
      refine ⟨fun i hi => ?_, by show 1 ≤ 10; decide, w5⟩
      rw [List.mem_singleton.mp (show i ∈ [F.nc] from hi)]
      omega
  | wait n d =>
    obtain ⟨tk, w⟩ := h
    exact w.args (wok_of g p l tk) nn h1 h2
theorem Rch.args {n : Nat} {F : Fr} (h : Rch n F) : n ≤ 300 → NN F ∧ ∀ r ∈ F.bk, RowB r := by
  induction h with
  | @beg r c gs N h hN =>
    intro _
    refine ⟨fun e he => ?_, fun r hr => absurd hr List.not_mem_nil⟩
    have C := comb_rc (r := r) (c := c) (by have := h.1; omega) (by have := h.2.1; omega)
    exact ((C.mem e).mp he).1
  | no h ih => exact fun q => ih (by omega)
  | did h d ih =>
    intro q
    obtain ⟨a, b⟩ := ih (by omega)
    have nc := h.ncb
    have fn := h.fcnc
    obtain ⟨c1, c2⟩ := deed_args h.ok d a (by omega) (by omega)
    refine ⟨c1, fun r hr => ?_⟩
    rw [(deed_wbk h.ok d).bk] at hr
    rcases List.mem_append.mp hr with z | z
    · exact b r z
    · exact c2 r z
local macro_rules | `(tactic| walk_at "st") => `(tactic| first
  | ((with_reducible refine r_methF (A := ?A) (F := ?F) ?h ?hl ?_); (case h => with_reducible assumption); (case hl => rfl)))
/-! La: a log. -/
def shownS : List V → Str
  | [] => ""
  | v :: vs => glueS (strV v) (vs.map strV)
/-! shown: slots order, part -/
/-! ### the log's object -/
def lgl (f l : Addr) (n : Int) : List (Str × V) := [("froths", .ref f), ("lines", .ref l), ("now", .int n)]
structure LgT (G : Gx) : Prop where
  cl : L2.Cls G.K (G.ad "Log")
  fr : FrT G
  froths : NoAttr G.K (G.ad "Log") "froths"
  lines : NoAttr G.K (G.ad "Log") "lines"
  now : NoAttr G.K (G.ad "Log") "now"
structure Lg where
  fs : List Fr
  ls : List Str
  now : Nat
structure LA where
  dx : Addr
  f : Addr
  l : Addr
  ps : List (Addr × FA)
structure LAt (G : Gx) (H : Hp) (x : Addr) (A : LA) (L : Lg) : Prop where
  t : LgT G
  ins : H x = some (.ins (G.ad "Log") A.dx (lgl A.f A.l L.now))
  fs : H A.f = some (.lst (A.ps.map fun p => V.ref p.1))
  ls : H A.l = some (.lst (L.ls.map V.str))
  fr : All2 (fun (p : Addr × FA) F => FAt G H p.1 p.2 F ∧ ¬ reg p.1 p.2 F x) A.ps L.fs
  lo : L.now < L.fs.length
  le : L.ls.length = L.fs.length
  few : L.fs.length ≤ 1000
section
variable {G : Gx} {H H' : Hp} {x : Addr} {A : LA} {L : Lg} {f l : Addr} {n m : Int} {p : Addr}
theorem LAt.same (h : LAt G H x A L) (s : Same H H') : LAt G H' x A L := ⟨h.t, s _ _ h.ins, s _ _ h.fs, s _ _ h.ls, h.fr.imp fun _ _ _ q => ⟨q.1.same s, q.2⟩, h.lo, h.le, h.few⟩
theorem LAt.pl (h : LAt G H x A L) : A.ps.length = L.fs.length := h.fr.len
theorem LAt.get (h : LAt G H x A L) {i : Nat} {F : Fr} (e : L.fs[i]? = some F) : ∃ p : Addr × FA, A.ps[i]? = some p ∧ FAt G H p.1 p.2 F ∧ ¬ reg p.1 p.2 F x := by
  have hl := h.pl
  have hi := (List.getElem?_eq_some_iff.mp e).1
  obtain ⟨p, hp⟩ : ∃ p, A.ps[i]? = some p := ⟨_, List.getElem?_eq_getElem (by omega)⟩
  obtain ⟨F', e', q⟩ := h.fr.get hp
  rw [e] at e'
  cases e'
  exact ⟨p, hp, q⟩
variable {Q : VK} {N : Hp → Prop} {dx : Addr}
end
/-! ### stand, back, forth, froth, at -/
/-! Log.stand: slots self -/
/-! Log.back: slots self -/
/-! Log.forth: slots self -/
/-! Log.froth: slots self -/
/-! Log.at: slots self, stand -/
/-! ### a deed -/
theorem All2.take {α β : Type} {P : α → β → Prop} : ∀ {as : List α} {bs : List β} (n : Nat), All2 P as bs → All2 P (as.take n) (bs.take n)
  | _, _, 0, _ => .nil
  | _, _, _ + 1, .nil => .nil
  | _, _, n + 1, .cons h r => .cons h (r.take n)
/-! Log.deed: slots self, order, made, rows -/
/-! ### a log begins -/
/-! Log.__init__: slots self, rows, cols, gases -/
/-! Xd: written dicts with text keys, all of whose keys are known. -/
def KTb (K : PySem.W.Frag) (w : World) (a : Addr) (kvs : List (Str × V)) : Prop :=
  ∃ es n, KDict K w a es n ∧ ∀ z, (kvs.lookup z = none → PySem.W.nsIn K a z = some none) ∧ (∀ v, kvs.lookup z = some v → ∃ u, PySem.W.nsIn K a z = some (some u) ∧ RelV v u)
def rKIn (a : Addr) (kvs : List (Str × V)) : R2 := fun x y H Q => y = .ref a ∧ ∃ z, x = .str z ∧ Q (.bl (kvs.lookup z).isSome) H
def rKIx (a : Addr) (kvs : List (Str × V)) : R2 := fun x y H Q => x = .ref a ∧ ∃ z v, y = .str z ∧ kvs.lookup z = some v ∧ Q v H
section
variable {X : Cx} {a : Addr} {kvs : List (Str × V)}
theorem op_kin (T : KTb X.K X.w a kvs) : OpR X (compareOp .In) (rKIn a kvs) := by
  obtain ⟨es, n, D, hz⟩ := T
  intro pins s σ H x y v u Q I rx ry h
  obtain ⟨rfl, z, rfl, q⟩ := h
  cases e : kvs.lookup z with
  | none =>
    rw [e] at q
    exact op_in_kd D pins s σ H _ _ v u Q I rx ry ⟨z, none, rfl, rfl, (hz z).1 e, q⟩
  | some w =>
    rw [e] at q
    obtain ⟨u0, e0, _⟩ := (hz z).2 w e
    exact op_in_kd D pins s σ H _ _ v u Q I rx ry ⟨z, some u0, rfl, rfl, e0, q⟩
theorem ix_kix (T : KTb X.K X.w a kvs) : IxR X (rKIx a kvs) := by
  obtain ⟨es, n, D, hz⟩ := T
  intro value slice pins s σ H x y v u Q I rx ry h hs
  obtain ⟨rfl, z, w, rfl, e, q⟩ := h
  obtain ⟨u0, e0, r0⟩ := (hz z).2 w e
  exact ix_kdict value slice pins s σ H _ _ v u Q I rx ry ⟨a, z, w, rfl, rfl, ⟨es, n, u0, D.at_, D.lit, e0, r0⟩, q⟩ hs
end
/-! ### from the head -/
theorem keyOf_find : ∀ {l : List DictEntry} {P : Params} {ks : List Str} {z : Str}, l.map He.keyOf = He.keysIn P ks → z ∉ ks → l.find? (·.key.isStr z) = none ∧ l.any (·.refKey) = false
  | [], _, _, _, _, _ => ⟨rfl, rfl⟩
  | e :: r, P, [], _, h, _ => by cases h
  | e :: r, P, k :: ks, z, h, hz => by
    have h1 : He.keyOf e :: r.map He.keyOf = some (k, PyData.keyHash P k) :: He.keysIn P ks := h
    injection h1 with h2 h3
    obtain ⟨i1, i2⟩ := keyOf_find (z := z) h3 (fun q => hz (List.mem_cons_of_mem _ q))
    unfold He.keyOf at h2
    split at h2
    · rename_i x t q
      obtain ⟨h5, h6⟩ := Prod.mk.inj (Option.some.inj h2)
      subst h5
      have n1 : e.key.isStr z = false := by
        rw [q]
        unfold Value.isStr
        exact beq_false_of_ne fun c => hz (by rw [← c]; exact List.mem_cons_self)
      have n2 : e.refKey = false := by
        unfold DictEntry.refKey
        rw [q]
      rw [List.find?_cons, n1, List.any_cons, n2, i1, i2]
      exact ⟨rfl, rfl⟩
    · cases h2
theorem ktb_of {K : PySem.W.Frag} {w : World} {a : Addr} {dvs : List (Str × He.Dv)} (h : He.dicW K a = some (He.keysIn w.params (dvs.map (·.1)))) (hv : He.valsB K a dvs = true) : KTb K w a (dvs.map fun q => (q.1, q.2.v K)) := by
  obtain ⟨es, n, D⟩ := He.dicW_ok h
  refine ⟨es, n, D, fun z => ⟨fun e => ?_, fun v e => ?_⟩⟩
  · have nz : z ∉ dvs.map (·.1) := fun hm => by
      obtain ⟨q, hq, rfl⟩ := List.mem_map.mp hm
      have := List.lookup_eq_none_iff.mp e (q.1, q.2.v K) (List.mem_map.mpr ⟨q, hq, rfl⟩)
      simp at this
    unfold He.dicW at h
    rw [D.at_] at h
    dsimp only at h
    split at h
    · obtain ⟨i1, i2⟩ := keyOf_find (Option.some.inj h) nz
      unfold PySem.W.nsIn
      rw [D.at_]
      dsimp only
      rw [i1]
      dsimp only
      rw [i2]
      rfl
    · cases h
  · obtain ⟨l1, l2, e1, e2⟩ := List.lookup_eq_some_iff.mp e
    have hm : (z, v) ∈ dvs.map fun q => (q.1, q.2.v K) := by rw [e1]; exact List.mem_append.mpr (.inr List.mem_cons_self)
    obtain ⟨q, hq, eq⟩ := List.mem_map.mp hm
    cases eq
    exact He.valsB_ok hv hq
theorem tab_raw {fa : List He.Fa} {fn : List He.DefD} {ts : List He.Tab} {w : World} {K : PySem.W.Frag} (c : He.SaysT fa fn ts w K) (i : Nat) {t : He.Tab} (h : ts[i]? = some t := by rfl) : He.dicW K (t.1 K) = some (He.keysIn w.params t.2) := by
  have e : ts.map (fun t => He.dicW K (t.1 K)) = ts.map fun t => some (He.keysIn w.params t.2) := congrArg (fun z : He.AlT => z.2) c
  have e2 : (ts.map fun t => He.dicW K (t.1 K))[i]? = (ts.map fun t => some (He.keysIn w.params t.2))[i]? := by rw [e]
  rw [List.getElem?_map, List.getElem?_map, h] at e2
  exact Option.some.inj e2
local macro_rules | `(tactic| walk_at "st") => `(tactic| first
  | ((with_reducible refine r_methF (A := ?A) (F := ?F) ?h ?hl ?_); (case h => with_reducible assumption); (case hl => rfl)))
/-! Xw: texts that write an order, read. -/
def kb_PARTS (_ : Gx) : List (Str × V) := [("push", .int 1), ("pull", .int 1), ("burst", .int 1), ("part", .int 4), ("blow", .int 3), ("wait", .int 2)]
abbrev rStarts : V → List V → Hp → VK → Prop := fun x xs H Q => ∃ a b, x = .str a ∧ xs = [.str b] ∧ Q (.bl (Txt.startswith a b)) H
abbrev rSplit : V → List V → Hp → VK → Prop := fun x xs H Q => ∃ a b, x = .str a ∧ xs = [.str b] ∧ (b.length == 0) = false ∧ a.length + 2 ≤ sizeLine ∧ rNewStrs (Txt.split a b) H Q
abbrev rIntStr : List V → Hp → VK → Prop := fun xs H Q => ∃ a n, xs = [.str a] ∧ PySem.intText? a = some n ∧ a.length ≤ 640 ∧ Q (.int n) H
abbrev rInSign : R2 := fun x y H Q => ∃ (c : Nat) (z : Str), x = .str ⟨#[c]⟩ ∧ y = .str z ∧ Q (.bl (decide (c ∈ z.cps.toList))) H
abbrev rNotInSign : R2 := fun x y H Q => ∃ (c : Nat) (z : Str), x = .str ⟨#[c]⟩ ∧ y = .str z ∧ Q (.bl (!decide (c ∈ z.cps.toList))) H
/-! ### numbers, plain -/
def tl (x : Str) : List Nat := x.cps.toList
theorem tl_len {x : Str} : x.length = (tl x).length := Array.length_toList.symm
def figs (l : List Nat) : Bool := l.all fun c => decide (c ∈ [48, 49, 50, 51, 52, 53, 54, 55, 56, 57])
def bareN (l : List Nat) : List Nat := match l with
  | 45 :: r => r
  | _ => l
def numB (z : Str) : Bool := decide (tl z = [48]) || (decide (1 ≤ (bareN (tl z)).length) && decide ((bareN (tl z)).length ≤ 12) && decide ((bareN (tl z)).head? ≠ some 48) && figs (bareN (tl z)))
def numV (z : Str) : Int := (PySem.intText? z).getD 0
theorem figs_all {l : List Nat} (h : figs l = true) : NumText.AllDigits l := fun c hc => by
  have := of_decide_eq_true (List.all_eq_true.mp h c hc)
  simp only [List.mem_cons, List.not_mem_nil, or_false] at this
  omega
theorem all_figs {l : List Nat} (h : NumText.AllDigits l) : figs l = true := List.all_eq_true.mpr fun c hc => decide_eq_true (by
  have := h c hc
  simp only [List.mem_cons, List.not_mem_nil, or_false]
  omega)
theorem numB_len {z : Str} (h : numB z = true) : z.length ≤ 13 := by
  rw [tl_len]
  unfold numB at h
  rw [Bool.or_eq_true] at h
  rcases h with h | h
  · rw [of_decide_eq_true h]; decide
  · simp only [Bool.and_eq_true, decide_eq_true_eq] at h
    have := h.1.1.2
    unfold bareN at this
    split at this
    · rename_i r e; rw [e, List.length_cons]; omega
    · omega
theorem numB_read {z : Str} (h : numB z = true) : ∃ n, PySem.intText? z = some n := by
  have hl := numB_len h
  unfold numB at h
  rw [Bool.or_eq_true] at h
  rcases h with h | h
  · have e : tl z = [48] := of_decide_eq_true h
    exact ⟨_, intText_digits (x := z) (by show NumText.AllDigits (tl z); rw [e]; intro c hc; rw [List.mem_singleton.mp hc]; omega) (by show tl z ≠ []; rw [e]; simp) (by omega)⟩
  · simp only [Bool.and_eq_true, decide_eq_true_eq] at h
    obtain ⟨⟨⟨h1, h2⟩, h3⟩, h4⟩ := h
    have ad := figs_all h4
    unfold bareN at h1 h2 h3 ad
    split at ad
    · rename_i r e
      rw [e] at h1
      exact ⟨_, intText_neg (x := z) (cs := r) e ad (fun z => by rw [z] at h1; exact absurd h1 (by decide)) (by omega)⟩
    · exact ⟨_, intText_digits (x := z) ad (fun q => by rw [show tl z = [] from q] at h1; exact absurd h1 (by decide)) (by omega)⟩
theorem numV_of {z : Str} (h : numB z = true) : PySem.intText? z = some (numV z) := by
  obtain ⟨n, e⟩ := numB_read h
  unfold numV
  rw [e]
  rfl
/-! ### .. walked -/
theorem r_m1 {r : V → List V → Hp → VK → Prop} {to te : TE} {σ : St} {H : Hp} {Q : VK} (h : to σ H fun x H1 => (∃ a, x = .str a) ∧ te σ H1 fun y H2 => r x [y] H2 Q) : tM1 r to te σ H Q := h
theorem m1_str {z : Str} {B : Prop} (h : B) : (∃ a, V.str z = .str a) ∧ B := ⟨⟨z, rfl⟩, h⟩
theorem r_lenS {z : Str} {H : Hp} {Q : VK} (hz : z.length ≤ sizeLine) (h : Q (.int z.length) H) : rLenStr [.str z] H Q := ⟨z, rfl, hz, h⟩
theorem cutS1 {c : Nat} {r : List Nat} {z : Str} (e : tl z = c :: r) : tl (cutS z (some 1) none) = r := by
  have hl : z.length = r.length + 1 := by rw [tl_len, e, List.length_cons]
  unfold cutS HT.sIx
  dsimp only
  rw [if_neg (by decide)]
  have : min (1 : Int).toNat z.length = 1 := by rw [hl]; show min 1 _ = 1; omega
  rw [this]
  show ((tl z).drop 1).take (z.length - 1) = r
  rw [e, hl]
  show r.take r.length = r
  exact List.take_of_length_le (Nat.le_refl _)
theorem str_of_tl {z : Str} {l : List Nat} (e : tl z = l) : z = ⟨l.toArray⟩ := by
  subst e
  exact (TL.mk_tl z).symm
theorem starts1 {z : Str} : Txt.startswith z "-" = decide ((tl z).head? = some 45) := by
  have hz : z = ⟨(tl z).toArray⟩ := str_of_tl rfl
  generalize tl z = l at hz ⊢
  subst hz
  cases l with
  | nil => decide +kernel
  | cons c r =>
    have l1 : ("-" : Str).length = 1 := by decide
    have cp : ("-" : Str).cps = #[45] := by decide
    show _ = decide (some c = some 45)
    unfold Txt.startswith Builtin.Str.subAt
    rw [cp, l1]
    have e : (⟨(c :: r).toArray⟩ : Str).cps.extract 0 (0 + 1) = #[c] := by simp
    have h : 0 + 1 ≤ (⟨(c :: r).toArray⟩ : Str).length := by show 1 ≤ (c :: r).toArray.size; simp
    rw [e, decide_eq_true h, Bool.true_and]
    by_cases hc : c = 45
    · subst hc; rfl
    · rw [decide_eq_false (by simp [hc])]
      simp [hc]
/-- a comprehension over a text -/
theorem r_lcStr {H : Hp} {Q : VK} {σ : St} {z : Str} {ts te : TE} {i : Nat} (e : Nat → V) (hn : z.length < sizeLine) (ht : ∀ Q : VK, Q (.str z) H → ts σ H Q)
    (h2 : ∀ c ∈ tl z, ∀ H', Same H H' → ∀ Q : VK, Q (e c) H' → te (σ.set i (some (.str ⟨#[c]⟩))) H' Q)
    (h : ∀ D, Free H D → Q (.ref D) (upd H D (.lst ((tl z).map e)))) : tLc (iStr ts) (gName i) tYes te [i] σ H Q := by
  refine ht _ ⟨z, rfl, fun D hD => ?_⟩
  have sz : z.cps.size = (tl z).length := Array.length_toList.symm
  refine lc_it walk_str (fun j H' => H' = upd H D (.lst (((tl z).take j).map e))) rfl (fun _ _ _ _ => trivial) (fun j x H' H'' hj q y => ?_) (fun H' q => ?_)
  · subst q
    obtain ⟨rfl, c, hc, rfl⟩ := y
    have hc' : (tl z)[j]? = some c := by rw [← hc]; exact Array.getElem?_toList
    have et : (tl z).take (j + 1) = (tl z).take j ++ [c] := by rw [List.take_succ, hc']; rfl
    rw [wipe1]
    show _ ∧ _
    have es : (σ.set i none).set i (some (.str ⟨#[c]⟩)) = σ.set i (some (.str ⟨#[c]⟩)) := List.set_set _
    refine ⟨by rw [es]; exact List.set_set _, ?_⟩
    rw [es]
    refine r_yes1 ?_
    rw [if_pos rfl]
    refine h2 c (List.mem_of_getElem? hc') _ (same_new (Same.refl _) hD) _ ⟨_, upd_same, ?_, ?_⟩
    · rw [List.length_map, List.length_take]
      rw [tl_len] at hn
      omega
    · rw [upd_upd, et, List.map_append]
      rfl
  · subst q
    rw [sz, List.take_length]
    exact h D hD
def sp_p_is_number (G : Gx) : Sp := fun vs H Q _ => ∃ (z : Str), vs = [.str z] ∧ z.length ≤ 100000 ∧ ∀ H', Same H H' → Q (.bl (numB z)) H'
theorem len_p_is_number {G : Gx} : ∀ vs H Q E, sp_p_is_number G vs H Q E → vs.length = 1 := by rintro vs H Q E ⟨m, rfl, _⟩; rfl
/-! is_number: slots text, sign -/
def t_p_is_number (G : Gx) : TS :=
  (tSeq (tIfS (tTest (tOp rEq (tVar 0) (tC (.str "0")))) (tRet (tC (.bl true))) tNext)
  (tCut (tIfS (tB (tM1 rStarts (tVar 0) (tC (.str "-")))) (tAsg (tSl rSlS (tVar 0) (tPart (tC (.int 1))) tNoPart) (gName 0)) tNext)
  (tSeq (tIfS (tOr (tTest (tOp rLtI (tCB rLenStr (tCons (tVar 0) tNil)) (tC (.int 1)))) (tOr (tTest (tOp rGtI (tCB rLenStr (tCons (tVar 0) tNil)) (tC (.int 12)))) (tTest (tOp rEq (tOp rIxS (tVar 0) (tC (.int 0))) (tC (.str "0")))))) (tRet (tC (.bl false))) tNext)
  (tRet (tCB (rAll G.K) (tCons (tLc (iStr (tVar 0)) (gName 1) tYes (tOp rInSign (tVar 1) (tC (.str "0123456789"))) [1]) tNil))))))
theorem pure_p_is_number {G : Gx} {vs : List V} {H : Hp} {Q : VK} {E : XK} (h : sp_p_is_number G vs H Q E) : Body (t_p_is_number G) ["text", "sign"] vs H Q := by
  obtain ⟨z, rfl, zl, k⟩ := h
  show t_p_is_number G _ [some (.str z), none] H
  unfold t_p_is_number
  walk_at "go"
  refine iteD (fun c => ?_) (fun c => ?_)
  · walk_at "go"
    have e : tl z = [48] := by rw [V.str.inj c]; rfl
    have : numB z = true := by unfold numB; rw [decide_eq_true e]; rfl
    rw [this] at k
    exact k _ (Same.refl _)
  have c48 : tl z ≠ [48] := fun q => c (by rw [str_of_tl q]; rfl)
  walk_at "go"
  refine r_cut (fun σ H' => ∃ u : Str, σ = [some (.str u), none] ∧ H' = H ∧ tl u = bareN (tl z)) ?_ ?_
  · walk_at "go"
    refine r_m1 ?_
    walk_at "go"
    refine m1_str ?_
    refine ⟨z, "-", rfl, rfl, ?_⟩
    rw [starts1]
    walk_at "go"
    refine iteD (fun h45 => ?_) (fun h45 => ?_)
    · walk_at "go"
      refine ⟨z, rfl, size1000 (by omega), ?_⟩
      obtain ⟨r, hr⟩ : ∃ r, tl z = 45 :: r := by
        cases hz : tl z with
        | nil => rw [hz] at h45; cases h45
        | cons c r => rw [hz] at h45; cases h45; exact ⟨r, rfl⟩
      walk_at "go"
      exact ⟨_, rfl, rfl, by rw [cutS1 hr, hr]; rfl⟩
    · walk_at "go"
      refine ⟨z, rfl, rfl, ?_⟩
      unfold bareN
      split
      · rename_i r e; rw [e] at h45; exact absurd rfl h45
      · rfl
  rintro σ H' ⟨u, rfl, rfl, hu⟩
  have ul : u.length ≤ 100000 := by
    rw [tl_len] at zl ⊢
    rw [hu]
    unfold bareN
    split
    · rename_i r e; rw [e, List.length_cons] at zl; omega
    · exact zl
  have nb : numB z = (decide (1 ≤ (tl u).length) && decide ((tl u).length ≤ 12) && decide ((tl u).head? ≠ some 48) && figs (tl u)) := by
    unfold numB
    rw [decide_eq_false c48, hu]
    rfl
  rw [nb] at k
  clear nb
  walk_at "go"
  refine r_lenS (size1000 (by omega)) ?_
  rw [tl_len]
  walk_at "go"
  refine iteD (fun h1 => ?_) (fun h1 => ?_)
  · walk_at "go"
    rw [decide_eq_false (by omega)] at k
    exact k _ (Same.refl _)
  walk_at "go"
  refine r_lenS (size1000 (by omega)) ?_
  rw [tl_len]
  walk_at "go"
  refine iteD (fun h2 => ?_) (fun h2 => ?_)
  · walk_at "go"
    rw [decide_eq_false (show ¬ (tl u).length ≤ 12 by omega), Bool.and_false] at k
    exact k _ (Same.refl _)
  obtain ⟨c, r, hc⟩ : ∃ c r, tl u = c :: r := by
    cases hz : tl u with
    | nil => rw [hz] at h1; exact absurd (by decide) h1
    | cons c r => exact ⟨c, r, rfl⟩
  walk_at "go"
  refine ⟨u, 0, c, rfl, rfl, size1000 (by omega), by show atI (tl u) 0 = _; rw [hc]; exact atI_nat (xs := c :: r) (j := 0) rfl, ?_⟩
  walk_at "go"
  rw [decide_eq_true (show 1 ≤ (tl u).length by omega), decide_eq_true (show (tl u).length ≤ 12 by omega), Bool.true_and, Bool.true_and] at k
  refine iteD (fun h3 => ?_) (fun h3 => ?_)
  · have : c = 48 := by
      have := V.str.inj h3
      injection this with h
      have : #[c] = #[48] := h
      simpa using this
    walk_at "go"
    rw [hc, this, decide_eq_false (by simp), Bool.false_and] at k
    exact k _ (Same.refl _)
  have c0 : c ≠ 48 := fun q => h3 (by rw [q]; rfl)
  rw [decide_eq_true (show (tl u).head? ≠ some 48 by rw [hc]; simp [c0]), Bool.true_and] at k
  walk_at "go"
  refine r_lcStr (z := u) (fun c => .bl (decide (c ∈ [48, 49, 50, 51, 52, 53, 54, 55, 56, 57]))) (size1000l (by omega)) (fun _ q => ⟨_, rfl, q⟩) (fun c hc H' s Q q => ?_) (fun D hD => ?_)
  · walk_at "go"
    exact ⟨c, "0123456789", rfl, rfl, q⟩
  walk_at "go"
  refine r_all (bs := (tl u).map fun c => decide (c ∈ [48, 49, 50, 51, 52, 53, 54, 55, 56, 57])) (by rw [List.map_map]; exact SqL.of upd_same) ?_
  rw [List.all_map]
  exact k _ (same_new (Same.refl _) hD)
/-! ### fits -/
def fitsB (w : Str) (n : Nat) : Bool := if w = "begin" then decide (3 ≤ n) else
  if w = "push" ∨ w = "pull" ∨ w = "burst" then decide (n = 1) else if w = "part" then decide (n = 4) else if w = "blow" then decide (n = 3) else if w = "wait" then decide (n = 2) else false
def sp_p_fits (G : Gx) : Sp := fun vs H Q _ => ∃ (w : Str) (n : Nat), vs = [.str w, .int (n : Int)] ∧ Q (.bl (fitsB w n)) H
theorem len_p_fits {G : Gx} : ∀ vs H Q E, sp_p_fits G vs H Q E → vs.length = 2 := by rintro vs H Q E ⟨m, n, rfl, _⟩; rfl
/-! fits: slots word, many -/
def t_p_fits (G : Gx) : TS :=
  (tSeq (tIfS (tTest (tOp rEq (tVar 0) (tC (.str "begin")))) (tRet (tOp rGeI (tVar 1) (tC (.int 3)))) tNext)
  (tRet (tAndV (tOp (rKIn (G.ad "PARTS") (kb_PARTS G)) (tVar 0) (tC (.ref (G.ad "PARTS")))) (tOp rEq (tOp (rKIx (G.ad "PARTS") (kb_PARTS G)) (tC (.ref (G.ad "PARTS"))) (tVar 0)) (tVar 1)))))
theorem kparts {G : Gx} (w : Str) : (kb_PARTS G).lookup w = if w = "push" ∨ w = "pull" ∨ w = "burst" then some (.int 1) else if w = "part" then some (.int 4) else if w = "blow" then some (.int 3) else if w = "wait" then some (.int 2) else none := by
  unfold kb_PARTS
  by_cases h1 : w = "push"
  · subst h1; rfl
  by_cases h2 : w = "pull"
  · subst h2; rfl
  by_cases h3 : w = "burst"
  · subst h3; rfl
  by_cases h4 : w = "part"
  · subst h4; rfl
  by_cases h5 : w = "blow"
  · subst h5; rfl
  by_cases h6 : w = "wait"
  · subst h6; rfl
  simp only [h1, h2, h3, h4, h5, h6, or_self, if_false]
  refine List.lookup_eq_none_iff.mpr fun p hp => ?_
  simp only [List.mem_cons, List.not_mem_nil, or_false] at hp
  rcases hp with rfl | rfl | rfl | rfl | rfl | rfl <;> simpa using by assumption
theorem pure_p_fits {G : Gx} {vs : List V} {H : Hp} {Q : VK} {E : XK} (h : sp_p_fits G vs H Q E) : Body (t_p_fits G) ["word", "many"] vs H Q := by
  obtain ⟨w, n, rfl, k⟩ := h
  show t_p_fits G _ [some (.str w), some (.int n)] H
  unfold t_p_fits
  unfold fitsB at k
  walk_at "go"
  refine iteD (fun c => ?_) (fun c => ?_)
  · have c := V.str.inj c
    rw [if_pos c] at k
    walk_at "go"
    rw [show decide ((n : Int) ≥ 3) = decide (3 ≤ n) from decide_eq_decide.mpr (by omega)]
    exact k
  have c : ¬ w = "begin" := fun z => c (by rw [z])
  rw [if_neg c] at k
  have kl := kparts (G := G) w
  have use : ∀ m : Nat, (kb_PARTS G).lookup w = some (.int (m : Int)) → Q (.bl (decide (n = m))) H → ∀ σ : St, σ[0]? = some (some (.str w)) → σ[1]? = some (some (.int n)) → tOp rEq (tOp (rKIx (G.ad "PARTS") (kb_PARTS G)) (tC (.ref (G.ad "PARTS"))) (tVar 0)) (tVar 1) σ H Q := fun m e q σ h0 h1 => by
    refine r_op ?_
    refine r_op ?_
    refine r_c ?_
    refine r_var h0 ?_
    refine ⟨rfl, w, _, rfl, e, ?_⟩
    refine r_var h1 ?_
    refine r_eq rfl ?_
    rw [show decide (V.int (m : Int) = V.int (n : Int)) = decide (n = m) from decide_eq_decide.mpr ⟨fun z => by have := V.int.inj z; omega, fun z => by rw [z]⟩]
    exact q
  walk_at "go"
  refine ⟨rfl, w, rfl, ?_⟩
  by_cases h1 : w = "push" ∨ w = "pull" ∨ w = "burst"
  · rw [if_pos h1] at kl k
    refine ⟨true, by rw [kl]; rfl, ?_⟩
    rw [if_pos rfl]
    exact use 1 kl k _ rfl rfl
  rw [if_neg h1] at kl k
  by_cases h2 : w = "part"
  · rw [if_pos h2] at kl k
    refine ⟨true, by rw [kl]; rfl, ?_⟩
    rw [if_pos rfl]
    exact use 4 kl k _ rfl rfl
  rw [if_neg h2] at kl k
  by_cases h3 : w = "blow"
  · rw [if_pos h3] at kl k
    refine ⟨true, by rw [kl]; rfl, ?_⟩
    rw [if_pos rfl]
    exact use 3 kl k _ rfl rfl
  rw [if_neg h3] at kl k
  by_cases h4 : w = "wait"
  · rw [if_pos h4] at kl k
    refine ⟨true, by rw [kl]; rfl, ?_⟩
    rw [if_pos rfl]
    exact use 2 kl k _ rfl rfl
  rw [if_neg h4] at kl k
  refine ⟨false, by rw [kl]; rfl, ?_⟩
  rw [if_neg Bool.false_ne_true]
  exact k
/-! ### read -/
def readV (z : Str) : Option (Str × List Int) := match Txt.split z " " with
  | [] => none
  | w :: ps => if fitsB w ps.length && ps.all numB then some (w, ps.map numV) else none
def sp_p_read (G : Gx) : Sp := fun vs H Q E => ∃ (z : Str), vs = [.str z] ∧ z.length ≤ 90000 ∧ (readV z = none → ∀ H', Same H H' → E (.ref (G.ad "NoOrder")) none H') ∧
  (∀ w is, readV z = some (w, is) → ∀ t H', Same H H' → Free H t → H' t = some (.tup (.str w :: is.map V.int)) → Q (.ref t) H')
theorem len_p_read {G : Gx} : ∀ vs H Q E, sp_p_read G vs H Q E → vs.length = 1 := by rintro vs H Q E ⟨m, rfl, _⟩; rfl
/-! read: slots text, parts, part -/
def t_p_read (G : Gx) (E : XK) : TS :=
  (tSeq (tAsg (tM1 rSplit (tVar 0) (tC (.str " "))) (gName 1))
  (tSeq (tIfS (tOr (tNot (tB (tCall (sp_p_fits G) [] E0 (tCons (tOp (rIxL G.K) (tVar 1) (tC (.int 0))) (tCons (tOp rSubI (tCB (rLenSeq G.K) (tCons (tVar 1) tNil)) (tC (.int 1))) tNil))))) (tNot (tB (tCB (rAll G.K) (tCons (tLc (iList G.K (tSl (rSlL G.K) (tVar 1) (tPart (tC (.int 1))) tNoPart)) (gName 2) tYes (tCall (sp_p_is_number G) [] E0 (tCons (tVar 2) tNil)) [2]) tNil))))) (tRaise E (G.ad "NoOrder")) tNext)
  (tRet (tOp (rCatT G.K) (tTup (tCons (tOp (rIxL G.K) (tVar 1) (tC (.int 0))) tNil)) (tCB (rTupleOf G.K) (tCons (tLc (iList G.K (tSl (rSlL G.K) (tVar 1) (tPart (tC (.int 1))) tNoPart)) (gName 2) tYes (tCB rIntStr (tCons (tVar 2) tNil)) [2]) tNil))))))
theorem spl_ne (S : List Nat) : ∀ (l : List Nat) (k : Nat) (acc : List Nat), TL.spl S k acc l ≠ []
  | [], k, acc => by unfold TL.spl; simp
  | c :: r, 0, acc => by
    unfold TL.spl
    split
    · simp
    · exact spl_ne S r 0 _
  | c :: r, k + 1, acc => by unfold TL.spl; exact spl_ne S r k acc
theorem blank_cps : (" " : Str).cps = #[32] := by decide
theorem split_tl (z : Str) : (Txt.split z " ").map TL.tl = TL.spl [32] 0 [] (tl z) := by
  have h := TL.split_spl z " " (by show (" " : Str).cps.toList ≠ []; rw [blank_cps]; simp) (TL.kind_ok (by rw [blank_cps]; simp))
  rw [h]
  show TL.spl (" " : Str).cps.toList 0 [] _ = _
  rw [blank_cps]
  rfl
theorem split_ne {z : Str} : Txt.split z " " ≠ [] := fun e => by
  have h := split_tl z
  rw [e] at h
  exact spl_ne _ _ _ _ h.symm
theorem spl_len : ∀ (l acc : List Nat), (TL.spl [32] 0 acc l).length ≤ l.length + 1 ∧ ∀ p ∈ TL.spl [32] 0 acc l, p.length ≤ acc.length + l.length
  | [], acc => by
    rw [TL.spl_nil]
    exact ⟨Nat.le_refl _, fun p hp => by rw [List.mem_singleton.mp hp]; exact Nat.le_refl _⟩
  | c :: r, acc => by
    cases h : TL.pre [32] (c :: r) with
    | true =>
      rw [TL.spl_hit h]
      obtain ⟨h1, h2⟩ := spl_len r []
      refine ⟨by rw [List.length_cons, List.length_cons]; exact Nat.succ_le_succ h1, fun p hp => ?_⟩
      rcases List.mem_cons.mp hp with rfl | hp
      · omega
      · have := h2 p hp
        rw [List.length_nil] at this
        rw [List.length_cons]
        omega
    | false =>
      rw [TL.spl_miss h]
      obtain ⟨h1, h2⟩ := spl_len r (acc ++ [c])
      refine ⟨by rw [List.length_cons]; omega, fun p hp => ?_⟩
      have := h2 p hp
      rw [List.length_append, List.length_singleton] at this
      rw [List.length_cons]
      omega
theorem split_len {z : Str} {l : List Str} (e : Txt.split z " " = l) : l.length ≤ z.length + 1 ∧ ∀ p ∈ l, p.length ≤ z.length := by
  have h := split_tl z
  rw [e] at h
  obtain ⟨h1, h2⟩ := spl_len (tl z) []
  rw [← h] at h1 h2
  rw [List.length_map, ← tl_len] at h1
  refine ⟨h1, fun p hp => ?_⟩
  have := h2 (TL.tl p) (List.mem_map.mpr ⟨p, hp, rfl⟩)
  rw [List.length_nil, ← tl_len] at this
  rw [tl_len]
  have : (tl p).length ≤ 0 + z.length := this
  omega
theorem r_lcW {K : PySem.W.Frag} {H : Hp} {Q : VK} {σ : St} {a : Addr} {tl te : TE} {i : Nat} {xs : List V} (e : V → V) (hs : SqL K H a xs) (hn : xs.length < sizeLine) (ht : ∀ Q : VK, Q (.ref a) H → tl σ H Q)
    (h2 : ∀ x ∈ xs, ∀ H', Same H H' → ∀ Q : VK, Q (e x) H' → te (σ.set i (some x)) H' Q)
    (h : ∀ D, Free H D → Q (.ref D) (upd H D (.lst (xs.map e)))) : tLc (iList K tl) (gName i) tYes te [i] σ H Q := by
  refine ht _ ⟨a, rfl, ⟨_, hs⟩, fun D hD => ?_⟩
  refine lc_list (xs := xs) (fun j H' => H' = upd H D (.lst ((xs.take j).map e))) rfl (fun j H' _ q => ?_) (fun j x H' hx q => ?_) (fun H' q => ?_)
  · subst q
    exact lst_same (same_new (Same.refl H) hD) hs
  · subst q
    have hm : x ∈ xs := List.mem_of_getElem? hx
    have et : xs.take (j + 1) = xs.take j ++ [x] := by rw [List.take_succ, hx]; rfl
    rw [wipe1]
    show _ ∧ _
    have es : (σ.set i none).set i (some x) = σ.set i (some x) := List.set_set _
    refine ⟨by rw [es]; exact List.set_set _, ?_⟩
    rw [es]
    refine r_yes1 ?_
    rw [if_pos rfl]
    refine h2 x hm _ (same_new (Same.refl _) hD) _ ⟨_, upd_same, ?_, ?_⟩
    · rw [List.length_map, List.length_take]
      omega
    · rw [upd_upd, et, List.map_append]
      rfl
  · subst q
    rw [List.take_length]
    exact h D hD
theorem pure_p_read {G : Gx} {vs : List V} {H : Hp} {Q : VK} {E : XK} (h : sp_p_read G vs H Q E) : Body (t_p_read G E) ["text", "parts", "part"] vs H Q := by
  obtain ⟨z, rfl, zl, k0, k1⟩ := h
  show t_p_read G E _ [some (.str z), none, none] H
  unfold t_p_read
  have l1 : (" " : Str).length = 1 := by decide
  walk_at "go"
  refine r_m1 ?_
  walk_at "go"
  refine m1_str ?_
  refine ⟨z, " ", rfl, rfl, by rw [l1]; rfl, size1000 (by omega), fun pl hpl => ?_⟩
  obtain ⟨w, ps, eps⟩ := List.exists_cons_of_ne_nil (split_ne (z := z))
  obtain ⟨sl, sp⟩ := split_len eps
  unfold readV at k0 k1
  rw [eps] at k0 k1 ⊢
  dsimp only at k0 k1
  rw [List.length_cons] at sl
  have s1 := same_new (o := .lst ((w :: ps).map V.str)) (Same.refl H) hpl
  have e1 : upd H pl (.lst ((w :: ps).map V.str)) pl = some (.lst (V.str w :: ps.map V.str)) := upd_same
  generalize upd H pl (.lst ((w :: ps).map V.str)) = H1 at s1 e1 ⊢
  walk_at "go"
  refine r_ixL (SqL.of e1) atI_0 ?_
  walk_at "go"
  rw [List.length_cons, List.length_map]
  refine ⟨w, ps.length, by rw [show ((ps.length + 1 : Nat) : Int) - 1 = (ps.length : Int) by omega], ?_⟩
  walk_at "go"
  cases hf : fitsB w ps.length with
  | false =>
    rw [hf, Bool.false_and] at k0
    walk_at "go"
    exact k0 rfl _ s1
  | true =>
  rw [hf, Bool.true_and] at k0 k1
  walk_at "go"
  refine r_lcO ?_
  walk_at "go"
  refine ⟨pl, _, rfl, SqL.of e1, fun p hp => ?_⟩
  rw [cutV_tail1]
  have e2 : upd H1 p (.lst (ps.map V.str)) p = some (.lst (ps.map V.str)) := upd_same
  have s2 := same_new (o := .lst (ps.map V.str)) s1 hp
  have e1 := at_new (o := .lst (ps.map V.str)) e1 hp
  generalize upd H1 p (.lst (ps.map V.str)) = H2 at e1 e2 s2 ⊢
  refine r_lcV (ys := (ps.map numB).map V.bl) (SqL.of e2) (by rw [List.length_map, List.length_map, List.length_map]) (by rw [List.length_map]; exact size1000l (by omega)) (fun _ q => q) (fun k x y hx hy H' s' Q q => ?_) (fun D H3 s3 fD eD => ?_)
  · obtain ⟨u, hu, rfl⟩ := map_get hx
    obtain ⟨b, hb, rfl⟩ := map_get hy
    obtain ⟨u', hu', rfl⟩ := map_get hb
    have : u' = u := by rw [hu] at hu'; exact (Option.some.inj hu').symm
    subst this
    have := sp u' (List.mem_cons_of_mem _ (List.mem_of_getElem? hu))
    walk_at "go"
    exact ⟨u', rfl, by omega, q⟩
  have s4 := s2.trans s3
  have e1 := s3 _ _ e1
  walk_at "go"
  refine r_all (SqL.of eD) ?_
  have hall : (ps.map numB).all id = ps.all numB := by rw [List.all_map]; rfl
  rw [hall]
  cases ha : ps.all numB with
  | false =>
    rw [ha] at k0
    walk_at "go"
    exact k0 rfl _ s4
  | true =>
  rw [ha] at k1
  have nn := fun p hp => numV_of (List.all_eq_true.mp ha p hp)
  have ne : ps ≠ [] := fun z => by
    rw [z] at hf
    unfold fitsB at hf
    repeat' split at hf
    all_goals exact absurd hf (by decide)
  walk_at "go"
  refine r_ixL (SqL.of e1) atI_0 ?_
  walk_at "go"
  refine ⟨by walk_at "sz", fun t1 h1 => ?_⟩
  have s5 := same_new (o := .tup [V.str w]) s4 h1
  have et1 : upd H3 t1 (.tup [V.str w]) t1 = some (.tup [V.str w]) := upd_same
  have e1 := at_new (o := .tup [V.str w]) e1 h1
  generalize upd H3 t1 (.tup [V.str w]) = H4 at s5 et1 e1 ⊢
  walk_at "go"
  refine r_lcO ?_
  walk_at "go"
  refine ⟨pl, _, rfl, SqL.of e1, fun p2 hp2 => ?_⟩
  rw [cutV_tail1]
  have e3 : upd H4 p2 (.lst (ps.map V.str)) p2 = some (.lst (ps.map V.str)) := upd_same
  have s6 := same_new (o := .lst (ps.map V.str)) s5 hp2
  have et1 := at_new (o := .lst (ps.map V.str)) et1 hp2
  generalize upd H4 p2 (.lst (ps.map V.str)) = H5 at s6 et1 e3 ⊢
  refine r_lcW (fun v => match v with | .str u => .int (numV u) | _ => .non) (SqL.of e3) (by rw [List.length_map]; exact size1000l (by omega)) (fun _ q => q) (fun v hv H' s' Q q => ?_) (fun D2 hD2 => ?_)
  · obtain ⟨u, hu, rfl⟩ := List.mem_map.mp hv
    have := numB_len (List.all_eq_true.mp ha u hu)
    walk_at "go"
    exact ⟨u, numV u, rfl, nn u hu, by omega, q⟩
  have em : ((ps.map V.str).map fun v => match v with | .str u => V.int (numV u) | _ => .non) = (ps.map numV).map V.int := by rw [List.map_map, List.map_map]; rfl
  rw [em]
  have s7 := same_new (o := .lst ((ps.map numV).map V.int)) s6 hD2
  have et1 := at_new (o := .lst ((ps.map numV).map V.int)) et1 hD2
  have e5 : upd H5 D2 (.lst ((ps.map numV).map V.int)) D2 = some (.lst ((ps.map numV).map V.int)) := upd_same
  generalize upd H5 D2 (.lst ((ps.map numV).map V.int)) = H6 at s7 et1 e5 ⊢
  walk_at "go"
  refine r_tupleL (SqL.of e5) fun t2 h2 => ?_
  have s8 := same_new (o := .tup ((ps.map numV).map V.int)) s7 h2
  have et1 := at_new (o := .tup ((ps.map numV).map V.int)) et1 h2
  refine ⟨t1, t2, _, _, rfl, rfl, SqT.of et1, SqT.of upd_same, by simp, by rw [List.length_map, List.length_map]; show 1 + ps.length ≤ _; exact size1000 (by omega), fun z => absurd (List.map_eq_nil_iff.mp (List.map_eq_nil_iff.mp z)) ne, fun _ t3 h3 => ?_⟩
  exact k1 w _ rfl t3 _ (same_new s8 h3) (s8.free h3) upd_same
local macro_rules | `(tactic| walk_at "st") => `(tactic| first
  | ((with_reducible refine r_methF (A := ?A) (F := ?F) ?h ?hl ?_); (case h => with_reducible assumption); (case hl => rfl)))
/-! Xo: orders drawn, written, read back. -/
theorem numL_head : ∀ n : Nat, 0 < n → (TL.numL n).head? ≠ some 48 := by
  intro n
  induction n using Nat.strongRecOn with
  | _ n ih =>
    intro h0
    by_cases h : n < 10
    · rw [TL.numL_lt h]
      simp
      omega
    · rw [TL.numL_step (by omega)]
      have := ih (n / 10) (by omega) (by omega)
      cases e : TL.numL (n / 10) with
      | nil => exact absurd e (TL.numL_ne _)
      | cons c r => rw [e] at this; exact this
theorem tl_nat (n : Nat) : tl (Str.ofString (toString (n : Int))) = TL.numL n := TL.tl_num n
theorem tl_neg (n : Nat) : tl (Str.ofString (toString (Int.negSucc n))) = 45 :: TL.numL (n + 1) := by
  have e : toString (Int.negSucc n) = "-" ++ toString ((n + 1 : Nat) : Int) := rfl
  have h := TL.tl_num (n + 1)
  show (Str.ofString (toString (Int.negSucc n))).cps.toList = _
  have h2 : (toString ((n + 1 : Nat) : Int)).toList.map Char.toNat = TL.numL (n + 1) := by rw [← PyProof.Rows.signs_ofString]; exact h
  rw [PyProof.Rows.signs_ofString, e, String.toList_append, List.map_append, h2]
  rfl
theorem numB_text {i : Int} (h : i.natAbs < 10 ^ 12) : numB (Str.ofString (toString i)) = true ∧ numV (Str.ofString (toString i)) = i := by
  match i, h with
  | .ofNat n, h =>
    have h : n < 10 ^ 12 := h
    have e := tl_nat n
    have el := TL.numL_len (k := 12) (by decide) h
    have ed := TL.numL_digits n
    constructor
    · show numB (Str.ofString (toString (n : Int))) = true
      unfold numB
      rw [e]
      by_cases z : n = 0
      · subst z
        rfl
      · have b : bareN (TL.numL n) = TL.numL n := by
          unfold bareN
          split
          · rename_i r q
            have := ed 45 (by rw [q]; exact List.mem_cons_self)
            omega
          · rfl
        rw [b, decide_eq_true (show 1 ≤ (TL.numL n).length from List.length_pos_iff.mpr (TL.numL_ne n)), decide_eq_true el, decide_eq_true (numL_head n (by omega)), all_figs ed]
        simp
    · have := TL.int_num (n := n) (by omega)
      unfold numV
      show (intText? (Str.ofString (toString (n : Int)))).getD 0 = (n : Int)
      rw [this]
      rfl
  | .negSucc n, h =>
    have h : n + 1 < 10 ^ 12 := h
    have e := tl_neg n
    have el := TL.numL_len (k := 12) (by decide) h
    have ed := TL.numL_digits (n + 1)
    constructor
    · unfold numB
      rw [e]
      show (_ || (decide (1 ≤ (TL.numL (n + 1)).length) && decide ((TL.numL (n + 1)).length ≤ 12) && decide ((TL.numL (n + 1)).head? ≠ some 48) && figs (TL.numL (n + 1)))) = true
      rw [decide_eq_true (show 1 ≤ (TL.numL (n + 1)).length from List.length_pos_iff.mpr (TL.numL_ne (n + 1))), decide_eq_true el, decide_eq_true (numL_head (n + 1) (by omega)), all_figs ed]
      simp
    · have := intText_neg (x := Str.ofString (toString (Int.negSucc n))) (cs := TL.numL (n + 1)) e ed (TL.numL_ne _) (by rw [tl_len, e, List.length_cons]; omega)
      unfold numV
      rw [this, TL.numL_val]
      rfl
/-! ### orders -/
def sevenW (w : Str) : Prop := w = "begin" ∨ w = "push" ∨ w = "pull" ∨ w = "burst" ∨ w = "part" ∨ w = "blow" ∨ w = "wait"
theorem fits_seven {w : Str} {n : Nat} (h : fitsB w n = true) : sevenW w := by
  unfold fitsB at h
  unfold sevenW
  by_cases h1 : w = "begin"
  · exact .inl h1
  rw [if_neg h1] at h
  by_cases h2 : w = "push" ∨ w = "pull" ∨ w = "burst"
  · rcases h2 with q | q | q
    · exact .inr (.inl q)
    · exact .inr (.inr (.inl q))
    · exact .inr (.inr (.inr (.inl q)))
  rw [if_neg h2] at h
  by_cases h3 : w = "part"
  · exact .inr (.inr (.inr (.inr (.inl h3))))
  rw [if_neg h3] at h
  by_cases h4 : w = "blow"
  · exact .inr (.inr (.inr (.inr (.inr (.inl h4)))))
  rw [if_neg h4] at h
  by_cases h5 : w = "wait"
  · exact .inr (.inr (.inr (.inr (.inr (.inr h5)))))
  rw [if_neg h5] at h
  cases h
theorem seven_ok {w : Str} (h : sevenW w) : WdOk w ∧ w.length ≤ 5 := by
  unfold WdOk
  rcases h with rfl | rfl | rfl | rfl | rfl | rfl | rfl <;> decide +kernel
structure OrdX (w : Str) (is : List Int) : Prop where
  f : fitsB w is.length = true
  b : ∀ i ∈ is, i.natAbs < 10 ^ 12
  l : is.length ≤ 60
/-! ### .. walked -/
def TupX (H : Hp) (t : Addr) (w : Str) (is : List Int) : Prop := H t = some (.tup (.str w :: is.map V.int))
def sp_l_order_drawn (G : Gx) : Sp := fun vs H Q _ => ∃ (c : Int), vs = [.int c] ∧ ∀ w is t H', OrdX w is → Same H H' → Free H t → TupX H' t w is → Q (.ref t) H'
theorem len_l_order_drawn {G : Gx} : ∀ vs H Q E, sp_l_order_drawn G vs H Q E → vs.length = 1 := by rintro vs H Q E ⟨m, rfl, _⟩; rfl
/-! _law_order_drawn: slots _law_cell_here, _law_kind, _law_a, _law_b, _law_c, _law_d, _law_wide, _law_numbers, _law_more, _law_name, _law_number -/
def t_l_order_drawn (G : Gx) : TS :=
  (tSeq (tAsg (tCall (sp_l_digits G) [] E0 (tCons (tVar 0) (tCons (tLst (tCons (tC (.int 7)) (tCons (tOp rPowI (tC (.int 10)) (tC (.int 12))) (tCons (tOp rPowI (tC (.int 10)) (tC (.int 12))) (tCons (tOp rPowI (tC (.int 10)) (tC (.int 12))) (tCons (tOp rPowI (tC (.int 10)) (tC (.int 12))) (tCons (tC (.int 4)) tNil))))))) tNil))) (gUnl G.K 6 (gCons (gName 1) (gCons (gName 2) (gCons (gName 3) (gCons (gName 4) (gCons (gName 5) (gCons (gName 6) gNil))))))))
  (tSeq (tAsg (tLst (tCons (tVar 2) (tCons (tVar 3) (tCons (tVar 4) (tCons (tVar 5) tNil))))) (gName 7))
  (tCut (tIfS (tTest (tOp rLtI (tVar 6) (tC (.int 2)))) (tAsg (tLc (iList G.K (tVar 7)) (gName 10) tYes (tOp rSubI (tOp rModI (tVar 10) (tOp (rIxL G.K) (tLst (tCons (tC (.int 12)) (tCons (tC (.int 400)) tNil))) (tVar 6))) (tC (.int 3))) [10]) (gName 7)) tNext)
  (tCut (tIfS (tTest (tOp rEq (tVar 6) (tC (.int 2)))) (tAsg (tLst (tCons (tOp rSubI (tOp rSubI (tOp rPowI (tC (.int 10)) (tC (.int 12))) (tC (.int 1))) (tOp rModI (tVar 2) (tC (.int 3)))) (tCons (tOp rAddI (tOp rSubI (tC (.int 1)) (tOp rPowI (tC (.int 10)) (tC (.int 12)))) (tOp rModI (tVar 3) (tC (.int 3)))) (tCons (tC (.int 0)) (tCons (tUn rNegI (tC (.int 1))) tNil))))) (gName 7)) tNext)
  (tSeq (tIfS (tTest (tOp rEq (tVar 1) (tC (.int 6)))) (tSeq (tAsg (tCall (sp_l_digits G) [] E0 (tCons (tOp rAddI (tVar 0) (tC (.int 1))) (tCons (tOp rRep (tLst (tCons (tOp rPowI (tC (.int 10)) (tC (.int 12))) tNil)) (tOp rAddI (tC (.int 1)) (tOp rModI (tVar 2) (tC (.int 36))))) tNil))) (gName 8))
  (tRet (tOp (rCatT G.K) (tTup (tCons (tC (.str "begin")) (tCons (tOp (rIxL G.K) (tVar 7) (tC (.int 0))) (tCons (tOp (rIxL G.K) (tVar 7) (tC (.int 1))) tNil)))) (tCB (rTupleOf G.K) (tCons (tVar 8) tNil))))) tNext)
  (tSeq (tAsg (tOp (rIxL G.K) (tLst (tCons (tC (.str "push")) (tCons (tC (.str "pull")) (tCons (tC (.str "burst")) (tCons (tC (.str "part")) (tCons (tC (.str "blow")) (tCons (tC (.str "wait")) tNil))))))) (tVar 1)) (gName 9))
  (tRet (tOp (rCatT G.K) (tTup (tCons (tVar 9) tNil)) (tCB (rTupleOf G.K) (tCons (tSl (rSlL G.K) (tVar 7) tNoPart (tPart (tOp (rIxL G.K) (tLst (tCons (tC (.int 1)) (tCons (tC (.int 1)) (tCons (tC (.int 1)) (tCons (tC (.int 4)) (tCons (tC (.int 3)) (tCons (tC (.int 2)) tNil))))))) (tVar 1)))) tNil))))))))))
def sp_l_due_text (G : Gx) : Sp := fun vs H Q _ => ∃ (o : Addr) (w : Str) (is : List Int), vs = [.ref o] ∧ TupX H o w is ∧ OrdX w is ∧ ∀ H', Same H H' → Q (.str (shownS (.str w :: is.map V.int))) H'
theorem len_l_due_text {G : Gx} : ∀ vs H Q E, sp_l_due_text G vs H Q E → vs.length = 1 := by rintro vs H Q E ⟨m, _, _, rfl, _⟩; rfl
/-! _law_due_text: slots _law_order, _law_found, _law_number -/
def t_l_due_text (G : Gx) : TS :=
  (tSeq (tAsg (tOp (rIxT G.K) (tVar 0) (tC (.int 0))) (gName 1))
  (tSeq (tFor (iTup G.K (tSl (rSlT G.K) (tVar 0) (tPart (tC (.int 1))) tNoPart)) (gName 2)
  (tAsg (tOp rAddS (tOp rAddS (tVar 1) (tC (.str " "))) (tCB rStrAny (tCons (tVar 2) tNil))) (gName 1)))
  (tRet (tVar 1))))
theorem OrdX.tx {w : Str} {is : List Int} (h : OrdX w is) : ∀ v ∈ (V.str w :: is.map V.int), TxV v := fun v hv => by
  rcases List.mem_cons.mp hv with rfl | hv
  · exact txs (by have := (seven_ok (fits_seven h.f)).2; omega)
  · obtain ⟨i, hi, rfl⟩ := List.mem_map.mp hv
    exact txi (Nat.le_trans (Nat.le_of_lt (h.b i hi)) (Nat.pow_le_pow_right (by decide) (by decide)))
theorem pure_l_due_text {G : Gx} {vs : List V} {H : Hp} {Q : VK} {E : XK} (h : sp_l_due_text G vs H Q E) : Body (t_l_due_text G) ["_law_order", "_law_found", "_law_number"] vs H Q := by
  obtain ⟨o, w, is, rfl, ho, od, k⟩ := h
  show t_l_due_text G _ [some (.ref o), none, none] H
  unfold t_l_due_text
  have tx := od.tx
  have il := od.l
  have wl := (seven_ok (fits_seven od.f)).2
  unfold TupX at ho
  walk_at "go"
  refine r_ixT (SqT.of ho) atI_0 ?_
  walk_at "go"
  refine ⟨o, _, rfl, SqT.of ho, tail_not, fun p hp => ?_⟩
  rw [cutV_tail1]
  have s1 := same_new (o := .tup (is.map V.int)) (Same.refl H) hp
  have e1 : upd H p (.tup (is.map V.int)) p = some (.tup (is.map V.int)) := upd_same
  generalize upd H p (.tup (is.map V.int)) = H1 at s1 e1 ⊢
  have bl : ∀ l : List V, (∀ v ∈ l, TxV v) → ∀ s ∈ l.map strV, s.length ≤ 1921 := fun l hl s hs => by
    obtain ⟨v, hv, rfl⟩ := List.mem_map.mp hs
    exact (hl v hv).len
  refine r_forT (SqT.of e1) (fun pre post σ H' => H' = H1 ∧ ∃ o2, σ = [some (.ref o), some (.str (glueS w (pre.map strV))), o2]) ⟨rfl, _, rfl⟩ (fun _ _ _ _ _ ⟨e, _⟩ => by rw [e]; exact SqT.of e1) ?_ ?_
  · rintro pre v post σ H' ev ⟨rfl, o2, rfl⟩
    have hv : v ∈ is.map V.int := by rw [ev]; exact List.mem_append.mpr (.inr List.mem_cons_self)
    have pl := congrArg List.length ev
    rw [List.length_append, List.length_cons, List.length_map] at pl
    have tv := tx v (List.mem_cons_of_mem _ hv)
    have tl1 := tv.len
    have gl := glueS_len (B := 1921) (l := pre.map strV) (a := w) (bl pre fun u hu => tx u (List.mem_cons_of_mem _ (by rw [ev]; exact List.mem_append.mpr (.inl hu))))
    rw [List.length_map] at gl
    have l1 : (" " : Str).length = 1 := by decide
    have := Nat.mul_le_mul_right 1922 (show pre.length ≤ 60 by omega)
    walk_at "go"
    refine r_addS (size1000 (by rw [l1]; omega)) ?_
    walk_at "go"
    refine r_strAny tv ?_
    refine r_addS (size1000 (by rw [Str.length_append, l1]; omega)) ?_
    refine ⟨rfl, some v, ?_⟩
    rw [List.map_append, List.map_cons, List.map_nil, glueS_snoc]
  · rintro σ H' ⟨rfl, o2, rfl⟩
    walk_at "go"
    exact k _ s1
def Four (l : List Int) : Prop := l.length = 4 ∧ ∀ i ∈ l, i.natAbs < 10 ^ 12
theorem four_of {a b c d : Int} (ha : a.natAbs < 10 ^ 12) (hb : b.natAbs < 10 ^ 12) (hc : c.natAbs < 10 ^ 12) (hd : d.natAbs < 10 ^ 12) : Four [a, b, c, d] := ⟨rfl, fun i hi => by
  simp only [List.mem_cons, List.not_mem_nil, or_false] at hi
  rcases hi with rfl | rfl | rfl | rfl <;> assumption⟩
theorem pure_l_order_drawn {G : Gx} {vs : List V} {H : Hp} {Q : VK} {E : XK} (h : sp_l_order_drawn G vs H Q E) : Body (t_l_order_drawn G) ["_law_cell_here", "_law_kind", "_law_a", "_law_b", "_law_c", "_law_d", "_law_wide", "_law_numbers", "_law_more", "_law_name", "_law_number"] vs H Q := by
  obtain ⟨c, rfl, k⟩ := h
  show t_l_order_drawn G _ [some (.int c), none, none, none, none, none, none, none, none, none, none] H
  unfold t_l_order_drawn
  have e12 : (10 : Int) ^ (12 : Int).toNat = 1000000000000 := by decide
  have n12 : (10 : Nat) ^ 12 = 1000000000000 := by decide
  walk_at "go"
  refine ⟨by walk_at "sz", fun t1 h1 => ?_⟩
  walk_at "go"
  refine c_digits6 (SqL.of upd_same) (by decide) (by decide) (by decide) (by decide) (by decide) (by decide) (fun d0 d1 d2 d3 d4 d5 q H2 ed a0 b0 a1 b1 a2 b2 a3 b3 a4 b4 a5 b5 s2 hq e2 => ?_)
  refine g_unl (SqL.of e2) rfl ?_
  have s3 : Same H H2 := same_tr s2 (same_new (Same.refl _) h1)
  clear e2 hq s2 h1 ed
  walk_at "go"
  refine ⟨by walk_at "sz", fun l1 hl1 => ?_⟩
  have s4 := same_new (o := .lst [V.int d1, .int d2, .int d3, .int d4]) s3 hl1
  have e4 : upd H2 l1 (.lst [V.int d1, .int d2, .int d3, .int d4]) l1 = some (.lst ([d1, d2, d3, d4].map V.int)) := upd_same
  generalize upd H2 l1 (.lst [V.int d1, .int d2, .int d3, .int d4]) = H3 at s4 e4 ⊢
  have f4 : Four [d1, d2, d3, d4] := four_of (by omega) (by omega) (by omega) (by omega)
  generalize [d1, d2, d3, d4] = l4 at e4 f4
  walk_at "go"
  refine r_cut (fun σ H' => ∃ (lp : Addr) (ns : List Int) (o10 : Option V), σ = [some (.int c), some (.int d0), some (.int d1), some (.int d2), some (.int d3), some (.int d4), some (.int d5), some (.ref lp), none, none, o10] ∧ Same H H' ∧ H' lp = some (.lst (ns.map V.int)) ∧ Four ns) ?_ ?_
  · walk_at "go"
    refine iteD (fun hw => ?_) (fun hw => ?_)
    · walk_at "go"
      have hm : ∃ m : Int, atI [V.int 12, V.int 400] d5 = some (.int m) ∧ 0 < m ∧ m ≤ 400 := by
        have : d5 = 0 ∨ d5 = 1 := by omega
        rcases this with z | z <;> rw [z]
        · exact ⟨12, rfl, by decide, by decide⟩
        · exact ⟨400, rfl, by decide, by decide⟩
      obtain ⟨m, hm, m0, m4⟩ := hm
      refine r_lcS (ns := l4) (fun _ => true) (fun x => .int (x % m - 3)) (SqL.of e4) (fun _ q => ⟨_, rfl, q⟩) (by rw [f4.1]; exact size1000l (by decide)) (fun x _ H' s' R q => r_yes1 (q _ (Same.refl _))) (fun x _ _ H' s' Q q => ?_) (fun D H5 s5 fD e5 => ?_)
      · walk_at "go"
        refine ⟨by walk_at "sz", fun t2 h2 => ?_⟩
        walk_at "go"
        refine r_ixL (SqL.of upd_same) hm ?_
        refine r_I m0 ?_
        walk_at "go"
        exact q _ (same_new (Same.refl _) h2)
      · walk_at "go"
        refine ⟨D, (l4.filter fun _ => true).map fun x => x % m - 3, _, rfl, s4.trans s5, by rw [e5, List.map_map]; rfl, by rw [List.length_map, List.filter_eq_self.mpr (fun _ _ => rfl), f4.1], fun i hi => ?_⟩
        obtain ⟨x, hx, rfl⟩ := List.mem_map.mp hi
        have h1 := Int.emod_nonneg x (show m ≠ 0 by omega)
        have h2 := Int.emod_lt_of_pos x m0
        rw [n12]
        omega
    · walk_at "go"
      exact ⟨l1, l4, _, rfl, s4, e4, f4⟩
  clear e4 f4 s4 hl1 s3
  rintro σ H3 ⟨lp, ns, o10, rfl, s3, e3, f3⟩
  walk_at "go"
  refine r_cut (fun σ H' => ∃ (lp : Addr) (ns : List Int), σ = [some (.int c), some (.int d0), some (.int d1), some (.int d2), some (.int d3), some (.int d4), some (.int d5), some (.ref lp), none, none, o10] ∧ Same H H' ∧ H' lp = some (.lst (ns.map V.int)) ∧ Four ns) ?_ ?_
  · walk_at "go"
    refine iteI (fun hw => ?_) (fun hw => ?_)
    · walk_at "go"
      refine ⟨by walk_at "sz", fun l2 hl2 => ?_⟩
      walk_at "go"
      refine ⟨l2, [1000000000000 - 1 - d1 % 3, 1 - 1000000000000 + d2 % 3, 0, -1], rfl, same_new s3 hl2, upd_same, four_of (by omega) (by omega) (by omega) (by omega)⟩
    · walk_at "go"
      exact ⟨lp, ns, rfl, s3, e3, f3⟩
  clear s3 e3 f3
  rintro σ H4 ⟨l2, ms, rfl, s4, e4, f4⟩
  obtain ⟨x1, x2, x3, x4, rfl⟩ : ∃ x1 x2 x3 x4, ms = [x1, x2, x3, x4] := by
    obtain ⟨hl, _⟩ := f4
    match ms, hl with
    | [x1, x2, x3, x4], _ => exact ⟨x1, x2, x3, x4, rfl⟩
  have b1 := f4.2 x1 (by simp)
  have b2 := f4.2 x2 (by simp)
  have b3 := f4.2 x3 (by simp)
  have b4 := f4.2 x4 (by simp)
  walk_at "go"
  refine iteI (fun hk => ?_) (fun hk => ?_)
  · walk_at "go"
    refine ⟨by walk_at "sz", fun t2 h2 => ?_⟩
    walk_at "go"
    have m0 := Int.emod_nonneg d1 (show (36 : Int) ≠ 0 by decide)
    have m1 := Int.emod_lt_of_pos d1 (show (0 : Int) < 36 by decide)
    obtain ⟨n, hn⟩ := Int.eq_ofNat_of_zero_le (show 0 ≤ 1 + d1 % 36 by omega)
    rw [hn]
    refine r_rep (xs := [.int 1000000000000]) upd_same (by omega) (by omega) (size1000 (by rw [List.length_singleton]; show 1 * ((n : Int)).toNat ≤ 1000000; omega)) fun t3 h3 => ?_
    have e3 : upd (upd H4 t2 (.lst [.int 1000000000000])) t3 (.lst (List.replicate (n : Int).toNat [V.int 1000000000000]).flatten) t3 = some (.lst ((List.replicate n (1000000000000 : Int)).map V.int)) := by
      rw [upd_same, List.map_replicate, Int.toNat_natCast]
      congr 2
      clear hn h3
      induction n with
      | zero => rfl
      | succ n ih => rw [List.replicate_succ, List.replicate_succ, List.flatten_cons, ih]; rfl
    have s5 := same_new (o := .lst (List.replicate (n : Int).toNat [V.int 1000000000000]).flatten) (same_new (o := .lst [.int 1000000000000]) (Same.refl H4) h2) h3
    generalize upd (upd H4 t2 (.lst [.int 1000000000000])) t3 (.lst (List.replicate (n : Int).toNat [V.int 1000000000000]).flatten) = H5 at e3 s5 ⊢
    walk_at "go"
    refine ⟨_, t3, List.replicate n 1000000000000, rfl, SqL.of e3, fun z hz => by rw [List.eq_of_mem_replicate hz]; decide, by rw [List.length_replicate]; omega, fun t5 H6 s6 f6 e6 => ?_⟩
    have dl := digits_len (c + 1) (List.replicate n 1000000000000)
    have db : ∀ x ∈ digits (c + 1) (List.replicate n 1000000000000), 0 ≤ x ∧ x < 1000000000000 := fun x hx => by
      obtain ⟨i, hi⟩ := List.mem_iff_getElem?.mp hx
      have hil : i < n := by
        have := (List.getElem?_eq_some_iff.mp hi).1
        rw [dl, List.length_replicate] at this
        exact this
      obtain ⟨d, hd, d0, d1⟩ := digits_get (c + 1) (List.replicate n 1000000000000) i 1000000000000 (by rw [List.getElem?_replicate, if_pos hil]) (by decide)
      rw [hi] at hd
      cases hd
      exact ⟨d0, d1⟩
    generalize digits (c + 1) (List.replicate n 1000000000000) = ds at dl db e6
    rw [List.length_replicate] at dl
    have s7 := s5.trans s6
    have e4 := s7 _ _ e4
    walk_at "go"
    refine ⟨by walk_at "sz", fun t7 h7 => ?_⟩
    have s8 := same_new (o := .tup [V.str "begin", .int x1, .int x2]) s7 h7
    have e7 : upd H6 t7 (.tup [V.str "begin", .int x1, .int x2]) t7 = some (.tup [V.str "begin", .int x1, .int x2]) := upd_same
    have e6 := at_new (o := .tup [V.str "begin", .int x1, .int x2]) e6 h7
    generalize upd H6 t7 (.tup [V.str "begin", .int x1, .int x2]) = H7 at s8 e7 e6 ⊢
    walk_at "go"
    refine r_tupleL (SqL.of e6) fun t8 h8 => ?_
    have s9 := same_new (o := .tup (ds.map V.int)) s8 h8
    have e7 := at_new (o := .tup (ds.map V.int)) e7 h8
    have nds : ds ≠ [] := fun z => by rw [z] at dl; simp at dl; omega
    refine ⟨t7, t8, _, _, rfl, rfl, SqT.of e7, SqT.of upd_same, by simp, by rw [List.length_map]; show 3 + ds.length ≤ _; exact size1000 (by omega), fun z => absurd (List.map_eq_nil_iff.mp z) nds, fun _ t9 h9 => ?_⟩
    refine k "begin" (x1 :: x2 :: ds) t9 _ ⟨?_, fun i hi => ?_, by show ds.length + 1 + 1 ≤ 60; omega⟩ (same_new (s4.trans s9) h9) ((s4.trans s9).free h9) (by unfold TupX; rw [upd_same]; rfl)
    · show fitsB "begin" (ds.length + 1 + 1) = true
      unfold fitsB
      rw [if_pos rfl]
      exact decide_eq_true (by omega)
    · rcases List.mem_cons.mp hi with rfl | hi
      · exact b1
      rcases List.mem_cons.mp hi with rfl | hi
      · exact b2
      have := db i hi
      rw [n12]
      omega
  · walk_at "go"
    refine ⟨by walk_at "sz", fun t2 h2 => ?_⟩
    walk_at "go"
    obtain ⟨w, m, hw, hm, hf, m4⟩ : ∃ (w : Str) (m : Nat), atI [V.str "push", V.str "pull", V.str "burst", V.str "part", V.str "blow", V.str "wait"] d0 = some (.str w) ∧ atI [V.int 1, V.int 1, V.int 1, V.int 4, V.int 3, V.int 2] d0 = some (.int (m : Int)) ∧ fitsB w m = true ∧ m ≤ 4 ∧ 1 ≤ m := by
      have : d0 = 0 ∨ d0 = 1 ∨ d0 = 2 ∨ d0 = 3 ∨ d0 = 4 ∨ d0 = 5 := by omega
      rcases this with z | z | z | z | z | z <;> rw [z]
      · exact ⟨"push", 1, rfl, rfl, by decide, by decide, by decide⟩
      · exact ⟨"pull", 1, rfl, rfl, by decide, by decide, by decide⟩
      · exact ⟨"burst", 1, rfl, rfl, by decide, by decide, by decide⟩
      · exact ⟨"part", 4, rfl, rfl, by decide, by decide, by decide⟩
      · exact ⟨"blow", 3, rfl, rfl, by decide, by decide, by decide⟩
      · exact ⟨"wait", 2, rfl, rfl, by decide, by decide, by decide⟩
    refine r_ixL (SqL.of upd_same) hw ?_
    have s5 := same_new (o := .lst [V.str "push", .str "pull", .str "burst", .str "part", .str "blow", .str "wait"]) (Same.refl H4) h2
    generalize upd H4 t2 (.lst [V.str "push", .str "pull", .str "burst", .str "part", .str "blow", .str "wait"]) = H5 at s5 ⊢
    walk_at "go"
    refine ⟨by walk_at "sz", fun t3 h3 => ?_⟩
    have e3 : upd H5 t3 (.tup [V.str w]) t3 = some (.tup [V.str w]) := upd_same
    have s6 := same_new (o := .tup [V.str w]) s5 h3
    generalize upd H5 t3 (.tup [V.str w]) = H6 at s6 e3 ⊢
    have e4 := s6 _ _ e4
    walk_at "go"
    refine ⟨by walk_at "sz", fun t4 h4 => ?_⟩
    walk_at "go"
    refine r_ixL (SqL.of upd_same) hm ?_
    have s7 := same_new (o := .lst [V.int 1, .int 1, .int 1, .int 4, .int 3, .int 2]) s6 h4
    have e3 := at_new (o := .lst [V.int 1, .int 1, .int 1, .int 4, .int 3, .int 2]) e3 h4
    have e4 := at_new (o := .lst [V.int 1, .int 1, .int 1, .int 4, .int 3, .int 2]) e4 h4
    generalize upd H6 t4 (.lst [V.int 1, .int 1, .int 1, .int 4, .int 3, .int 2]) = H7 at s7 e3 e4 ⊢
    walk_at "go"
    intro l3 hl3
    have ct : cutI [x1, x2, x3, x4] none (some (m : Int)) = [x1, x2, x3, x4].take m := by
      unfold cutI HT.sIx
      dsimp only
      rw [if_neg (by omega), Int.toNat_natCast, List.drop_zero, Nat.sub_zero, Nat.min_eq_left (by show m ≤ 4; omega)]
    rw [ct]
    have e5 : upd H7 l3 (.lst (([x1, x2, x3, x4].take m).map V.int)) l3 = some (.lst (([x1, x2, x3, x4].take m).map V.int)) := upd_same
    have s8 := same_new (o := .lst (([x1, x2, x3, x4].take m).map V.int)) s7 hl3
    have e3 := at_new (o := .lst (([x1, x2, x3, x4].take m).map V.int)) e3 hl3
    have ml : ([x1, x2, x3, x4].take m).length = m := by rw [List.length_take]; show min m 4 = m; omega
    have mb : ∀ i ∈ [x1, x2, x3, x4].take m, i.natAbs < 10 ^ 12 := fun i hi => f4.2 i (List.mem_of_mem_take hi)
    generalize [x1, x2, x3, x4].take m = is at e5 s8 e3 ml mb ⊢
    generalize upd H7 l3 (.lst (is.map V.int)) = H8 at s8 e5 e3 ⊢
    walk_at "go"
    refine r_tupleL (SqL.of e5) fun t8 h8 => ?_
    have s9 := same_new (o := .tup (is.map V.int)) s8 h8
    have e3 := at_new (o := .tup (is.map V.int)) e3 h8
    refine ⟨t3, t8, _, _, rfl, rfl, SqT.of e3, SqT.of upd_same, by simp, by rw [List.length_map]; show 1 + is.length ≤ _; exact size1000 (by omega), fun z => absurd (List.map_eq_nil_iff.mp z) (fun q => by rw [q] at ml; simp at ml; omega), fun _ t9 h9 => ?_⟩
    exact k w is t9 _ ⟨by rw [ml]; exact hf, mb, by omega⟩ (same_new (s4.trans s9) h9) ((s4.trans s9).free h9) (by unfold TupX; rw [upd_same]; rfl)
def sp_l_is_order (G : Gx) : Sp := fun vs H Q _ => ∃ (f d : Addr) (w : Str) (is : List Int), vs = [.ref f, .ref d] ∧ TupX H f w is ∧ TupX H d w is ∧ WdOk w ∧ is.length ≤ 50000 ∧ ∀ H', Same H H' → Q (.bl true) H'
theorem len_l_is_order {G : Gx} : ∀ vs H Q E, sp_l_is_order G vs H Q E → vs.length = 2 := by rintro vs H Q E ⟨m, _, _, _, rfl, _⟩; rfl
/-! _law_is_order: slots _law_found, _law_due, _law_part -/
def t_l_is_order (G : Gx) : TS :=
  (tSeq (tIfS (tOr (tNot (tB (tCB (rIsi G.K) (tCons (tVar 0) (tCons (tC (.ty "tuple")) tNil))))) (tOr (tTest (tOp rNe (tCB (rLenSeq G.K) (tCons (tVar 0) tNil)) (tCB (rLenSeq G.K) (tCons (tVar 1) tNil)))) (tNot (tB (tCB (rIsi G.K) (tCons (tOp (rIxT G.K) (tVar 0) (tC (.int 0))) (tCons (tC (.ty "str")) tNil))))))) (tRet (tC (.bl false))) tNext)
  (tRet (tAndV (tCB (rAll G.K) (tCons (tLc (iTup G.K (tSl (rSlT G.K) (tVar 0) (tPart (tC (.int 1))) tNoPart)) (gName 2) tYes (tCall (sp_l_whole G) [] E0 (tCons (tVar 2) tNil)) [2]) tNil)) (tOp (rEqD G.K) (tVar 0) (tVar 1)))))
theorem dp_tupx {K : PySem.W.Frag} {H : Hp} {t : Addr} {w : Str} {is : List Int} (h : TupX H t w is) : Dp K H (.ref t) (.tuple (.str w :: is.map PyData.int)) := Dp.tup (SqT.of h) (.cons (.str _) (dp_ints is))
theorem tupx_ok {w : Str} {is : List Int} (h : WdOk w) : SeqAt.shaped (.tuple (.str w :: is.map PyData.int)) = true := shaped_tup fun d hd => by
  rcases List.mem_cons.mp hd with rfl | hd
  · exact ⟨h, by simp only [PyData.depth]; omega⟩
  · obtain ⟨i, _, rfl⟩ := List.mem_map.mp hd
    exact ⟨rfl, by simp only [PyData.depth]; omega⟩
theorem pure_l_is_order {G : Gx} {vs : List V} {H : Hp} {Q : VK} {E : XK} (h : sp_l_is_order G vs H Q E) : Body (t_l_is_order G) ["_law_found", "_law_due", "_law_part"] vs H Q := by
  obtain ⟨f, d, w, is, rfl, hf, hd, wk, il, k⟩ := h
  show t_l_is_order G _ [some (.ref f), some (.ref d), none] H
  unfold t_l_is_order
  have hf' := hf
  have hd' := hd
  unfold TupX at hf' hd'
  walk_at "go"
  refine r_ixT (SqT.of hf') atI_0 ?_
  walk_at "go"
  refine r_lcOT ?_
  walk_at "go"
  refine ⟨f, _, rfl, SqT.of hf', tail_not, fun p hp => ?_⟩
  rw [cutV_tail1]
  have s1 := same_new (o := .tup (is.map V.int)) (Same.refl H) hp
  have e1 : upd H p (.tup (is.map V.int)) p = some (.tup (is.map V.int)) := upd_same
  generalize upd H p (.tup (is.map V.int)) = H1 at s1 e1 ⊢
  refine r_lcTS (ns := is) (fun _ => .bl true) (SqT.of e1) (fun _ q => q) (size1000l (by omega)) (fun x hx H' s' Q q => ?_) (fun D H2 s2 fD eD => ?_)
  · walk_at "go"
    exact q _ (Same.refl _)
  have s3 := s1.trans s2
  walk_at "go"
  refine r_all (bs := is.map fun _ => true) (by rw [List.map_map]; exact SqL.of eD) ?_
  rw [show (is.map fun _ => true).all id = true from by rw [List.all_eq_true]; intro b hb; obtain ⟨_, _, rfl⟩ := List.mem_map.mp hb; rfl]
  walk_at "go"
  refine r_eqD (dp_tupx (s3 _ _ hf)) (dp_tupx (s3 _ _ hd)) (tupx_ok wk) (tupx_ok wk) ?_
  rw [eqv_same (tupx_ok wk)]
  exact k _ s3
local macro_rules | `(tactic| walk_at "st") => `(tactic| first
  | ((with_reducible refine r_methF (A := ?A) (F := ?F) ?h ?hl ?_); (case h => with_reducible assumption); (case hl => rfl)))
/-! Xb: texts bent and judged. -/
def gW (l : List Str) : Nat := (l.map (·.length)).sum + l.length
theorem gW_cons {s : Str} {l : List Str} : gW (s :: l) = s.length + 1 + gW l := by unfold gW; rw [List.map_cons, List.sum_cons, List.length_cons]; omega
theorem gW_app {l m : List Str} : gW (l ++ m) = gW l + gW m := by unfold gW; rw [List.map_append, List.sum_append, List.length_append]; omega
theorem gW_cut {l : List Str} {k : Nat} : gW (l.take k) + gW (l.drop k) = gW l := by rw [← gW_app, List.take_append_drop]
theorem gW_drop {l : List Str} {k : Nat} : gW (l.drop k) ≤ gW l := by have := gW_cut (l := l) (k := k); omega
theorem gW_len {l : List Str} : l.length ≤ gW l := by unfold gW; omega
theorem gW_set : ∀ {l : List Str} {k : Nat} {s : Str}, gW (l.set k s) ≤ gW l + s.length
  | [], _, _ => Nat.le_add_right _ _
  | x :: l, 0, s => by rw [List.set_cons_zero, gW_cons, gW_cons]; omega
  | x :: l, k + 1, s => by
    have := gW_set (l := l) (k := k) (s := s)
    rw [List.set_cons_succ, gW_cons, gW_cons]
    omega
theorem spl_sum : ∀ (l acc : List Nat), ((TL.spl [32] 0 acc l).map List.length).sum + (TL.spl [32] 0 acc l).length = acc.length + l.length + 1
  | [], acc => by
    rw [TL.spl_nil]
    simp
  | c :: r, acc => by
    cases h : TL.pre [32] (c :: r) with
    | true =>
      rw [TL.spl_hit h]
      have := spl_sum r []
      have e : TL.spl [32] ([32].length - 1) [] r = TL.spl [32] 0 [] r := rfl
      rw [e, List.map_cons, List.sum_cons, List.length_cons, List.length_cons]
      rw [List.length_nil] at this
      omega
    | false =>
      rw [TL.spl_miss h]
      have := spl_sum r (acc ++ [c])
      rw [List.length_append, List.length_singleton] at this
      rw [List.length_cons]
      omega
theorem gW_split {z : Str} : gW (Txt.split z " ") = z.length + 1 := by
  have h := spl_sum (tl z) []
  rw [← split_tl, List.map_map, List.length_map, List.length_nil, ← tl_len] at h
  have e : (Txt.split z " ").map (List.length ∘ TL.tl) = (Txt.split z " ").map (·.length) := List.map_congr_left fun s _ => by
    show (TL.tl s).length = s.length
    exact tl_len.symm
  rw [e] at h
  unfold gW
  omega
theorem join_len {l : List Str} : (Txt.join " " l).length ≤ gW l := by
  have := StrLaws.join_length_le " " l
  have l1 : (" " : Str).length = 1 := by decide
  rw [TL.join_eq]
  rw [l1] at this
  unfold gW
  omega
/-! ### a text cut -/
theorem cutS_take {z : Str} {a : Nat} (h : a ≤ z.length) : tl (cutS z none (some (a : Int))) = (tl z).take a := by
  unfold cutS HT.sIx
  dsimp only
  rw [if_neg (by omega), Int.toNat_natCast, Nat.min_eq_left h]
  rfl
theorem cutS_drop {z : Str} {a : Nat} : tl (cutS z (some (a : Int)) none) = (tl z).drop a := by
  unfold cutS HT.sIx
  dsimp only
  rw [if_neg (by omega), Int.toNat_natCast]
  show ((tl z).drop (min a z.length)).take (z.length - min a z.length) = _
  rw [tl_len]
  rcases Nat.le_total a (tl z).length with h | h
  · rw [Nat.min_eq_left h, List.take_of_length_le (by rw [List.length_drop]; exact Nat.le_refl _)]
  · rw [Nat.min_eq_right h, List.drop_eq_nil_of_le (Nat.le_refl _), List.drop_eq_nil_of_le h, List.take_nil]
theorem cutV_takeN {xs : List V} {a : Nat} : cutV xs none (some (a : Int)) = xs.take a := by
  unfold cutV HT.sIx
  dsimp only
  rw [if_neg (by omega), Int.toNat_natCast, List.drop_zero, Nat.sub_zero]
  rcases Nat.le_total a xs.length with h | h
  · rw [Nat.min_eq_left h]
  · rw [Nat.min_eq_right h, List.take_of_length_le (Nat.le_refl _), List.take_of_length_le h]
theorem cutV_dropN {xs : List V} {a : Nat} : cutV xs (some (a : Int)) none = xs.drop a := by
  unfold cutV HT.sIx
  dsimp only
  rw [if_neg (by omega), Int.toNat_natCast]
  rcases Nat.le_total a xs.length with h | h
  · rw [Nat.min_eq_left h, List.take_of_length_le (by rw [List.length_drop]; exact Nat.le_refl _)]
  · rw [Nat.min_eq_right h, List.drop_eq_nil_of_le (Nat.le_refl _), List.drop_eq_nil_of_le h, List.take_nil]
/-! ### a sign -/
def sp_l_sign (G : Gx) : Sp := fun vs H Q _ => ∃ (n : Int), vs = [.int n] ∧ ∀ s : Str, s.length = 1 → Q (.str s) H
theorem len_l_sign {G : Gx} : ∀ vs H Q E, sp_l_sign G vs H Q E → vs.length = 1 := by rintro vs H Q E ⟨m, rfl, _⟩; rfl
/-! _law_sign: slots _law_number, _law_some -/
def t_l_sign (G : Gx) : TS :=
  (tSeq (tAsg (tC (.str " !\"#$&'()*+,-./0123456789:;<=>?@ABCDEFGHIJKLMNOPQRSTUVWXYZ[\\]^_`")) (gName 1))
  (tSeq (tAsg (tOp rAddS (tVar 1) (tC (.str "abcdefghijklmnopqrstuvwxyz{|}~"))) (gName 1))
  (tRet (tOp rIxS (tVar 1) (tOp rModI (tVar 0) (tCB rLenStr (tCons (tVar 1) tNil)))))))
theorem pure_l_sign {G : Gx} {vs : List V} {H : Hp} {Q : VK} {E : XK} (h : sp_l_sign G vs H Q E) : Body (t_l_sign G) ["_law_number", "_law_some"] vs H Q := by
  obtain ⟨n, rfl, k⟩ := h
  show t_l_sign G _ [some (.int n), none] H
  unfold t_l_sign
  walk_at "go"
  refine r_addS (by decide +kernel) ?_
  generalize hz : (" !\"#$&'()*+,-./0123456789:;<=>?@ABCDEFGHIJKLMNOPQRSTUVWXYZ[\\]^_`" : Str) ++ ("abcdefghijklmnopqrstuvwxyz{|}~" : Str) = z
  have zl : z.length = 94 := by rw [← hz]; decide +kernel
  walk_at "go"
  refine r_lenS (size1000 (by omega)) ?_
  walk_at "go"
  rw [zl]
  have h0 := Int.emod_nonneg n (show ((94 : Nat) : Int) ≠ 0 by decide)
  have h1 := Int.emod_lt_of_pos n (show (0 : Int) < ((94 : Nat) : Int) by decide)
  obtain ⟨j, hj⟩ := Int.eq_ofNat_of_zero_le h0
  rw [hj] at h1 ⊢
  have hl : j < (tl z).length := by rw [← tl_len, zl]; omega
  refine ⟨z, _, (tl z)[j], rfl, rfl, size1000 (by omega), atI_nat (List.getElem?_eq_getElem hl), ?_⟩
  exact k _ rfl
/-! ### bent -/
def sp_l_bent (G : Gx) : Sp := fun vs H Q _ => ∃ (z : Str) (c : Int), vs = [.str z, .int c] ∧ z.length ≤ 60000 ∧ ∀ (u : Str) H', u.length ≤ z.length + 100 → Same H H' → Q (.str u) H'
theorem len_l_bent {G : Gx} : ∀ vs H Q E, sp_l_bent G vs H Q E → vs.length = 2 := by rintro vs H Q E ⟨m, c, rfl, _⟩; rfl
/-! _law_bent: slots _law_text, _law_cell_here, _law_kind, _law_spot, _law_value, _law_more, _law_at, _law_parts, _law_place -/
def t_l_bent (G : Gx) : TS :=
  (tSeq (tAsg (tCall (sp_l_digits G) [] E0 (tCons (tVar 1) (tCons (tLst (tCons (tC (.int 9)) (tCons (tC (.int 601)) (tCons (tC (.int 94)) (tCons (tC (.int 5)) tNil))))) tNil))) (gUnl G.K 4 (gCons (gName 2) (gCons (gName 3) (gCons (gName 4) (gCons (gName 5) gNil))))))
  (tSeq (tAsg (tOp rModI (tVar 3) (tOp rAddI (tCB rLenStr (tCons (tVar 0) tNil)) (tC (.int 1)))) (gName 6))
  (tSeq (tIfS (tTest (tOp rEq (tVar 2) (tC (.int 0)))) (tRet (tVar 0)) tNext)
  (tSeq (tIfS (tTest (tOp rEq (tVar 2) (tC (.int 1)))) (tRet (tOp rAddS (tOp rAddS (tSl rSlS (tVar 0) tNoPart (tPart (tVar 6))) (tCall (sp_l_sign G) [] E0 (tCons (tVar 4) tNil))) (tSl rSlS (tVar 0) (tPart (tVar 6)) tNoPart))) tNext)
  (tSeq (tIfS (tTest (tOp rEq (tVar 2) (tC (.int 2)))) (tRet (tOp rAddS (tSl rSlS (tVar 0) tNoPart (tPart (tVar 6))) (tSl rSlS (tVar 0) (tPart (tOp rAddI (tVar 6) (tC (.int 1)))) tNoPart))) tNext)
  (tSeq (tIfS (tTest (tOp rEq (tVar 2) (tC (.int 3)))) (tRet (tOp rAddS (tOp rAddS (tSl rSlS (tVar 0) tNoPart (tPart (tVar 6))) (tCall (sp_l_sign G) [] E0 (tCons (tVar 4) tNil))) (tSl rSlS (tVar 0) (tPart (tOp rAddI (tVar 6) (tC (.int 1)))) tNoPart))) tNext)
  (tSeq (tIfS (tTest (tOp rEq (tVar 2) (tC (.int 4)))) (tRet (tOp rAddS (tOp rAddS (tSl rSlS (tVar 0) tNoPart (tPart (tVar 6))) (tOp (rIxL G.K) (tLst (tCons (tC (.str "0")) (tCons (tC (.str "-")) (tCons (tC (.str " ")) (tCons (tC (.str "00")) (tCons (tC (.str "+")) tNil)))))) (tVar 5))) (tSl rSlS (tVar 0) (tPart (tVar 6)) tNoPart))) tNext)
  (tSeq (tAsg (tM1 rSplit (tVar 0) (tC (.str " "))) (gName 7))
  (tSeq (tAsg (tOp rModI (tVar 3) (tCB (rLenSeq G.K) (tCons (tVar 7) tNil))) (gName 8))
  (tCut (tIfS (tTest (tOp rEq (tVar 2) (tC (.int 5)))) (tAsg (tOp (rIxL G.K) (tLst (tCons (tC (.str "-0")) (tCons (tC (.str "01")) (tCons (tC (.str "1000000000000")) (tCons (tC (.str "-999999999999")) (tCons (tC (.str "")) tNil)))))) (tVar 5)) (gSub (tVar 7) (tVar 8) rSetL)) tNext)
  (tCut (tIfS (tTest (tOp rEq (tVar 2) (tC (.int 6)))) (tAsg (tOp (rIxL G.K) (tLst (tCons (tC (.str "push")) (tCons (tC (.str "part")) (tCons (tC (.str "begin")) (tCons (tC (.str "Push")) (tCons (tC (.str "wait")) tNil)))))) (tVar 5)) (gSub (tVar 7) (tVar 8) rSetL)) tNext)
  (tCut (tIfS (tTest (tOp rEq (tVar 2) (tC (.int 7)))) (tAsg (tOp rCat (tOp rCat (tSl (rSlL G.K) (tVar 7) tNoPart (tPart (tVar 8))) (tLst (tCons (tC (.str "7")) tNil))) (tSl (rSlL G.K) (tVar 7) (tPart (tVar 8)) tNoPart)) (gName 7)) tNext)
  (tCut (tIfS (tTest (tOp rEq (tVar 2) (tC (.int 8)))) (tAsg (tOp rCat (tSl (rSlL G.K) (tVar 7) tNoPart (tPart (tVar 8))) (tSl (rSlL G.K) (tVar 7) (tPart (tOp rAddI (tVar 8) (tC (.int 1)))) tNoPart)) (gName 7)) tNext)
  (tRet (tM1 (rJoin G.K) (tC (.str " ")) (tVar 7))))))))))))))))
theorem cut_sum {z : Str} {a b : Nat} (h : a ≤ z.length) (hb : a ≤ b) : (cutS z none (some (a : Int))).length + (cutS z (some (b : Int)) none).length ≤ z.length := by
  rw [tl_len, tl_len, cutS_take h, cutS_drop, List.length_take, List.length_drop]
  rw [tl_len] at h ⊢
  omega
theorem ixNn {n j : Nat} (hj : j < n) : ixN n (j : Int) = some j := by
  unfold ixN
  rw [if_pos (by omega), if_pos (by omega), Int.toNat_natCast]
theorem r_slS {z : Str} {lo hi : Option Int} {H : Hp} {Q : VK} (hz : z.length ≤ sizeLine) (h : Q (.str (cutS z lo hi)) H) : rSlS (.str z) lo hi H Q := ⟨z, rfl, hz, h⟩
theorem set_len {l : List Str} {k : Nat} {s : Str} : (l.map V.str).set k (.str s) = (l.set k s).map V.str := List.map_set.symm
theorem pure_l_bent {G : Gx} {vs : List V} {H : Hp} {Q : VK} {E : XK} (h : sp_l_bent G vs H Q E) : Body (t_l_bent G) ["_law_text", "_law_cell_here", "_law_kind", "_law_spot", "_law_value", "_law_more", "_law_at", "_law_parts", "_law_place"] vs H Q := by
  obtain ⟨z, c, rfl, zl, k⟩ := h
  show t_l_bent G _ [some (.str z), some (.int c), none, none, none, none, none, none, none] H
  unfold t_l_bent
  walk_at "go"
  refine ⟨by walk_at "sz", fun t1 h1 => ?_⟩
  walk_at "go"
  refine c_digits4 (SqL.of upd_same) (by decide) (by decide) (by decide) (by decide) (fun d0 d1 d2 d3 q H2 ed a0 b0 a1 b1 a2 b2 a3 b3 s2 hq e2 => ?_)
  refine g_unl (SqL.of e2) rfl ?_
  have s3 : Same H H2 := same_tr s2 (same_new (Same.refl _) h1)
  clear e2 hq s2 h1 ed
  walk_at "go"
  refine r_lenS (size1000 (by omega)) ?_
  walk_at "go"
  have m0 := Int.emod_nonneg d1 (show (z.length : Int) + 1 ≠ 0 by omega)
  have m1 := Int.emod_lt_of_pos d1 (show (0 : Int) < (z.length : Int) + 1 by omega)
  obtain ⟨at', hat⟩ := Int.eq_ofNat_of_zero_le m0
  rw [hat] at m1
  have atl : at' ≤ z.length := by omega
  have sgl := fun (b : Nat) (hb : at' ≤ b) => cut_sum (z := z) (a := at') (b := b) atl hb
  rw [hat]
  have zs : z.length ≤ sizeLine := size1000 (by omega)
  refine iteI (fun c0 => ?_) (fun c0 => ?_)
  · walk_at "go"
    exact k z _ (by omega) s3
  walk_at "go"
  refine iteI (fun c1 => ?_) (fun c1 => ?_)
  · have := sgl at' (Nat.le_refl _)
    walk_at "go"
    refine r_slS zs ?_
    walk_at "go"
    refine ⟨d2, rfl, fun s hs => ?_⟩
    refine r_addS (size1000 (by omega)) ?_
    walk_at "go"
    refine r_slS zs ?_
    refine r_addS (size1000 (by rw [Str.length_append]; omega)) ?_
    exact k _ _ (by rw [Str.length_append, Str.length_append]; omega) s3
  walk_at "go"
  refine iteI (fun c2 => ?_) (fun c2 => ?_)
  · have := sgl (at' + 1) (Nat.le_succ _)
    rw [show ((at' + 1 : Nat) : Int) = (at' : Int) + 1 from rfl] at this
    walk_at "go"
    refine r_slS zs ?_
    walk_at "go"
    refine r_slS zs ?_
    refine r_addS (size1000 (by omega)) ?_
    exact k _ _ (by rw [Str.length_append]; omega) s3
  walk_at "go"
  refine iteI (fun c3 => ?_) (fun c3 => ?_)
  · have := sgl (at' + 1) (Nat.le_succ _)
    rw [show ((at' + 1 : Nat) : Int) = (at' : Int) + 1 from rfl] at this
    walk_at "go"
    refine r_slS zs ?_
    walk_at "go"
    refine ⟨d2, rfl, fun s hs => ?_⟩
    refine r_addS (size1000 (by omega)) ?_
    walk_at "go"
    refine r_slS zs ?_
    refine r_addS (size1000 (by rw [Str.length_append]; omega)) ?_
    exact k _ _ (by rw [Str.length_append, Str.length_append]; omega) s3
  walk_at "go"
  have d5 : d3 = 0 ∨ d3 = 1 ∨ d3 = 2 ∨ d3 = 3 ∨ d3 = 4 := by omega
  refine iteI (fun c4 => ?_) (fun c4 => ?_)
  · have := sgl at' (Nat.le_refl _)
    obtain ⟨s, hs, sl⟩ : ∃ s : Str, atI [V.str "0", V.str "-", V.str " ", V.str "00", V.str "+"] d3 = some (.str s) ∧ s.length ≤ 2 := by
      rcases d5 with q | q | q | q | q <;> rw [q]
      · exact ⟨"0", rfl, by decide⟩
      · exact ⟨"-", rfl, by decide⟩
      · exact ⟨" ", rfl, by decide⟩
      · exact ⟨"00", rfl, by decide⟩
      · exact ⟨"+", rfl, by decide⟩
    walk_at "go"
    refine r_slS zs ?_
    walk_at "go"
    refine ⟨by walk_at "sz", fun t2 h2 => ?_⟩
    have s4 := same_new (o := .lst [V.str "0", .str "-", .str " ", .str "00", .str "+"]) s3 h2
    walk_at "go"
    refine r_ixL (SqL.of upd_same) hs ?_
    refine r_addS (size1000 (by omega)) ?_
    walk_at "go"
    refine r_slS zs ?_
    refine r_addS (size1000 (by rw [Str.length_append]; omega)) ?_
    exact k _ _ (by rw [Str.length_append, Str.length_append]; omega) s4
  walk_at "go"
  refine r_m1 ?_
  walk_at "go"
  refine m1_str ?_
  have l1' : (" " : Str).length = 1 := by decide
  refine ⟨z, " ", rfl, rfl, by rw [l1']; rfl, size1000 (by omega), fun pl hpl => ?_⟩
  have sw := gW_split (z := z)
  have sn := split_ne (z := z)
  generalize Txt.split z " " = ps at sw sn
  have s4 := same_new (o := .lst (ps.map V.str)) s3 hpl
  have e4 : upd H2 pl (.lst (ps.map V.str)) pl = some (.lst (ps.map V.str)) := upd_same
  generalize upd H2 pl (.lst (ps.map V.str)) = H3 at s4 e4 ⊢
  have pln := List.length_pos_iff.mpr sn
  have psl := gW_len (l := ps)
  walk_at "go"
  rw [List.length_map]
  refine r_I (show (0 : Int) < (ps.length : Int) by omega) ?_
  have p0 := Int.emod_nonneg d1 (show (ps.length : Int) ≠ 0 by omega)
  have p1 := Int.emod_lt_of_pos d1 (show (0 : Int) < (ps.length : Int) by omega)
  obtain ⟨pc, hpc⟩ := Int.eq_ofNat_of_zero_le p0
  rw [hpc] at p1 ⊢
  walk_at "go"
  have Inv : ∀ n : Nat, True := fun _ => trivial
  refine r_cut (fun σ H' => ∃ (lp : Addr) (ys : List Str), σ = [some (.str z), some (.int c), some (.int d0), some (.int d1), some (.int d2), some (.int d3), some (.int at'), some (.ref lp), some (.int pc)] ∧ Same H H' ∧ H' lp = some (.lst (ys.map V.str)) ∧ Free H lp ∧ ys.length = ps.length ∧ gW ys ≤ z.length + 20) ?_ ?_
  · walk_at "go"
    refine iteI (fun c5 => ?_) (fun c5 => ?_)
    · obtain ⟨s, hs, sl⟩ : ∃ s : Str, atI [V.str "-0", V.str "01", V.str "1000000000000", V.str "-999999999999", V.str ""] d3 = some (.str s) ∧ s.length ≤ 13 := by
        rcases d5 with q | q | q | q | q <;> rw [q]
        · exact ⟨"-0", rfl, by decide⟩
        · exact ⟨"01", rfl, by decide⟩
        · exact ⟨"1000000000000", rfl, by decide⟩
        · exact ⟨"-999999999999", rfl, by decide⟩
        · exact ⟨"", rfl, by decide⟩
      walk_at "go"
      refine ⟨by walk_at "sz", fun t2 h2 => ?_⟩
      have s5 := same_new (o := .lst [V.str "-0", .str "01", .str "1000000000000", .str "-999999999999", .str ""]) s4 h2
      have e5 := at_new (o := .lst [V.str "-0", .str "01", .str "1000000000000", .str "-999999999999", .str ""]) e4 h2
      walk_at "go"
      refine r_ixL (SqL.of upd_same) hs ?_
      refine r_gsub ?_
      walk_at "go"
      refine ⟨pl, _, (pc : Int), pc, rfl, rfl, e5, ixNn (by rw [List.length_map]; omega), ?_⟩
      rw [set_len]
      exact ⟨pl, ps.set pc s, rfl, same_mut s5 (s3.free hpl), upd_same, s3.free hpl, by rw [List.length_set], by have := gW_set (l := ps) (k := pc) (s := s); omega⟩
    · walk_at "go"
      exact ⟨pl, ps, rfl, s4, e4, s3.free hpl, rfl, by omega⟩
  have p1' : pc < ps.length := by omega
  clear e4 s4 sw s3 hpl
  rintro σ H4 ⟨l1, ys, rfl, s4, e4, f4, yl, yw⟩
  walk_at "go"
  refine r_cut (fun σ H' => ∃ (lp : Addr) (ys : List Str), σ = [some (.str z), some (.int c), some (.int d0), some (.int d1), some (.int d2), some (.int d3), some (.int at'), some (.ref lp), some (.int pc)] ∧ Same H H' ∧ H' lp = some (.lst (ys.map V.str)) ∧ gW ys ≤ z.length + 40) ?_ ?_
  · walk_at "go"
    refine iteI (fun c5 => ?_) (fun c5 => ?_)
    · obtain ⟨s, hs, sl⟩ : ∃ s : Str, atI [V.str "push", V.str "part", V.str "begin", V.str "Push", V.str "wait"] d3 = some (.str s) ∧ s.length ≤ 13 := by
        rcases d5 with q | q | q | q | q <;> rw [q]
        · exact ⟨"push", rfl, by decide⟩
        · exact ⟨"part", rfl, by decide⟩
        · exact ⟨"begin", rfl, by decide⟩
        · exact ⟨"Push", rfl, by decide⟩
        · exact ⟨"wait", rfl, by decide⟩
      walk_at "go"
      refine ⟨by walk_at "sz", fun t2 h2 => ?_⟩
      have s5 := same_new (o := .lst [V.str "push", .str "part", .str "begin", .str "Push", .str "wait"]) s4 h2
      have e5 := at_new (o := .lst [V.str "push", .str "part", .str "begin", .str "Push", .str "wait"]) e4 h2
      walk_at "go"
      refine r_ixL (SqL.of upd_same) hs ?_
      refine r_gsub ?_
      walk_at "go"
      refine ⟨l1, _, (pc : Int), pc, rfl, rfl, e5, ixNn (by rw [List.length_map]; omega), ?_⟩
      rw [set_len]
      exact ⟨l1, ys.set pc s, rfl, same_mut s5 f4, upd_same, by have := gW_set (l := ys) (k := pc) (s := s); omega⟩
    · walk_at "go"
      exact ⟨l1, ys, rfl, s4, e4, by omega⟩
  clear e4 s4 yw yl f4
  rintro σ H5 ⟨l2, us, rfl, s5, e5, uw⟩
  have ul := gW_len (l := us)
  walk_at "go"
  refine r_cut (fun σ H' => ∃ (lp : Addr) (ys : List Str), σ = [some (.str z), some (.int c), some (.int d0), some (.int d1), some (.int d2), some (.int d3), some (.int at'), some (.ref lp), some (.int pc)] ∧ Same H H' ∧ H' lp = some (.lst (ys.map V.str)) ∧ gW ys ≤ z.length + 60) ?_ ?_
  · walk_at "go"
    refine iteI (fun c5 => ?_) (fun c5 => ?_)
    · walk_at "go"
      refine ⟨l2, _, rfl, SqL.of e5, fun p1 h1 => ?_⟩
      rw [cutV_takeN, ← List.map_take]
      have e51 := at_new (o := .lst ((us.take pc).map V.str)) e5 h1
      have g1 : upd H5 p1 (.lst ((us.take pc).map V.str)) p1 = some (.lst ((us.take pc).map V.str)) := upd_same
      have q1 := same_new (o := .lst ((us.take pc).map V.str)) s5 h1
      generalize upd H5 p1 (.lst ((us.take pc).map V.str)) = J1 at e51 g1 q1 ⊢
      walk_at "go"
      refine ⟨by walk_at "sz", fun p2 h2 => ?_⟩
      have e52 := at_new (o := .lst [V.str "7"]) e51 h2
      have g2 := at_new (o := .lst [V.str "7"]) g1 h2
      have q2 := same_new (o := .lst [V.str "7"]) q1 h2
      have k2 : upd J1 p2 (.lst [V.str "7"]) p2 = some (.lst [V.str "7"]) := upd_same
      generalize upd J1 p2 (.lst [V.str "7"]) = J2 at e52 g2 q2 k2 ⊢
      refine r_cat g2 k2 (size1000 (by rw [List.length_map, List.length_take]; show _ + 1 ≤ _; omega)) fun p3 h3 => ?_
      have em : (us.take pc).map V.str ++ [V.str "7"] = (us.take pc ++ [("7" : Str)]).map V.str := by rw [List.map_append]; rfl
      rw [em]
      have e53 := at_new (o := .lst ((us.take pc ++ [("7" : Str)]).map V.str)) e52 h3
      have g3 : upd J2 p3 (.lst ((us.take pc ++ [("7" : Str)]).map V.str)) p3 = some (.lst ((us.take pc ++ [("7" : Str)]).map V.str)) := upd_same
      have q3 := same_new (o := .lst ((us.take pc ++ [("7" : Str)]).map V.str)) q2 h3
      generalize upd J2 p3 (.lst ((us.take pc ++ [("7" : Str)]).map V.str)) = J3 at e53 g3 q3 ⊢
      walk_at "go"
      refine ⟨l2, _, rfl, SqL.of e53, fun p4 h4 => ?_⟩
      rw [cutV_dropN, ← List.map_drop]
      have g4 := at_new (o := .lst ((us.drop pc).map V.str)) g3 h4
      have q4 := same_new (o := .lst ((us.drop pc).map V.str)) q3 h4
      refine r_cat g4 upd_same (size1000 (by rw [List.length_map, List.length_map, List.length_append, List.length_take, List.length_drop]; show _ + 1 + _ ≤ _; omega)) fun p5 h5 => ?_
      rw [← List.map_append]
      refine ⟨p5, _, rfl, same_new q4 h5, upd_same, ?_⟩
      have := gW_cut (l := us) (k := pc)
      have l7 : gW ["7"] = 2 := by unfold gW; decide
      rw [gW_app, gW_app, l7]
      omega
    · walk_at "go"
      exact ⟨l2, us, rfl, s5, e5, by omega⟩
  clear e5 s5 uw ul
  rintro σ H6 ⟨l3, us, rfl, s6, e6, uw⟩
  have ul := gW_len (l := us)
  walk_at "go"
  refine r_cut (fun σ H' => ∃ (lp : Addr) (ys : List Str), σ = [some (.str z), some (.int c), some (.int d0), some (.int d1), some (.int d2), some (.int d3), some (.int at'), some (.ref lp), some (.int pc)] ∧ Same H H' ∧ H' lp = some (.lst (ys.map V.str)) ∧ gW ys ≤ z.length + 80) ?_ ?_
  · walk_at "go"
    refine iteI (fun c5 => ?_) (fun c5 => ?_)
    · walk_at "go"
      refine ⟨l3, _, rfl, SqL.of e6, fun p1 h1 => ?_⟩
      rw [cutV_takeN, ← List.map_take]
      have e51 := at_new (o := .lst ((us.take pc).map V.str)) e6 h1
      have g1 : upd H6 p1 (.lst ((us.take pc).map V.str)) p1 = some (.lst ((us.take pc).map V.str)) := upd_same
      have q1 := same_new (o := .lst ((us.take pc).map V.str)) s6 h1
      generalize upd H6 p1 (.lst ((us.take pc).map V.str)) = J1 at e51 g1 q1 ⊢
      walk_at "go"
      refine ⟨l3, _, rfl, SqL.of e51, fun p4 h4 => ?_⟩
      rw [show ((pc : Int) + 1) = ((pc + 1 : Nat) : Int) from rfl, cutV_dropN, ← List.map_drop]
      have g4 := at_new (o := .lst ((us.drop (pc + 1)).map V.str)) g1 h4
      have q4 := same_new (o := .lst ((us.drop (pc + 1)).map V.str)) q1 h4
      refine r_cat g4 upd_same (size1000 (by rw [List.length_map, List.length_map, List.length_take, List.length_drop]; omega)) fun p5 h5 => ?_
      rw [← List.map_append]
      refine ⟨p5, _, rfl, same_new q4 h5, upd_same, ?_⟩
      have h1 := gW_cut (l := us) (k := pc)
      have h2 := gW_drop (l := us.drop pc) (k := 1)
      rw [List.drop_drop] at h2
      rw [gW_app]
      omega
    · walk_at "go"
      exact ⟨l3, us, rfl, s6, e6, by omega⟩
  clear e6 s6 uw ul
  rintro σ H7 ⟨l4, us, rfl, s7, e7, uw⟩
  walk_at "go"
  refine r_m1 ?_
  walk_at "go"
  refine m1_str ?_
  walk_at "go"
  refine ⟨" ", l4, us, rfl, rfl, .inl (SqL.of e7), ?_, ?_⟩
  · rw [l1']
    unfold gW at uw
    omega
  · exact k _ _ (by have := join_len (l := us); omega) s7
/-! ### read, a refusal caught -/
def sp_l_read (G : Gx) : Sp := fun vs H Q _ => ∃ (z : Str), vs = [.str z] ∧ z.length ≤ 90000 ∧ (readV z = none → ∀ t H', Same H H' → Free H t → H' t = some (.tup [.str "order", .non]) → Q (.ref t) H') ∧
  (∀ w is, readV z = some (w, is) → ∀ t p H', Same H H' → Free H t → H' t = some (.tup [.str "", .ref p]) → TupX H' p w is → Q (.ref t) H')
theorem len_l_read {G : Gx} : ∀ vs H Q E, sp_l_read G vs H Q E → vs.length = 1 := by rintro vs H Q E ⟨m, rfl, _⟩; rfl
/-! _law_read: slots _law_text, _law_found, _law_word -/
def t_l_read (G : Gx) : TS :=
  (tSeq (tAsg (tC .non) (gName 1))
  (tSeq (tAsg (tC (.str "")) (gName 2))
  (tSeq (tTryM G [("NoOrder", (tAsg (tC (.str "order")) (gName 2)))] fun W => (tAsg (tCallS (sp_p_read G) (WE W) (tCons (tVar 0) tNil)) (gName 1)))
  (tRet (tTup (tCons (tVar 2) (tCons (tVar 1) tNil)))))))
theorem pure_l_read {G : Gx} {vs : List V} {H : Hp} {Q : VK} {E : XK} (X : Exm G ["NoOrder"]) (h : sp_l_read G vs H Q E) : Body (t_l_read G) ["_law_text", "_law_found", "_law_word"] vs H Q := by
  obtain ⟨z, rfl, zl, k0, k1⟩ := h
  show t_l_read G _ [some (.str z), none, none] H
  unfold t_l_read
  walk_at "go"
  unfold tTryM
  walk_at "go"
  refine ⟨z, rfl, zl, (fun hn H' s => ?_), fun w is hr t H' s ft et => ?_⟩
  · refine hit X 0 rfl rfl ?_
    walk_at "go"
    refine ⟨by walk_at "sz", fun t2 h2 => ?_⟩
    exact k0 hn t2 _ (same_new s h2) (s.free h2) upd_same
  · walk_at "go"
    refine ⟨by walk_at "sz", fun t2 h2 => ?_⟩
    exact k1 w is hr t2 t _ (same_new s h2) (s.free h2) upd_same (at_new et h2)
/-! ### figures -/
def sp_l_is_figures (G : Gx) : Sp := fun vs H Q _ => ∃ (z : Str), vs = [.str z] ∧ z.length ≤ 100000 ∧ ∀ H', Same H H' → Q (.bl (numB z)) H'
theorem len_l_is_figures {G : Gx} : ∀ vs H Q E, sp_l_is_figures G vs H Q E → vs.length = 1 := by rintro vs H Q E ⟨m, rfl, _⟩; rfl
/-! _law_is_figures: slots _law_text, _law_sign_here -/
def t_l_is_figures (G : Gx) : TS :=
  (tCut (tIfS (tB (tM1 rStarts (tVar 0) (tC (.str "-")))) (tSeq (tAsg (tSl rSlS (tVar 0) (tPart (tC (.int 1))) tNoPart) (gName 0))
  (tIfS (tTest (tOp rEq (tVar 0) (tC (.str "0")))) (tRet (tC (.bl false))) tNext)) tNext)
  (tSeq (tIfS (tOr (tTest (tOp rEq (tVar 0) (tC (.str "")))) (tOr (tTest (tOp rGtI (tCB rLenStr (tCons (tVar 0) tNil)) (tC (.int 12)))) (tB (tCB (rAny G.K) (tCons (tLc (iStr (tVar 0)) (gName 1) tYes (tOp rNotInSign (tVar 1) (tC (.str "0123456789"))) [1]) tNil))))) (tRet (tC (.bl false))) tNext)
  (tRet (tOrV (tOp rEq (tVar 0) (tC (.str "0"))) (tOp rNe (tOp rIxS (tVar 0) (tC (.int 0))) (tC (.str "0")))))))
theorem pure_l_is_figures {G : Gx} {vs : List V} {H : Hp} {Q : VK} {E : XK} (h : sp_l_is_figures G vs H Q E) : Body (t_l_is_figures G) ["_law_text", "_law_sign_here"] vs H Q := by
  obtain ⟨z, rfl, zl, k⟩ := h
  show t_l_is_figures G _ [some (.str z), none] H
  unfold t_l_is_figures
  refine r_cut (fun σ H' => ∃ u : Str, σ = [some (.str u), none] ∧ H' = H ∧ u.length ≤ 100000 ∧ numB z = (decide (1 ≤ (tl u).length) && decide ((tl u).length ≤ 12) && figs (tl u) && (decide (tl u = [48]) || decide ((tl u).head? ≠ some 48)))) ?_ ?_
  · walk_at "go"
    refine r_m1 ?_
    walk_at "go"
    refine m1_str ?_
    refine ⟨z, "-", rfl, rfl, ?_⟩
    rw [starts1]
    walk_at "go"
    refine iteD (fun h45 => ?_) (fun h45 => ?_)
    · obtain ⟨r, hr⟩ : ∃ r, tl z = 45 :: r := by
        cases hz : tl z with
        | nil => rw [hz] at h45; cases h45
        | cons c r => rw [hz] at h45; cases h45; exact ⟨r, rfl⟩
      have hu := cutS1 hr
      have ul : (cutS z (some 1) none).length ≤ 100000 := by
        rw [tl_len, hu]
        rw [tl_len, hr, List.length_cons] at zl
        omega
      have nb : numB z = (decide (1 ≤ r.length) && decide (r.length ≤ 12) && decide (r.head? ≠ some 48) && figs r) := by
        unfold numB
        rw [hr, decide_eq_false (by simp), Bool.false_or]
        rfl
      walk_at "go"
      refine r_slS (size1000 (by omega)) ?_
      generalize cutS z (some 1) none = u at hu ul
      walk_at "go"
      refine iteD (fun c => ?_) (fun c => ?_)
      · walk_at "go"
        have e : tl u = [48] := by rw [V.str.inj c]; rfl
        rw [nb, ← hu, e] at k
        exact k _ (Same.refl _)
      · walk_at "go"
        have c48 : r ≠ [48] := fun q => c (by rw [str_of_tl (hu.trans q)]; rfl)
        refine ⟨u, rfl, rfl, ul, ?_⟩
        rw [nb, hu, decide_eq_false c48, Bool.false_or]
        cases decide (1 ≤ r.length) <;> cases decide (r.length ≤ 12) <;> cases decide (r.head? ≠ some 48) <;> cases figs r <;> rfl
    · walk_at "go"
      refine ⟨z, rfl, rfl, zl, ?_⟩
      have hb : bareN (tl z) = tl z := by
        unfold bareN
        split
        · rename_i r e; rw [e] at h45; exact absurd rfl h45
        · rfl
      unfold numB
      rw [hb]
      by_cases c48 : tl z = [48]
      · rw [c48]; rfl
      · rw [decide_eq_false c48, Bool.false_or, Bool.false_or]
        cases decide (1 ≤ (tl z).length) <;> cases decide ((tl z).length ≤ 12) <;> cases decide ((tl z).head? ≠ some 48) <;> cases figs (tl z) <;> rfl
  rintro σ H' ⟨u, rfl, rfl, ul, nb⟩
  rw [nb] at k
  clear nb
  walk_at "go"
  refine iteD (fun h0 => ?_) (fun h0 => ?_)
  · walk_at "go"
    have e : tl u = [] := by rw [V.str.inj h0]; rfl
    rw [e] at k
    exact k _ (Same.refl _)
  obtain ⟨c, r, hc⟩ : ∃ c r, tl u = c :: r := by
    cases hz : tl u with
    | nil => exact absurd (by rw [str_of_tl hz]; rfl) h0
    | cons c r => exact ⟨c, r, rfl⟩
  rw [decide_eq_true (show 1 ≤ (tl u).length by rw [hc]; simp), Bool.true_and] at k
  walk_at "go"
  refine r_lenS (size1000 (by omega)) ?_
  rw [tl_len]
  walk_at "go"
  refine iteD (fun h2 => ?_) (fun h2 => ?_)
  · walk_at "go"
    rw [decide_eq_false (show ¬ (tl u).length ≤ 12 by omega)] at k
    exact k _ (Same.refl _)
  rw [decide_eq_true (show (tl u).length ≤ 12 by omega), Bool.true_and] at k
  walk_at "go"
  refine r_lcStr (z := u) (fun c => .bl (!decide (c ∈ [48, 49, 50, 51, 52, 53, 54, 55, 56, 57]))) (size1000l (by omega)) (fun _ q => ⟨_, rfl, q⟩) (fun c hc H' s Q q => ?_) (fun D hD => ?_)
  · walk_at "go"
    exact ⟨c, "0123456789", rfl, rfl, q⟩
  have s2 := same_new (o := .lst ((tl u).map fun c => V.bl (!decide (c ∈ [48, 49, 50, 51, 52, 53, 54, 55, 56, 57])))) (Same.refl H') hD
  walk_at "go"
  refine ⟨D, (tl u).map fun c => !decide (c ∈ [48, 49, 50, 51, 52, 53, 54, 55, 56, 57]), rfl, by rw [List.map_map]; exact SqL.of upd_same, ?_⟩
  rw [show ((tl u).map fun c => !decide (c ∈ [48, 49, 50, 51, 52, 53, 54, 55, 56, 57])).any id = !figs (tl u) by
    unfold figs
    rw [List.any_map, List.not_all_eq_any_not]
    rfl]
  cases hf : figs (tl u) with
  | false =>
    rw [hf] at k
    walk_at "go"
    exact k _ s2
  | true =>
    rw [hf, Bool.true_and] at k
    walk_at "go"
    have e0 : decide (V.str u = V.str "0") = decide (tl u = [48]) := decide_eq_decide.mpr ⟨fun z => by rw [V.str.inj z]; rfl, fun z => by rw [str_of_tl z]; rfl⟩
    rw [e0]
    refine iteD (fun h3 => ?_) (fun h3 => ?_)
    · rw [decide_eq_true h3] at k
      exact k _ s2
    · rw [decide_eq_false h3, Bool.false_or] at k
      walk_at "go"
      refine ⟨u, 0, c, rfl, rfl, size1000 (by omega), by show atI (tl u) 0 = _; rw [hc]; exact atI_nat (xs := c :: r) (j := 0) rfl, ?_⟩
      walk_at "go"
      have ec : (!decide (V.str ⟨#[c]⟩ = V.str "0")) = decide ((tl u).head? ≠ some 48) := by
        rw [hc, ← decide_not]
        refine decide_eq_decide.mpr ⟨fun z q => z ?_, fun z q => z ?_⟩
        · cases q; rfl
        · have := V.str.inj q
          injection this with h
          have : #[c] = #[48] := h
          show some c = some 48
          rw [show c = 48 by simpa using this]
      rw [ec]
      exact k _ s2
/-! ### a text that is an order -/
def sp_l_is_order_text (G : Gx) : Sp := fun vs H Q _ => ∃ (z : Str), vs = [.str z] ∧ z.length ≤ 90000 ∧ ∀ H', Same H H' → Q (.bl (readV z).isSome) H'
theorem len_l_is_order_text {G : Gx} : ∀ vs H Q E, sp_l_is_order_text G vs H Q E → vs.length = 1 := by rintro vs H Q E ⟨m, rfl, _⟩; rfl
/-! _law_is_order_text: slots _law_text, _law_parts, _law_sizes, _law_part -/
def t_l_is_order_text (G : Gx) : TS :=
  (tSeq (tAsg (tM1 rSplit (tVar 0) (tC (.str " "))) (gName 1))
  (tSeq (tIfS (tNot (tB (tCB (rAll G.K) (tCons (tLc (iList G.K (tSl (rSlL G.K) (tVar 1) (tPart (tC (.int 1))) tNoPart)) (gName 3) tYes (tCall (sp_l_is_figures G) [] E0 (tCons (tVar 3) tNil)) [3]) tNil)))) (tRet (tC (.bl false))) tNext)
  (tSeq (tIfS (tTest (tOp rEq (tOp (rIxL G.K) (tVar 1) (tC (.int 0))) (tC (.str "begin")))) (tRet (tOp rGtI (tCB (rLenSeq G.K) (tCons (tVar 1) tNil)) (tC (.int 3)))) tNext)
  (tSeq (tAsg (tDisp [((tC (.str "push")), (tC (.int 2))), ((tC (.str "pull")), (tC (.int 2))), ((tC (.str "burst")), (tC (.int 2))), ((tC (.str "part")), (tC (.int 5))), ((tC (.str "blow")), (tC (.int 4))), ((tC (.str "wait")), (tC (.int 3)))]) (gName 2))
  (tRet (tOp rEq (tDGet2 (tVar 2) (tOp (rIxL G.K) (tVar 1) (tC (.int 0))) (tC (.int 0))) (tCB (rLenSeq G.K) (tCons (tVar 1) tNil))))))))
def szK : List (Key × V) := [(.inr "push", .int 2), (.inr "pull", .int 2), (.inr "burst", .int 2), (.inr "part", .int 5), (.inr "blow", .int 4), (.inr "wait", .int 3)]
theorem szK_get (w : Str) : ((valV (mergeK [] szK) (.inr w)).getD (.int 0)) = .int (if w = "push" ∨ w = "pull" ∨ w = "burst" then 2 else if w = "part" then 5 else if w = "blow" then 4 else if w = "wait" then 3 else 0) := by
  have e : ∀ s : Str, ((Sum.inr w : Key) = Sum.inr s) = (w = s) := fun s => propext ⟨Sum.inr.inj, fun z => by rw [z]⟩
  unfold mergeK szK
  simp only [List.foldl_cons, List.foldl_nil, valV_put, valV_nil, e]
  by_cases h1 : w = "push"
  · subst h1; rfl
  by_cases h2 : w = "pull"
  · subst h2; rfl
  by_cases h3 : w = "burst"
  · subst h3; rfl
  by_cases h4 : w = "part"
  · subst h4; rfl
  by_cases h5 : w = "blow"
  · subst h5; rfl
  by_cases h6 : w = "wait"
  · subst h6; rfl
  simp only [h1, h2, h3, h4, h5, h6, or_self, if_false]
  rfl
theorem pure_l_is_order_text {G : Gx} {vs : List V} {H : Hp} {Q : VK} {E : XK} (h : sp_l_is_order_text G vs H Q E) : Body (t_l_is_order_text G) ["_law_text", "_law_parts", "_law_sizes", "_law_part"] vs H Q := by
  obtain ⟨z, rfl, zl, k⟩ := h
  show t_l_is_order_text G _ [some (.str z), none, none, none] H
  unfold t_l_is_order_text
  have l1 : (" " : Str).length = 1 := by decide
  walk_at "go"
  refine r_m1 ?_
  walk_at "go"
  refine m1_str ?_
  refine ⟨z, " ", rfl, rfl, by rw [l1]; rfl, size1000 (by omega), fun pl hpl => ?_⟩
  obtain ⟨w, ps, eps⟩ := List.exists_cons_of_ne_nil (split_ne (z := z))
  obtain ⟨sl, sp⟩ := split_len eps
  unfold readV at k
  rw [eps] at k ⊢
  dsimp only at k
  rw [List.length_cons] at sl
  have s1 := same_new (o := .lst ((w :: ps).map V.str)) (Same.refl H) hpl
  have e1 : upd H pl (.lst ((w :: ps).map V.str)) pl = some (.lst (V.str w :: ps.map V.str)) := upd_same
  generalize upd H pl (.lst ((w :: ps).map V.str)) = H1 at s1 e1 ⊢
  walk_at "go"
  refine r_lcO ?_
  walk_at "go"
  refine ⟨pl, _, rfl, SqL.of e1, fun p hp => ?_⟩
  rw [cutV_tail1]
  have e2 : upd H1 p (.lst (ps.map V.str)) p = some (.lst (ps.map V.str)) := upd_same
  have s2 := same_new (o := .lst (ps.map V.str)) s1 hp
  have e1 := at_new (o := .lst (ps.map V.str)) e1 hp
  generalize upd H1 p (.lst (ps.map V.str)) = H2 at e1 e2 s2 ⊢
  refine r_lcV (ys := (ps.map numB).map V.bl) (SqL.of e2) (by rw [List.length_map, List.length_map, List.length_map]) (by rw [List.length_map]; exact size1000l (by omega)) (fun _ q => q) (fun k x y hx hy H' s' Q q => ?_) (fun D H3 s3 fD eD => ?_)
  · obtain ⟨u, hu, rfl⟩ := map_get hx
    obtain ⟨b, hb, rfl⟩ := map_get hy
    obtain ⟨u', hu', rfl⟩ := map_get hb
    have : u' = u := by rw [hu] at hu'; exact (Option.some.inj hu').symm
    subst this
    have := sp u' (List.mem_cons_of_mem _ (List.mem_of_getElem? hu))
    walk_at "go"
    exact ⟨u', rfl, by omega, q⟩
  have s4 := s2.trans s3
  have e1 := s3 _ _ e1
  walk_at "go"
  refine r_all (SqL.of eD) ?_
  have hall : (ps.map numB).all id = ps.all numB := by rw [List.all_map]; rfl
  rw [hall]
  cases ha : ps.all numB with
  | false =>
    rw [ha, Bool.and_false] at k
    walk_at "go"
    exact k _ s4
  | true =>
  rw [ha, Bool.and_true] at k
  walk_at "go"
  refine r_ixL (SqL.of e1) atI_0 ?_
  walk_at "go"
  refine iteD (fun c => ?_) (fun c => ?_)
  · have c := V.str.inj c
    subst c
    walk_at "go"
    rw [List.length_cons, List.length_map]
    have ef : fitsB "begin" ps.length = decide (3 ≤ ps.length) := if_pos rfl
    rw [ef] at k
    rw [show decide (((ps.length + 1 : Nat) : Int) > 3) = decide (3 ≤ ps.length) from decide_eq_decide.mpr (by omega)]
    cases hd : decide (3 ≤ ps.length) with
    | true => rw [hd] at k; exact k _ s4
    | false => rw [hd] at k; exact k _ s4
  have c : ¬ w = "begin" := fun z => c (by rw [z])
  have ef : fitsB w ps.length = decide ((if w = "push" ∨ w = "pull" ∨ w = "burst" then 2 else if w = "part" then 5 else if w = "blow" then 4 else if w = "wait" then 3 else 0 : Int) = ((ps.length + 1 : Nat) : Int)) := by
    unfold fitsB
    rw [if_neg c]
    repeat' split
    all_goals first | exact decide_eq_decide.mpr (by omega) | exact (decide_eq_false (by omega)).symm
  walk_at "go"
  refine fun d hd => ?_
  refine ⟨upd_same, szK, rfl, by decide, ?_⟩
  rw [upd_upd]
  have s5 := same_new (o := .dK (mergeK [] szK)) s4 hd
  have ed : upd H3 d (.dK (mergeK [] szK)) d = some (.dK (mergeK [] szK)) := upd_same
  have e1 := at_new (o := .dK (mergeK [] szK)) e1 hd
  generalize upd H3 d (.dK (mergeK [] szK)) = H5 at s5 ed e1 ⊢
  walk_at "go"
  refine r_dget2 ?_
  walk_at "go"
  refine ⟨d, rfl, .inl ⟨_, .inl ed⟩, ?_⟩
  walk_at "go"
  refine r_ixL (SqL.of e1) atI_0 ?_
  walk_at "go"
  refine ⟨_, .inl ⟨_, .inr w, .inl ed, rfl, rfl⟩, ?_⟩
  rw [szK_get]
  walk_at "go"
  rw [List.length_cons, List.length_map, decide_int, ← ef]
  cases hf : fitsB w ps.length with
  | true => rw [hf] at k; exact k _ s5
  | false => rw [hf] at k; exact k _ s5
local macro_rules | `(tactic| walk_at "st") => `(tactic| first
  | ((with_reducible refine r_methF (A := ?A) (F := ?F) ?h ?hl ?_); (case h => with_reducible assumption); (case hl => rfl)))
/-! K58 -/
theorem readV_some {z : Str} {w : Str} {is : List Int} (h : readV z = some (w, is)) : ∃ ps, Txt.split z " " = w :: ps ∧ fitsB w ps.length = true ∧ ps.all numB = true ∧ is = ps.map numV := by
  unfold readV at h
  split at h
  · cases h
  · rename_i w' ps e
    split at h
    · rename_i c
      rw [Bool.and_eq_true] at c
      cases h
      exact ⟨ps, e, c.1, c.2, rfl⟩
    · cases h
theorem readV_e : readV "" = none ∧ readV "push" = none := by decide +kernel
theorem shown_len {w : Str} {is : List Int} (ox : OrdX w is) : (shownS (.str w :: is.map V.int)).length ≤ 10000 := by
  have := glueS_len (B := 100) (l := (is.map V.int).map strV) (a := w) fun s hs => by
    obtain ⟨v, hv, rfl⟩ := List.mem_map.mp hs
    obtain ⟨i, hi, rfl⟩ := List.mem_map.mp hv
    have := numB_len (numB_text (ox.b i hi)).1
    show (Str.ofString (toString i)).length ≤ 100
    omega
  have w5 := (seven_ok (fits_seven ox.f)).2
  have il := ox.l
  rw [List.length_map, List.length_map] at this
  show (glueS w ((is.map V.int).map strV)).length ≤ 10000
  omega
theorem r_lcQ {P : Str → Prop} {K : PySem.W.Frag} {H : Hp} {Q : VK} {σ : St} {a : Addr} {tl te : TE} {i : Nat} {xs : List V} (hs : SqL K H a xs) (hn : xs.length < sizeLine) (ht : ∀ Q : VK, Q (.ref a) H → tl σ H Q)
    (h2 : ∀ x ∈ xs, ∀ H', Same H H' → ∀ Q : VK, (∀ s, P s → Q (.str s) H') → te (σ.set i (some x)) H' Q)
    (h : ∀ D (ss : List Str), Free H D → ss.length = xs.length → (∀ s ∈ ss, P s) → Q (.ref D) (upd H D (.lst (ss.map V.str)))) : tLc (iList K tl) (gName i) tYes te [i] σ H Q := by
  refine ht _ ⟨a, rfl, ⟨_, hs⟩, fun D hD => ?_⟩
  refine lc_list (xs := xs) (fun j H' => ∃ ss : List Str, ss.length = j ∧ (∀ s ∈ ss, P s) ∧ H' = upd H D (.lst (ss.map V.str))) ⟨[], rfl, fun _ z => absurd z List.not_mem_nil, rfl⟩ (fun j H' _ q => ?_) (fun j x H' hx q => ?_) (fun H' q => ?_)
  · obtain ⟨ss, _, _, rfl⟩ := q
    exact lst_same (same_new (Same.refl H) hD) hs
  · obtain ⟨ss, sl, sp, rfl⟩ := q
    have hm : x ∈ xs := List.mem_of_getElem? hx
    have hj := (List.getElem?_eq_some_iff.mp hx).1
    rw [wipe1]
    show _ ∧ _
    have es : (σ.set i none).set i (some x) = σ.set i (some x) := List.set_set _
    refine ⟨by rw [es]; exact List.set_set _, ?_⟩
    rw [es]
    refine r_yes1 ?_
    rw [if_pos rfl]
    refine h2 x hm _ (same_new (Same.refl _) hD) _ fun s hs => ⟨_, upd_same, ?_, ss ++ [s], by rw [List.length_append, sl]; rfl, fun u hu => ?_, ?_⟩
    · rw [List.length_map]
      omega
    · rcases List.mem_append.mp hu with z | z
      · exact sp u z
      · rw [List.mem_singleton.mp z]; exact hs
    · rw [upd_upd, List.map_append]
      rfl
  · obtain ⟨ss, sl, sp, rfl⟩ := q
    exact h D ss hD sl sp
theorem join0_len {ss : List Str} (h : ∀ s ∈ ss, s.length = 1) : (ss.map (·.length)).sum = ss.length := by
  induction ss with
  | nil => rfl
  | cons s l ih =>
    rw [List.map_cons, List.sum_cons, List.length_cons, h s List.mem_cons_self, ih fun x hx => h x (List.mem_cons_of_mem _ hx)]
    omega
/-! law: slots _law_script, _law_k, _law_text, _law_kind, _law_many, _law_signs, _law_word, _law_found, _law_parts, _law_due, _law_n, _law_part -/
def t_p_law (G : Gx) : TS :=
  (tSeq (tFor (iRng1 (tCons (tC (.int 6)) tNil)) (gName 1)
  (tSeq (tAsg (tCall (sp_l_due_text G) [] E0 (tCons (tCall (sp_l_order_drawn G) [] E0 (tCons (tCall (sp_l_cell G) [] E0 (tCons (tVar 0) (tCons (tOp rMulI (tC (.int 3)) (tVar 1)) tNil))) tNil)) tNil)) (gName 2))
  (tSeq (tAsg (tCall (sp_l_bent G) [] E0 (tCons (tVar 2) (tCons (tCall (sp_l_cell G) [] E0 (tCons (tVar 0) (tCons (tOp rAddI (tOp rMulI (tC (.int 3)) (tVar 1)) (tC (.int 1))) tNil))) tNil))) (gName 2))
  (tSeq (tAsg (tCall (sp_l_digits G) [] E0 (tCons (tCall (sp_l_cell G) [] E0 (tCons (tVar 0) (tCons (tOp rAddI (tOp rMulI (tC (.int 3)) (tVar 1)) (tC (.int 2))) tNil))) (tCons (tLst (tCons (tC (.int 7)) (tCons (tC (.int 41)) tNil))) tNil))) (gUnl G.K 2 (gCons (gName 3) (gCons (gName 4) gNil))))
  (tCut (tIfS (tTest (tOp rEq (tVar 3) (tC (.int 1)))) (tAsg (tCall (sp_l_bent G) [] E0 (tCons (tVar 2) (tCons (tCall (sp_l_cell G) [] E0 (tCons (tVar 0) (tCons (tOp rAddI (tOp rMulI (tC (.int 3)) (tVar 1)) (tC (.int 2))) tNil))) tNil))) (gName 2)) tNext)
  (tCut (tIfS (tTest (tOp rEq (tVar 3) (tC (.int 2)))) (tSeq (tAsg (tCall (sp_l_digits G) [] E0 (tCons (tCall (sp_l_cell G) [] E0 (tCons (tVar 0) (tCons (tOp rAddI (tOp rMulI (tC (.int 3)) (tVar 1)) (tC (.int 1))) tNil))) (tCons (tOp rRep (tLst (tCons (tC (.int 94)) tNil)) (tVar 4)) tNil))) (gName 5))
  (tAsg (tM1 (rJoin G.K) (tC (.str "")) (tLc (iList G.K (tVar 5)) (gName 10) tYes (tCall (sp_l_sign G) [] E0 (tCons (tVar 10) tNil)) [10])) (gName 2))) tNext)
  (tSeq (tAsg (tCall (sp_l_read G) [] E0 (tCons (tVar 2) tNil)) (gTup G.K 2 (gCons (gName 6) (gCons (gName 7) gNil))))
  (tIfS (tB (tCall (sp_l_is_order_text G) [] E0 (tCons (tVar 2) tNil))) (tSeq (tAsg (tM1 rSplit (tVar 2) (tC (.str " "))) (gName 8))
  (tSeq (tAsg (tOp (rCatT G.K) (tTup (tCons (tOp (rIxL G.K) (tVar 8) (tC (.int 0))) tNil)) (tCB (rTupleOf G.K) (tCons (tLc (iList G.K (tSl (rSlL G.K) (tVar 8) (tPart (tC (.int 1))) tNoPart)) (gName 11) tYes (tCB rIntStr (tCons (tVar 11) tNil)) [11]) tNil))) (gName 9))
  (tIfS (tOr (tTest (tOp rNe (tVar 6) (tC (.str "")))) (tNot (tB (tCall (sp_l_is_order G) [] E0 (tCons (tVar 7) (tCons (tVar 9) tNil)))))) (tRet (tC (.bl false))) tNext))) (tIfS (tTest (tOp rNe (tVar 6) (tC (.str "order")))) (tRet (tC (.bl false))) tNext)))))))))
  (tRet (tAndV (tOp rEq (tOp (rIxT G.K) (tCall (sp_l_read G) [] E0 (tCons (tC (.str "")) tNil)) (tC (.int 0))) (tC (.str "order"))) (tOp rEq (tOp (rIxT G.K) (tCall (sp_l_read G) [] E0 (tCons (tC (.str "push")) tNil)) (tC (.int 0))) (tC (.str "order"))))))
theorem pure_p_law {G : Gx} {vs : List V} {H : Hp} {Q : VK} {E : XK} (h : spLaw G vs H Q E) : Body (t_p_law G) ["_law_script", "_law_k", "_law_text", "_law_kind", "_law_many", "_law_signs", "_law_word", "_law_found", "_law_parts", "_law_due", "_law_n", "_law_part"] vs H Q := by
  obtain ⟨a, ns, rfl, hS, hl, k⟩ := h
  show t_p_law G _ [some (.ref a), none, none, none, none, none, none, none, none, none, none, none] H
  unfold t_p_law
  walk_at "go"
  refine r_rng (by omega) (by omega) ?_
  refine r_it walk_range (fun i σ H' => ∃ o1 o2 o3 o4 o5 o6 o7 o8 o9 : Option V, σ = [some (.ref a), o1, o2, o3, o4, o5, o6, o7, o8, o9, none, none] ∧ Same H H')
    ⟨_, _, _, _, _, _, _, _, _, rfl, Same.refl _⟩ (fun _ _ _ _ _ => trivial) (fun i v σ H1 H2 hi ⟨o1, o2, o3, o4, o5, o6, o7, o8, o9, es, s1⟩ ⟨q2, q3⟩ => ?_) (fun σ H1 ⟨o1, o2, o3, o4, o5, o6, o7, o8, o9, es, s1⟩ => ?_)
  · subst es q2 q3
    have hS1 := s1.seq hS
    walk_at "go"
    refine ⟨_, rfl, fun w is t H3 ox s3 f3 tx => ?_⟩
    have hS3 := s3.seq hS1
    walk_at "go"
    refine ⟨t, w, is, rfl, tx, ox, fun H4 s4 => ?_⟩
    have tl0 := shown_len ox
    generalize shownS (.str w :: is.map V.int) = z at tl0 ⊢
    have hS4 := s4.seq hS3
    walk_at "go"
    refine ⟨z, _, rfl, by omega, fun u H5 ul s5 => ?_⟩
    have hS5 := s5.seq hS4
    walk_at "go"
    refine ⟨by walk_at "sz", fun t1 h1 => ?_⟩
    walk_at "go"
    refine c_digits2 (SqL.of upd_same) (by decide) (by decide) (fun d0 d1 q H6 ed a0 b0 a1 b1 s6 hq e6 => ?_)
    refine g_unl (SqL.of e6) rfl ?_
    have s7 : Same H5 H6 := same_tr s6 (same_new (Same.refl _) h1)
    have hS6 := s7.seq hS5
    have s06 := (((s1.trans s3).trans s4).trans s5).trans s7
    have ul : u.length ≤ 10100 := by omega
    clear e6 hq s6 h1 ed tx f3 hS1 hS3 hS4 hS5 s3 s4 s5 s7 s1
    walk_at "go"
    refine r_cut (fun σ H' => ∃ (u : Str), σ = [some (.ref a), some (.int (0 + (i : Int))), some (.str u), some (.int d0), some (.int d1), o5, o6, o7, o8, o9, none, none] ∧ Same H H' ∧ u.length ≤ 10200) ?_ ?_
    · walk_at "go"
      refine iteI (fun c => ?_) (fun c => ?_)
      · walk_at "go"
        refine ⟨u, _, rfl, by omega, fun u2 H7 ul2 s7 => ?_⟩
        exact ⟨u2, rfl, s06.trans s7, by omega⟩
      · walk_at "go"
        exact ⟨u, rfl, s06, by omega⟩
    clear s06 hS6 ul
    rintro σ H7 ⟨u, rfl, s7, ul⟩
    have hS7 := s7.seq hS
    walk_at "go"
    refine r_cut (fun σ H' => ∃ (u : Str) (o5 : Option V), σ = [some (.ref a), some (.int (0 + (i : Int))), some (.str u), some (.int d0), some (.int d1), o5, o6, o7, o8, o9, none, none] ∧ Same H H' ∧ u.length ≤ 10200) ?_ ?_
    · walk_at "go"
      refine iteI (fun c => ?_) (fun c => ?_)
      · walk_at "go"
        refine ⟨by walk_at "sz", fun t2 h2 => ?_⟩
        walk_at "go"
        obtain ⟨n, hn⟩ := Int.eq_ofNat_of_zero_le a1
        rw [hn]
        refine r_rep (xs := [.int 94]) upd_same (by omega) (by omega) (size1000 (by rw [List.length_singleton]; show 1 * ((n : Int)).toNat ≤ 1000000; omega)) fun t3 h3 => ?_
        have e3 : upd (upd H7 t2 (.lst [.int 94])) t3 (.lst (List.replicate (n : Int).toNat [V.int 94]).flatten) t3 = some (.lst ((List.replicate n (94 : Int)).map V.int)) := by
          rw [upd_same, List.map_replicate, Int.toNat_natCast]
          congr 2
          clear hn h3
          induction n with
          | zero => rfl
          | succ n ih => rw [List.replicate_succ, List.replicate_succ, List.flatten_cons, ih]; rfl
        have s8 := same_new (o := .lst (List.replicate (n : Int).toNat [V.int 94]).flatten) (same_new (o := .lst [.int 94]) s7 h2) h3
        generalize upd (upd H7 t2 (.lst [.int 94])) t3 (.lst (List.replicate (n : Int).toNat [V.int 94]).flatten) = H8 at e3 s8 ⊢
        refine ⟨_, t3, List.replicate n 94, rfl, SqL.of e3, fun z hz => by rw [List.eq_of_mem_replicate hz]; decide, by rw [List.length_replicate]; omega, fun t5 H9 s9 f9 e9 => ?_⟩
        have dl := digits_len (ns.getD (3 * (0 + (i : Int)) + 1).toNat 0) (List.replicate n 94)
        generalize digits (ns.getD (3 * (0 + (i : Int)) + 1).toNat 0) (List.replicate n 94) = ds at dl e9
        rw [List.length_replicate] at dl
        have s10 := s8.trans s9
        walk_at "go"
        refine r_m1 ?_
        walk_at "go"
        refine m1_str ?_
        refine r_lcQ (P := fun s => s.length = 1) (SqL.of e9) (by rw [List.length_map]; exact size1000l (by omega)) (fun _ q => ⟨_, rfl, q⟩) (fun x hx H' s' Q q => ?_) (fun D ss hD sl sp => ?_)
        · obtain ⟨m, _, rfl⟩ := List.mem_map.mp hx
          walk_at "go"
          exact ⟨m, rfl, fun s hs => q s hs⟩
        have jl := join0_len sp
        have l0 : ("" : Str).length = 0 := by decide
        rw [List.length_map] at sl
        refine ⟨"", D, ss, rfl, rfl, .inl (SqL.of upd_same), by rw [l0]; omega, ?_⟩
        have := StrLaws.join_length_le "" ss
        rw [l0] at this
        exact ⟨Txt.join "" ss, _, rfl, same_new s10 hD, by rw [TL.join_eq]; omega⟩
      · walk_at "go"
        exact ⟨u, o5, rfl, s7, ul⟩
    clear s7 hS7 ul
    rintro σ H8 ⟨u, o5, rfl, s8, ul⟩
    walk_at "go"
    refine ⟨u, rfl, by omega, (fun hn t H9 s9 f9 e9 => ?_), fun w is hr t p H9 s9 f9 e9 tp => ?_⟩
    · refine g_tup (SqT.of e9) rfl ?_
      walk_at "go"
      refine ⟨u, rfl, by omega, fun H10 s10 => ?_⟩
      rw [hn, Option.isSome_none]
      walk_at "go"
      exact ⟨_, _, _, _, _, _, _, _, _, rfl, (s8.trans s9).trans s10⟩
    · refine g_tup (SqT.of e9) rfl ?_
      walk_at "go"
      refine ⟨u, rfl, by omega, fun H10 s10 => ?_⟩
      have tp := s10 _ _ tp
      obtain ⟨ps, eps, hf, ha, rfl⟩ := readV_some hr
      rw [hr, Option.isSome_some]
      obtain ⟨sl, sp⟩ := split_len eps
      rw [List.length_cons] at sl
      have l1 : (" " : Str).length = 1 := by decide
      have nn := fun p hp => numV_of (List.all_eq_true.mp ha p hp)
      have ne : ps ≠ [] := fun z => by
        rw [z] at hf
        unfold fitsB at hf
        repeat' split at hf
        all_goals exact absurd hf (by decide)
      have s10 := (s8.trans s9).trans s10
      clear s8 s9 f9 e9
      walk_at "go"
      refine r_m1 ?_
      walk_at "go"
      refine m1_str ?_
      refine ⟨u, " ", rfl, rfl, by rw [l1]; rfl, size1000 (by omega), fun pl hpl => ?_⟩
      rw [eps]
      have s11 := same_new (o := .lst ((w :: ps).map V.str)) s10 hpl
      have e1 : upd H10 pl (.lst ((w :: ps).map V.str)) pl = some (.lst (V.str w :: ps.map V.str)) := upd_same
      have tp : TupX (upd H10 pl (.lst ((w :: ps).map V.str))) p w (ps.map numV) := at_new tp hpl
      generalize upd H10 pl (.lst ((w :: ps).map V.str)) = H11 at s11 e1 tp ⊢
      walk_at "go"
      refine r_ixL (SqL.of e1) atI_0 ?_
      walk_at "go"
      refine ⟨by walk_at "sz", fun t1 h1 => ?_⟩
      have s12 := same_new (o := .tup [V.str w]) s11 h1
      have et1 : upd H11 t1 (.tup [V.str w]) t1 = some (.tup [V.str w]) := upd_same
      have e1 := at_new (o := .tup [V.str w]) e1 h1
      have tp : TupX (upd H11 t1 (.tup [V.str w])) p w (ps.map numV) := at_new tp h1
      generalize upd H11 t1 (.tup [V.str w]) = H12 at s12 et1 e1 tp ⊢
      walk_at "go"
      refine r_lcO ?_
      walk_at "go"
      refine ⟨pl, _, rfl, SqL.of e1, fun p2 hp2 => ?_⟩
      rw [cutV_tail1]
      have e3 : upd H12 p2 (.lst (ps.map V.str)) p2 = some (.lst (ps.map V.str)) := upd_same
      have s13 := same_new (o := .lst (ps.map V.str)) s12 hp2
      have et1 := at_new (o := .lst (ps.map V.str)) et1 hp2
      have tp : TupX (upd H12 p2 (.lst (ps.map V.str))) p w (ps.map numV) := at_new tp hp2
      generalize upd H12 p2 (.lst (ps.map V.str)) = H13 at s13 et1 e3 tp ⊢
      refine r_lcW (fun v => match v with | .str u => .int (numV u) | _ => .non) (SqL.of e3) (by rw [List.length_map]; exact size1000l (by omega)) (fun _ q => q) (fun v hv H' s' Q q => ?_) (fun D2 hD2 => ?_)
      · obtain ⟨u, hu, rfl⟩ := List.mem_map.mp hv
        have := numB_len (List.all_eq_true.mp ha u hu)
        walk_at "go"
        exact ⟨u, numV u, rfl, nn u hu, by omega, q⟩
      have em : ((ps.map V.str).map fun v => match v with | .str u => V.int (numV u) | _ => .non) = (ps.map numV).map V.int := by rw [List.map_map, List.map_map]; rfl
      rw [em]
      have s14 := same_new (o := .lst ((ps.map numV).map V.int)) s13 hD2
      have et1 := at_new (o := .lst ((ps.map numV).map V.int)) et1 hD2
      have e5 : upd H13 D2 (.lst ((ps.map numV).map V.int)) D2 = some (.lst ((ps.map numV).map V.int)) := upd_same
      have tp : TupX (upd H13 D2 (.lst ((ps.map numV).map V.int))) p w (ps.map numV) := at_new tp hD2
      generalize upd H13 D2 (.lst ((ps.map numV).map V.int)) = H14 at s14 et1 e5 tp ⊢
      walk_at "go"
      refine r_tupleL (SqL.of e5) fun t2 h2 => ?_
      have s15 := same_new (o := .tup ((ps.map numV).map V.int)) s14 h2
      have et1 := at_new (o := .tup ((ps.map numV).map V.int)) et1 h2
      have tp : TupX (upd H14 t2 (.tup ((ps.map numV).map V.int))) p w (ps.map numV) := at_new tp h2
      refine ⟨t1, t2, _, _, rfl, rfl, SqT.of et1, SqT.of upd_same, by simp, by rw [List.length_map, List.length_map]; show 1 + ps.length ≤ _; exact size1000 (by omega), fun z => absurd (List.map_eq_nil_iff.mp (List.map_eq_nil_iff.mp z)) ne, fun _ t3 h3 => ?_⟩
      have s16 := same_new (o := .tup ([V.str w] ++ (ps.map numV).map V.int)) s15 h3
      have tp : TupX (upd (upd H14 t2 (.tup ((ps.map numV).map V.int))) t3 (.tup ([V.str w] ++ (ps.map numV).map V.int))) p w (ps.map numV) := at_new tp h3
      have tq : TupX (upd (upd H14 t2 (.tup ((ps.map numV).map V.int))) t3 (.tup ([V.str w] ++ (ps.map numV).map V.int))) t3 w (ps.map numV) := upd_same
      generalize upd (upd H14 t2 (.tup ((ps.map numV).map V.int))) t3 (.tup ([V.str w] ++ (ps.map numV).map V.int)) = H15 at s16 tp tq ⊢
      walk_at "go"
      refine ⟨p, t3, w, _, rfl, tp, tq, (seven_ok (fits_seven hf)).1, by rw [List.length_map]; omega, fun H16 s17 => ?_⟩
      walk_at "go"
      exact ⟨_, _, _, _, _, _, _, _, _, rfl, s16.trans s17⟩
  · subst es
    walk_at "go"
    refine ⟨"", rfl, by decide, (fun _ t H2 s2 f2 e2 => ?_), fun w is q => by rw [readV_e.1] at q; cases q⟩
    walk_at "go"
    refine ⟨"push", rfl, by decide, (fun _ t H3 s3 f3 e3 => ?_), fun w is q => by rw [readV_e.2] at q; cases q⟩
    walk_at "go"
    exact k _
theorem sc_l_cell : FnScope ["_law_script", "_law_place"] ["_law_script", "_law_place"] (defScope s_l_cell) := ⟨rfl, rfl, rfl, by decide +kernel, rfl, by decide +kernel, by decide +kernel⟩
theorem sc_l_seed : FnScope ["_law_cell_here", "_law_one", "_law_two"] ["_law_cell_here"] (defScope s_l_seed) := ⟨rfl, rfl, rfl, by decide +kernel, rfl, by decide +kernel, by decide +kernel⟩
theorem sc_l_digits : FnScope ["_law_cell_here", "_law_sizes", "_law_rest", "_law_found", "_law_k", "_law_size"] ["_law_cell_here", "_law_sizes"] (defScope s_l_digits) := ⟨rfl, rfl, rfl, by decide +kernel, rfl, by decide +kernel, by decide +kernel⟩
theorem sc_l_order_drawn : FnScope ["_law_cell_here", "_law_kind", "_law_a", "_law_b", "_law_c", "_law_d", "_law_wide", "_law_numbers", "_law_more", "_law_name", "_law_number"] ["_law_cell_here"] (defScope s_l_order_drawn) := ⟨rfl, rfl, rfl, by decide +kernel, rfl, by decide +kernel, by decide +kernel⟩
theorem sc_l_due_text : FnScope ["_law_order", "_law_found", "_law_number"] ["_law_order"] (defScope s_l_due_text) := ⟨rfl, rfl, rfl, by decide +kernel, rfl, by decide +kernel, by decide +kernel⟩
theorem sc_l_sign : FnScope ["_law_number", "_law_some"] ["_law_number"] (defScope s_l_sign) := ⟨rfl, rfl, rfl, by decide +kernel, rfl, by decide +kernel, by decide +kernel⟩
theorem sc_l_bent : FnScope ["_law_text", "_law_cell_here", "_law_kind", "_law_spot", "_law_value", "_law_more", "_law_at", "_law_parts", "_law_place"] ["_law_text", "_law_cell_here"] (defScope s_l_bent) := ⟨rfl, rfl, rfl, by decide +kernel, rfl, by decide +kernel, by decide +kernel⟩
theorem sc_p_fits : FnScope ["word", "many"] ["word", "many"] (defScope s_p_fits) := ⟨rfl, rfl, rfl, by decide +kernel, rfl, by decide +kernel, by decide +kernel⟩
theorem sc_p_is_number : FnScope ["text", "sign"] ["text"] (defScope s_p_is_number) := ⟨rfl, rfl, rfl, by decide +kernel, rfl, by decide +kernel, by decide +kernel⟩
theorem sc_p_read : FnScope ["text", "parts", "part"] ["text"] (defScope s_p_read) := ⟨rfl, rfl, rfl, by decide +kernel, rfl, by decide +kernel, by decide +kernel⟩
theorem sc_l_read : FnScope ["_law_text", "_law_found", "_law_word"] ["_law_text"] (defScope s_l_read) := ⟨rfl, rfl, rfl, by decide +kernel, rfl, by decide +kernel, by decide +kernel⟩
theorem sc_l_is_figures : FnScope ["_law_text", "_law_sign_here"] ["_law_text"] (defScope s_l_is_figures) := ⟨rfl, rfl, rfl, by decide +kernel, rfl, by decide +kernel, by decide +kernel⟩
theorem sc_l_is_order_text : FnScope ["_law_text", "_law_parts", "_law_sizes", "_law_part"] ["_law_text"] (defScope s_l_is_order_text) := ⟨rfl, rfl, rfl, by decide +kernel, rfl, by decide +kernel, by decide +kernel⟩
theorem sc_l_whole : FnScope ["_law_thing"] ["_law_thing"] (defScope s_l_whole) := ⟨rfl, rfl, rfl, by decide +kernel, rfl, by decide +kernel, by decide +kernel⟩
theorem sc_l_is_order : FnScope ["_law_found", "_law_due", "_law_part"] ["_law_found", "_law_due"] (defScope s_l_is_order) := ⟨rfl, rfl, rfl, by decide +kernel, rfl, by decide +kernel, by decide +kernel⟩
theorem sc_p_law : FnScope ["_law_script", "_law_k", "_law_text", "_law_kind", "_law_many", "_law_signs", "_law_word", "_law_found", "_law_parts", "_law_due", "_law_n", "_law_part"] ["_law_script"] (defScope s_p_law) := ⟨rfl, rfl, rfl, by decide +kernel, rfl, by decide +kernel, by decide +kernel⟩
section
variable {P : Program} {w : World} {K : PySem.W.Frag} {mg : Str → Option Value} {base : Heap} {ad : Str → Addr}
theorem ok_l_cell (F : FnIs K mg "_law_cell" s_l_cell ["_law_script", "_law_place"]) (T_len : mg "len" = none) : Df P w K mg base CX0 "_law_cell" 1 ["_law_script", "_law_place"] (sp_l_cell ⟨K, ad⟩) :=
  Df.of F sc_l_cell len_l_cell fun f cdv A outer s H vs Q E hr h => ⟨t_l_cell ⟨K, ad⟩, (pss_cons (ps_if (pt_cmpR op_lt (pv 1) (pe_callB call_len_seq (by rfl) T_len (by decide +kernel) (pa_cons (pv 0) pa_nil)) (nomark _)) (pss_one (ps_ret (pe_ix ix_list (pv 0) (pv 1) (fun _ _ => rfl)))) pss_nil)
      (pss_one (ps_ret pe_int))), pure_l_cell h⟩
theorem ok_l_seed (F : FnIs K mg "_law_seed" s_l_seed ["_law_cell_here"]) : Df P w K mg base CX0 "_law_seed" 1 ["_law_cell_here"] (sp_l_seed ⟨K, ad⟩) :=
  Df.of F sc_l_seed len_l_seed fun f cdv A outer s H vs Q E hr h => ⟨t_l_seed ⟨K, ad⟩, (pss_cons (ps_if (pt_cmpR op_ge (pv 0) (pe_op op_pow pe_int pe_int) (nomark _)) (pss_one (ps_ret (pv 0))) pss_nil)
      (pss_cons (ps_set (i := 1) sc_l_seed.nd rfl (by first | exact Or.inl rfl | exact Or.inr rfl) (pe_op op_mod (pe_op op_mul (pe_op op_mod (pe_op op_add (pe_op op_mul (pv 0) pe_int) pe_int) pe_int) pe_int) pe_int))
      (pss_cons (ps_set (i := 2) sc_l_seed.nd rfl (by first | exact Or.inl rfl | exact Or.inr rfl) (pe_op op_mod (pe_op op_mul (pe_op op_mod (pe_op op_add (pe_op op_mul (pv 0) pe_int) pe_int) pe_int) pe_int) pe_int))
      (pss_one (ps_ret (pe_op op_add (pe_op op_mul (pv 1) pe_int) (pv 2))))))), pure_l_seed h⟩
theorem ok_l_digits (F : FnIs K mg "_law_digits" s_l_digits ["_law_cell_here", "_law_sizes"]) (T_enumerate : mg "enumerate" = none) (D_l_seed : Df P w K mg base CX0 "_law_seed" 1 ["_law_cell_here"] (sp_l_seed ⟨K, ad⟩)) : Df P w K mg base CX0 "_law_digits" 2 ["_law_cell_here", "_law_sizes"] (sp_l_digits ⟨K, ad⟩) :=
  Df.of F sc_l_digits len_l_digits fun f cdv A outer s H vs Q E hr h => ⟨t_l_digits ⟨K, ad⟩, (pss_cons (ps_set (i := 2) sc_l_digits.nd rfl (by first | exact Or.inl rfl | exact Or.inr rfl) (pe_df D_l_seed hr (by decide) pass0 (pa_cons (pv 0) pa_nil)))
      (pss_cons (ps_set (i := 3) sc_l_digits.nd rfl (by first | exact Or.inl rfl | exact Or.inr rfl) (pe_lst pa_nil))
      (pss_cons (ps_for PassesOwn.never rfl (pi_enum (by rfl) T_enumerate (pa_cons (pv 1) pa_nil)) (pg_tup rfl (pgs_cons (pg_name (i := 4) sc_l_digits.nd rfl (by first | exact Or.inl rfl | exact Or.inr rfl)) (pgs_cons (pg_name (i := 5) sc_l_digits.nd rfl (by first | exact Or.inl rfl | exact Or.inr rfl)) pgs_nil)))
      (pss_cons (ps_if (pt_cmpR op_lt (pv 2) (pv 5) (nomark _)) (pss_one (ps_set (i := 2) sc_l_digits.nd rfl (by first | exact Or.inl rfl | exact Or.inr rfl) (pe_df D_l_seed hr (by decide) pass0 (pa_cons (pe_op op_add (pe_op op_add (pv 2) (pe_op op_mul pe_int (pv 4))) (pe_op op_mod (pv 0) pe_int)) pa_nil)))) pss_nil)
      (pss_cons (ps_expr (pe_bm PySem.F.plainAttrs_list PySem.F.slot_list_append PySem.F.type_list_append mt_append (pv 3) (pa_cons (pe_op op_mod (pv 2) (pv 5)) pa_nil)))
      (pss_one (ps_set (i := 2) sc_l_digits.nd rfl (by first | exact Or.inl rfl | exact Or.inr rfl) (pe_op op_fdivW (pv 2) (pv 5)))))))
      (pss_one (ps_ret (pv 3)))))), pure_l_digits h⟩
theorem ok_l_order_drawn (F : FnIs K mg "_law_order_drawn" s_l_order_drawn ["_law_cell_here"]) (T_tuple : mg "tuple" = none) (D_l_digits : Df P w K mg base CX0 "_law_digits" 2 ["_law_cell_here", "_law_sizes"] (sp_l_digits ⟨K, ad⟩)) : Df P w K mg base CX0 "_law_order_drawn" 3 ["_law_cell_here"] (sp_l_order_drawn ⟨K, ad⟩) :=
  Df.of F sc_l_order_drawn len_l_order_drawn fun f cdv A outer s H vs Q E hr h => ⟨t_l_order_drawn ⟨K, ad⟩, (pss_cons (ps_asg (pe_df D_l_digits hr (by decide) pass0 (pa_cons (pv 0) (pa_cons (pe_lst (pa_cons pe_int (pa_cons (pe_op op_pow pe_int pe_int) (pa_cons (pe_op op_pow pe_int pe_int) (pa_cons (pe_op op_pow pe_int pe_int) (pa_cons (pe_op op_pow pe_int pe_int) (pa_cons pe_int pa_nil))))))) pa_nil))) (pg_unl rfl (pgs_cons (pg_name (i := 1) sc_l_order_drawn.nd rfl (by first | exact Or.inl rfl | exact Or.inr rfl)) (pgs_cons (pg_name (i := 2) sc_l_order_drawn.nd rfl (by first | exact Or.inl rfl | exact Or.inr rfl)) (pgs_cons (pg_name (i := 3) sc_l_order_drawn.nd rfl (by first | exact Or.inl rfl | exact Or.inr rfl)) (pgs_cons (pg_name (i := 4) sc_l_order_drawn.nd rfl (by first | exact Or.inl rfl | exact Or.inr rfl)) (pgs_cons (pg_name (i := 5) sc_l_order_drawn.nd rfl (by first | exact Or.inl rfl | exact Or.inr rfl)) (pgs_cons (pg_name (i := 6) sc_l_order_drawn.nd rfl (by first | exact Or.inl rfl | exact Or.inr rfl)) pgs_nil))))))))
      (pss_cons (ps_set (i := 7) sc_l_order_drawn.nd rfl (by first | exact Or.inl rfl | exact Or.inr rfl) (pe_lst (pa_cons (pv 2) (pa_cons (pv 3) (pa_cons (pv 4) (pa_cons (pv 5) pa_nil))))))
      (pss_cut (ps_if (pt_cmpR op_lt (pv 6) pe_int (nomark _)) (pss_one (ps_setLc (i := 7) (own := [("_law_number", 10)]) (g := (gName 10)) rfl sc_l_order_drawn.nd rfl rfl (sw_true rfl rfl rfl (by decide +kernel)) (pi_list (pv 7)) (blkOk_by (N := ["_law_cell_here", "_law_kind", "_law_a", "_law_b", "_law_c", "_law_d", "_law_wide", "_law_numbers", "_law_more", "_law_name", "_law_number"]) (sc := defScope s_l_order_drawn) (by decide +kernel)) (fun _ _ _ _ _ => (pg_name (i := 10) sc_l_order_drawn.nd rfl (by first | exact Or.inl rfl | exact Or.inr rfl))) (fun _ _ _ _ _ => pts_nil) (fun _ _ _ _ _ => (pe_op op_sub (pe_op op_mod (pv 10) (pe_ix ix_list (pe_lst (pa_cons pe_int (pa_cons pe_int pa_nil))) (pv 6) (fun _ _ => rfl))) pe_int)))) pss_nil)
      (pss_cut (ps_if (pt_cmpR op_eq (pv 6) pe_int (nomark _)) (pss_one (ps_set (i := 7) sc_l_order_drawn.nd rfl (by first | exact Or.inl rfl | exact Or.inr rfl) (pe_lst (pa_cons (pe_op op_sub (pe_op op_sub (pe_op op_pow pe_int pe_int) pe_int) (pe_op op_mod (pv 2) pe_int)) (pa_cons (pe_op op_add (pe_op op_sub pe_int (pe_op op_pow pe_int pe_int)) (pe_op op_mod (pv 3) pe_int)) (pa_cons pe_int (pa_cons (pe_un un_neg pe_int) pa_nil))))))) pss_nil)
      (pss_cons (ps_if (pt_cmpR op_eq (pv 1) pe_int (nomark _)) (pss_cons (ps_set (i := 8) sc_l_order_drawn.nd rfl (by first | exact Or.inl rfl | exact Or.inr rfl) (pe_df D_l_digits hr (by decide) pass0 (pa_cons (pe_op op_add (pv 0) pe_int) (pa_cons (pe_op op_rep (pe_lst (pa_cons (pe_op op_pow pe_int pe_int) pa_nil)) (pe_op op_add pe_int (pe_op op_mod (pv 2) pe_int))) pa_nil))))
      (pss_one (ps_ret (pe_op op_catT (pe_tup (pa_cons pe_str (pa_cons (pe_ix ix_list (pv 7) pe_int (fun _ _ => rfl)) (pa_cons (pe_ix ix_list (pv 7) pe_int (fun _ _ => rfl)) pa_nil)))) (pe_callTy call_tuple_of (by rfl) T_tuple (by decide +kernel) (pa_cons (pv 8) pa_nil)))))) pss_nil)
      (pss_cons (ps_set (i := 9) sc_l_order_drawn.nd rfl (by first | exact Or.inl rfl | exact Or.inr rfl) (pe_ix ix_list (pe_lst (pa_cons pe_str (pa_cons pe_str (pa_cons pe_str (pa_cons pe_str (pa_cons pe_str (pa_cons pe_str pa_nil))))))) (pv 1) (fun _ _ => rfl)))
      (pss_one (ps_ret (pe_op op_catT (pe_tup (pa_cons (pv 9) pa_nil)) (pe_callTy call_tuple_of (by rfl) T_tuple (by decide +kernel) (pa_cons (pe_slice sl_list (pv 7) po_none (po_some (pe_ix ix_list (pe_lst (pa_cons pe_int (pa_cons pe_int (pa_cons pe_int (pa_cons pe_int (pa_cons pe_int (pa_cons pe_int pa_nil))))))) (pv 1) (fun _ _ => rfl)))) pa_nil))))))))))), pure_l_order_drawn h⟩
theorem ok_l_due_text (F : FnIs K mg "_law_due_text" s_l_due_text ["_law_order"]) (T_str : mg "str" = none) : Df P w K mg base CX0 "_law_due_text" 1 ["_law_order"] (sp_l_due_text ⟨K, ad⟩) :=
  Df.of F sc_l_due_text len_l_due_text fun f cdv A outer s H vs Q E hr h => ⟨t_l_due_text ⟨K, ad⟩, (pss_cons (ps_set (i := 1) sc_l_due_text.nd rfl (by first | exact Or.inl rfl | exact Or.inr rfl) (pe_ix ix_tup (pv 0) pe_int (fun _ _ => rfl)))
      (pss_cons (ps_for PassesOwn.never rfl (pi_tup (pe_slice sl_tup (pv 0) (po_some pe_int) po_none)) (pg_name (i := 2) sc_l_due_text.nd rfl (by first | exact Or.inl rfl | exact Or.inr rfl))
      (pss_one (ps_set (i := 1) sc_l_due_text.nd rfl (by first | exact Or.inl rfl | exact Or.inr rfl) (pe_op op_add_str (pe_op op_add_str (pv 1) pe_str) (pe_callTy call_str_any (by rfl) T_str (by decide +kernel) (pa_cons (pv 2) pa_nil))))))
      (pss_one (ps_ret (pv 1))))), pure_l_due_text h⟩
theorem ok_l_sign (F : FnIs K mg "_law_sign" s_l_sign ["_law_number"]) (T_len : mg "len" = none) : Df P w K mg base CX0 "_law_sign" 1 ["_law_number"] (sp_l_sign ⟨K, ad⟩) :=
  Df.of F sc_l_sign len_l_sign fun f cdv A outer s H vs Q E hr h => ⟨t_l_sign ⟨K, ad⟩, (pss_cons (ps_set (i := 1) sc_l_sign.nd rfl (by first | exact Or.inl rfl | exact Or.inr rfl) pe_str)
      (pss_cons (ps_set (i := 1) sc_l_sign.nd rfl (by first | exact Or.inl rfl | exact Or.inr rfl) (pe_op op_add_str (pv 1) pe_str))
      (pss_one (ps_ret (pe_ix ix_str (pv 1) (pe_op op_mod (pv 0) (pe_callB call_len_str (by rfl) T_len (by decide +kernel) (pa_cons (pv 1) pa_nil))) (fun _ _ => rfl)))))), pure_l_sign h⟩
theorem ok_l_bent (F : FnIs K mg "_law_bent" s_l_bent ["_law_text", "_law_cell_here"]) (T_len : mg "len" = none) (D_l_digits : Df P w K mg base CX0 "_law_digits" 2 ["_law_cell_here", "_law_sizes"] (sp_l_digits ⟨K, ad⟩)) (D_l_sign : Df P w K mg base CX0 "_law_sign" 1 ["_law_number"] (sp_l_sign ⟨K, ad⟩)) : Df P w K mg base CX0 "_law_bent" 3 ["_law_text", "_law_cell_here"] (sp_l_bent ⟨K, ad⟩) :=
  Df.of F sc_l_bent len_l_bent fun f cdv A outer s H vs Q E hr h => ⟨t_l_bent ⟨K, ad⟩, (pss_cons (ps_asg (pe_df D_l_digits hr (by decide) pass0 (pa_cons (pv 1) (pa_cons (pe_lst (pa_cons pe_int (pa_cons pe_int (pa_cons pe_int (pa_cons pe_int pa_nil))))) pa_nil))) (pg_unl rfl (pgs_cons (pg_name (i := 2) sc_l_bent.nd rfl (by first | exact Or.inl rfl | exact Or.inr rfl)) (pgs_cons (pg_name (i := 3) sc_l_bent.nd rfl (by first | exact Or.inl rfl | exact Or.inr rfl)) (pgs_cons (pg_name (i := 4) sc_l_bent.nd rfl (by first | exact Or.inl rfl | exact Or.inr rfl)) (pgs_cons (pg_name (i := 5) sc_l_bent.nd rfl (by first | exact Or.inl rfl | exact Or.inr rfl)) pgs_nil))))))
      (pss_cons (ps_set (i := 6) sc_l_bent.nd rfl (by first | exact Or.inl rfl | exact Or.inr rfl) (pe_op op_mod (pv 3) (pe_op op_add (pe_callB call_len_str (by rfl) T_len (by decide +kernel) (pa_cons (pv 0) pa_nil)) pe_int)))
      (pss_cons (ps_if (pt_cmpR op_eq (pv 2) pe_int (nomark _)) (pss_one (ps_ret (pv 0))) pss_nil)
      (pss_cons (ps_if (pt_cmpR op_eq (pv 2) pe_int (nomark _)) (pss_one (ps_ret (pe_op op_add_str (pe_op op_add_str (pe_slice sl_str (pv 0) po_none (po_some (pv 6))) (pe_df D_l_sign hr (by decide) pass0 (pa_cons (pv 4) pa_nil))) (pe_slice sl_str (pv 0) (po_some (pv 6)) po_none)))) pss_nil)
      (pss_cons (ps_if (pt_cmpR op_eq (pv 2) pe_int (nomark _)) (pss_one (ps_ret (pe_op op_add_str (pe_slice sl_str (pv 0) po_none (po_some (pv 6))) (pe_slice sl_str (pv 0) (po_some (pe_op op_add (pv 6) pe_int)) po_none)))) pss_nil)
      (pss_cons (ps_if (pt_cmpR op_eq (pv 2) pe_int (nomark _)) (pss_one (ps_ret (pe_op op_add_str (pe_op op_add_str (pe_slice sl_str (pv 0) po_none (po_some (pv 6))) (pe_df D_l_sign hr (by decide) pass0 (pa_cons (pv 4) pa_nil))) (pe_slice sl_str (pv 0) (po_some (pe_op op_add (pv 6) pe_int)) po_none)))) pss_nil)
      (pss_cons (ps_if (pt_cmpR op_eq (pv 2) pe_int (nomark _)) (pss_one (ps_ret (pe_op op_add_str (pe_op op_add_str (pe_slice sl_str (pv 0) po_none (po_some (pv 6))) (pe_ix ix_list (pe_lst (pa_cons pe_str (pa_cons pe_str (pa_cons pe_str (pa_cons pe_str (pa_cons pe_str pa_nil)))))) (pv 5) (fun _ _ => rfl))) (pe_slice sl_str (pv 0) (po_some (pv 6)) po_none)))) pss_nil)
      (pss_cons (ps_set (i := 7) sc_l_bent.nd rfl (by first | exact Or.inl rfl | exact Or.inr rfl) (pe_m1 PySem.F.slot_str_split PySem.F.type_str_split mt_split (pv 0) pe_str))
      (pss_cons (ps_set (i := 8) sc_l_bent.nd rfl (by first | exact Or.inl rfl | exact Or.inr rfl) (pe_op op_mod (pv 3) (pe_callB call_len_seq (by rfl) T_len (by decide +kernel) (pa_cons (pv 7) pa_nil))))
      (pss_cut (ps_if (pt_cmpR op_eq (pv 2) pe_int (nomark _)) (pss_one (ps_asg (pe_ix ix_list (pe_lst (pa_cons pe_str (pa_cons pe_str (pa_cons pe_str (pa_cons pe_str (pa_cons pe_str pa_nil)))))) (pv 5) (fun _ _ => rfl)) (pg_sub (pv 7) (pv 8) set_list))) pss_nil)
      (pss_cut (ps_if (pt_cmpR op_eq (pv 2) pe_int (nomark _)) (pss_one (ps_asg (pe_ix ix_list (pe_lst (pa_cons pe_str (pa_cons pe_str (pa_cons pe_str (pa_cons pe_str (pa_cons pe_str pa_nil)))))) (pv 5) (fun _ _ => rfl)) (pg_sub (pv 7) (pv 8) set_list))) pss_nil)
      (pss_cut (ps_if (pt_cmpR op_eq (pv 2) pe_int (nomark _)) (pss_one (ps_set (i := 7) sc_l_bent.nd rfl (by first | exact Or.inl rfl | exact Or.inr rfl) (pe_op op_cat (pe_op op_cat (pe_slice sl_list (pv 7) po_none (po_some (pv 8))) (pe_lst (pa_cons pe_str pa_nil))) (pe_slice sl_list (pv 7) (po_some (pv 8)) po_none)))) pss_nil)
      (pss_cut (ps_if (pt_cmpR op_eq (pv 2) pe_int (nomark _)) (pss_one (ps_set (i := 7) sc_l_bent.nd rfl (by first | exact Or.inl rfl | exact Or.inr rfl) (pe_op op_cat (pe_slice sl_list (pv 7) po_none (po_some (pv 8))) (pe_slice sl_list (pv 7) (po_some (pe_op op_add (pv 8) pe_int)) po_none)))) pss_nil)
      (pss_one (ps_ret (pe_m1 PySem.F.slot_str_join PySem.F.type_str_join mt_join pe_str (pv 7))))))))))))))))), pure_l_bent h⟩
theorem ok_p_fits (F : FnIs K mg "fits" s_p_fits ["word", "many"]) (KB_PARTS : KTb K w (ad "PARTS") (kb_PARTS ⟨K, ad⟩)) (c_PARTS : mg "PARTS" = some (.ref (ad "PARTS"))) : Df P w K mg base CX0 "fits" 1 ["word", "many"] (sp_p_fits ⟨K, ad⟩) :=
  Df.of F sc_p_fits len_p_fits fun f cdv A outer s H vs Q E hr h => ⟨t_p_fits ⟨K, ad⟩, (pss_cons (ps_if (pt_cmpR op_eq (pv 0) pe_str (nomark _)) (pss_one (ps_ret (pe_cmpR op_ge (pv 1) pe_int (nomark _)))) pss_nil)
      (pss_one (ps_ret (pe_and (pe_cmpR (op_kin KB_PARTS) (pv 0) (pe_glob (by rfl) c_PARTS rfl) (by rfl)) (pe_one (pe_cmpR op_eq (pe_ix (ix_kix KB_PARTS) (pe_glob (by rfl) c_PARTS rfl) (pv 0) (fun _ _ => rfl)) (pv 1) (nomark _))))))), pure_p_fits h⟩
theorem ok_p_is_number (F : FnIs K mg "is_number" s_p_is_number ["text"]) (T_len : mg "len" = none) (T_all : mg "all" = none) : Df P w K mg base CX0 "is_number" 1 ["text"] (sp_p_is_number ⟨K, ad⟩) :=
  Df.of F sc_p_is_number len_p_is_number fun f cdv A outer s H vs Q E hr h => ⟨t_p_is_number ⟨K, ad⟩, (pss_cons (ps_if (pt_cmpR op_eq (pv 0) pe_str (nomark _)) (pss_one (ps_ret pe_bl)) pss_nil)
      (pss_cut (ps_if (pt_val (pe_m1 PySem.F.slot_str_startswith PySem.F.type_str_startswith mt_startswith (pv 0) pe_str)) (pss_one (ps_set (i := 0) sc_p_is_number.nd rfl (by first | exact Or.inl rfl | exact Or.inr rfl) (pe_slice sl_str (pv 0) (po_some pe_int) po_none))) pss_nil)
      (pss_cons (ps_if (PW.pt (pw_or (pt_cmpR op_lt (pe_callB call_len_str (by rfl) T_len (by decide +kernel) (pa_cons (pv 0) pa_nil)) pe_int (nomark _)) (pw_or (pt_cmpR op_gt (pe_callB call_len_str (by rfl) T_len (by decide +kernel) (pa_cons (pv 0) pa_nil)) pe_int (nomark _)) (pw_or1 (pt_cmpR op_eq (pe_ix ix_str (pv 0) pe_int (fun _ _ => rfl)) pe_str (nomark _)))))) (pss_one (ps_ret pe_bl)) pss_nil)
      (pss_one (ps_ret (pe_callB (cr_all rfl) (by rfl) T_all (by decide +kernel) (pa_cons (pe_lc (own := [("sign", 1)]) (g := (gName 1)) rfl sc_p_is_number.nd (pi_str (pv 0)) (blkOk_by (N := ["text", "sign"]) (sc := defScope s_p_is_number) (by decide +kernel)) (fun _ _ _ _ _ => (pg_name (i := 1) sc_p_is_number.nd rfl (by first | exact Or.inl rfl | exact Or.inr rfl))) (fun _ _ _ _ _ => pts_nil) (fun _ _ _ _ _ => (pe_cmpR op_in_sign (pv 1) pe_str (by rfl)))) pa_nil))))))), pure_p_is_number h⟩
theorem ok_p_read (F : FnIs K mg "read" s_p_read ["text"]) (T_len : mg "len" = none) (T_all : mg "all" = none) (T_int : mg "int" = none) (T_tuple : mg "tuple" = none) (X_NoOrder : Exq K mg "NoOrder" (ad "NoOrder")) (D_p_fits : Df P w K mg base CX0 "fits" 1 ["word", "many"] (sp_p_fits ⟨K, ad⟩)) (D_p_is_number : Df P w K mg base CX0 "is_number" 1 ["text"] (sp_p_is_number ⟨K, ad⟩)) : Df P w K mg base (L2.CX P w) "read" 2 ["text"] (sp_p_read ⟨K, ad⟩) :=
  Df.ofX F sc_p_read len_p_read fun f cdv A outer s H vs Q E hr h => ⟨t_p_read ⟨K, ad⟩ E, (pss_cons (ps_set (i := 1) sc_p_read.nd rfl (by first | exact Or.inl rfl | exact Or.inr rfl) (pe_m1 PySem.F.slot_str_split PySem.F.type_str_split mt_split (pv 0) pe_str))
      (pss_cons (ps_if (PW.pt (pw_or (pt_not (pt_val (pe_df D_p_fits hr (by decide) pass0 (pa_cons (pe_ix ix_list (pv 1) pe_int (fun _ _ => rfl)) (pa_cons (pe_op op_sub (pe_callB call_len_seq (by rfl) T_len (by decide +kernel) (pa_cons (pv 1) pa_nil)) pe_int) pa_nil))))) (pw_or1 (pt_not (pt_val (pe_callB (cr_all rfl) (by rfl) T_all (by decide +kernel) (pa_cons (pe_lc (own := [("part", 2)]) (g := (gName 2)) rfl sc_p_read.nd (pi_list (pe_slice sl_list (pv 1) (po_some pe_int) po_none)) (blkOk_by (N := ["text", "parts", "part"]) (sc := defScope s_p_read) (by decide +kernel)) (fun _ _ _ _ _ => (pg_name (i := 2) sc_p_read.nd rfl (by first | exact Or.inl rfl | exact Or.inr rfl))) (fun _ _ _ _ _ => pts_nil) (fun _ _ _ _ _ => (pe_df D_p_is_number hr (by decide) pass0 (pa_cons (pv 2) pa_nil)))) pa_nil))))))) (pss_one (ps_raise rfl (takes_of rfl rfl rfl rfl) (pmk_own PySem.F.excBase_ValueError X_NoOrder.q X_NoOrder.g X_NoOrder.k (raises_own X_NoOrder.b X_NoOrder.t) (by exact rfl)))) pss_nil)
      (pss_one (ps_ret (pe_op op_catT (pe_tup (pa_cons (pe_ix ix_list (pv 1) pe_int (fun _ _ => rfl)) pa_nil)) (pe_callTy call_tuple_of (by rfl) T_tuple (by decide +kernel) (pa_cons (pe_lc (own := [("part", 2)]) (g := (gName 2)) rfl sc_p_read.nd (pi_list (pe_slice sl_list (pv 1) (po_some pe_int) po_none)) (blkOk_by (N := ["text", "parts", "part"]) (sc := defScope s_p_read) (by decide +kernel)) (fun _ _ _ _ _ => (pg_name (i := 2) sc_p_read.nd rfl (by first | exact Or.inl rfl | exact Or.inr rfl))) (fun _ _ _ _ _ => pts_nil) (fun _ _ _ _ _ => (pe_callTy call_int_str (by rfl) T_int (by decide +kernel) (pa_cons (pv 2) pa_nil)))) pa_nil))))))), pure_p_read h⟩
theorem ok_l_read (F : FnIs K mg "_law_read" s_l_read ["_law_text"]) (X_NoOrder : Exq K mg "NoOrder" (ad "NoOrder")) (XM0 : Exm ⟨K, ad⟩ ["NoOrder"]) (D_p_read : Df P w K mg base (L2.CX P w) "read" 2 ["text"] (sp_p_read ⟨K, ad⟩)) : Df P w K mg base CX0 "_law_read" 3 ["_law_text"] (sp_l_read ⟨K, ad⟩) :=
  Df.of F sc_l_read len_l_read fun f cdv A outer s H vs Q E hr h => ⟨t_l_read ⟨K, ad⟩, (pss_cons (ps_set (i := 1) sc_l_read.nd rfl (by first | exact Or.inl rfl | exact Or.inr rfl) pe_non)
      (pss_cons (ps_set (i := 2) sc_l_read.nd rfl (by first | exact Or.inl rfl | exact Or.inr rfl) pe_str)
      (pss_cons (ps_try_many rfl rfl takes0 (fun W pn xe tk po => (pss_one (ps_set (i := 1) sc_l_read.nd rfl (by first | exact Or.inl rfl | exact Or.inr rfl) (pe_dfS D_p_read hr (by decide) (fun σ => passAt tk σ) (pa_cons (pv 0) pa_nil))))) (.cons ⟨rfl, by decide, .inl X_NoOrder.g⟩ (fun a oe cls d pn _ _ => (pss_one (ps_set (i := 2) sc_l_read.nd rfl (by first | exact Or.inl rfl | exact Or.inr rfl) pe_str))) .nil))
      (pss_one (ps_ret (pe_tup (pa_cons (pv 2) (pa_cons (pv 1) pa_nil)))))))), pure_l_read XM0 h⟩
theorem ok_l_is_figures (F : FnIs K mg "_law_is_figures" s_l_is_figures ["_law_text"]) (T_len : mg "len" = none) (T_any : mg "any" = none) : Df P w K mg base CX0 "_law_is_figures" 1 ["_law_text"] (sp_l_is_figures ⟨K, ad⟩) :=
  Df.of F sc_l_is_figures len_l_is_figures fun f cdv A outer s H vs Q E hr h => ⟨t_l_is_figures ⟨K, ad⟩, (pss_cut (ps_if (pt_val (pe_m1 PySem.F.slot_str_startswith PySem.F.type_str_startswith mt_startswith (pv 0) pe_str)) (pss_cons (ps_set (i := 0) sc_l_is_figures.nd rfl (by first | exact Or.inl rfl | exact Or.inr rfl) (pe_slice sl_str (pv 0) (po_some pe_int) po_none))
      (pss_one (ps_if (pt_cmpR op_eq (pv 0) pe_str (nomark _)) (pss_one (ps_ret pe_bl)) pss_nil))) pss_nil)
      (pss_cons (ps_if (PW.pt (pw_or (pt_cmpR op_eq (pv 0) pe_str (nomark _)) (pw_or (pt_cmpR op_gt (pe_callB call_len_str (by rfl) T_len (by decide +kernel) (pa_cons (pv 0) pa_nil)) pe_int (nomark _)) (pw_or1 (pt_val (pe_callB (cr_any rfl) (by rfl) T_any (by decide +kernel) (pa_cons (pe_lc (own := [("_law_sign_here", 1)]) (g := (gName 1)) rfl sc_l_is_figures.nd (pi_str (pv 0)) (blkOk_by (N := ["_law_text", "_law_sign_here"]) (sc := defScope s_l_is_figures) (by decide +kernel)) (fun _ _ _ _ _ => (pg_name (i := 1) sc_l_is_figures.nd rfl (by first | exact Or.inl rfl | exact Or.inr rfl))) (fun _ _ _ _ _ => pts_nil) (fun _ _ _ _ _ => (pe_cmpR op_notIn_sign (pv 1) pe_str (by rfl)))) pa_nil))))))) (pss_one (ps_ret pe_bl)) pss_nil)
      (pss_one (ps_ret (pe_or (pe_cmpR op_eq (pv 0) pe_str (nomark _)) (pe_one (pe_cmpR op_ne (pe_ix ix_str (pv 0) pe_int (fun _ _ => rfl)) pe_str (nomark _)))))))), pure_l_is_figures h⟩
theorem ok_l_is_order_text (F : FnIs K mg "_law_is_order_text" s_l_is_order_text ["_law_text"]) (T_all : mg "all" = none) (T_len : mg "len" = none) (D_l_is_figures : Df P w K mg base CX0 "_law_is_figures" 1 ["_law_text"] (sp_l_is_figures ⟨K, ad⟩)) : Df P w K mg base CX0 "_law_is_order_text" 2 ["_law_text"] (sp_l_is_order_text ⟨K, ad⟩) :=
  Df.of F sc_l_is_order_text len_l_is_order_text fun f cdv A outer s H vs Q E hr h => ⟨t_l_is_order_text ⟨K, ad⟩, (pss_cons (ps_set (i := 1) sc_l_is_order_text.nd rfl (by first | exact Or.inl rfl | exact Or.inr rfl) (pe_m1 PySem.F.slot_str_split PySem.F.type_str_split mt_split (pv 0) pe_str))
      (pss_cons (ps_if (pt_not (pt_val (pe_callB (cr_all rfl) (by rfl) T_all (by decide +kernel) (pa_cons (pe_lc (own := [("_law_part", 3)]) (g := (gName 3)) rfl sc_l_is_order_text.nd (pi_list (pe_slice sl_list (pv 1) (po_some pe_int) po_none)) (blkOk_by (N := ["_law_text", "_law_parts", "_law_sizes", "_law_part"]) (sc := defScope s_l_is_order_text) (by decide +kernel)) (fun _ _ _ _ _ => (pg_name (i := 3) sc_l_is_order_text.nd rfl (by first | exact Or.inl rfl | exact Or.inr rfl))) (fun _ _ _ _ _ => pts_nil) (fun _ _ _ _ _ => (pe_df D_l_is_figures hr (by decide) pass0 (pa_cons (pv 3) pa_nil)))) pa_nil)))) (pss_one (ps_ret pe_bl)) pss_nil)
      (pss_cons (ps_if (pt_cmpR op_eq (pe_ix ix_list (pv 1) pe_int (fun _ _ => rfl)) pe_str (nomark _)) (pss_one (ps_ret (pe_cmpR op_gt (pe_callB call_len_seq (by rfl) T_len (by decide +kernel) (pa_cons (pv 1) pa_nil)) pe_int (nomark _)))) pss_nil)
      (pss_cons (ps_set (i := 2) sc_l_is_order_text.nd rfl (by first | exact Or.inl rfl | exact Or.inr rfl) (pe_disp (pps_cons pe_str pe_int (pps_cons pe_str pe_int (pps_cons pe_str pe_int (pps_cons pe_str pe_int (pps_cons pe_str pe_int (pps_cons pe_str pe_int pps_nil)))))) rfl rfl (by simp) (by decide)))
      (pss_one (ps_ret (pe_cmpR op_eq (pe_dget2 (hu_of hr) (pv 2) (pe_ix ix_list (pv 1) pe_int (fun _ _ => rfl)) pe_int ⟨rfl, rfl, rfl, rfl⟩) (pe_callB call_len_seq (by rfl) T_len (by decide +kernel) (pa_cons (pv 1) pa_nil)) (nomark _)))))))), pure_l_is_order_text h⟩
theorem ok_l_whole (F : FnIs K mg "_law_whole" s_l_whole ["_law_thing"]) (T_isinstance : mg "isinstance" = none) (T_int : mg "int" = none) (T_bool : mg "bool" = none) : Df P w K mg base CX0 "_law_whole" 1 ["_law_thing"] (sp_l_whole ⟨K, ad⟩) :=
  Df.of F sc_l_whole len_l_whole fun f cdv A outer s H vs Q E hr h => ⟨t_l_whole ⟨K, ad⟩, (pss_one (ps_ret (pe_and (pe_callB call_isi (by rfl) T_isinstance (by decide +kernel) (pa_cons (pv 0) (pa_cons (pe_bltn (v := .ty "int") (by rfl) T_int (by decide +kernel) rfl) pa_nil))) (pe_one (pe_not (pe_callB call_isi (by rfl) T_isinstance (by decide +kernel) (pa_cons (pv 0) (pa_cons (pe_bltn (v := .ty "bool") (by rfl) T_bool (by decide +kernel) rfl) pa_nil)))))))), pure_l_whole h⟩
theorem ok_l_is_order (F : FnIs K mg "_law_is_order" s_l_is_order ["_law_found", "_law_due"]) (T_isinstance : mg "isinstance" = none) (T_tuple : mg "tuple" = none) (T_len : mg "len" = none) (T_str : mg "str" = none) (T_all : mg "all" = none) (D_l_whole : Df P w K mg base CX0 "_law_whole" 1 ["_law_thing"] (sp_l_whole ⟨K, ad⟩)) : Df P w K mg base CX0 "_law_is_order" 2 ["_law_found", "_law_due"] (sp_l_is_order ⟨K, ad⟩) :=
  Df.of F sc_l_is_order len_l_is_order fun f cdv A outer s H vs Q E hr h => ⟨t_l_is_order ⟨K, ad⟩, (pss_cons (ps_if (PW.pt (pw_or (pt_not (pt_val (pe_callB call_isi (by rfl) T_isinstance (by decide +kernel) (pa_cons (pv 0) (pa_cons (pe_bltn (v := .ty "tuple") (by rfl) T_tuple (by decide +kernel) rfl) pa_nil))))) (pw_or (pt_cmpR op_ne (pe_callB call_len_seq (by rfl) T_len (by decide +kernel) (pa_cons (pv 0) pa_nil)) (pe_callB call_len_seq (by rfl) T_len (by decide +kernel) (pa_cons (pv 1) pa_nil)) (nomark _)) (pw_or1 (pt_not (pt_val (pe_callB call_isi (by rfl) T_isinstance (by decide +kernel) (pa_cons (pe_ix ix_tup (pv 0) pe_int (fun _ _ => rfl)) (pa_cons (pe_bltn (v := .ty "str") (by rfl) T_str (by decide +kernel) rfl) pa_nil))))))))) (pss_one (ps_ret pe_bl)) pss_nil)
      (pss_one (ps_ret (pe_and (pe_callB (cr_all rfl) (by rfl) T_all (by decide +kernel) (pa_cons (pe_lc (own := [("_law_part", 2)]) (g := (gName 2)) rfl sc_l_is_order.nd (pi_tup (pe_slice sl_tup (pv 0) (po_some pe_int) po_none)) (blkOk_by (N := ["_law_found", "_law_due", "_law_part"]) (sc := defScope s_l_is_order) (by decide +kernel)) (fun _ _ _ _ _ => (pg_name (i := 2) sc_l_is_order.nd rfl (by first | exact Or.inl rfl | exact Or.inr rfl))) (fun _ _ _ _ _ => pts_nil) (fun _ _ _ _ _ => (pe_df D_l_whole hr (by decide) pass0 (pa_cons (pv 2) pa_nil)))) pa_nil)) (pe_one (pe_cmpR (op_eqD hr.units) (pv 0) (pv 1) (nomark _))))))), pure_l_is_order h⟩
theorem ok_p_law {f : Addr} {fd : FuncData} (F : Fun K "law" "law" s_p_law f fd) (T_range : mg "range" = none) (T_int : mg "int" = none) (T_tuple : mg "tuple" = none) (D_l_cell : Df P w K mg base CX0 "_law_cell" 1 ["_law_script", "_law_place"] (sp_l_cell ⟨K, ad⟩)) (D_l_order_drawn : Df P w K mg base CX0 "_law_order_drawn" 3 ["_law_cell_here"] (sp_l_order_drawn ⟨K, ad⟩)) (D_l_due_text : Df P w K mg base CX0 "_law_due_text" 1 ["_law_order"] (sp_l_due_text ⟨K, ad⟩)) (D_l_bent : Df P w K mg base CX0 "_law_bent" 3 ["_law_text", "_law_cell_here"] (sp_l_bent ⟨K, ad⟩)) (D_l_digits : Df P w K mg base CX0 "_law_digits" 2 ["_law_cell_here", "_law_sizes"] (sp_l_digits ⟨K, ad⟩)) (D_l_sign : Df P w K mg base CX0 "_law_sign" 1 ["_law_number"] (sp_l_sign ⟨K, ad⟩)) (D_l_read : Df P w K mg base CX0 "_law_read" 3 ["_law_text"] (sp_l_read ⟨K, ad⟩)) (D_l_is_order_text : Df P w K mg base CX0 "_law_is_order_text" 2 ["_law_text"] (sp_l_is_order_text ⟨K, ad⟩)) (D_l_is_order : Df P w K mg base CX0 "_law_is_order" 2 ["_law_found", "_law_due"] (sp_l_is_order ⟨K, ad⟩)) : FnOk P w K mg base CX0 4 f fd ["_law_script"] (spLaw ⟨K, ad⟩) :=
  F.ok sc_p_law len_p_law fun cdv A outer s H vs Q E hr h => ⟨t_p_law ⟨K, ad⟩, (pss_cons (ps_for PassesOwn.never rfl (pi_range1 (by rfl) T_range (pa_cons pe_int pa_nil)) (pg_name (i := 1) sc_p_law.nd rfl (by first | exact Or.inl rfl | exact Or.inr rfl))
      (pss_cons (ps_set (i := 2) sc_p_law.nd rfl (by first | exact Or.inl rfl | exact Or.inr rfl) (pe_df D_l_due_text hr (by decide) pass0 (pa_cons (pe_df D_l_order_drawn hr (by decide) pass0 (pa_cons (pe_df D_l_cell hr (by decide) pass0 (pa_cons (pv 0) (pa_cons (pe_op op_mul pe_int (pv 1)) pa_nil))) pa_nil)) pa_nil)))
      (pss_cons (ps_set (i := 2) sc_p_law.nd rfl (by first | exact Or.inl rfl | exact Or.inr rfl) (pe_df D_l_bent hr (by decide) pass0 (pa_cons (pv 2) (pa_cons (pe_df D_l_cell hr (by decide) pass0 (pa_cons (pv 0) (pa_cons (pe_op op_add (pe_op op_mul pe_int (pv 1)) pe_int) pa_nil))) pa_nil))))
      (pss_cons (ps_asg (pe_df D_l_digits hr (by decide) pass0 (pa_cons (pe_df D_l_cell hr (by decide) pass0 (pa_cons (pv 0) (pa_cons (pe_op op_add (pe_op op_mul pe_int (pv 1)) pe_int) pa_nil))) (pa_cons (pe_lst (pa_cons pe_int (pa_cons pe_int pa_nil))) pa_nil))) (pg_unl rfl (pgs_cons (pg_name (i := 3) sc_p_law.nd rfl (by first | exact Or.inl rfl | exact Or.inr rfl)) (pgs_cons (pg_name (i := 4) sc_p_law.nd rfl (by first | exact Or.inl rfl | exact Or.inr rfl)) pgs_nil))))
      (pss_cut (ps_if (pt_cmpR op_eq (pv 3) pe_int (nomark _)) (pss_one (ps_set (i := 2) sc_p_law.nd rfl (by first | exact Or.inl rfl | exact Or.inr rfl) (pe_df D_l_bent hr (by decide) pass0 (pa_cons (pv 2) (pa_cons (pe_df D_l_cell hr (by decide) pass0 (pa_cons (pv 0) (pa_cons (pe_op op_add (pe_op op_mul pe_int (pv 1)) pe_int) pa_nil))) pa_nil))))) pss_nil)
      (pss_cut (ps_if (pt_cmpR op_eq (pv 3) pe_int (nomark _)) (pss_cons (ps_set (i := 5) sc_p_law.nd rfl (by first | exact Or.inl rfl | exact Or.inr rfl) (pe_df D_l_digits hr (by decide) pass0 (pa_cons (pe_df D_l_cell hr (by decide) pass0 (pa_cons (pv 0) (pa_cons (pe_op op_add (pe_op op_mul pe_int (pv 1)) pe_int) pa_nil))) (pa_cons (pe_op op_rep (pe_lst (pa_cons pe_int pa_nil)) (pv 4)) pa_nil))))
      (pss_one (ps_set (i := 2) sc_p_law.nd rfl (by first | exact Or.inl rfl | exact Or.inr rfl) (pe_m1 PySem.F.slot_str_join PySem.F.type_str_join mt_join pe_str (pe_lc (own := [("_law_n", 10)]) (g := (gName 10)) rfl sc_p_law.nd (pi_list (pv 5)) (blkOk_by (N := ["_law_script", "_law_k", "_law_text", "_law_kind", "_law_many", "_law_signs", "_law_word", "_law_found", "_law_parts", "_law_due", "_law_n", "_law_part"]) (sc := defScope s_p_law) (by decide +kernel)) (fun _ _ _ _ _ => (pg_name (i := 10) sc_p_law.nd rfl (by first | exact Or.inl rfl | exact Or.inr rfl))) (fun _ _ _ _ _ => pts_nil) (fun _ _ _ _ _ => (pe_df D_l_sign hr (by decide) pass0 (pa_cons (pv 10) pa_nil)))))))) pss_nil)
      (pss_cons (ps_asg (pe_df D_l_read hr (by decide) pass0 (pa_cons (pv 2) pa_nil)) (pg_tup rfl (pgs_cons (pg_name (i := 6) sc_p_law.nd rfl (by first | exact Or.inl rfl | exact Or.inr rfl)) (pgs_cons (pg_name (i := 7) sc_p_law.nd rfl (by first | exact Or.inl rfl | exact Or.inr rfl)) pgs_nil))))
      (pss_one (ps_if (pt_val (pe_df D_l_is_order_text hr (by decide) pass0 (pa_cons (pv 2) pa_nil))) (pss_cons (ps_set (i := 8) sc_p_law.nd rfl (by first | exact Or.inl rfl | exact Or.inr rfl) (pe_m1 PySem.F.slot_str_split PySem.F.type_str_split mt_split (pv 2) pe_str))
      (pss_cons (ps_set (i := 9) sc_p_law.nd rfl (by first | exact Or.inl rfl | exact Or.inr rfl) (pe_op op_catT (pe_tup (pa_cons (pe_ix ix_list (pv 8) pe_int (fun _ _ => rfl)) pa_nil)) (pe_callTy call_tuple_of (by rfl) T_tuple (by decide +kernel) (pa_cons (pe_lc (own := [("_law_part", 11)]) (g := (gName 11)) rfl sc_p_law.nd (pi_list (pe_slice sl_list (pv 8) (po_some pe_int) po_none)) (blkOk_by (N := ["_law_script", "_law_k", "_law_text", "_law_kind", "_law_many", "_law_signs", "_law_word", "_law_found", "_law_parts", "_law_due", "_law_n", "_law_part"]) (sc := defScope s_p_law) (by decide +kernel)) (fun _ _ _ _ _ => (pg_name (i := 11) sc_p_law.nd rfl (by first | exact Or.inl rfl | exact Or.inr rfl))) (fun _ _ _ _ _ => pts_nil) (fun _ _ _ _ _ => (pe_callTy call_int_str (by rfl) T_int (by decide +kernel) (pa_cons (pv 11) pa_nil)))) pa_nil))))
      (pss_one (ps_if (PW.pt (pw_or (pt_cmpR op_ne (pv 6) pe_str (nomark _)) (pw_or1 (pt_not (pt_val (pe_df D_l_is_order hr (by decide) pass0 (pa_cons (pv 7) (pa_cons (pv 9) pa_nil)))))))) (pss_one (ps_ret pe_bl)) pss_nil)))) (pss_one (ps_if (pt_cmpR op_ne (pv 6) pe_str (nomark _)) (pss_one (ps_ret pe_bl)) pss_nil)))))))))))
      (pss_one (ps_ret (pe_and (pe_cmpR op_eq (pe_ix ix_tup (pe_df D_l_read hr (by decide) pass0 (pa_cons pe_str pa_nil)) pe_int (fun _ _ => rfl)) pe_str (nomark _)) (pe_one (pe_cmpR op_eq (pe_ix ix_tup (pe_df D_l_read hr (by decide) pass0 (pa_cons pe_str pa_nil)) pe_int (fun _ _ => rfl)) pe_str (nomark _))))))), pure_p_law h⟩
end
theorem all_mk {l : PySem.W.OpenLaw} {w : World} {K : PySem.W.Frag} {h : Heap} {mg : Str → Option Value} {fa fl : Addr} (X : K.In h) (G : h.Ns mainGlobals mg) (hfa : mg "law" = some (.ref fa))
    (F_l_cell : FnIs K mg "_law_cell" s_l_cell ["_law_script", "_law_place"])
    (F_l_seed : FnIs K mg "_law_seed" s_l_seed ["_law_cell_here"])
    (F_l_digits : FnIs K mg "_law_digits" s_l_digits ["_law_cell_here", "_law_sizes"])
    (F_l_order_drawn : FnIs K mg "_law_order_drawn" s_l_order_drawn ["_law_cell_here"])
    (F_l_due_text : FnIs K mg "_law_due_text" s_l_due_text ["_law_order"])
    (F_l_sign : FnIs K mg "_law_sign" s_l_sign ["_law_number"])
    (F_l_bent : FnIs K mg "_law_bent" s_l_bent ["_law_text", "_law_cell_here"])
    (F_p_fits : FnIs K mg "fits" s_p_fits ["word", "many"])
    (F_p_is_number : FnIs K mg "is_number" s_p_is_number ["text"])
    (F_p_read : FnIs K mg "read" s_p_read ["text"])
    (F_l_read : FnIs K mg "_law_read" s_l_read ["_law_text"])
    (F_l_is_figures : FnIs K mg "_law_is_figures" s_l_is_figures ["_law_text"])
    (F_l_is_order_text : FnIs K mg "_law_is_order_text" s_l_is_order_text ["_law_text"])
    (F_l_whole : FnIs K mg "_law_whole" s_l_whole ["_law_thing"])
    (F_l_is_order : FnIs K mg "_law_is_order" s_l_is_order ["_law_found", "_law_due"])
    (z_len : PySem.W.nsIn K mainGlobals "len" = some none)
    (z_enumerate : PySem.W.nsIn K mainGlobals "enumerate" = some none)
    (z_tuple : PySem.W.nsIn K mainGlobals "tuple" = some none)
    (z_str : PySem.W.nsIn K mainGlobals "str" = some none)
    (z_all : PySem.W.nsIn K mainGlobals "all" = some none)
    (z_int : PySem.W.nsIn K mainGlobals "int" = some none)
    (z_any : PySem.W.nsIn K mainGlobals "any" = some none)
    (z_isinstance : PySem.W.nsIn K mainGlobals "isinstance" = some none)
    (z_bool : PySem.W.nsIn K mainGlobals "bool" = some none)
    (z_range : PySem.W.nsIn K mainGlobals "range" = some none)
    {C_NoOrder : Addr} (a_NoOrder : PySem.W.nsIn K mainGlobals "NoOrder" = some (some (.ref C_NoOrder))) (q_NoOrder : PySem.W.excIn K C_NoOrder [.type "ValueError", .type "Exception", .type "BaseException", .type "object"] "ValueError.__new__" = true) (k_NoOrder : PySem.W.keepIn K (.ref C_NoOrder) = true) (b_NoOrder : PySem.W.subIn K (.ref C_NoOrder) (.type "BaseException") = some true) (t_NoOrder : PySem.W.typeIn K (.ref C_NoOrder) = some (.type "type")) (i_NoOrder : PySem.W.isClsIn K C_NoOrder = true)
    (s_NoOrder_NoOrder : PySem.W.subIn K (.ref C_NoOrder) (.ref C_NoOrder) = some true)
    {A_PARTS : Addr} (aT_PARTS : PySem.W.nsIn K mainGlobals "PARTS" = some (some (.ref A_PARTS))) (kB_PARTS : KTb K w A_PARTS [("push", .int 1), ("pull", .int 1), ("burst", .int 1), ("part", .int 4), ("blow", .int 3), ("wait", .int 2)])
    {od an : Option Addr} {sl : Array (Option Value)} {oc kV dc pm cd ct : Value} (aL : PySem.W.nsIn K mainGlobals "law" = some (some (.ref fl))) (lL : K.lookup fl = some ⟨oc, od, .func (PySem.W.fnOf "law" "law" (defArgs s_p_law) (defBody s_p_law) (defScope s_p_law) .none kV dc pm an cd ct), sl⟩) (cL : PySem.W.codeIn K cd "law" = true) (kL : PySem.W.keepIn K (.ref fl) = true) :
    ∃ fd : FuncData, (∀ (s : Shared) (v : Value), BindsTo s fd ⟨[v], []⟩ [("_law_script", v)]) ∧ ∀ base : Heap, K.In base → base.Ns mainGlobals mg → FnOk l.prog w K mg base CX0 4 fa fd ["_law_script"] (spLaw ⟨K, fun _ => 0⟩) := by
  have e := hfa.symm.trans (PySem.W.mg_of X G aL)
  cases e
  have T_len := PySem.W.mg_none_of X G z_len
  have T_enumerate := PySem.W.mg_none_of X G z_enumerate
  have T_tuple := PySem.W.mg_none_of X G z_tuple
  have T_str := PySem.W.mg_none_of X G z_str
  have T_all := PySem.W.mg_none_of X G z_all
  have T_int := PySem.W.mg_none_of X G z_int
  have T_any := PySem.W.mg_none_of X G z_any
  have T_isinstance := PySem.W.mg_none_of X G z_isinstance
  have T_bool := PySem.W.mg_none_of X G z_bool
  have T_range := PySem.W.mg_none_of X G z_range
  obtain ⟨X_NoOrder, w_NoOrder⟩ := exq_mk X G a_NoOrder q_NoOrder k_NoOrder b_NoOrder t_NoOrder i_NoOrder
  have m_NoOrder_NoOrder := exm_pair b_NoOrder i_NoOrder t_NoOrder s_NoOrder_NoOrder
  rw [← w_NoOrder] at m_NoOrder_NoOrder
  have c_PARTS := PySem.W.mg_of X G aT_PARTS
  have w_PARTS := adOf_eq c_PARTS
  subst w_PARTS
  have KB_PARTS : KTb K w (adOf mg "PARTS") (kb_PARTS ⟨K, adOf mg⟩) := kB_PARTS
  refine ⟨PySem.W.fnOf "law" "law" (defArgs s_p_law) (defBody s_p_law) (defScope s_p_law) .none kV dc pm an cd ct, fun s v => .of_eq rfl, fun base _ _ => ?_⟩
  have D_l_cell := ok_l_cell (P := l.prog) (w := w) (base := base) (ad := adOf mg) F_l_cell T_len
  have D_l_seed := ok_l_seed (P := l.prog) (w := w) (base := base) (ad := adOf mg) F_l_seed
  have D_l_digits := ok_l_digits (P := l.prog) (w := w) (base := base) (ad := adOf mg) F_l_digits T_enumerate D_l_seed
  have D_l_order_drawn := ok_l_order_drawn (P := l.prog) (w := w) (base := base) (ad := adOf mg) F_l_order_drawn T_tuple D_l_digits
  have D_l_due_text := ok_l_due_text (P := l.prog) (w := w) (base := base) (ad := adOf mg) F_l_due_text T_str
  have D_l_sign := ok_l_sign (P := l.prog) (w := w) (base := base) (ad := adOf mg) F_l_sign T_len
  have D_l_bent := ok_l_bent (P := l.prog) (w := w) (base := base) (ad := adOf mg) F_l_bent T_len D_l_digits D_l_sign
  have D_p_fits := ok_p_fits (P := l.prog) (w := w) (base := base) (ad := adOf mg) F_p_fits KB_PARTS c_PARTS
  have D_p_is_number := ok_p_is_number (P := l.prog) (w := w) (base := base) (ad := adOf mg) F_p_is_number T_len T_all
  have D_p_read := ok_p_read (P := l.prog) (w := w) (base := base) (ad := adOf mg) F_p_read T_len T_all T_int T_tuple X_NoOrder D_p_fits D_p_is_number
  have XM_l_read_0 : Exm ⟨K, adOf mg⟩ ["NoOrder"] := by
    intro i j x y hi hj
    match i, hi with
    | 0, hi =>
      cases hi
      match j, hj with
      | 0, hj => cases hj; exact m_NoOrder_NoOrder
      | j + 1, hj => cases hj
    | i + 1, hi => cases hi
  have D_l_read := ok_l_read (P := l.prog) (w := w) (base := base) (ad := adOf mg) F_l_read X_NoOrder (XM_l_read_0) D_p_read
  have D_l_is_figures := ok_l_is_figures (P := l.prog) (w := w) (base := base) (ad := adOf mg) F_l_is_figures T_len T_any
  have D_l_is_order_text := ok_l_is_order_text (P := l.prog) (w := w) (base := base) (ad := adOf mg) F_l_is_order_text T_all T_len D_l_is_figures
  have D_l_whole := ok_l_whole (P := l.prog) (w := w) (base := base) (ad := adOf mg) F_l_whole T_isinstance T_int T_bool
  have D_l_is_order := ok_l_is_order (P := l.prog) (w := w) (base := base) (ad := adOf mg) F_l_is_order T_isinstance T_tuple T_len T_str T_all D_l_whole
  exact ok_p_law (ad := adOf mg) (fun_mk (st := s_p_law) lL cL kL) T_range T_int T_tuple D_l_cell D_l_order_drawn D_l_due_text D_l_bent D_l_digits D_l_sign D_l_read D_l_is_order_text D_l_is_order
theorem factsL {w : World} {K : PySem.W.Frag} {h : Heap} {mg : Str → Option Value} {f : Addr} (X : K.In h) (G : h.Ns mainGlobals mg) (hfa : mg "law" = some (.ref f)) (c : SaysR faL fnL tsL exL w K) :
    ∃ fd : FuncData, (∀ (s : Shared) (v : Value), BindsTo s fd ⟨[v], []⟩ [("_law_script", v)]) ∧ ∀ base : Heap, K.In base → base.Ns mainGlobals mg → FnOk PySem.Challenge.rw_frothwane_k58_texts_that_write_no_order.prog w K mg base CX0 4 f fd ["_law_script"] (spLaw ⟨K, fun _ => 0⟩) := by
  have d := c.t.d
  have m_0 := c.more
  obtain ⟨e_0, m_1⟩ := He.ba m_0
  obtain ⟨e_1, m_2⟩ := He.ba m_1
  obtain ⟨e_2, m_3⟩ := He.ba m_2
  obtain ⟨od, an, sl, oc, kV, dc, pm, cd, ct, lL, cL, kL⟩ := law_ofD (st := s_p_law) X G hfa (d.fact 28 (f := .glo "law") rfl) (d.def_ 15 (d := dd_p_law) rfl)
  exact all_mk (l := PySem.Challenge.rw_frothwane_k58_texts_that_write_no_order) X G hfa (fnis_ofD X G (d.fact 0 (f := .glo "_law_cell") rfl) (d.def_ 0 (d := dd_l_cell) rfl) (fun _ _ _ _ _ _ us hl => match us, hl with | [_, _], _ => rfl)) (fnis_ofD X G (d.fact 1 (f := .glo "_law_seed") rfl) (d.def_ 1 (d := dd_l_seed) rfl) (fun _ _ _ _ _ _ us hl => match us, hl with | [_], _ => rfl)) (fnis_ofD X G (d.fact 2 (f := .glo "_law_digits") rfl) (d.def_ 2 (d := dd_l_digits) rfl) (fun _ _ _ _ _ _ us hl => match us, hl with | [_, _], _ => rfl)) (fnis_ofD X G (d.fact 3 (f := .glo "_law_order_drawn") rfl) (d.def_ 3 (d := dd_l_order_drawn) rfl) (fun _ _ _ _ _ _ us hl => match us, hl with | [_], _ => rfl)) (fnis_ofD X G (d.fact 4 (f := .glo "_law_due_text") rfl) (d.def_ 4 (d := dd_l_due_text) rfl) (fun _ _ _ _ _ _ us hl => match us, hl with | [_], _ => rfl)) (fnis_ofD X G (d.fact 5 (f := .glo "_law_sign") rfl) (d.def_ 5 (d := dd_l_sign) rfl) (fun _ _ _ _ _ _ us hl => match us, hl with | [_], _ => rfl)) (fnis_ofD X G (d.fact 6 (f := .glo "_law_bent") rfl) (d.def_ 6 (d := dd_l_bent) rfl) (fun _ _ _ _ _ _ us hl => match us, hl with | [_, _], _ => rfl)) (fnis_ofD X G (d.fact 7 (f := .glo "fits") rfl) (d.def_ 7 (d := dd_p_fits) rfl) (fun _ _ _ _ _ _ us hl => match us, hl with | [_, _], _ => rfl)) (fnis_ofD X G (d.fact 8 (f := .glo "is_number") rfl) (d.def_ 8 (d := dd_p_is_number) rfl) (fun _ _ _ _ _ _ us hl => match us, hl with | [_], _ => rfl)) (fnis_ofD X G (d.fact 9 (f := .glo "read") rfl) (d.def_ 9 (d := dd_p_read) rfl) (fun _ _ _ _ _ _ us hl => match us, hl with | [_], _ => rfl)) (fnis_ofD X G (d.fact 10 (f := .glo "_law_read") rfl) (d.def_ 10 (d := dd_l_read) rfl) (fun _ _ _ _ _ _ us hl => match us, hl with | [_], _ => rfl)) (fnis_ofD X G (d.fact 11 (f := .glo "_law_is_figures") rfl) (d.def_ 11 (d := dd_l_is_figures) rfl) (fun _ _ _ _ _ _ us hl => match us, hl with | [_], _ => rfl)) (fnis_ofD X G (d.fact 12 (f := .glo "_law_is_order_text") rfl) (d.def_ 12 (d := dd_l_is_order_text) rfl) (fun _ _ _ _ _ _ us hl => match us, hl with | [_], _ => rfl)) (fnis_ofD X G (d.fact 13 (f := .glo "_law_whole") rfl) (d.def_ 13 (d := dd_l_whole) rfl) (fun _ _ _ _ _ _ us hl => match us, hl with | [_], _ => rfl)) (fnis_ofD X G (d.fact 14 (f := .glo "_law_is_order") rfl) (d.def_ 14 (d := dd_l_is_order) rfl) (fun _ _ _ _ _ _ us hl => match us, hl with | [_, _], _ => rfl)) (He.eqO_ok (d.fact 15 (f := .free "len") rfl)) (He.eqO_ok (d.fact 16 (f := .free "enumerate") rfl)) (He.eqO_ok (d.fact 17 (f := .free "tuple") rfl)) (He.eqO_ok (d.fact 18 (f := .free "str") rfl)) (He.eqO_ok (d.fact 19 (f := .free "all") rfl)) (He.eqO_ok (d.fact 20 (f := .free "int") rfl)) (He.eqO_ok (d.fact 21 (f := .free "any") rfl)) (He.eqO_ok (d.fact 22 (f := .free "isinstance") rfl)) (He.eqO_ok (d.fact 23 (f := .free "bool") rfl)) (He.eqO_ok (d.fact 24 (f := .free "range") rfl)) (He.eqO_ok (d.fact 26 (f := .glo "NoOrder") rfl)) (He.exc_ok (d.fact 25 (f := .exc "NoOrder") rfl)).1 (He.exc_ok (d.fact 25 (f := .exc "NoOrder") rfl)).2.1 (He.exc_ok (d.fact 25 (f := .exc "NoOrder") rfl)).2.2.1 (He.exc_ok (d.fact 25 (f := .exc "NoOrder") rfl)).2.2.2 e_0 (of_decide_eq_true e_1) (He.eqO_ok (d.fact 27 (f := .glo "PARTS") rfl)) (ktb_of (dvs := kvs_PARTS) (tab_raw c.t 0 (t := tab_PARTS) rfl) e_2) (He.eqO_ok (d.fact 28 (f := .glo "law") rfl)) lL cL kL
end Fw
open PySem PySem.W PySem.Calls PyProof.Rows
set_option maxRecDepth 100000 in
set_option maxHeartbeats 0 in
theorem PySem.Challenge.cw_frothwane_k58_texts_that_write_no_order_holds : PySem.Challenge.rw_frothwane_k58_texts_that_write_no_order.Holds := by
  w_on; o_law
  refine HandSHeadRun.head_any (r := OpenLaw.row PySem.Challenge.rw_frothwane_k58_texts_that_write_no_order) (q := view (OpenLaw.row PySem.Challenge.rw_frothwane_k58_texts_that_write_no_order).prog [21]) (H := Fw.hkL) (ob := Fw.obL) (M := 20000) (loose := Fw.looseL) (d := HandSHeadRun.topDef (OpenLaw.row PySem.Challenge.rw_frothwane_k58_texts_that_write_no_order).prog 21) (kwd := []) Fw.obL_eq
    (by kernel_rfl) (fun s => by kernel_rfl) Fw.runL (by kernel_rfl) (by kernel_rfl) (by kernel_rfl) (by rfl) (by first | assumption | decide +kernel) (by decide +kernel) ⟨rfl, rfl, rfl, rfl, rfl, by decide +kernel⟩ ?hw ?hc
  case hw => w_witness2
  case hc =>
    refine L2.walk_ofE (l := PySem.Challenge.rw_frothwane_k58_texts_that_write_no_order) (n := 63) (k := 4) (x := "_law_script") (CX := L2.CX0) rfl (by decide) (by kernel_rfl) ⟨rfl, by decide, by decide⟩ ?F (fun _ _ _ _ z => z)
    intro w mg fa h Y G hmg0
    obtain ⟨K, KX, c⟩ := Y
    have hmg : mg ("law" : PySem.Str) = some (.ref fa) := by
      have e : (HandSHeadRun.topDef (OpenLaw.row PySem.Challenge.rw_frothwane_k58_texts_that_write_no_order).prog 21).name = ("law" : PySem.Str) := by kernel_rfl
      rw [← e]
      exact hmg0
    obtain ⟨fd, hb, hF⟩ := Fw.factsL (w := w) KX G hmg c
    exact ⟨K, fd, Fw.spLaw ⟨K, fun _ => 0⟩, KX, hb, fun H a ns hl _ hS => ⟨a, ns, rfl, hS, hl, fun _ => rfl⟩, hF⟩
#print axioms PySem.Challenge.cw_frothwane_k58_texts_that_write_no_order_holds

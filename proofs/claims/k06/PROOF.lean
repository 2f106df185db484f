import PyProof.Rows.All
import Wide.All
import OpenK.AllK
import Wide.FinOn
import KE.KStateDown
import Lean
import HandS.ForMost
import HandS.Exc
import HandS.ExcOwn
import HandS.ExcInit
import HandS.ExcIs
import HandS.ExcField
import HandS.TryOnly
import HandS.TryMany
import HandS.IsInst
import HandS.WordsExc
import HandS.Defaults
import HandS.Wide
import HandS.More
import KE.KExcIs
import HandS.Head0
import HandS.Head1
import HandS.Head2
import HandS.HeadEnd
import HandS.HeadHook1
import HandS.HeadHook2
import PySem.Challenge.RW_packetpicture_k06_picture_bounds_and_cop
set_option Elab.async false
set_option linter.all false
set_option maxRecDepth 100000
set_option maxHeartbeats 2000000
/-! PB: the ground of these proofs: readings step by step, heaps, the head's facts as one Bool. -/
namespace PB
open PySem PySem.Spec PyProof.Rows L2

/-! ### operators by name -/
abbrev bAdd : R2 := rI0 fun i j => .int (i + j)
abbrev bSub : R2 := rI0 fun i j => .int (i - j)
abbrev bMul : R2 := rI CMul fun i j => .int (i * j)
abbrev bDiv : R2 := rI CDiv fun i j => .int (i / j)
abbrev bMod : R2 := rI (fun _ j => 0 < j) fun i j => .int (i % j)
abbrev bPow : R2 := rI CPow fun i j => .int (i ^ j.toNat)
abbrev bShl : R2 := rI CPow fun i j => .int (i * 2 ^ j.toNat)
abbrev bShr : R2 := rI (fun _ j => 0 ≤ j) fun i j => .int (i / 2 ^ j.toNat)
abbrev bAnd : R2 := rI0 fun i j => .int (Builtin.bitAnd i j)
abbrev bXor : R2 := rI0 fun i j => .int (Builtin.bitXor i j)
abbrev cLt : R2 := rI0 fun i j => .bl (decide (i < j))
abbrev cLe : R2 := rI0 fun i j => .bl (decide (i ≤ j))
abbrev cGt : R2 := rI0 fun i j => .bl (decide (j < i))
abbrev cGe : R2 := rI0 fun i j => .bl (decide (j ≤ i))
abbrev uNeg : V → Hp → VK → Prop := rU fun i => .int (-i)
abbrev cIsN : R2 := fun x y H Q => y = .non ∧ Q (.bl (decide (x = .non))) H
abbrev cIsntN : R2 := fun x y H Q => y = .non ∧ Q (.bl (!decide (x = .non))) H
def bAddS : R2 := fun x y H Q => ∃ i j, x = .str i ∧ y = .str j ∧ i.length + j.length ≤ sizeLine ∧ Q (.str (i ++ j)) H

/-! ### built-ins by name -/
def kAbs : List V → Hp → VK → Prop := fun xs H Q => ∃ i, xs = [.int i] ∧ Q (.int (if i < 0 then -i else i)) H
def kMax : List V → Hp → VK → Prop := fun xs H Q => ∃ i j, xs = [.int i, .int j] ∧ Q (.int (if j > i then j else i)) H
def kMin : List V → Hp → VK → Prop := fun xs H Q => ∃ i j, xs = [.int i, .int j] ∧ Q (.int (if j < i then j else i)) H
def kInt : List V → Hp → VK → Prop := fun xs H Q => (∃ i, xs = [.int i] ∧ Q (.int i) H) ∨ ∃ k, xs = [.bl k] ∧ Q (.int (if k then 1 else 0)) H
def kList (K : PySem.W.Frag) : List V → Hp → VK → Prop := fun xs H Q => ∃ p ys, xs = [.ref p] ∧ (SqL K H p ys ∨ SqT K H p ys) ∧ ∀ l, H l = none → Q (.ref l) (upd H l (.lst ys))

/-- what a def lets out: E at any slots -/
abbrev wE (E : XK) : WX := fun cls d _ H => E cls d H
abbrev ends (Q : VK) : Ends := { nx := fun _ H' => Q .non H', rt := Q }

/-! ### readings: one step each -/
section
variable {σ : L2.St} {H H' : Hp} {Q : VK} {v x y : V} {i j : Int} {n : Nat} {ta tb tc te : TE} {t u : TT} {ts us : TS} {r r' : R2} {K : PySem.W.Frag} {nx bk ct : L2.St → Hp → Prop} {rt : VK} {QB : Bool → Hp → Prop}
theorem i_var (h : σ[n]? = some (some v)) (q : Q v H) : tVar n σ H Q := ⟨v, h, q⟩
theorem i_c (q : Q v H) : tC v σ H Q := q
theorem i_op (q : ta σ H fun x H1 => tb σ H1 fun y H2 => r x y H2 Q) : tOp r ta tb σ H Q := q
theorem i_un {r : V → Hp → VK → Prop} (q : ta σ H fun x H1 => r x H1 Q) : tUn r ta σ H Q := q
theorem i_rI0 {g : Int → Int → V} (q : Q (g i j) H) : rI0 g (.int i) (.int j) H Q := ⟨i, j, rfl, rfl, q⟩
theorem i_rI {C : Int → Int → Prop} {g : Int → Int → V} (c : C i j) (q : Q (g i j) H) : rI C g (.int i) (.int j) H Q := ⟨i, j, rfl, rfl, c, q⟩
theorem i_rU {g : Int → V} (q : Q (g i) H) : rU g (.int i) H Q := ⟨i, rfl, q⟩
theorem i_eqI (q : Q (.bl (decide (i = j))) H) : rEq (.int i) (.int j) H Q := ⟨rfl, by rw [show decide (V.int i = V.int j) = decide (i = j) from by simp]; exact q⟩
theorem i_neI (q : Q (.bl (!decide (i = j))) H) : rNe (.int i) (.int j) H Q := ⟨rfl, by rw [show decide (V.int i = V.int j) = decide (i = j) from by simp]; exact q⟩
theorem i_eqS {a b : Str} (q : Q (.bl (decide (a = b))) H) : rEq (.str a) (.str b) H Q := ⟨rfl, by rw [show decide (V.str a = V.str b) = decide (a = b) from by simp]; exact q⟩
theorem i_neS {a b : Str} (q : Q (.bl (!decide (a = b))) H) : rNe (.str a) (.str b) H Q := ⟨rfl, by rw [show decide (V.str a = V.str b) = decide (a = b) from by simp]; exact q⟩
theorem i_addS {a b : Str} (h : a.length + b.length ≤ sizeLine) (q : Q (.str (a ++ b)) H) : bAddS (.str a) (.str b) H Q := ⟨a, b, rfl, rfl, h, q⟩
theorem i_isN (q : Q (.bl (decide (x = .non))) H) : cIsN x .non H Q := ⟨rfl, q⟩
theorem i_isntN (q : Q (.bl (!decide (x = .non))) H) : cIsntN x .non H Q := ⟨rfl, q⟩
theorem i_test (q : ta σ H fun x H' => ∃ k, x = .bl k ∧ QB k H') : tTest ta σ H QB := q
theorem i_tB (q : ta σ H fun x H' => ∃ k, x = .bl k ∧ QB k H') : tB ta σ H QB := q
theorem i_bl {b : Bool} {P : Bool → Prop} (q : P b) : ∃ k, V.bl b = .bl k ∧ P k := ⟨b, rfl, q⟩
theorem i_chain (q : ta σ H fun x H1 => tb σ H1 fun y H2 => r x y H2 fun z H3 => ∃ k, z = .bl k ∧ (if k = true then tc σ H3 fun w' H4 => r' y w' H4 Q else Q (.bl false) H3)) : tChain r r' ta tb tc σ H Q := q
theorem i_and (q : t σ H fun c H1 => if c = true then u σ H1 QB else QB false H1) : tAnd t u σ H QB := q
theorem i_or (q : t σ H fun c H1 => if c = true then QB true H1 else u σ H1 QB) : tOr t u σ H QB := q
theorem i_not (q : t σ H fun c H1 => QB (!c) H1) : tNot t σ H QB := q
theorem i_andV (q : ta σ H fun x H1 => ∃ c, x = .bl c ∧ if c = true then tb σ H1 Q else Q (.bl false) H1) : tAndV ta tb σ H Q := q
theorem i_orV (q : ta σ H fun x H1 => ∃ c, x = .bl c ∧ if c = true then Q (.bl true) H1 else tb σ H1 Q) : tOrV ta tb σ H Q := q
theorem i_notV (q : ta σ H fun x H1 => ∃ c, x = .bl c ∧ Q (.bl (!c)) H1) : tNotV ta σ H Q := q
theorem i_if (q : t σ H fun c H1 => if c = true then ta σ H1 Q else tb σ H1 Q) : tIf t ta tb σ H Q := q
theorem i_nil {Q : List V → Hp → Prop} (q : Q [] H) : tNil σ H Q := q
theorem i_cons {tr : TA} {Q : List V → Hp → Prop} (q : te σ H fun x H1 => tr σ H1 fun xs H2 => Q (x :: xs) H2) : tCons te tr σ H Q := q
theorem i_cb {r : List V → Hp → VK → Prop} {tr : TA} (q : tr σ H fun vs H1 => r vs H1 Q) : tCB r tr σ H Q := q
theorem i_call {sp : Sp} {dvs : List V} {E : XK} {tr : TA} (q : tr σ H fun vs H1 => sp (vs ++ dvs) H1 Q E) : tCall sp dvs E tr σ H Q := q
theorem i_callS {sp : Sp} {E : L2.St → XK} {tr : TA} (q : tr σ H fun vs H1 => sp vs H1 Q (E σ)) : tCallS sp E tr σ H Q := q
theorem i_seq (q : ts ⟨us ⟨nx, rt, bk, ct⟩, rt, bk, ct⟩ σ H) : tSeq ts us ⟨nx, rt, bk, ct⟩ σ H := q
theorem i_next (q : nx σ H) : tNext ⟨nx, rt, bk, ct⟩ σ H := q
theorem i_break (q : bk σ H) : tBreak ⟨nx, rt, bk, ct⟩ σ H := q
theorem i_cont (q : ct σ H) : tCont ⟨nx, rt, bk, ct⟩ σ H := q
theorem i_drop (q : te σ H fun _ H1 => nx σ H1) : tDrop te ⟨nx, rt, bk, ct⟩ σ H := q
theorem i_ret (q : te σ H rt) : tRet te ⟨nx, rt, bk, ct⟩ σ H := q
theorem i_retN (q : rt .non H) : tRetN ⟨nx, rt, bk, ct⟩ σ H := q
theorem i_ifS (q : t σ H fun b H1 => if b = true then ts ⟨nx, rt, bk, ct⟩ σ H1 else us ⟨nx, rt, bk, ct⟩ σ H1) : tIfS t ts us ⟨nx, rt, bk, ct⟩ σ H := q
theorem i_asg {g : TG} (q : te σ H fun x H1 => g x σ H1 nx) : tAsg te g ⟨nx, rt, bk, ct⟩ σ H := q
theorem i_name {Q : L2.St → Hp → Prop} (q : Q (σ.set n (some v)) H) : gName n v σ H Q := q
theorem i_sub {to ti : TE} {s : TSet} {Q : L2.St → Hp → Prop} (q : to σ H fun o H1 => ti σ H1 fun i H2 => s o i v H2 fun H3 => Q σ H3) : gSub to ti s v σ H Q := q
theorem i_lst {tr : TA} (q : tr σ H fun xs H1 => xs.length ≤ sizeLine ∧ ∀ p, H1 p = none → Q (.ref p) (upd H1 p (.lst xs))) : tLst tr σ H Q := q
theorem i_tup {tr : TA} (q : tr σ H fun xs H1 => xs.length ≤ sizeLine ∧ ∀ p, H1 p = none → Q (.ref p) (upd H1 p (.tup xs))) : tTup tr σ H Q := q
theorem i_new {xs : List V} {R : Prop} (h : Nat.ble xs.length 1000 = true) (q : R) : xs.length ≤ sizeLine ∧ R := ⟨Nat.le_trans (Nat.le_of_ble_eq_true h) (by rw [sizeLine_eq]; decide), q⟩
theorem i_iteT {A B : Prop} (q : A) : if true = true then A else B := by rw [if_pos rfl]; exact q
theorem i_iteF {A B : Prop} (q : B) : if false = true then A else B := by rw [if_neg Bool.false_ne_true]; exact q
theorem i_iteNF {A B : Prop} (q : A) : if (!false) = true then A else B := q
theorem i_iteNT {A B : Prop} (q : B) : if (!true) = true then A else B := by rw [if_neg (by decide)]; exact q
theorem i_iteDt {c A B : Prop} [Decidable c] (h : c) (q : A) : if decide c = true then A else B := by rw [if_pos (decide_eq_true h)]; exact q
theorem i_iteDf {c A B : Prop} [Decidable c] (h : ¬ c) (q : B) : if decide c = true then A else B := by rw [if_neg (by simpa using h)]; exact q
theorem i_iteNt {c A B : Prop} [Decidable c] (h : ¬ c) (q : A) : if (!decide c) = true then A else B := by rw [if_pos (by simp [h])]; exact q
theorem i_iteNf {c A B : Prop} [Decidable c] (h : c) (q : B) : if (!decide c) = true then A else B := by rw [if_neg (by simp [h])]; exact q
theorem i_iteD {c A B : Prop} [Decidable c] (h1 : c → A) (h2 : ¬ c → B) : if decide c = true then A else B := by
  by_cases h : c
  · rw [if_pos (decide_eq_true h)]; exact h1 h
  · rw [if_neg (by simpa using h)]; exact h2 h
theorem i_iteN {c A B : Prop} [Decidable c] (h1 : ¬ c → A) (h2 : c → B) : if (!decide c) = true then A else B := by
  by_cases h : c
  · rw [if_neg (by simp [h])]; exact h2 h
  · rw [if_pos (by simp [h])]; exact h1 h
theorem i_iteB {b : Bool} {A B : Prop} (h1 : b = true → A) (h2 : b = false → B) : if b = true then A else B := by
  cases b with
  | true => rw [if_pos rfl]; exact h1 rfl
  | false => rw [if_neg Bool.false_ne_true]; exact h2 rfl
theorem i_iteC {b : Bool} {w : V} (h : ∀ z, z = v ∨ z = w → Q z H) : if b = true then tC v σ H Q else tC w σ H Q := by
  cases b with
  | true => exact h _ (.inl rfl)
  | false => exact h _ (.inr rfl)
theorem i_abs (q : Q (.int (if i < 0 then -i else i)) H) : kAbs [.int i] H Q := ⟨i, rfl, q⟩
theorem i_max (q : Q (.int (if j > i then j else i)) H) : kMax [.int i, .int j] H Q := ⟨i, j, rfl, q⟩
theorem i_min (q : Q (.int (if j < i then j else i)) H) : kMin [.int i, .int j] H Q := ⟨i, j, rfl, q⟩
theorem i_int (q : Q (.int i) H) : kInt [.int i] H Q := .inl ⟨i, rfl, q⟩
theorem i_intB {b : Bool} (q : Q (.int (if b then 1 else 0)) H) : kInt [.bl b] H Q := .inr ⟨b, rfl, q⟩
end

/-! ### fields: the class is known -/
def rFld (C : Addr) (f : Str) : V → Hp → VK → Prop := fun x H Q => ∃ a dx fs v, x = .ref a ∧ H a = some (.ins C dx fs) ∧ fs.lookup f = some v ∧ Q v H
def tF (C : Addr) (f : Str) (ta : TE) : TE := fun σ H Q => ta σ H fun x H1 => rFld C f x H1 Q
def rPut (C : Addr) (f : Str) (y : V) : V → Hp → (Hp → Prop) → Prop := fun x H Q => ∃ a dx fs, x = .ref a ∧ H a = some (.ins C dx fs) ∧ fs.length < 1000 ∧ Q (upd H a (.ins C dx (putF f y fs)))
def sF (C : Addr) (f : Str) (ta tv : TE) : TS := fun D σ H => tv σ H fun y H1 => ta σ H1 fun x H2 => rPut C f y x H2 (D.nx σ)
section
variable {X : Cx} {o e value : Expr} {f : Str} {pos pos' : Pos} {ta tv : TE} {C : Addr}
theorem pe_f (he : PE X e ta) (c : Cls X.K C) (n : NoAttr X.K C f) (hb : attributeBase e f X.env (eval e X.env) = eval e X.env := by rfl) : PE X (.Attribute e f pos) (tF C f ta) := by
  refine ⟨fun pins s σ H Q I h => attr_of hb (thn (he.run pins s σ H _ I h) fun u s1 hh => ?_)⟩
  obtain ⟨x, H1, I1, rx, a, dx, fs, v, ex, ea, l, q⟩ := hh
  subst ex
  have eu : u = Value.ref a := rx
  subst eu
  exact getattr_ok I1 ea c n l fun _ _ J ru => ⟨v, H1, J, ru, q⟩
theorem ps_f (ha : PE X o ta) (hv : PE X value tv) (c : Cls X.K C) (n : NoAttr X.K C f) (hs : swapsWith value (some (.Attribute o f pos')) pos.line X.env = pure false := by rfl) : PS X (.Assign [.Attribute o f pos'] value pos) (sF C f ta tv) := by
  refine ⟨fun pins s σ H D I h => plainObj_wpAny_Assign_Attribute (thn (hv.run pins s σ H _ I h) fun u s1 hh => ?_) hs⟩
  obtain ⟨y, H1, I1, ry, q⟩ := hh
  refine thn (ha.run pins s1 σ H1 _ I1 q) fun ov s2 hh => ?_
  obtain ⟨x, H2, I2, rx, a, dx, fs, ex, ea, l, q2⟩ := hh
  subst ex
  have eu : ov = Value.ref a := rx
  subst eu
  exact setattr_ok I2 ea c n l ry fun _ J => ⟨σ, _, J, q2⟩
/-- a module's int -/
theorem pe_gi {x : Str} {i : Int} (hg : Gl X x) (hm : ∃ t, X.mg x = some (.int i t)) (hd : (x == ("__debug__" : Str)) = false := by decide) : PE X (.Name x pos) (tC (.int i)) := by
  obtain ⟨t, ht⟩ := hm
  exact pe_glob hg ht ⟨t, rfl⟩ hd
theorem pe_gs {x z : Str} (hg : Gl X x) (hm : ∃ t, X.mg x = some (.str z t)) (hd : (x == ("__debug__" : Str)) = false := by decide) : PE X (.Name x pos) (tC (.str z)) := by
  obtain ⟨t, ht⟩ := hm
  exact pe_glob hg ht ⟨t, rfl⟩ hd
theorem pe_ga {x : Str} {a : Addr} (hg : Gl X x) (hm : X.mg x = some (.ref a)) (hd : (x == ("__debug__" : Str)) = false := by decide) : PE X (.Name x pos) (tC (.ref a)) := pe_glob hg hm rfl hd
end
section
variable {σ : L2.St} {H : Hp} {Q : VK} {y v : V} {C a dx : Addr} {f : Str} {fs : List (Str × V)} {ta tv : TE} {nx bk ct : L2.St → Hp → Prop} {rt : VK}
theorem i_F (q : ta σ H fun x H1 => rFld C f x H1 Q) : tF C f ta σ H Q := q
theorem i_fld (h : H a = some (.ins C dx fs)) (l : fs.lookup f = some v) (q : Q v H) : rFld C f (.ref a) H Q := ⟨a, dx, fs, v, rfl, h, l, q⟩
theorem i_sF (q : tv σ H fun y H1 => ta σ H1 fun x H2 => rPut C f y x H2 (nx σ)) : sF C f ta tv ⟨nx, rt, bk, ct⟩ σ H := q
theorem i_put {Q : Hp → Prop} (h : H a = some (.ins C dx fs)) (l : fs.length < 1000) (q : Q (upd H a (.ins C dx (putF f y fs)))) : rPut C f y (.ref a) H Q := ⟨a, dx, fs, rfl, h, l, q⟩
end

/-! ### methods, makers: E by the slots -/
def rMeth (C : Addr) (m : Str) : V → Hp → (Prop) → Prop := fun x H q => ∃ a dx fs, x = .ref a ∧ H a = some (.ins C dx fs) ∧ fs.lookup m = none ∧ q
def tMe (C : Addr) (m : Str) (sp : Sp) (E : L2.St → XK) (ta : TE) (t : TA) : TE := fun σ H Q => ta σ H fun x H1 => rMeth C m x H1 (t σ H1 fun vs H2 => sp (x :: vs) H2 Q (E σ))
def tMk (C : Addr) (sp : Sp) (E : L2.St → XK) (t : TA) : TE := fun σ H Q => t σ H fun vs H1 => ∀ x dx, H1 x = none → H1 dx = none → dx ≠ x →
  sp (.ref x :: vs) (upd (upd H1 dx (.own x)) x (.ins C dx [])) (fun v H2 => v = .non ∧ Q (.ref x) H2) (E σ)
abbrev EF : L2.St → XK := fun _ => E0
/-- a def of the text as its callers see it -/
structure DefOk (P : Program) (w : World) (K : PySem.W.Frag) (mg : Str → Option Value) (base : Heap) (k : Nat) (f : Addr) (ps : List Str) (sp : Sp) : Prop where
  ex : ∃ fd, FnOk P w K mg base (L2.CX P w) k f fd ps sp ∧ Binds K fd ps []
  kp : PySem.W.keepIn K (.ref f) = true
section
variable {X : Cx} {k j : Nat} {f C : Addr} {ps : List Str} {sp : Sp} {E : L2.St → XK} {x m : Str} {p pos apos : Pos} {e o : Expr} {es : List Expr} {ta : TE} {t : TA}
abbrev PassA (X : Cx) (E : L2.St → XK) : Prop := ∀ σ, PassesAt (L2.CX X.prog X.w) X σ (E σ)
theorem passF {X : Cx} : PassA X EF := fun _ _ _ _ _ _ _ h => by
  obtain ⟨_, _, _, _, _, _, _, _, _, _, _, _, z⟩ := h
  exact z.elim
theorem passW {X : Cx} {W : WX} (tk : Takes X W) : PassA X (WE W) := fun σ => passAt tk σ
theorem pe_fn (D : DefOk X.prog X.w X.K X.mg X.base k f ps sp) (hr : Room j X.A) (hk : Nat.ble k j = true) (hg : Gl X x) (hm : X.mg x = some (.ref f)) (hx : PassA X E) (ha : PA X (e :: es) t) (hdb : (x == ("__debug__" : Str)) = false := by decide)
    (he : starEach (e :: es) X.env = (false, eval e X.env) :: starEach es X.env := by rfl) (hpl : (backTo pos (starEach es X.env)).any (·.1) = false := by rfl) : PE X (.Call (.Name x p) (e :: es) [] pos) (tCallS sp E t) := by
  obtain ⟨⟨fd, F, b⟩, kp⟩ := D
  exact pe_callS F (hr.mono (Nat.le_of_ble_eq_true hk)) hg hm kp b hx ha hdb he hpl
theorem run_at {pins : List (Addr × Obj)} {σ : L2.St} {H : Hp} {s : Shared} {Q : VK} {us : List Value} {vs : List V} {fd : FuncData} (F : FnOk X.prog X.w X.K X.mg X.base (L2.CX X.prog X.w) k f fd ps sp) (hr : Room k X.A) (b : Binds X.K fd ps []) (hx : PassA X E)
    (I : Inv X pins σ H s) (r : Vals vs us) (h : sp vs H Q (E σ)) : wpAny (model X.prog X.w) X.A (call (.ref f) us) (EP X pins σ Q) X.xe s := run_fnS F hr b (hx σ) I r h
theorem pe_mt {pl : Sem Bool} (he : PE X o ta) (c : Cls X.K C) (hm : Meth X.K C m f) (D : DefOk X.prog X.w X.K X.mg X.base k f ps sp) (hr : Room j X.A) (hk : Nat.ble k j = true) (hx : PassA X E) (ha : PA X (e :: es) t)
    (hc : eval (.Call (.Attribute o m apos) (e :: es) [] pos) X.env = (do
      let ov ← eval o X.env
      standAt apos.atName
      let (f, first) ← holding [ov] (getMethod ov m pl)
      callWith pos f first (backTo pos (starEach (e :: es) X.env)) (backToKw pos (keywordEach [] X.env))) := by rfl)
    (hs : starEach (e :: es) X.env = (false, eval e X.env) :: starEach es X.env := by rfl) (hpl : (backTo pos (starEach es X.env)).any (·.1) = false := by rfl) :
    PE X (.Call (.Attribute o m apos) (e :: es) [] pos) (tMe C m sp E ta t) := by
  refine ⟨fun pins s σ H Q I h => PySem.W.methodCall_KW (pl := pl) (thn (he.run pins s σ H _ I h) fun u s1 hh => ?_) hc⟩
  obtain ⟨x, H1, I1, rx, a, dx, fs, ex, ea, l, q⟩ := hh
  subst ex
  have eu : u = Value.ref a := rx
  subst eu
  obtain ⟨⟨fd, F, b⟩, kp⟩ := D
  refine getmeth_ok I1 ea c hm l (PySem.W.callWith_K (first := [.ref a]) (h₀ := X.base) I.ok.mod.kin hm.kp (thn (ha.run pos pins s1 σ H1 _ I1 q) fun us s2 hh => ?_) hs hpl)
  obtain ⟨vs, H2, I2, r, q2⟩ := hh
  exact ⟨I2.kIn, run_at (us := .ref a :: us) (vs := .ref a :: vs) F (hr.mono (Nat.le_of_ble_eq_true hk)) b hx I2 (.cons rfl r) q2⟩
theorem pe_mt0 {pl : Sem Bool} (he : PE X o ta) (c : Cls X.K C) (hm : Meth X.K C m f) (D : DefOk X.prog X.w X.K X.mg X.base k f ps sp) (hr : Room j X.A) (hk : Nat.ble k j = true) (hx : PassA X E)
    (hc : eval (.Call (.Attribute o m apos) [] [] pos) X.env = (do
      let ov ← eval o X.env
      standAt apos.atName
      let (f, first) ← holding [ov] (getMethod ov m pl)
      callWith pos f first (backTo pos (starEach [] X.env)) (backToKw pos (keywordEach [] X.env))) := by rfl) :
    PE X (.Call (.Attribute o m apos) [] [] pos) (tMe C m sp E ta tNil) := by
  refine ⟨fun pins s σ H Q I h => PySem.W.methodCall_KW (pl := pl) (thn (he.run pins s σ H _ I h) fun u s1 hh => ?_) hc⟩
  obtain ⟨x, H1, I1, rx, a, dx, fs, ex, ea, l, q⟩ := hh
  subst ex
  have eu : u = Value.ref a := rx
  subst eu
  obtain ⟨⟨fd, F, b⟩, kp⟩ := D
  exact getmeth_ok I1 ea c hm l (PySem.W.callWith_K0 (first := [.ref a]) I1.kIn hm.kp (run_at (us := [.ref a]) (vs := [.ref a]) F (hr.mono (Nat.le_of_ble_eq_true hk)) b hx I1 (.cons rfl .nil) q))
theorem pe_fn0 (D : DefOk X.prog X.w X.K X.mg X.base k f ps sp) (hr : Room j X.A) (hk : Nat.ble k j = true) (hg : Gl X x) (hm : X.mg x = some (.ref f)) (hx : PassA X E) (hdb : (x == ("__debug__" : Str)) = false := by decide) :
    PE X (.Call (.Name x p) [] [] pos) (tCallS sp E tNil) := by
  obtain ⟨⟨fd, F, b⟩, kp⟩ := D
  exact ⟨fun pins s σ H Q I h => wpAny_Call_Name_kw (ld_glob I hg hm (PySem.W.callWith_K0 I.kIn kp (run_at (us := []) F (hr.mono (Nat.le_of_ble_eq_true hk)) b hx I .nil h)) hdb)⟩
theorem run_mk {pins : List (Addr × Obj)} {σ : L2.St} {H : Hp} {s : Shared} {Q : VK} {us : List Value} {vs : List V} {fd : FuncData} (M : Mk X.K C f) (F : FnOk X.prog X.w X.K X.mg X.base (L2.CX X.prog X.w) k f fd ps sp) (hr : Room (k + 1) X.A) (b : Binds X.K fd ps [])
    (hx : PassA X E) (I : Inv X pins σ H s) (r : Vals vs us)
    (h : ∀ x dx, H x = none → H dx = none → dx ≠ x → sp (.ref x :: vs) (upd (upd H dx (.own x)) x (.ins C dx [])) (fun v H2 => v = .non ∧ Q (.ref x) H2) (fun cls d H2 => E σ cls d H2)) :
    wpAny (model X.prog X.w) X.A (call (.ref C) us) (EP X pins σ Q) X.xe s := by
  have sz := Nat.lt_succ_self s.heap.objs.size
  have hq := h (s.heap.objs.size + 1) s.heap.objs.size (I.hok.fresh (Nat.le_of_lt sz)) (I.hok.fresh (Nat.le_refl _)) (Nat.ne_of_lt sz)
  have I2 := Inv.made (C := C) I
  have r2 : Vals (V.ref (s.heap.objs.size + 1) :: vs) (Value.ref (s.heap.objs.size + 1) :: us) := .cons rfl r
  have hl : (Value.ref (s.heap.objs.size + 1) :: us).length = ps.length := r2.length.symm.trans (F.len _ _ _ _ hq)
  have hb := b _ (Value.ref (s.heap.objs.size + 1) :: us) I2.kIn (by rw [List.append_nil]; exact hl)
  rw [List.append_nil] at hb
  refine wpAny_call (make_map (f := f) I.kIn M.makes M.init (beq_iff_eq.mp M.fn) (codeAny_mono (F.run _ X.stack _ _ ⟨Value.ref (s.heap.objs.size + 1) :: us, []⟩ _ _ _ (E σ) (hr.make C us [])
    (I2.env0.make C us []) hb r2 hq) fun res s' z => ?_))
  cases res with
  | error e => exact hx σ pins _ _ e s' I2 z
  | ok fl =>
    cases fl with
    | ret u =>
      obtain ⟨v, H', I3, rv, ev, q3⟩ := I2.after z
      subst ev
      exact ⟨rv, ⟨V.ref (s.heap.objs.size + 1), H', I3, rfl, q3⟩⟩
    | next => exact z.elim
    | brk => exact z.elim
    | cont => exact z.elim
theorem pe_mk (M : Mk X.K C f) (D : DefOk X.prog X.w X.K X.mg X.base k f ps sp) (hr : Room j X.A) (hk : Nat.ble (k + 1) j = true) (hg : Gl X x) (hm : X.mg x = some (.ref C)) (hx : PassA X E) (ha : PA X (e :: es) t) (hdb : (x == ("__debug__" : Str)) = false := by decide)
    (he : starEach (e :: es) X.env = (false, eval e X.env) :: starEach es X.env := by rfl) (hpl : (backTo pos (starEach es X.env)).any (·.1) = false := by rfl) : PE X (.Call (.Name x p) (e :: es) [] pos) (tMk C sp E t) := by
  obtain ⟨⟨fd, F, b⟩, _⟩ := D
  refine ⟨fun pins s σ H Q I h => wpAny_Call_Name_kw (ld_glob I hg hm (PySem.W.callWith_K (h₀ := X.base) I.ok.mod.kin M.kp (thn (ha.run pos pins s σ H _ I h) fun us s1 hh => ?_) he hpl) hdb)⟩
  obtain ⟨vs, H1, I1, r, q⟩ := hh
  exact ⟨I1.kIn, run_mk M F (hr.mono (Nat.le_of_ble_eq_true hk)) b hx I1 r q⟩
theorem pe_mk0 (M : Mk X.K C f) (D : DefOk X.prog X.w X.K X.mg X.base k f ps sp) (hr : Room j X.A) (hk : Nat.ble (k + 1) j = true) (hg : Gl X x) (hm : X.mg x = some (.ref C)) (hx : PassA X E) (hdb : (x == ("__debug__" : Str)) = false := by decide) :
    PE X (.Call (.Name x p) [] [] pos) (tMk C sp E tNil) := by
  obtain ⟨⟨fd, F, b⟩, _⟩ := D
  exact ⟨fun pins s σ H Q I h => wpAny_Call_Name_kw (ld_glob I hg hm (PySem.W.callWith_K0 I.kIn M.kp (run_mk (us := []) M F (hr.mono (Nat.le_of_ble_eq_true hk)) b hx I .nil h)) hdb)⟩
end
section
variable {σ : L2.St} {H : Hp} {Q : VK} {C a dx : Addr} {m : Str} {fs : List (Str × V)} {ta : TE} {t : TA} {sp : Sp} {E : L2.St → XK} {q : Prop}
theorem i_me (h : ta σ H fun x H1 => rMeth C m x H1 (t σ H1 fun vs H2 => sp (x :: vs) H2 Q (E σ))) : tMe C m sp E ta t σ H Q := h
theorem i_meth (h : H a = some (.ins C dx fs)) (l : fs.lookup m = none) (z : q) : rMeth C m (.ref a) H q := ⟨a, dx, fs, rfl, h, l, z⟩
theorem i_mk (h : t σ H fun vs H1 => ∀ x dx, H1 x = none → H1 dx = none → dx ≠ x → sp (.ref x :: vs) (upd (upd H1 dx (.own x)) x (.ins C dx [])) (fun v H2 => v = .non ∧ Q (.ref x) H2) (E σ)) : tMk C sp E t σ H Q := h
end

/-! ### a def from the head's facts to its promise -/
/-- sp speaks of n arguments -/
def Ar (n : Nat) (sp : Sp) : Prop := ∀ vs H Q E, sp vs H Q E → vs.length = n
theorem def_ok {P : Program} {w : World} {K : PySem.W.Frag} {mg : Str → Option Value} {base : Heap} {d : He.DefD} {N ps : List Str} {k : Nat} {sp : Sp} {tt : XK → TS} (F : ∃ fd, FunD K d.name d.qual d.params d.body d.scope (d.dvs K) (d.kws K) (He.fAd K d.at_) fd)
    (hd : d.dfl = [] := by rfl) (S : FnScope N ps d.scope) (ar : Ar ps.length sp)
    (hb : ∀ (kV doc pm : Value) (an : Option Addr) (cdv ct : Value) (us : List Value), us.length = ps.length → bindArgs (PySem.W.fnOf d.name d.qual d.params d.body d.scope .none kV doc pm an cdv ct) ⟨us, []⟩ = pure (ps.zip us))
    (pure_ : ∀ vs H Q E, sp vs H Q E → tt E (ends Q) (start N vs) H)
    (walk : ∀ (cdv : Value) (A : Around) (outer : List Env) (s : Shared) (H : Hp) (E : XK), Room k (A.deeper (envOfC d.qual d.scope s.heap.objs.size (He.fAd K d.at_) cdv)) →
      PSs (cxOf (L2.CX P w) P w K mg base N d.qual d.scope (He.fAd K d.at_) cdv A outer s H E) d.body (tt E)) : DefOk P w K mg base (k + 1) (He.fAd K d.at_) ps sp := by
  obtain ⟨fd, F⟩ := F
  have e0 : d.dvs K = [] := by unfold He.DefD.dvs; rw [hd]; rfl
  rw [e0] at F
  exact ⟨⟨fd, F.ok S (fun vs H Q E h => ar vs H Q E h) fun cdv A outer s H vs Q E hr h => ⟨_, walk cdv A outer s H E hr, pure_ vs H Q E h⟩, F.bindsN hb⟩, F.kp⟩

/-! ### the head's facts -/
abbrev Frag := PySem.W.Frag
def obsP (fa : Frag → Bool) (fn : List He.DefD) (K : Frag) : He.AlD := (fa K && fn.all fun d => d.ok K, fn.map fun d => He.fnW K d.at_)
def SaysP (fa : Frag → Bool) (fn : List He.DefD) (K : Frag) : Prop := obsP fa fn K = He.valD fn
def obsPG (n : Nat) (fa : Frag → Bool) (fn : List He.DefD) (g : Addr → Option Obj) : He.AlD := obsP fa fn (He.frG g (He.asD g n))
def hookP (n : Nat) (fa : Frag → Bool) (fn : List He.DefD) : PySem.W.Hook where
  α := He.AlD
  obs := fun s => obsPG n fa fn s.heap.get?
  val := fun _ => He.valD fn
  says := fun _ h => ∃ K : Frag, K.In h ∧ SaysP fa fn K
  of := fun _ _ e => ⟨_, He.frG_in, e⟩
  keeps := fun _ _ _ ⟨K, hK, c⟩ k => ⟨K, PySem.W.Frag.In.keeps hK k, c⟩
theorem obsPG_eq {n : Nat} {fa : Frag → Bool} {fn : List He.DefD} {g : Addr → Option Obj} {s : Shared} (h : ∀ a, g a = s.heap.get? a) : obsPG n fa fn g = (hookP n fa fn).obs s := by
  have e : g = s.heap.get? := funext h
  rw [e] <;> rfl
section
variable {fa : Frag → Bool} {fn : List He.DefD} {K : Frag}
theorem SaysP.facts (c : SaysP fa fn K) : fa K = true := (He.ba (congrArg (fun z : He.AlD => z.1) c)).1
theorem SaysP.def_ (c : SaysP fa fn K) (i : Nat) {d : He.DefD} (h : fn[i]? = some d := by rfl) : ∃ fd, FunD K d.name d.qual d.params d.body d.scope (d.dvs K) (d.kws K) (He.fAd K d.at_) fd := by
  have c2 := (He.ba (congrArg (fun z : He.AlD => z.1) c)).2
  have e2 : (fn.map fun d => He.fnW K d.at_)[i]? = (fn.map He.DefD.val)[i]? := by rw [show fn.map (fun d => He.fnW K d.at_) = fn.map He.DefD.val from congrArg (fun z : He.AlD => z.2) c]
  rw [List.getElem?_map, List.getElem?_map, h] at e2
  exact He.DefD.funD (Option.some.inj e2) (List.all_eq_true.mp c2 d (List.mem_of_getElem? h))
end

/-! ### exceptions -/
abbrev veB : List Value := He.veBase
def oexB (K : Frag) (C : Addr) : Bool := (match K.lookup C with
  | some ⟨.type t, _, .cls cd, sl⟩ => decide (t = "type") && (match cd.mro, sl.toList with
    | .ref C' :: bm, [_, _, _, _, some (.builtin n), _] => decide (C' = C) && (decide (n = "ValueError.__new__") && (!cd.hasDel && (cd.hasDict && PySem.HandSPX.refsVE bm)))
    | _, _ => false)
  | _ => false) && (He.eqO (PySem.W.findIn K (.ref C) "__setattr__") (some (some (.builtin "object.__setattr__"))) && (decide (PySem.W.subIn K (.ref C) (.type "BaseException") = some true) && (decide (PySem.W.typeIn K (.ref C) = some (.type "type")) && PySem.W.keepIn K (.ref C))))
theorem oexB_ok {K : Frag} {C : Addr} (h : oexB K C = true) : OexC K C := by
  obtain ⟨h1, h⟩ := He.ba h
  obtain ⟨h2, h⟩ := He.ba h
  obtain ⟨h3, h⟩ := He.ba h
  obtain ⟨h4, h5⟩ := He.ba h
  refine ⟨?_, He.eqO_ok h2, of_decide_eq_true h3, of_decide_eq_true h4, h5⟩
  cases q : K.lookup C with
  | none => rw [q] at h1; cases h1
  | some o =>
    obtain ⟨oc, od, dt, sl⟩ := o
    rw [q] at h1
    cases oc with
    | type t =>
      cases dt with
      | cls cd =>
        obtain ⟨e1, h1⟩ := He.ba h1
        obtain ⟨nm, bs, mro, ns, qn, hd, sn, sb, ab, col, del⟩ := cd
        split at h1
        · rename_i C' bm k0 k1 k2 k3 n k5 hm hs
          obtain ⟨e2, h1⟩ := He.ba h1
          obtain ⟨e3, h1⟩ := He.ba h1
          obtain ⟨e4, h1⟩ := He.ba h1
          obtain ⟨e5, e6⟩ := He.ba h1
          have e4' : del = false := by cases del <;> first | rfl | cases e4
          have e1' := of_decide_eq_true e1
          have e2' := of_decide_eq_true e2
          have e3' := of_decide_eq_true e3
          subst e1' e2' e3' e4'
          obtain ⟨sl⟩ := sl
          have hs' : sl = [k0, k1, k2, k3, some (.builtin "ValueError.__new__"), k5] := hs
          subst hs'
          have hm' : mro = .ref C' :: bm := hm
          subst hm'
          have e5' : hd = true := e5
          subst e5'
          exact ⟨nm, qn, ns, bs, bm, sn, sb, ab, col, od, k0, k1, k2, k3, k5, rfl, e6⟩
        · cases h1
      | _ => cases h1
    | _ => cases dt <;> cases h1
structure OexI (K : Frag) (C f : Addr) : Prop where
  i : PySem.W.findIn K (.ref C) "__init__" = some (some (.ref f))
  t : PySem.W.typeIn K (.ref f) = some (.type "function")
def oexI (K : Frag) (C f : Addr) : Bool := He.eqO (PySem.W.findIn K (.ref C) "__init__") (some (some (.ref f))) && decide (PySem.W.typeIn K (.ref f) = some (.type "function"))
theorem oexI_ok {K : Frag} {C f : Addr} (h : oexI K C f = true) : OexI K C f := ⟨He.eqO_ok (He.ba h).1, of_decide_eq_true (He.ba h).2⟩
abbrev ExcF (K : Frag) (C : Addr) : Prop := PySem.W.excIn K C He.veBase "ValueError.__new__" = true ∧ PySem.W.keepIn K (.ref C) = true ∧ PySem.W.subIn K (.ref C) (.type "BaseException") = some true ∧ PySem.W.typeIn K (.ref C) = some (.type "type")
def excCB (K : Frag) (D : Addr) : Bool := He.eqO (PySem.W.findIn K (.ref D) "__getattribute__") (some (some (.builtin "BaseException.__getattribute__"))) && (He.eqO (PySem.W.findIn K (.ref D) "__getattr__") (some none) && (decide (PySem.W.subIn K (.ref D) (.type "BaseException") = some true) && (PySem.W.hasDictIn K D &&
  (He.eqO (PySem.W.findIn K (.ref D) "__class__") (some (some (.builtin "object.__class__"))) && (He.eqO (PySem.W.specialIn K (.builtin "object.__class__") "__get__") (some (some (.builtin "getset_descriptor.__get__"))) && (decide (PySem.W.takesIn K (.builtin "object.__class__") = some true) && decide (PySem.W.mroIn K D (.type "object") = some true)))))))
theorem excCB_ok {K : Frag} {D : Addr} (h : excCB K D = true) : ExcC K D := by
  obtain ⟨h1, h⟩ := He.ba h
  obtain ⟨h2, h⟩ := He.ba h
  obtain ⟨h3, h⟩ := He.ba h
  obtain ⟨h4, h⟩ := He.ba h
  obtain ⟨h5, h⟩ := He.ba h
  obtain ⟨h6, h⟩ := He.ba h
  obtain ⟨h7, h8⟩ := He.ba h
  exact ⟨He.eqO_ok h1, He.eqO_ok h2, of_decide_eq_true h3, h4, He.eqO_ok h5, He.eqO_ok h6, of_decide_eq_true h7, of_decide_eq_true h8⟩
/-- isinstance(e, c), e the exception that a suite holds, with or without a dict of its own -/
def rIsX (K : Frag) (D a : Addr) (cls : Value) (d : Option Addr) : List V → Hp → VK → Prop := fun xs H Q => ∃ (c : V) (cv : Value) (b : Bool), cls = .ref D ∧ xs = [.ref a, c] ∧ (∀ dd, d = some dd → ∃ fs, H dd = some (.xd fs)) ∧ ClsV c cv ∧ PySem.W.kitOne K (.ref D) cv = some b ∧ Q (.bl b) H
theorem call_isX {X : Cx} {a D : Addr} {cls : Value} {d : Option Addr} {oe : Obj} {pn : List (Addr × Obj)} (Z : ExcC X.K D) (hz : Zc cls d oe) (hf : ∃ vs, oe.data = .fields vs) : CallR (X.suite a ((a, oe) :: pn)) (.builtin "isinstance") (rIsX X.K D a cls d) := by
  intro pins s σ H xs us Q I r h
  obtain ⟨c, cv, b, rfl, rfl, hdd, hc, e, q⟩ := h
  match us, r with
  | [u0, u1], .cons rx (.cons rt .nil) =>
    cases rx
    have ec := hc.eq rt
    subst ec
    obtain ⟨hget, _⟩ := I.pin (a, oe) (List.mem_append.mpr (.inl List.mem_cons_self))
    obtain ⟨vs, hv⟩ := hf
    have hcl : (PySem.W.clsIn X.K D).isSome = true := by
      obtain ⟨cd, hcd, _⟩ := PySem.W.any_some Z.hd
      rw [hcd]; rfl
    have done : ∀ od, PySem.W.InstAt s.heap a oe D od → wpAny (model X.prog X.w) (X.suite a ((a, oe) :: pn)).A (call (.builtin "isinstance") [.ref a, u1]) (EP (X.suite a ((a, oe) :: pn)) pins σ Q) (X.suite a ((a, oe) :: pn)).xe s := fun od J =>
      PySem.W.kia_one (PySem.W.kitx_exc hcl Z.hg Z.hk Z.hs Z.ha Z.hn Z.ht Z.hm) I.kIn J e (fun z => nomatch z) fun tk => ⟨.bl b, H, I.kept (t' := tk) fun _ _ z => z, rfl, q⟩
    obtain ⟨oc, od, oda, osl⟩ := oe
    obtain ⟨h1, h2⟩ := hz
    dsimp only at h1 h2 hv
    subst h1 h2 hv
    cases od with
    | none => exact done none ⟨hget, rfl, rfl, trivial⟩
    | some dd =>
      obtain ⟨fs, hfs⟩ := hdd dd rfl
      have hx : ObjOk X.prog X.w H s.heap dd (.xd fs) := I.hok dd _ hfs
      obtain ⟨mA, ⟨o, es, ep, ho, _⟩, _⟩ := hx
      exact done (some o) ⟨hget, rfl, rfl, ho⟩
/-- raise C(e, ..), C with an __init__ of its own -/
def tRaiseO (C : Addr) (sp : Sp) (W : WX) (ta : TA) : TS := fun _ σ H => tMkO C sp [] ta σ H fun cls d H' => W cls d σ H'
/-- raise C('..') -/
def tRaiseP (C : Addr) (W : WX) : TS := fun _ σ H => W (.ref C) none σ H
section
variable {X : Cx} {C f : Addr} {e : Expr} {es : List Expr} {ta : TA} {x m : Str} {p p2 pos pos2 : Pos} {k j : Nat} {ps : List Str} {sp : Sp} {W : WX}
theorem ps_raiseO (hc : X.calm = true) (tk : Takes X W) (T : OexC X.K C) (I : OexI X.K C f) (D : DefOk X.prog X.w X.K X.mg X.base k f ps sp) (hr : Room j X.A) (hk : Nat.ble (k + 1) j = true) (hg : Gl X x) (hm : X.mg x = some (.ref C)) (ha : PA X (e :: es) ta)
    (hdb : (x == ("__debug__" : Str)) = false := by decide) (he : starEach (e :: es) X.env = (false, eval e X.env) :: starEach es X.env := by rfl) (hpl : (backTo pos (starEach es X.env)).any (·.1) = false := by rfl) :
    PS X (.Raise (some (.Call (.Name x p) (e :: es) [] pos)) none pos2) (tRaiseO C sp W ta) := by
  obtain ⟨⟨fd, F, b⟩, _⟩ := D
  exact ps_raise hc tk (pmk_oex (dvs := []) (ds := []) T I.i I.t F (hr.mono (Nat.le_of_ble_eq_true hk)) b .nil passL hg hm ha hdb he hpl)
theorem ps_raiseP {j' : Nat} (hc : X.calm = true) (tk : Takes X W) (Z : ExcF X.K C) (hg : Gl X x) (hm : X.mg x = some (.ref C)) (hdb : (x == ("__debug__" : Str)) = false := by decide) :
    PS X (.Raise (some (.Call (.Name x p) [.Constant (.str m) j' p2] [] pos)) none pos2) (tRaiseP C W) :=
  ps_raise hc tk (pmk_own PySem.F.excBase_ValueError Z.1 hm Z.2.1 (raises_own Z.2.2.1 Z.2.2.2) hg hdb)
end
abbrev CF : WX := fun _ _ _ _ => False
def tTryAs (K : Frag) (C : Addr) (i : Nat) (tb : WX → TS) (ts : Addr → Value → Option Addr → TS) (Wout : WX) : TS := fun D σ H => tb (wAs K (.ref C) i ts Wout D) D σ H
def tTryOnly (K : Frag) (C : Addr) (tb : WX → TS) (ts : Addr → Value → Option Addr → TS) (Wout : WX) : TS := fun D σ H => tb (wOnly K (.ref C) ts Wout D) D σ H
def tTru (K : Frag) (ta : TE) : TT := fun σ H Q => ta σ H fun x H' => ∃ k, TruV K x H' k ∧ Q k H'

/-- an __init__(self, f): self.f = f -/
def spX1 (C : Addr) (f : Str) : Sp := fun vs H Q _ => ∃ (a : Addr) (v : V), vs = [.ref a, v] ∧ H a = some (exo a C none) ∧ ∀ dx, H dx = none → dx ≠ a → Q .non (upd (upd H dx (exd dx [(f, v)])) a (exo a C (some dx)))
theorem del_upd2 {H : Hp} {a d : Addr} {o u z : HO} (ha : H a = none) (hd : d ≠ a) : upd (del (upd (upd (upd H a o) d u) a o) a) d z = upd H d z := by
  funext b
  by_cases h1 : b = d
  · rw [h1, upd_same, upd_same]
  · rw [upd_ne h1, upd_ne h1]
    by_cases h2 : b = a
    · rw [h2, del_same, ha]
    · rw [del_ne h2, upd_ne h2, upd_ne h1, upd_ne h2]
section
variable {σ : L2.St} {H : Hp} {C : Addr} {f : Str} {v : V} {W : WX} {te : TE} {nx bk ct : L2.St → Hp → Prop} {rt : VK}
theorem i_raise1 (h : te σ H fun v H1 => ∀ d, H1 d = none → W (.ref C) (some d) σ (upd H1 d (.xd [(f, v)])))
    (mono : ∀ {Q Q' : VK}, (∀ v H', Q v H' → Q' v H') → te σ H Q → te σ H Q') : tRaiseO C (spX1 C f) W (tCons te tNil) ⟨nx, rt, bk, ct⟩ σ H := by
  refine mono (fun v H1 q => ?_) h
  refine ⟨by simp, fun a ha => ⟨a, v, rfl, upd_same, fun dx hd hne => ⟨rfl, dx, [(f, v)], upd_same, ?_, ?_, ?_⟩⟩⟩
  · rw [upd_ne hne, upd_same]
  · rw [upd_ne hne] at hd; exact hd
  · have hd' : H1 dx = none := by rw [upd_ne hne] at hd; exact hd
    have e : upd (del (upd (upd (upd H1 a (exo a C none)) dx (exd dx [(f, v)])) a (exo a C (some dx))) a) dx (.xd [(f, v)]) = upd H1 dx (.xd [(f, v)]) := by
      funext b
      by_cases h1 : b = dx
      · rw [h1, upd_same, upd_same]
      · rw [upd_ne h1, upd_ne h1]
        by_cases h2 : b = a
        · rw [h2, del_same, ha]
        · rw [del_ne h2, upd_ne h2, upd_ne h1, upd_ne h2]
    rw [e]
    exact q dx hd'
/-- .. of a constant -/
theorem i_raiseC (h : ∀ d, H d = none → W (.ref C) (some d) σ (upd H d (.xd [(f, v)]))) : tRaiseO C (spX1 C f) W (tCons (tC v) tNil) ⟨nx, rt, bk, ct⟩ σ H := i_raise1 (te := tC v) h fun k q => k _ _ q
theorem i_raiseP (h : W (.ref C) none σ H) : tRaiseP C W ⟨nx, rt, bk, ct⟩ σ H := h
end

/-! ### heaps and lists -/
theorem same_at {H H' : Hp} {a : Addr} {o : HO} (s : Same H H') (h : H a = some o) : H' a = some o := s a o h
theorem same_new {H H' : Hp} {p : Addr} {o : HO} (s : Same H H') (h : H' p = none) : Same H (upd H' p o) := fun b u e => by rw [upd_ne (ne_of_none (s b u e) h)]; exact s b u e
theorem same_mut {H H' : Hp} {p : Addr} {o : HO} (s : Same H H') (h : H p = none) : Same H (upd H' p o) := fun b u e => by rw [upd_ne (ne_of_none e h)]; exact s b u e
theorem same_upd {H : Hp} {p : Addr} {o : HO} (h : H p = none) : Same H (upd H p o) := same_new (Same.refl H) h
/-- what is new -/
def dif (H H' : Hp) : Hp := fun a => match H a with | none => H' a | some _ => none
theorem dif_same {H H' : Hp} : Same (dif H H') H' := fun b o e => by
  unfold dif at e
  split at e
  · exact e
  · cases e
theorem dif_none {H H' : Hp} {a : Addr} {o : HO} (h : H a = some o) : dif H H' a = none := by unfold dif; rw [h]
theorem dif_at {H H' : Hp} {a : Addr} (h : H a = none) : dif H H' a = H' a := by unfold dif; rw [h]
theorem dif_new {H H' : Hp} {a : Addr} {o : HO} (h : dif H H' a = some o) : H a = none := by
  unfold dif at h
  split at h
  · assumption
  · cases h
theorem dif_mono {H H1 H2 : Hp} (s : Same H1 H2) : Same (dif H H1) (dif H H2) := fun b o e => by
  rw [dif_at (dif_new e)]
  exact s b o (dif_same b o e)
theorem dif_from {H H1 H2 : Hp} (s : Same H H1) : Same (dif H1 H2) (dif H H2) := fun b o e => by
  have n := dif_new e
  rw [dif_at (s.free n)]
  exact dif_same b o e
theorem ref_non {a : Addr} : ¬ V.ref a = V.non := fun h => by cases h
theorem int_non {a : Int} : ¬ V.int a = V.non := fun h => by cases h
theorem str_non {a : Str} : ¬ V.str a = V.non := fun h => by cases h
theorem bl_non {a : Bool} : ¬ V.bl a = V.non := fun h => by cases h
theorem cmulL {i j : Int} (h : (-18446744073709551616 < i ∧ i < 18446744073709551616)) : CMul i j := .inl (by have := h.1; have := h.2; omega)
theorem cmulR {i j : Int} (h : (-18446744073709551616 < j ∧ j < 18446744073709551616)) : CMul i j := .inr (by have := h.1; have := h.2; omega)
theorem cpow_small {i j : Int} (h : 0 ≤ j) (h1 : j ≤ 1000000) (h2 : i.natAbs < 2 ^ 64) : CPow i j := ⟨h, h1, h2⟩
theorem cpow2 {j : Int} (h : 0 ≤ j) (h1 : j ≤ 1000000) : CPow 1 j := ⟨h, h1, by decide⟩
theorem line_big {n : Nat} (h : n < 16777216) : n < sizeLine := by rw [sizeLine_eq]; exact h
section
variable {σ : L2.St} {H : Hp} {Q : VK} {v x y : V} {i j : Int} {n : Nat} {p : Addr} {xs : List V} {ns : List Int} {K : Frag} {te : TE} {to : TO}
theorem i_append (h : H p = some (.lst xs)) (l : xs.length < sizeLine) (q : Q .non (upd H p (.lst (xs ++ [v])))) : rAppend (.ref p) [v] H Q := ⟨p, xs, v, rfl, rfl, h, l, q⟩
theorem i_pop (h : H p = some (.lst xs)) (l : xs[xs.length - 1]? = some y) (q : Q y (upd H p (.lst xs.dropLast))) : rPop (.ref p) [] H Q := ⟨p, xs, y, rfl, rfl, h, l, q⟩
theorem i_bm {T : String} {r : V → List V → Hp → VK → Prop} {to : TE} {t : TA} (h : to σ H fun x H1 => tyV K T x H1 ∧ t σ H1 fun xs H2 => r x xs H2 Q) : tBM K T r to t σ H Q := h
theorem i_bm0 {T : String} {r : V → List V → Hp → VK → Prop} {to : TE} (h : to σ H fun x H1 => tyV K T x H1 ∧ r x [] H1 Q) : tBM0 K T r to σ H Q := h
theorem i_tyL {q : Prop} (h : H p = some (.lst xs)) (z : q) : tyV K "list" (.ref p) H ∧ q := ⟨.inl ⟨rfl, _, SqL.of h⟩, z⟩
theorem i_tyS {q : Prop} {x : Str} (z : q) : tyV K "str" (.str x) H ∧ q := ⟨rfl, z⟩
theorem i_tyI {q : Prop} (z : q) : tyV K "int" (.int i) H ∧ q := ⟨rfl, z⟩
theorem i_ixL (h : H p = some (.lst xs)) (a : atI xs i = some v) (q : Q v H) : rIxL K (.ref p) (.int i) H Q := ⟨p, xs, i, v, rfl, rfl, SqL.of h, a, q⟩
theorem i_ixLq (h : SqL K H p xs) (a : atI xs i = some v) (q : Q v H) : rIxL K (.ref p) (.int i) H Q := ⟨p, xs, i, v, rfl, rfl, h, a, q⟩
theorem i_ixT (h : H p = some (.tup xs)) (a : atI xs i = some v) (q : Q v H) : rIxT K (.ref p) (.int i) H Q := ⟨p, xs, i, v, rfl, rfl, SqT.of h, a, q⟩
theorem atI_in {α : Type} {xs : List α} {i : Int} (h0 : 0 ≤ i) (h1 : i < xs.length) (d : α) : atI xs i = some (xs.getD i.toNat d) := by
  obtain ⟨n, rfl⟩ : ∃ n : Nat, i = n := ⟨i.toNat, by omega⟩
  refine atI_nat ?_
  have hn : n < xs.length := by omega
  rw [show ((n : Int)).toNat = n from rfl, List.getD_eq_getElem?_getD, List.getElem?_eq_getElem hn]
  rfl
theorem i_ixN (h : H p = some (.lst (ns.map V.int))) (h0 : 0 ≤ i) (h1 : i < ns.length) (q : Q (.int (ns.getD i.toNat 0)) H) : rIxL K (.ref p) (.int i) H Q := by
  refine i_ixL h ?_ q
  rw [atI_in h0 (by rw [List.length_map]; exact h1) (V.int 0), List.getD_eq_getElem?_getD, List.getD_eq_getElem?_getD, List.getElem?_map]
  have hn : i.toNat < ns.length := by omega
  rw [List.getElem?_eq_getElem hn]
  rfl
theorem i_ixIn (ns : List Int) (h : H p = some (.lst xs)) (e : xs = ns.map V.int) (h0 : 0 ≤ i) (h1 : i < ns.length) (q : ∀ z ∈ ns, Q (.int z) H) : rIxL K (.ref p) (.int i) H Q := by
  subst e
  refine i_ixN h h0 h1 (q _ ?_)
  rw [List.getD_eq_getElem?_getD, List.getElem?_eq_getElem (by omega)]
  exact List.getElem_mem _
theorem i_len (h : H p = some (.lst xs)) (q : Q (.int xs.length) H) : rLen K [.ref p] H Q := ⟨_, _, rfl, .inl ⟨_, SqL.of h, rfl⟩, q⟩
theorem i_lenN (h : H p = some (.lst (ns.map V.int))) (q : Q (.int ns.length) H) : rLen K [.ref p] H Q := ⟨_, _, rfl, .inl ⟨_, SqL.of h, rfl⟩, by rw [List.length_map]; exact q⟩
theorem i_lenT (h : H p = some (.tup xs)) (q : Q (.int xs.length) H) : rLen K [.ref p] H Q := ⟨_, _, rfl, .inr ⟨_, SqT.of h, rfl⟩, q⟩
theorem i_lenS {z : Str} (h : z.length ≤ sizeLine) (q : Q (.int z.length) H) : rLen K [.str z] H Q := ⟨_, _, rfl, ⟨h, rfl⟩, q⟩
theorem i_lenQ (h : SqL K H p xs) (q : Q (.int xs.length) H) : rLen K [.ref p] H Q := ⟨_, _, rfl, .inl ⟨_, h, rfl⟩, q⟩
theorem i_sl {r : V → Option Int → Option Int → Hp → VK → Prop} {tl th : TO} (h : te σ H fun x H1 => tl σ H1 fun l H2 => th σ H2 fun u H3 => r x l u H3 Q) : tSl r te tl th σ H Q := h
theorem i_part {QO : Option Int → Hp → Prop} (h : te σ H fun x H1 => ∃ i, x = .int i ∧ QO (some i) H1) : tPart te σ H QO := h
theorem i_partI {P : Int → Prop} (h : P i) : ∃ k, V.int i = .int k ∧ P k := ⟨i, rfl, h⟩
theorem i_nopart {QO : Option Int → Hp → Prop} (h : QO none H) : tNoPart σ H QO := h
theorem i_slL {lo hi : Option Int} (h : H p = some (.lst xs)) (q : ∀ l, H l = none → Q (.ref l) (upd H l (.lst (cutV xs lo hi)))) : rSlL K (.ref p) lo hi H Q := ⟨p, xs, rfl, SqL.of h, q⟩
theorem i_kListL (h : H p = some (.lst xs)) (q : ∀ l, H l = none → Q (.ref l) (upd H l (.lst xs))) : kList K [.ref p] H Q := ⟨p, xs, rfl, .inl (SqL.of h), q⟩
theorem i_kListT (h : H p = some (.tup xs)) (q : ∀ l, H l = none → Q (.ref l) (upd H l (.lst xs))) : kList K [.ref p] H Q := ⟨p, xs, rfl, .inr (SqT.of h), q⟩
theorem i_setL {k : Nat} {QH : Hp → Prop} (h : H p = some (.lst xs)) (l : ixN xs.length i = some k) (q : QH (upd H p (.lst (xs.set k v)))) : rSetL (.ref p) (.int i) v H QH := ⟨p, xs, i, k, rfl, rfl, h, l, q⟩
theorem ixN_nat {n : Nat} {i : Int} (h0 : 0 ≤ i) (h1 : i < n) : ixN n i = some i.toNat := by unfold ixN; rw [if_pos h0, if_pos h1]
theorem i_all {bs : List Bool} (h : H p = some (.lst (bs.map V.bl))) (q : Q (.bl (bs.all id)) H) : rAll K [.ref p] H Q := ⟨p, bs, rfl, SqL.of h, q⟩
theorem i_isi {x c : V} {t u : Value} {b : Bool} (hc : ClsV c u) (ht : TyX K H x t) (e : PySem.W.kitOne K t u = some b) (q : Q (.bl b) H) : rIsi K [x, c] H Q := ⟨x, c, t, u, b, rfl, hc, ht, e, q⟩
end

theorem len_put {f : Str} {v : V} {fs : List (Str × V)} {n : Nat} (h : fs.length < n) : (putF f v fs).length < n + 1 := Nat.lt_of_le_of_lt (length_putF f v fs) (Nat.succ_lt_succ h)
/-! ### loops -/
def FB (J : It) (g : TG) (tb : TS) (nx : L2.St → Hp → Prop) (rt : VK) (σ : L2.St) (H : Hp) : Prop := ∃ W : Nat → Nat → L2.St → Hp → Prop, (∃ m, W 0 m σ H) ∧ ∀ i m σ H, W i m σ H →
  (J.stop i H ∧ nx σ H) ∨ (J.go i H ∧ ∃ N : L2.St → Hp → Prop, (∀ σ' H', N σ' H' → ∃ m', m' < m ∧ W (i + 1) m' σ' H') ∧ ∀ x H', J.yld i H x H' → g x σ H' fun σ2 H2 => tb ⟨N, rt, nx, N⟩ σ2 H2)
def LB (J : It) (g : TG) (tt : TT) (te : TE) (vs : List Nat) (σ : L2.St) (D : Addr) (H1 : Hp) (Qd : Hp → Prop) : Prop := ∃ W : Nat → Nat → Hp → Prop, (∃ m, W 0 m (upd H1 D (.lst []))) ∧ ∀ i m H, W i m H →
  (J.stop i H ∧ Qd H) ∨ (J.go i H ∧ ∃ Nx : Hp → Prop, (∀ H', Nx H' → ∃ m', m' < m ∧ W (i + 1) m' H') ∧ ∀ x H', J.yld i H x H' → g x (wipe σ vs) H' fun σ2 H2 => wipe σ2 vs = wipe σ vs ∧ tt σ2 H2 fun b H3 =>
    if b = true then te σ2 H3 fun y H4 => ∃ acc, H4 D = some (.lst acc) ∧ acc.length < sizeLine ∧ Nx (upd H4 D (.lst (acc ++ [y]))) else Nx H3)
section
variable {σ : L2.St} {H : Hp} {Q : VK} {K : Frag} {g : TG} {tb : TS} {tt : TT} {te : TE} {wi : TI} {nx bk ct : L2.St → Hp → Prop} {rt : VK} {vs : List Nat} {D : Addr} {Qd : Hp → Prop} {ta : TA}
theorem i_for (h : wi σ H fun J H1 => FB J g tb nx rt σ H1) : tFor wi g tb ⟨nx, rt, bk, ct⟩ σ H := h
theorem i_lc (h : wi σ H fun J H1 => ∀ D, H1 D = none → LB J g tt te vs σ D H1 fun H => Q (.ref D) H) : tLc wi g tt te vs σ H Q := h
theorem i_iRng1 {R : It → Hp → Prop} (h : ta σ H fun vs H1 => ∃ j : Int, vs = [.int j] ∧ -(2 ^ 62) ≤ j ∧ j < 2 ^ 62 ∧ R (Itr 0 j.toNat) H1) : iRng1 ta σ H R := h
theorem i_iRng2 {R : It → Hp → Prop} (h : ta σ H fun vs H1 => ∃ i j : Int, vs = [.int i, .int j] ∧ (-(2 ^ 62) ≤ i ∧ i < 2 ^ 62 ∧ -(2 ^ 62) ≤ j ∧ j < 2 ^ 62) ∧ R (Itr i (j - i).toNat) H1) : iRng2 ta σ H R := h
theorem i_rng1 {j : Int} {P : Int → Prop} (h1 : -(2 ^ 62) ≤ j) (h2 : j < 2 ^ 62) (q : P j) : ∃ j' : Int, [V.int j] = [.int j'] ∧ -(2 ^ 62) ≤ j' ∧ j' < 2 ^ 62 ∧ P j' := ⟨j, rfl, h1, h2, q⟩
theorem i_rng2 {i j : Int} {P : Int → Int → Prop} (h : -(2 ^ 62) ≤ i ∧ i < 2 ^ 62 ∧ -(2 ^ 62) ≤ j ∧ j < 2 ^ 62) (q : P i j) : ∃ i' j' : Int, [V.int i, V.int j] = [.int i', .int j'] ∧ (-(2 ^ 62) ≤ i' ∧ i' < 2 ^ 62 ∧ -(2 ^ 62) ≤ j' ∧ j' < 2 ^ 62) ∧ P i' j' := ⟨i, j, rfl, h, q⟩
theorem i_iList {R : It → Hp → Prop} (h : te σ H fun x H1 => ∃ a, x = .ref a ∧ (∃ xs, SqL K H1 a xs) ∧ R (Itl K a) H1) : iList K te σ H R := h
theorem i_iTup {R : It → Hp → Prop} (h : te σ H fun x H1 => ∃ a, x = .ref a ∧ (∃ xs, SqT K H1 a xs) ∧ R (Itt K a) H1) : iTup K te σ H R := h
theorem i_itL {P : Addr → Prop} {a : Addr} {xs : List V} (h : H a = some (.lst xs)) (q : P a) : ∃ a', V.ref a = .ref a' ∧ (∃ xs, SqL K H a' xs) ∧ P a' := ⟨a, rfl, ⟨xs, SqL.of h⟩, q⟩
theorem i_itT {P : Addr → Prop} {a : Addr} {xs : List V} (h : H a = some (.tup xs)) (q : P a) : ∃ a', V.ref a = .ref a' ∧ (∃ xs, SqT K H a' xs) ∧ P a' := ⟨a, rfl, ⟨xs, SqT.of h⟩, q⟩
theorem f_range {lo : Int} {n : Nat} (Pv : Nat → L2.St → Hp → Prop) (h0 : Pv 0 σ H) (hs : ∀ i σ H, i < n → Pv i σ H → g (.int (lo + i)) σ H fun σ2 H2 => tb ⟨Pv (i + 1), rt, nx, Pv (i + 1)⟩ σ2 H2) (hd : ∀ σ H, Pv n σ H → nx σ H) : FB (Itr lo n) g tb nx rt σ H :=
  for_range (D := ⟨nx, rt, nx, nx⟩) Pv h0 hs hd
theorem f_list {a : Addr} {xs : List V} (Pv : Nat → L2.St → Hp → Prop) (h0 : Pv 0 σ H) (hl : ∀ i σ H, i ≤ xs.length → Pv i σ H → SqL K H a xs) (hs : ∀ i x σ H, xs[i]? = some x → Pv i σ H → g x σ H fun σ2 H2 => tb ⟨Pv (i + 1), rt, nx, Pv (i + 1)⟩ σ2 H2)
    (hd : ∀ σ H, Pv xs.length σ H → nx σ H) : FB (Itl K a) g tb nx rt σ H := for_list (D := ⟨nx, rt, nx, nx⟩) Pv h0 hl hs hd
theorem f_tup {a : Addr} {xs : List V} (Pv : Nat → L2.St → Hp → Prop) (h0 : Pv 0 σ H) (hl : ∀ i σ H, i ≤ xs.length → Pv i σ H → SqT K H a xs) (hs : ∀ i x σ H, xs[i]? = some x → Pv i σ H → g x σ H fun σ2 H2 => tb ⟨Pv (i + 1), rt, nx, Pv (i + 1)⟩ σ2 H2)
    (hd : ∀ σ H, Pv xs.length σ H → nx σ H) : FB (Itt K a) g tb nx rt σ H := for_tup (D := ⟨nx, rt, nx, nx⟩) Pv h0 hl hs hd
/-- over a list of ints -/
theorem f_ints {a : Addr} {ns : List Int} (Pv : Nat → L2.St → Hp → Prop) (h0 : Pv 0 σ H) (hl : ∀ i σ H, i ≤ ns.length → Pv i σ H → SqL K H a (ns.map V.int)) (hs : ∀ i z σ H, ns[i]? = some z → Pv i σ H → g (.int z) σ H fun σ2 H2 => tb ⟨Pv (i + 1), rt, nx, Pv (i + 1)⟩ σ2 H2)
    (hd : ∀ σ H, Pv ns.length σ H → nx σ H) : FB (Itl K a) g tb nx rt σ H := by
  refine f_list (xs := ns.map V.int) Pv h0 (fun i σ H hi => hl i σ H (by rw [List.length_map] at hi; exact hi)) (fun i x σ H hx p => ?_) (fun σ H p => hd σ H (by rw [List.length_map] at p; exact p))
  rw [List.getElem?_map] at hx
  cases e : ns[i]? with
  | none => rw [e] at hx; cases hx
  | some z =>
    rw [e] at hx
    cases hx
    exact hs i z σ H e p
theorem l_range {lo : Int} {n : Nat} (Pv : Nat → Hp → Prop) (h0 : Pv 0 (upd H D (.lst []))) (hs : ∀ i H, i < n → Pv i H → g (.int (lo + i)) (wipe σ vs) H fun σ2 H2 => wipe σ2 vs = wipe σ vs ∧ tt σ2 H2 fun b H3 =>
      if b = true then te σ2 H3 fun y H4 => ∃ acc, H4 D = some (.lst acc) ∧ acc.length < sizeLine ∧ Pv (i + 1) (upd H4 D (.lst (acc ++ [y]))) else Pv (i + 1) H3) (hd : ∀ H, Pv n H → Qd H) : LB (Itr lo n) g tt te vs σ D H Qd := lc_range Pv h0 hs hd
theorem l_list {a : Addr} {xs : List V} (Pv : Nat → Hp → Prop) (h0 : Pv 0 (upd H D (.lst []))) (hl : ∀ i H, i ≤ xs.length → Pv i H → SqL K H a xs) (hs : ∀ i x H, xs[i]? = some x → Pv i H → g x (wipe σ vs) H fun σ2 H2 => wipe σ2 vs = wipe σ vs ∧ tt σ2 H2 fun b H3 =>
      if b = true then te σ2 H3 fun y H4 => ∃ acc, H4 D = some (.lst acc) ∧ acc.length < sizeLine ∧ Pv (i + 1) (upd H4 D (.lst (acc ++ [y]))) else Pv (i + 1) H3) (hd : ∀ H, Pv xs.length H → Qd H) : LB (Itl K a) g tt te vs σ D H Qd := lc_list Pv h0 hl hs hd
theorem i_wq {a b : L2.St} {q : Prop} (h : a = b) (z : q) : a = b ∧ q := ⟨h, z⟩
theorem i_yes {Q : Bool → Hp → Prop} (q : Q true H) : tYes σ H Q := q
theorem i_acc {acc : List V} {R : Hp → Prop} {y : V} (h : H D = some (.lst acc)) (l : acc.length < sizeLine) (q : R (upd H D (.lst (acc ++ [y])))) : ∃ acc, H D = some (.lst acc) ∧ acc.length < sizeLine ∧ R (upd H D (.lst (acc ++ [y]))) := ⟨acc, h, l, q⟩
end

/-! ### suites -/
section
variable {σ : L2.St} {H : Hp} {Q : VK} {K : Frag} {C a : Addr} {i : Nat} {tb : WX → TS} {ts : Addr → Value → Option Addr → TS} {W : WX} {D : Ends} {cls : Value} {d : Option Addr} {te : TE} {f : Str} {v : V} {fs : List (Str × V)}
theorem i_tryAs (h : tb (wAs K (.ref C) i ts W D) D σ H) : tTryAs K C i tb ts W D σ H := h
theorem i_tryOnly (h : tb (wOnly K (.ref C) ts W D) D σ H) : tTryOnly K C tb ts W D σ H := h
theorem w_as {nx bk ct : L2.St → Hp → Prop} {rt : VK} (e : PySem.W.exmOne K cls (.ref C) = some true) (h : ∀ a, H a = none → ts a cls d ⟨fun σ' H' => nx (σ'.set i none) H', rt, fun σ' H' => bk (σ'.set i none) H', fun σ' H' => ct (σ'.set i none) H'⟩ (σ.set i (some (.ref a))) H) : wAs K (.ref C) i ts W ⟨nx, rt, bk, ct⟩ cls d σ H :=
  ⟨true, e, fun _ a ha => h a ha, (fun z => Bool.noConfusion z)⟩
theorem w_asNo (e : PySem.W.exmOne K cls (.ref C) = some false) (h : W cls d σ H) : wAs K (.ref C) i ts W D cls d σ H := ⟨false, e, (fun z => Bool.noConfusion z), fun _ => h⟩
theorem w_only (e : PySem.W.exmOne K cls (.ref C) = some true) (h : ∀ a, H a = none → ts a cls d D σ H) : wOnly K (.ref C) ts W D cls d σ H := ⟨true, e, fun _ a ha => h a ha, (fun z => Bool.noConfusion z)⟩
theorem w_onlyNo (e : PySem.W.exmOne K cls (.ref C) = some false) (h : W cls d σ H) : wOnly K (.ref C) ts W D cls d σ H := ⟨false, e, (fun z => Bool.noConfusion z), fun _ => h⟩
def rXf (a : Addr) (cls : Value) (d : Option Addr) (C : Addr) (f : Str) : V → Hp → VK → Prop := fun x H1 Q => x = .ref a ∧ cls = .ref C ∧ ∃ (dd : Addr) (fs : List (Str × V)) (v : V), d = some dd ∧ H1 dd = some (.xd fs) ∧ fs.lookup f = some v ∧ Q v H1
theorem i_xf (h : te σ H fun x H1 => rXf a cls d C f x H1 Q) : tXf a cls d C f te σ H Q := h
theorem r_xf {dd : Addr} (h : H dd = some (.xd fs)) (l : fs.lookup f = some v) (q : Q v H) : rXf a (.ref C) (some dd) C f (.ref a) H Q := ⟨rfl, rfl, dd, fs, v, rfl, h, l, q⟩
theorem i_isX {c : V} {cv : Value} {b : Bool} {dd : Addr} (h : H dd = some (.xd fs)) (hc : ClsV c cv) (e : PySem.W.kitOne K (.ref C) cv = some b) (q : Q (.bl b) H) : rIsX K C a (.ref C) (some dd) [.ref a, c] H Q :=
  ⟨c, cv, b, rfl, rfl, fun _ e => by cases e; exact ⟨fs, h⟩, hc, e, q⟩
end

/-! ### the law's own def: nothing leaves it -/
def FnLaw (P : Program) (w : World) (K : Frag) (mg : Str → Option Value) (k : Nat) (f : Addr) (x : Str) (sp : Sp) : Prop :=
  ∃ fd : FuncData, (∀ (s : Shared) (v : Value), BindsTo s fd ⟨[v], []⟩ [(x, v)]) ∧ ∀ base : Heap, FnOk P w K mg base CX0 k f fd [x] sp
theorem law_ok {P : Program} {w : World} {K : Frag} {mg : Str → Option Value} {d : He.DefD} {N : List Str} {x : Str} {k : Nat} {sp : Sp} {tt : XK → TS} (F : ∃ fd, FunD K d.name d.qual d.params d.body d.scope (d.dvs K) (d.kws K) (He.fAd K d.at_) fd)
    (hd : d.dfl = [] := by rfl) (S : FnScope N [x] d.scope) (ar : Ar 1 sp)
    (hb : ∀ (kV doc pm : Value) (an : Option Addr) (cdv ct : Value) (us : List Value), us.length = ([x] : List Str).length → bindArgs (PySem.W.fnOf d.name d.qual d.params d.body d.scope .none kV doc pm an cdv ct) ⟨us, []⟩ = pure (([x] : List Str).zip us))
    (pure_ : ∀ vs H Q E, sp vs H Q E → tt E (ends Q) (start N vs) H)
    (walk : ∀ (base : Heap) (cdv : Value) (A : Around) (outer : List Env) (s : Shared) (H : Hp) (E : XK), Room k (A.deeper (envOfC d.qual d.scope s.heap.objs.size (He.fAd K d.at_) cdv)) →
      PSs (cxOf CX0 P w K mg base N d.qual d.scope (He.fAd K d.at_) cdv A outer s H E).nox d.body (tt E)) : FnLaw P w K mg (k + 1) (He.fAd K d.at_) x sp := by
  obtain ⟨fd, F⟩ := F
  have e0 : d.dvs K = [] := by unfold He.DefD.dvs; rw [hd]; rfl
  rw [e0] at F
  exact ⟨fd, fun s v => F.bindsA hb s [v] rfl, fun base => F.ok S (fun vs H Q E h => ar vs H Q E h) fun cdv A outer s H vs Q E hr h => ⟨_, (walk base cdv A outer s H E hr).nox, pure_ vs H Q E h⟩⟩
end PB

set_option maxHeartbeats 8000000
set_option autoImplicit false
local macro_rules | `(tactic| walk_at "ne") => `(tactic| first
  | assumption
  | (refine Ne.symm ?_; assumption)
  | (refine L2.ne_of_none ?_ (by assumption); walk_at "look")
  | (refine Ne.symm (L2.ne_of_none ?_ (by assumption)); walk_at "look"))
local macro_rules | `(tactic| walk_at "look") => `(tactic| first
  | assumption
  | exact L2.upd_same
  | (refine Eq.trans (L2.upd_ne ?_) ?_; (walk_at "ne"); (walk_at "look"))
  | (refine PB.same_at (by assumption) ?_; walk_at "look"))
local macro_rules | `(tactic| walk_at "s") => `(tactic| first
  | ((with_reducible refine' PB.i_var ?h1 ?_); (case h1 => exact rfl))
  | with_reducible refine PB.i_c ?_
  | with_reducible refine PB.i_op ?_
  | with_reducible refine PB.i_rI0 ?_
  | with_reducible refine PB.i_cons ?_
  | with_reducible refine PB.i_nil ?_
  | with_reducible refine PB.i_seq ?_
  | with_reducible refine PB.i_asg ?_
  | with_reducible refine PB.i_name ?_
  | with_reducible refine PB.i_ifS ?_
  | with_reducible refine PB.i_test ?_
  | with_reducible refine PB.i_bl ?_
  | with_reducible refine PB.i_next ?_
  | with_reducible refine PB.i_ret ?_
  | with_reducible refine PB.i_retN ?_
  | with_reducible refine PB.i_cb ?_
  | with_reducible refine PB.i_callS ?_
  | with_reducible refine PB.i_eqI ?_
  | with_reducible refine PB.i_neI ?_
  | with_reducible refine PB.i_eqS ?_
  | with_reducible refine PB.i_neS ?_
  | with_reducible refine PB.i_isN ?_
  | with_reducible refine PB.i_isntN ?_
  | with_reducible refine PB.i_tB ?_
  | with_reducible refine PB.i_not ?_
  | with_reducible refine PB.i_and ?_
  | with_reducible refine PB.i_or ?_
  | with_reducible refine PB.i_iteT ?_
  | with_reducible refine PB.i_iteF ?_
  | with_reducible refine PB.i_iteNF ?_
  | with_reducible refine PB.i_iteNT ?_
  | ((with_reducible refine' PB.i_iteDt ?h1 ?_); (case h1 => first | decide | assumption | omega))
  | ((with_reducible refine' PB.i_iteDf ?h1 ?_); (case h1 => first | decide | assumption | omega | exact PB.ref_non | exact PB.int_non | exact PB.str_non | exact PB.bl_non))
  | ((with_reducible refine' PB.i_iteNt ?h1 ?_); (case h1 => first | decide | assumption | omega | exact PB.ref_non | exact PB.int_non | exact PB.str_non | exact PB.bl_non))
  | ((with_reducible refine' PB.i_iteNf ?h1 ?_); (case h1 => first | decide | assumption | omega))
  | with_reducible refine PB.i_chain ?_
  | with_reducible refine PB.i_un ?_
  | with_reducible refine PB.i_rU ?_
  | with_reducible refine PB.i_andV ?_
  | with_reducible refine PB.i_orV ?_
  | with_reducible refine PB.i_notV ?_
  | with_reducible refine PB.i_if ?_
  | with_reducible refine PB.i_drop ?_
  | with_reducible refine PB.i_break ?_
  | with_reducible refine PB.i_cont ?_
  | with_reducible refine PB.i_sub ?_
  | with_reducible refine PB.i_F ?_
  | with_reducible refine PB.i_sF ?_
  | with_reducible refine PB.i_me ?_
  | with_reducible refine PB.i_mk ?_
  | with_reducible refine PB.i_lst ?_
  | with_reducible refine PB.i_tup ?_
  | with_reducible refine PB.i_abs ?_
  | with_reducible refine PB.i_max ?_
  | with_reducible refine PB.i_min ?_
  | with_reducible refine PB.i_int ?_
  | with_reducible refine PB.i_intB ?_
  | with_reducible refine PB.i_bm ?_
  | with_reducible refine PB.i_bm0 ?_
  | with_reducible refine PB.i_sl ?_
  | with_reducible refine PB.i_part ?_
  | with_reducible refine PB.i_nopart ?_
  | ((with_reducible refine' PB.i_rI ?h1 ?_); (case h1 => (first | assumption | exact PB.cmulL (by decide) | exact PB.cmulR (by decide) | exact PB.cmulL (by omega) | exact PB.cmulR (by omega) | (show (0 : Int) < _; first | decide | omega) | (exact ⟨by omega, by omega⟩) | (exact PB.cpow_small (by decide) (by decide) (by decide)) | (exact PB.cpow2 (by omega) (by omega)))))
  | ((with_reducible refine' PB.i_new ?h1 ?_); (case h1 => exact rfl))
  | ((with_reducible refine' PB.i_tyL ?h1 ?_); (case h1 => (walk_at "look")))
  | with_reducible refine PB.i_tyS ?_
  | with_reducible refine PB.i_tyI ?_
  | ((with_reducible refine' PB.i_append ?h1 ?h2 ?_); (case h1 => (walk_at "look")); (try (case h2 => (refine PB.line_big ?_; simp only [List.length_map, List.length_append, List.length_cons, List.length_nil]; omega))))
  | ((with_reducible refine' PB.i_lenN ?h1 ?_); (case h1 => (walk_at "look")))
  | with_reducible refine PB.i_partI ?_
  | with_reducible refine PB.i_for ?_
  | with_reducible refine PB.i_tryAs ?_
  | with_reducible refine PB.i_tryOnly ?_
  | with_reducible refine PB.i_xf ?_
  | ((with_reducible refine' PB.i_rng1 ?h1 ?h2 ?_); (case h1 => omega); (case h2 => omega))
  | ((with_reducible refine' PB.i_rng2 ?h1 ?_); (case h1 => omega))
  | ((with_reducible refine' PB.i_wq ?h1 ?_); (case h1 => exact rfl))
  | with_reducible refine PB.i_yes ?_
  | with_reducible refine PB.i_iRng1 ?_
  | with_reducible refine PB.i_iRng2 ?_
  | with_reducible refine PB.i_iList ?_
  | with_reducible refine PB.i_iTup ?_
  | ((with_reducible refine' PB.i_itL ?h1 ?_); (case h1 => (walk_at "look")))
  | ((with_reducible refine' PB.i_itT ?h1 ?_); (case h1 => (walk_at "look")))
  | ((with_reducible refine' PB.i_slL ?h1 ?_); (case h1 => (walk_at "look")))
  | ((with_reducible refine' PB.i_kListL ?h1 ?_); (case h1 => (walk_at "look")))
  | ((with_reducible refine' PB.i_kListT ?h1 ?_); (case h1 => (walk_at "look")))
  | ((with_reducible refine' PB.i_ixL ?h1 ?h2 ?_); (case h1 => (walk_at "look")); (case h2 => exact rfl))
  | ((with_reducible refine' PB.i_ixN ?h1 ?h2 ?h3 ?_); (case h1 => (walk_at "look")); (case h2 => (first | decide | omega)); (case h3 => (first | decide | omega)))
  | ((with_reducible refine' PB.i_len ?h1 ?_); (case h1 => (walk_at "look")))
  | ((with_reducible refine' PB.i_lenT ?h1 ?_); (case h1 => (walk_at "look")))
  | ((with_reducible refine' PB.i_fld ?h1 ?h2 ?_); (case h1 => (walk_at "look")); (case h2 => (first | assumption | exact rfl)))
  | ((with_reducible refine' PB.i_put ?h1 ?h2 ?_); (case h1 => (walk_at "look")); (case h2 => ((repeat (refine PB.len_put ?_)); first | assumption | decide)))
  | ((with_reducible refine' PB.i_setL ?h1 ?h2 ?_); (case h1 => (walk_at "look")); (case h2 => exact rfl))
  | ((with_reducible refine' PB.i_meth ?h1 ?h2 ?_); (case h1 => (walk_at "look")); (case h2 => (first | assumption | exact rfl))))
local macro_rules | `(tactic| walk_at "go") => `(tactic| first | ((walk_at "s") <;> (walk_at "go")) | skip)
local macro_rules | `(tactic| walk_at "split") => `(tactic| first | (with_reducible refine PB.i_iteD (fun _ => ?_) fun _ => ?_) | (with_reducible refine PB.i_iteN (fun _ => ?_) fun _ => ?_) | (with_reducible refine PB.i_iteB (fun _ => ?_) fun _ => ?_))
local macro_rules | `(tactic| walk_at "gos") => `(tactic| first | ((walk_at "s") <;> (walk_at "gos")) | ((walk_at "split") <;> (walk_at "gos")) | skip)
local macro_rules | `(tactic| walk_at "ifs") => `(tactic| repeat (first | rw [if_pos (by omega)] | rw [if_neg (by omega)]))
namespace PB
open PySem PySem.Spec PyProof.Rows L2
def sp__law_mixed (K : Frag) : Sp := fun vs H Q _ => ∃ n k l : Int, vs = [.int n, .int k, .int l] ∧ 0 < l ∧ ∀ i, 0 ≤ i → i < l → Q (.int i) H
abbrev N__law_mixed : List Str := ["_law_number", "_law_k", "_law_limit", "_law_one", "_law_two"]
def t__law_mixed (K : Frag) (E : XK) : TS :=
  tSeq (tAsg (tOp bMod (tCB kInt (tCons (tOp bMul (tOp bAdd (tOp bAdd (tVar 0) (tOp bMul (tC (.int 7)) (tVar 1))) (tC (.int 1))) (tC (.int 48271))) (tNil))) (tC (.int 2147483647))) (gName 3)) (tSeq (tAsg (tOp bMod (tCB kInt (tCons (tOp bAdd (tOp bMul (tVar 3) (tVar 3)) (tOp bMul (tC (.int 69621)) (tVar 1))) (tNil))) (tC (.int 2147483399))) (gName 4)) (tRet (tOp bMod (tOp bMod (tCB kInt (tCons (tOp bAdd (tOp bMul (tVar 4) (tC (.int 40692))) (tVar 3)) (tNil))) (tC (.int 1000000007))) (tVar 2))))

theorem ar__law_mixed {K : Frag} : Ar 3 (sp__law_mixed K) := fun _ _ _ _ ⟨_, _, _, e, _⟩ => by rw [e]; rfl
theorem pure__law_mixed (K : Frag) (vs : List V) (H : Hp) (Q : VK) (E : XK) (h : sp__law_mixed K vs H Q E) : t__law_mixed K E (ends Q) (start N__law_mixed vs) H := by
  obtain ⟨n, k, l, rfl, hl, q⟩ := h
  unfold t__law_mixed
  walk_at "go"
  exact q _ (Int.emod_nonneg _ (by omega)) (Int.emod_lt_of_pos _ hl)

def sp__law_numbers (K : Frag) : Sp := fun vs H Q _ => ∃ c n l : Int, vs = [.int c, .int n, .int l] ∧ 0 ≤ n ∧ n ≤ 1000000 ∧ 0 < l ∧ l < 1073741824 ∧
  ∀ H' p (ns : List Int), Same H H' → H p = none → H' p = some (.lst (ns.map V.int)) → (ns.length : Int) = n → (∀ x ∈ ns, 0 ≤ x ∧ x < l) → Q (.ref p) H'
abbrev N__law_numbers : List Str := ["_law_cell_here", "_law_count", "_law_limit", "_law_rest", "_law_large", "_law_numbers_here", "_law_k"]
def t__law_numbers (K : Frag) (E : XK) : TS :=
  tSeq (tAsg (tCB kAbs (tCons (tVar 0) (tNil))) (gName 3)) (tSeq (tAsg (tOp cGe (tVar 3) (tOp bPow (tC (.int 10)) (tC (.int 18)))) (gName 4)) (tSeq (tAsg (tLst (tNil)) (gName 5)) (tSeq (tFor (iRng1 (tCons (tVar 1) (tNil))) (gName 6) (tIfS (tAnd (tB (tVar 4)) (tTest (tOp cGt (tVar 3) (tC (.int 0))))) (tSeq (tDrop (tBM K "list" rAppend (tVar 5) (tCons (tOp bMod (tCB kInt (tCons (tVar 3) (tNil))) (tVar 2)) (tNil)))) (tAsg (tOp bDiv (tVar 3) (tVar 2)) (gName 3))) (tDrop (tBM K "list" rAppend (tVar 5) (tCons (tCallS (sp__law_mixed K) EF (tCons (tCB kAbs (tCons (tVar 0) (tNil))) (tCons (tVar 6) (tCons (tVar 2) (tNil))))) (tNil)))))) (tRet (tVar 5)))))

theorem ar__law_numbers {K : Frag} : Ar 3 (sp__law_numbers K) := fun _ _ _ _ ⟨_, _, _, e, _⟩ => by rw [e]; rfl
theorem pure__law_numbers (K : Frag) (vs : List V) (H : Hp) (Q : VK) (E : XK) (h : sp__law_numbers K vs H Q E) : t__law_numbers K E (ends Q) (start N__law_numbers vs) H := by
  obtain ⟨c, n, l, rfl, h0, hn, hl, hl2, q⟩ := h
  unfold t__law_numbers
  walk_at "go"
  intro p hp
  walk_at "go"
  refine f_range (fun i σ H' => ∃ (r : Int) (b : Bool) (ns : List Int) (v : Option V), σ = [some (.int c), some (.int n), some (.int l), some (.int r), some (.bl b), some (.ref p), v] ∧ Same H H' ∧ H' p = some (.lst (ns.map V.int)) ∧ ns.length = i ∧ ∀ x ∈ ns, 0 ≤ x ∧ x < l)
    ⟨_, _, [], none, rfl, same_upd hp, upd_same, rfl, by simp⟩ ?_ ?_
  · rintro i σ H1 hi ⟨r, b, ns, v, rfl, hS, hP, hL, hA⟩
    have hil : (i : Int) < n := by omega
    walk_at "gos"
    · refine ⟨_, _, ns ++ [r % l], _, rfl, same_mut hS hp, by rw [upd_same, List.map_append]; rfl, by simp [hL], fun x hx => ?_⟩
      rcases List.mem_append.mp hx with hx | hx
      · exact hA x hx
      · rw [List.mem_singleton.mp hx]; exact ⟨Int.emod_nonneg _ (by omega), Int.emod_lt_of_pos _ hl⟩
    all_goals
      refine ⟨_, _, _, rfl, hl, fun x x0 x1 => ?_⟩
      walk_at "go"
      refine ⟨_, _, ns ++ [x], _, rfl, same_mut hS hp, by rw [upd_same, List.map_append]; rfl, by simp [hL], fun y hy => ?_⟩
      rcases List.mem_append.mp hy with hy | hy
      · exact hA y hy
      · rw [List.mem_singleton.mp hy]; exact ⟨x0, x1⟩
  · rintro σ H1 ⟨r, b, ns, v, rfl, hS, hP, hL, hA⟩
    walk_at "go"
    exact q H1 p ns hS hp hP (by omega) hA

/-! lists of lists of ints -/
structure Rows (H : Hp) (p : Addr) (ads : List Addr) (rows : List (List Int)) : Prop where
  top : H p = some (.lst (ads.map V.ref))
  len : ads.length = rows.length
  nd : (p :: ads).Nodup
  row : ∀ (i : Nat) (a : Addr) (r : List Int), ads[i]? = some a → rows[i]? = some r → H a = some (.lst (r.map V.int))
theorem Rows.same {H H' : Hp} {p : Addr} {ads : List Addr} {rows : List (List Int)} (R : Rows H p ads rows) (s : Same H H') : Rows H' p ads rows :=
  ⟨s _ _ R.top, R.len, R.nd, fun i a r h1 h2 => s _ _ (R.row i a r h1 h2)⟩
theorem Rows.at {H : Hp} {p : Addr} {ads : List Addr} {rows : List (List Int)} (R : Rows H p ads rows) {i : Nat} (h : i < rows.length) : ∃ a, ads[i]? = some a ∧ H a = some (.lst ((rows.getD i []).map V.int)) := by
  have ha : i < ads.length := by rw [R.len]; exact h
  refine ⟨ads[i], List.getElem?_eq_getElem ha, ?_⟩
  refine R.row i _ _ (List.getElem?_eq_getElem ha) ?_
  rw [List.getD_eq_getElem?_getD, List.getElem?_eq_getElem h]; rfl
theorem Rows.has {H : Hp} {p : Addr} {ads : List Addr} {rows : List (List Int)} (R : Rows H p ads rows) {a : Addr} (h : a ∈ ads) : ∃ r : List Int, H a = some (.lst (r.map V.int)) := by
  obtain ⟨i, hi, rfl⟩ := List.mem_iff_getElem.mp h
  have hr : i < rows.length := by rw [← R.len]; exact hi
  exact ⟨rows[i], R.row i _ _ (List.getElem?_eq_getElem hi) (List.getElem?_eq_getElem hr)⟩
theorem Rows.push {G : Hp} {p a : Addr} {ads : List Addr} {rows : List (List Int)} {r : List Int} (R : Rows G p ads rows) (ha : G a = none) :
    Rows (upd (upd G a (.lst (r.map V.int))) p (.lst ((ads ++ [a]).map V.ref))) p (ads ++ [a]) (rows ++ [r]) := by
  have hp : p ≠ a := ne_of_none R.top ha
  have hm : a ∉ ads := fun h => by obtain ⟨r, e⟩ := R.has h; rw [ha] at e; cases e
  obtain ⟨hpn, hnd⟩ := List.nodup_cons.mp R.nd
  refine ⟨upd_same, by simp [R.len], ?_, fun i b q h1 h2 => ?_⟩
  · refine List.nodup_cons.mpr ⟨?_, ?_⟩
    · simp only [List.mem_append, List.mem_singleton, not_or]; exact ⟨hpn, hp⟩
    · rw [List.nodup_append]
      refine ⟨hnd, by simp, ?_⟩
      intro x hx y hy
      rw [List.mem_singleton.mp hy]
      intro e; exact hm (e ▸ hx)
  · by_cases hi : i < ads.length
    · rw [List.getElem?_append_left hi] at h1
      rw [List.getElem?_append_left (by rw [← R.len]; exact hi)] at h2
      have z := R.row i b q h1 h2
      have hb : b ∈ ads := List.mem_of_getElem? h1
      have b1 : b ≠ p := fun e => hpn (e ▸ hb)
      have b2 : b ≠ a := fun e => hm (e ▸ hb)
      rw [upd_ne b1, upd_ne b2]; exact z
    · have hi2 : i = ads.length := by
        have := (List.getElem?_eq_some_iff.mp h1).1
        simp at this; omega
      subst hi2
      rw [List.getElem?_append_right (Nat.le_refl _)] at h1
      rw [R.len, List.getElem?_append_right (Nat.le_refl _)] at h2
      simp at h1 h2
      subst h1 h2
      rw [upd_ne (Ne.symm hp), upd_same]
theorem Rows.nil {G : Hp} {p : Addr} : Rows (upd G p (.lst [])) p [] [] := ⟨upd_same, rfl, by simp, fun i a r h => by simp at h⟩
theorem dif_upd {H0 H : Hp} {a : Addr} {o : HO} (h : H0 a = none) : dif H0 (upd H a o) = upd (dif H0 H) a o := by
  funext b
  by_cases e : b = a
  · rw [e, upd_same, dif_at h, upd_same]
  · unfold dif
    rw [upd_ne e, upd_ne e]
theorem Rows.fresh {H H' : Hp} {p : Addr} {ads : List Addr} {rows : List (List Int)} (R : Rows (dif H H') p ads rows) : H p = none ∧ ∀ a ∈ ads, H a = none :=
  ⟨dif_new R.top, fun a h => by obtain ⟨r, e⟩ := R.has h; exact dif_new e⟩
/-- a new row at the end of a list that is being made: at the turn of a comprehension or by append -/
theorem Rows.more {H0 H : Hp} {p a : Addr} {ads : List Addr} {rows : List (List Int)} {r : List Int} (R : Rows (dif H0 H) p ads rows) (s : Same H0 H) (ha : H a = none) :
    Rows (dif H0 (upd (upd H a (.lst (r.map V.int))) p (.lst (ads.map V.ref ++ [V.ref a])))) p (ads ++ [a]) (rows ++ [r]) := by
  have z := R.push (r := r) (a := a) (by rw [dif_at (s.free ha)]; exact ha)
  rw [List.map_append] at z
  rw [dif_upd (dif_new R.top), dif_upd (s.free ha)]
  exact z
theorem Rows.len_lt {G : Hp} {p : Addr} {ads : List Addr} {rows : List (List Int)} (R : Rows G p ads rows) {n : Nat} (h : rows.length < n) (hn : n ≤ 16777216) : (ads.map V.ref).length < sizeLine := by
  rw [List.length_map, R.len]; exact line_big (by omega)
theorem cutV_nat {xs : List V} {a b : Int} (h0 : 0 ≤ a) (h1 : a ≤ b) (h2 : b ≤ xs.length) : cutV xs (some a) (some b) = (xs.drop a.toNat).take (b - a).toNat := by
  obtain ⟨x, rfl⟩ : ∃ n : Nat, a = n := ⟨a.toNat, by omega⟩
  obtain ⟨y, rfl⟩ : ∃ n : Nat, b = n := ⟨b.toNat, by omega⟩
  unfold cutV
  rw [HT.sIx_nat, HT.sIx_nat, Nat.min_eq_left (by omega), Nat.min_eq_left (by omega)]
  congr 1
  omega
/-- [list(row) for row in p] -/
theorem rows_copy {K : Frag} {te : TE} {i : Nat} {σ : L2.St} {H G : Hp} {p : Addr} {ads : List Addr} {rows : List (List Int)} {Q : VK} (R : Rows G p ads rows) (s : Same G H) (hs : rows.length < 1000000) (hte : ∀ {Q : VK}, Q (.ref p) H → te σ H Q) (hi : i < σ.length)
    (hw : ∀ v, wipe ((wipe σ [i]).set i v) [i] = wipe σ [i]) (q : ∀ H' D ds, Same H H' → Rows (dif H H') D ds rows → Q (.ref D) H') : tLc (iList K te) (gName i) tYes (tCB (kList K) (tCons (tVar i) tNil)) [i] σ H Q := by
  refine i_lc (i_iList (hte (i_itL (s _ _ R.top) fun D hD => ?_)))
  refine l_list (xs := ads.map V.ref) (fun k H' => ∃ ds, Same H H' ∧ Rows (dif H H') D ds (rows.take k)) ⟨[], same_upd hD, ?_⟩ (fun k H' _ ⟨ds, s', _⟩ => SqL.of (s' _ _ (s _ _ R.top))) ?_ ?_
  · rw [dif_upd hD]; exact Rows.nil
  · rintro k x H' hx ⟨ds, s', R'⟩
    rw [List.getElem?_map] at hx
    cases e : ads[k]? with
    | none => rw [e] at hx; cases hx
    | some a =>
      rw [e] at hx
      cases hx
      have hk : k < rows.length := by rw [← R.len]; exact (List.getElem?_eq_some_iff.mp e).1
      have hrow := R.row k a rows[k] e (List.getElem?_eq_getElem hk)
      refine i_name ⟨hw _, i_yes (i_iteT (i_cb (i_cons (i_var (v := .ref a) ?_ (i_nil (i_kListL (s' _ _ (s _ _ hrow)) fun l hl => ?_))))))⟩
      · have : i < (wipe σ [i]).length := by rw [wipe_length]; exact hi
        rw [List.getElem?_set_self this]
      · have R2 := R'.more (r := rows[k]) s' hl
        have hne : D ≠ l := ne_of_none (dif_same _ _ R'.top) hl
        refine ⟨ds.map V.ref, by rw [upd_ne hne]; exact dif_same _ _ R'.top, R'.len_lt (n := 1000001) (by rw [List.length_take]; omega) (by omega), ds ++ [l], ?_, ?_⟩
        · exact same_mut (same_new s' hl) (dif_new R'.top)
        · rw [show rows.take (k + 1) = rows.take k ++ [rows[k]] from (List.take_append_getElem hk).symm]
          exact R2
  · rintro H' ⟨ds, s', R'⟩
    rw [List.length_map, R.len, List.take_length] at R'
    exact q H' D ds s' R'
theorem atI_map_ref {ads : List Addr} {b : Addr} {i : Int} (h0 : 0 ≤ i) (h : ads[i.toNat]? = some b) : atI (ads.map V.ref) i = some (.ref b) := by
  obtain ⟨n, rfl⟩ : ∃ n : Nat, i = n := ⟨i.toNat, by omega⟩
  refine atI_nat ?_
  rw [List.getElem?_map, show ads[n]? = some b from h]; rfl
theorem Rows.setRow {G : Hp} {p b : Addr} {ads : List Addr} {rows : List (List Int)} {m : Nat} {r' : List Int} (R : Rows G p ads rows) (hb : ads[m]? = some b) : Rows (upd G b (.lst (r'.map V.int))) p ads (rows.set m r') := by
  obtain ⟨hpn, hnd⟩ := List.nodup_cons.mp R.nd
  have hbm := List.mem_of_getElem? hb
  have hpb : p ≠ b := fun e => hpn (e ▸ hbm)
  refine ⟨by rw [upd_ne hpb]; exact R.top, by rw [List.length_set]; exact R.len, R.nd, fun i a r h1 h2 => ?_⟩
  by_cases hi : i = m
  · subst hi
    have e := Option.some.inj (hb.symm.trans h1)
    subst e
    have hl : i < rows.length := by rw [← R.len]; exact (List.getElem?_eq_some_iff.mp h1).1
    rw [List.getElem?_set_self hl] at h2
    cases h2
    exact upd_same
  · have hab : a ≠ b := fun e => hi (nd_ix hnd (e ▸ h1) hb)
    rw [List.getElem?_set_ne (Ne.symm hi)] at h2
    rw [upd_ne hab]
    exact R.row i a r h1 h2
theorem Rows.popRow {G : Hp} {p : Addr} {ads : List Addr} {rows : List (List Int)} (R : Rows G p ads rows) : Rows (upd G p (.lst (ads.dropLast.map V.ref))) p ads.dropLast rows.dropLast := by
  obtain ⟨hpn, hnd⟩ := List.nodup_cons.mp R.nd
  refine ⟨upd_same, by rw [List.length_dropLast, List.length_dropLast, R.len], List.nodup_cons.mpr ⟨fun h => hpn (List.dropLast_subset _ h), hnd.sublist (List.dropLast_sublist _)⟩, fun i a r h1 h2 => ?_⟩
  rw [List.dropLast_eq_take, List.getElem?_take] at h1 h2
  split at h1
  · rw [if_pos (by rw [← R.len]; assumption)] at h2
    have ha : a ≠ p := fun e => hpn (e ▸ List.mem_of_getElem? h1)
    rw [upd_ne ha]
    exact R.row i a r h1 h2
  · cases h1

/-! pictures -/
structure Sz (m w h d c t : Int) : Prop where
  w1 : 1 ≤ w
  w2 : w ≤ m
  h1 : 1 ≤ h
  h2 : h ≤ m
  d1 : 1 ≤ d
  d2 : d ≤ 8
  ch : c = 1 ∨ c = 3
  t1 : 1 ≤ t
  t2 : t ≤ 16
  sz : w * h * c ≤ 3072
structure Pic where
  w : Int
  h : Int
  d : Int
  c : Int
  rows : List (List Int)
def fsPic (w h d c : Int) (q : Addr) : List (Str × V) := putF "_rows" (.ref q) (putF "channels" (.int c) (putF "depth" (.int d) (putF "height" (.int h) (putF "width" (.int w) []))))
section
variable {w h d c : Int} {q : Addr}
theorem fsPic_width : (fsPic w h d c q).lookup ("width" : Str) = some (.int w) := by kernel_rfl
theorem fsPic_height : (fsPic w h d c q).lookup ("height" : Str) = some (.int h) := by kernel_rfl
theorem fsPic_depth : (fsPic w h d c q).lookup ("depth" : Str) = some (.int d) := by kernel_rfl
theorem fsPic_channels : (fsPic w h d c q).lookup ("channels" : Str) = some (.int c) := by kernel_rfl
theorem fsPic_rows : (fsPic w h d c q).lookup ("_rows" : Str) = some (.ref q) := by kernel_rfl
theorem fsPic_m_rows : (fsPic w h d c q).lookup ("rows" : Str) = none := by kernel_rfl
theorem fsPic_m_row : (fsPic w h d c q).lookup ("row" : Str) = none := by kernel_rfl
theorem fsPic_m_value : (fsPic w h d c q).lookup ("value" : Str) = none := by kernel_rfl
theorem fsPic_m_same : (fsPic w h d c q).lookup ("same" : Str) = none := by kernel_rfl
theorem fsPic_m_with_value : (fsPic w h d c q).lookup ("with_value" : Str) = none := by kernel_rfl
theorem fsPic_m_framed : (fsPic w h d c q).lookup ("framed" : Str) = none := by kernel_rfl
end
structure PicAt (K : Frag) (H : Hp) (a : Addr) (x : Pic) : Prop where
  ex : ∃ dx q ads, H a = some (.ins (He.ga K "Picture") dx (fsPic x.w x.h x.d x.c q)) ∧ Rows H q ads x.rows
theorem PicAt.same {K : Frag} {H H' : Hp} {a : Addr} {x : Pic} (p : PicAt K H a x) (s : Same H H') : PicAt K H' a x := by
  obtain ⟨dx, q, ads, h, r⟩ := p
  exact ⟨dx, q, ads, s _ _ h, r.same s⟩
/-- an OutOfRange of this name leaves -/
def ErrN (K : Frag) (H : Hp) (E : XK) (s : Str) : Prop := ∀ d, H d = none → E (.ref (He.ga K "OutOfRange")) (some d) (upd H d (.xd [("name", .str s)]))
def shapeErr (w h d c : Int) : Option Str :=
  if ¬ (1 ≤ w ∧ w ≤ 64) then some "width" else if ¬ (1 ≤ h ∧ h ≤ 64) then some "height" else if ¬ (1 ≤ d ∧ d ≤ 8) then some "depth" else if c ≠ 1 ∧ c ≠ 3 then some "channels" else none
def valsOk (n d c : Int) (rows : List (List Int)) : Bool := decide ((rows.length : Int) = c) && rows.all fun r => decide ((r.length : Int) = n) && r.all fun v => decide (0 ≤ v) && decide (v < 2 ^ d.toNat)
def picErr (w h d c : Int) (rows : List (List Int)) : Option Str :=
  match shapeErr w h d c with
  | some s => some s
  | none => if w * h * c > 3072 then some "size" else if valsOk (w * h) d c rows then none else some "values"
/-- raises by name, or goes on -/
def OrErr (K : Frag) (H : Hp) (E : XK) (e : Option Str) (k : Prop) : Prop := (∀ s, e = some s → ErrN K H E s) ∧ (e = none → k)
theorem OrErr.err {K : Frag} {H : Hp} {E : XK} {e : Option Str} {k : Prop} (h : OrErr K H E e k) {s : Str} (q : e = some s) : ErrN K H E s := h.1 s q
theorem OrErr.ok {K : Frag} {H : Hp} {E : XK} {e : Option Str} {k : Prop} (h : OrErr K H E e k) (q : e = none) : k := h.2 q
theorem vals_no {n d c : Int} {rows : List (List Int)} {r : List Int} (hr : r ∈ rows) (h : (r.all fun v => decide (0 ≤ v) && decide (v < 2 ^ d.toNat)) = false ∨ (r.length : Int) ≠ n) : valsOk n d c rows = false := by
  unfold valsOk
  have : (rows.all fun r => decide ((r.length : Int) = n) && r.all fun v => decide (0 ≤ v) && decide (v < 2 ^ d.toNat)) = false := by
    refine List.all_eq_false.mpr ⟨r, hr, ?_⟩
    rcases h with h | h
    · rw [h]; simp
    · simp [h]
  rw [this, Bool.and_false]

--NEED rows pic
def sp__law_sizes (K : Frag) : Sp := fun vs H Q _ => ∃ c m : Int, vs = [.int c, .int m] ∧ 1 ≤ m ∧ m ≤ 64 ∧
  ∀ H' p w h d ch t, Same H H' → H p = none → H' p = some (.lst [.int w, .int h, .int d, .int ch, .int t]) → Sz m w h d ch t → Q (.ref p) H'
abbrev N__law_sizes : List Str := ["_law_cell_here", "_law_most", "_law_row", "_law_channels", "_law_width", "_law_height"]
def t__law_sizes (K : Frag) (E : XK) : TS :=
  tSeq (tAsg (tCallS (sp__law_numbers K) EF (tCons (tVar 0) (tCons (tC (.int 5)) (tCons (tC (.int 960)) (tNil))))) (gName 2)) (tSeq (tAsg (tOp bAdd (tC (.int 1)) (tOp bMul (tC (.int 2)) (tOp bMod (tOp (rIxL K) (tVar 2) (tC (.int 3))) (tC (.int 2))))) (gName 3)) (tSeq (tAsg (tOp bAdd (tC (.int 1)) (tOp bMod (tOp (rIxL K) (tVar 2) (tC (.int 0))) (tVar 1))) (gName 4)) (tSeq (tAsg (tCB kMin (tCons (tOp bAdd (tC (.int 1)) (tOp bMod (tOp (rIxL K) (tVar 2) (tC (.int 1))) (tVar 1))) (tCons (tOp bDiv (tC (.int 3072)) (tOp bMul (tVar 4) (tVar 3))) (tNil)))) (gName 5)) (tRet (tLst (tCons (tVar 4) (tCons (tVar 5) (tCons (tOp bAdd (tC (.int 1)) (tOp bMod (tOp (rIxL K) (tVar 2) (tC (.int 2))) (tC (.int 8)))) (tCons (tVar 3) (tCons (tOp bAdd (tC (.int 1)) (tOp bMod (tOp (rIxL K) (tVar 2) (tC (.int 4))) (tC (.int 16)))) (tNil)))))))))))

theorem ar__law_sizes {K : Frag} : Ar 2 (sp__law_sizes K) := fun _ _ _ _ ⟨_, _, e, _⟩ => by rw [e]; rfl
theorem sz_make {m b c : Int} (h1 : 1 ≤ m) (h2 : m ≤ 64) (a0 : 0 ≤ b) (c0 : c = 1 ∨ c = 3) {x : Int} (x0 : 0 ≤ x) :
    0 < (1 + b % m) * c ∧ (1 + b % m) * c ≤ 192 ∧ 1 ≤ (if 3072 / ((1 + b % m) * c) < 1 + x % m then 3072 / ((1 + b % m) * c) else 1 + x % m) ∧
    (if 3072 / ((1 + b % m) * c) < 1 + x % m then 3072 / ((1 + b % m) * c) else 1 + x % m) ≤ m ∧ (1 + b % m) * (if 3072 / ((1 + b % m) * c) < 1 + x % m then 3072 / ((1 + b % m) * c) else 1 + x % m) * c ≤ 3072 := by
  have b1 := Int.emod_nonneg b (show m ≠ 0 by omega)
  have b2 := Int.emod_lt_of_pos b (show 0 < m by omega)
  have x1 := Int.emod_nonneg x (show m ≠ 0 by omega)
  have x2 := Int.emod_lt_of_pos x (show 0 < m by omega)
  generalize b % m = B at *
  generalize x % m = X at *
  have hp : 0 < (1 + B) * c ∧ (1 + B) * c ≤ 192 := by rcases c0 with rfl | rfl <;> omega
  obtain ⟨p0, p1⟩ := hp
  generalize hP : (1 + B) * c = P at *
  have d1 : 3072 / P ≤ 3072 / P := Int.le_refl _
  have d2 : P * (3072 / P) ≤ 3072 := Int.mul_ediv_self_le (by omega)
  have d3 : 16 ≤ 3072 / P := by
    have : 16 * P ≤ 3072 := by omega
    exact (Int.le_ediv_iff_mul_le p0).mpr this
  refine ⟨p0, p1, ?_, ?_, ?_⟩
  · split <;> omega
  · split <;> omega
  · have e : ∀ y : Int, (1 + B) * y * c = P * y := fun y => by rw [← hP, Int.mul_assoc, Int.mul_comm y c, ← Int.mul_assoc]
    rw [e]
    split
    · exact d2
    · refine Int.le_trans (Int.mul_le_mul_of_nonneg_left (show 1 + X ≤ 3072 / P by omega) (by omega)) d2
theorem pure__law_sizes (K : Frag) (vs : List V) (H : Hp) (Q : VK) (E : XK) (h : sp__law_sizes K vs H Q E) : t__law_sizes K E (ends Q) (start N__law_sizes vs) H := by
  obtain ⟨c, m, rfl, h1, h2, q⟩ := h
  unfold t__law_sizes
  walk_at "go"
  refine ⟨c, 5, 960, rfl, by decide, by decide, by decide, by decide, fun H1 p1 ns s1 n1 e1 l1 a1 => ?_⟩
  obtain ⟨a, b, x, y, z, rfl⟩ : ∃ a b x y z, ns = [a, b, x, y, z] := by
    match ns, l1 with
    | [a, b, x, y, z], _ => exact ⟨a, b, x, y, z, rfl⟩
    | [], l => simp at l
    | [_], l => simp at l
    | [_, _], l => simp at l
    | [_, _, _], l => simp at l
    | [_, _, _, _], l => simp at l
    | _ :: _ :: _ :: _ :: _ :: _ :: _, l => simp at l; omega
  have e1' : H1 p1 = some (.lst [.int a, .int b, .int x, .int y, .int z]) := e1
  clear e1
  have ha := a1 a (by simp)
  have hb := a1 b (by simp)
  have y0 : 1 + 2 * (y % 2) = 1 ∨ 1 + 2 * (y % 2) = 3 := by omega
  obtain ⟨g1, g2, g3, g4, g5⟩ := sz_make h1 h2 ha.1 y0 hb.1
  have w1 := Int.emod_nonneg a (show m ≠ 0 by omega)
  have w2 := Int.emod_lt_of_pos a (show 0 < m by omega)
  walk_at "go"
  intro p hp
  walk_at "go"
  refine q _ p _ _ _ _ _ (same_new s1 hp) (s1.free hp) upd_same ⟨by omega, by omega, g3, g4, by omega, by omega, y0, by omega, by omega, g5⟩

--NEED rows pic
structure RowsOk (w h d c : Int) (rows : List (List Int)) : Prop where
  len : (rows.length : Int) = c
  row : ∀ r ∈ rows, (r.length : Int) = w * h ∧ ∀ x ∈ r, 0 ≤ x ∧ x < 2 ^ d.toNat
def sp__law_values (K : Frag) : Sp := fun vs H Q _ => ∃ (cell : Int) (s : Addr) (w h d c t : Int), vs = [.int cell, .ref s] ∧ H s = some (.lst [.int w, .int h, .int d, .int c, .int t]) ∧ Sz 64 w h d c t ∧
  ∀ H' p ads rows, Same H H' → Rows (dif H H') p ads rows → RowsOk w h d c rows → Q (.ref p) H'
abbrev N__law_values : List Str := ["_law_cell_here", "_law_sizes_here", "_law_pixels", "_law_row", "_law_k"]
def t__law_values (K : Frag) (E : XK) : TS :=
  tSeq (tAsg (tOp bMul (tOp (rIxL K) (tVar 1) (tC (.int 0))) (tOp (rIxL K) (tVar 1) (tC (.int 1)))) (gName 2)) (tSeq (tAsg (tCallS (sp__law_numbers K) EF (tCons (tVar 0) (tCons (tOp bMul (tVar 2) (tOp (rIxL K) (tVar 1) (tC (.int 3)))) (tCons (tOp bShl (tC (.int 1)) (tOp (rIxL K) (tVar 1) (tC (.int 2)))) (tNil))))) (gName 3)) (tRet (tLc (iRng1 (tCons (tOp (rIxL K) (tVar 1) (tC (.int 3))) (tNil))) (gName 4) (tYes) (tSl (rSlL K) (tVar 3) (tPart (tOp bMul (tVar 2) (tVar 4))) (tPart (tOp bAdd (tOp bMul (tVar 2) (tVar 4)) (tVar 2)))) [4])))

theorem ar__law_values {K : Frag} : Ar 2 (sp__law_values K) := fun _ _ _ _ ⟨_, _, _, _, _, _, _, e, _⟩ => by rw [e]; rfl
theorem two_pow_le {d : Int} (h1 : 1 ≤ d) (h2 : d ≤ 8) : 1 ≤ (2 : Int) ^ d.toNat ∧ (2 : Int) ^ d.toNat ≤ 256 := by
  have : d = 1 ∨ d = 2 ∨ d = 3 ∨ d = 4 ∨ d = 5 ∨ d = 6 ∨ d = 7 ∨ d = 8 := by omega
  rcases this with rfl | rfl | rfl | rfl | rfl | rfl | rfl | rfl <;> decide
theorem pure__law_values (K : Frag) (vs : List V) (H : Hp) (Q : VK) (E : XK) (h : sp__law_values K vs H Q E) : t__law_values K E (ends Q) (start N__law_values vs) H := by
  obtain ⟨cell, s, w, h, d, c, t, rfl, hs, Z, q⟩ := h
  have w1 := Z.w1
  have w2 := Z.w2
  have h1 := Z.h1
  have d1 := Z.d1
  have d2 := Z.d2
  have sz := Z.sz
  have cc := Z.ch
  have n0 : 0 ≤ w * h := Int.mul_nonneg (by omega) (by omega)
  have n1 : w * h * c = w * h ∨ w * h * c = 3 * (w * h) := by rcases cc with rfl | rfl <;> omega
  obtain ⟨p1, p2⟩ := two_pow_le d1 d2
  unfold t__law_values
  walk_at "go"
  generalize hN : w * h = n at *
  refine ⟨cell, n * c, 1 * 2 ^ d.toNat, rfl, by omega, by omega, by omega, by omega, fun H1 p1 ns s1 f1 e1 l1 a1 => ?_⟩
  walk_at "go"
  refine i_lc ?_
  walk_at "go"
  intro D hD
  refine l_range (fun k H' => ∃ ds rows, Same H1 H' ∧ Rows (dif H1 H') D ds rows ∧ rows.length = k ∧ ∀ r ∈ rows, (r.length : Int) = n ∧ ∀ x ∈ r, 0 ≤ x ∧ x < 2 ^ d.toNat) ⟨[], [], same_upd hD, by rw [dif_upd hD]; exact Rows.nil, rfl, by simp⟩ ?_ ?_
  · rintro k H2 hk ⟨ds, rows, s2, R, hl, hr⟩
    have hk' : (k : Int) < c := by omega
    have k0 : n * (0 + (k : Int)) + n ≤ n * c := by
      have : n * ((k : Int) + 1) ≤ n * c := Int.mul_le_mul_of_nonneg_left (by omega) n0
      rw [Int.mul_add] at this; simpa using this
    have k1 : 0 ≤ n * (0 + (k : Int)) := Int.mul_nonneg n0 (by omega)
    walk_at "go"
    intro l hl'
    have hne : D ≠ l := ne_of_none (dif_same _ _ R.top) hl'
    have e : cutV (ns.map V.int) (some (n * (0 + (k : Int)))) (some (n * (0 + (k : Int)) + n)) = ((ns.drop (n * (0 + (k : Int))).toNat).take n.toNat).map V.int := by
      rw [cutV_nat k1 (by omega) (by rw [List.length_map]; omega), List.map_take, List.map_drop]
      congr 2; omega
    refine ⟨ds.map V.ref, by rw [upd_ne hne]; exact dif_same _ _ R.top, R.len_lt (n := 4) (by omega) (by omega), ds ++ [l], rows ++ [(ns.drop (n * (0 + (k : Int))).toNat).take n.toNat], same_mut (same_new s2 hl') (dif_new R.top), ?_, by simp [hl], fun r hr' => ?_⟩
    · rw [e]; exact R.more s2 hl'
    · rcases List.mem_append.mp hr' with hr' | hr'
      · exact hr r hr'
      · rw [List.mem_singleton.mp hr']
        refine ⟨by rw [List.length_take, List.length_drop]; omega, fun x hx => ?_⟩
        have := a1 x (List.mem_of_mem_drop (List.mem_of_mem_take hx))
        omega
  · rintro H2 ⟨ds, rows, s2, R, hl, hr⟩
    refine q H2 D ds rows (s1.trans s2) (R.same (dif_from s1)) ⟨by omega, fun r h => ?_⟩
    rw [hN]; exact hr r h

--NEED rows pic
def spoiltName (k : Int) : Str := (["", "width", "depth", "channels", "values", "values", "values", "values", "height", "values"] : List Str).getD k.toNat ""
def sp__law_spoilt (K : Frag) : Sp := fun vs H Q _ => ∃ (k j : Int) (s p : Addr) (w h d c t : Int) (ads : List Addr) (rows : List (List Int)) (G : Hp), vs = [.int k, .int j, .ref s, .ref p] ∧ 0 ≤ k ∧ k ≤ 9 ∧ 0 ≤ j ∧ H s = some (.lst [.int w, .int h, .int d, .int c, .int t]) ∧ Rows G p ads rows ∧ Same G H ∧ G s = none ∧ Sz 64 w h d c t ∧ RowsOk w h d c rows ∧
  ∀ H' G' w' h' d' c' ads' rows', H' s = some (.lst [.int w', .int h', .int d', .int c', .int t]) → Rows G' p ads' rows' → Same G' H' → (∀ b o, b ≠ s → G b = none → H b = some o → H' b = some o) → (∀ b o, H b = some o → G b = none → G' b = none) → rows'.length ≤ 1000 →
    (k = 0 → w' = w ∧ h' = h ∧ d' = d ∧ c' = c ∧ rows' = rows) → (k ≠ 0 → picErr w' h' d' c' rows' = some (spoiltName k)) → Q (.str (spoiltName k)) H'
abbrev N__law_spoilt : List Str := ["_law_kind", "_law_at", "_law_sizes_here", "_law_values_here", "_law_row"]
def t__law_spoilt (K : Frag) (E : XK) : TS :=
  tSeq (tAsg (tOp (rIxL K) (tVar 3) (tOp bMod (tVar 1) (tCB (rLen K) (tCons (tVar 3) (tNil))))) (gName 4)) (tSeq (tIfS (tTest (tOp rEq (tVar 0) (tC (.int 1)))) (tAsg (tOp (rIxL K) (tLst (tCons (tC (.int 0)) (tCons (tC (.int 65)) (tCons (tUn uNeg (tC (.int 1))) (tNil))))) (tOp bMod (tVar 1) (tC (.int 3)))) (gSub (tVar 2) (tC (.int 0)) rSetL)) (tNext)) (tSeq (tIfS (tTest (tOp rEq (tVar 0) (tC (.int 2)))) (tAsg (tOp (rIxL K) (tLst (tCons (tC (.int 0)) (tCons (tC (.int 9)) (tCons (tUn uNeg (tC (.int 1))) (tNil))))) (tOp bMod (tVar 1) (tC (.int 3)))) (gSub (tVar 2) (tC (.int 2)) rSetL)) (tNext)) (tSeq (tIfS (tTest (tOp rEq (tVar 0) (tC (.int 3)))) (tAsg (tOp (rIxL K) (tLst (tCons (tC (.int 0)) (tCons (tC (.int 2)) (tCons (tC (.int 4)) (tNil))))) (tOp bMod (tVar 1) (tC (.int 3)))) (gSub (tVar 2) (tC (.int 3)) rSetL)) (tNext)) (tSeq (tIfS (tTest (tOp rEq (tVar 0) (tC (.int 4)))) (tAsg (tOp (rIxL K) (tLst (tCons (tUn uNeg (tC (.int 1))) (tCons (tOp bShl (tC (.int 1)) (tOp (rIxL K) (tVar 2) (tC (.int 2)))) (tNil)))) (tOp bMod (tVar 1) (tC (.int 2)))) (gSub (tVar 4) (tOp bMod (tVar 1) (tCB (rLen K) (tCons (tVar 4) (tNil)))) rSetL)) (tNext)) (tSeq (tIfS (tTest (tOp rEq (tVar 0) (tC (.int 5)))) (tDrop (tBM K "list" rAppend (tVar 4) (tCons (tC (.int 0)) (tNil)))) (tNext)) (tSeq (tIfS (tTest (tOp rEq (tVar 0) (tC (.int 6)))) (tDrop (tBM0 K "list" rPop (tVar 4))) (tNext)) (tSeq (tIfS (tTest (tOp rEq (tVar 0) (tC (.int 7)))) (tDrop (tBM K "list" rAppend (tVar 3) (tCons (tCB (kList K) (tCons (tVar 4) (tNil))) (tNil)))) (tNext)) (tSeq (tIfS (tTest (tOp rEq (tVar 0) (tC (.int 8)))) (tAsg (tOp (rIxL K) (tLst (tCons (tC (.int 0)) (tCons (tC (.int 65)) (tCons (tUn uNeg (tC (.int 3))) (tNil))))) (tOp bMod (tVar 1) (tC (.int 3)))) (gSub (tVar 2) (tC (.int 1)) rSetL)) (tNext)) (tSeq (tIfS (tTest (tOp rEq (tVar 0) (tC (.int 9)))) (tDrop (tBM0 K "list" rPop (tVar 3))) (tNext)) (tRet (tOp (rIxL K) (tLst (tCons (tC (.str "")) (tCons (tC (.str "width")) (tCons (tC (.str "depth")) (tCons (tC (.str "channels")) (tCons (tC (.str "values")) (tCons (tC (.str "values")) (tCons (tC (.str "values")) (tCons (tC (.str "values")) (tCons (tC (.str "height")) (tCons (tC (.str "values")) (tNil)))))))))))) (tVar 0))))))))))))

theorem ar__law_spoilt {K : Frag} : Ar 4 (sp__law_spoilt K) := fun _ _ _ _ ⟨_, _, _, _, _, _, _, _, _, _, _, _, e, _⟩ => by rw [e]; rfl
theorem shape_ok {m w h d c t : Int} (Z : Sz m w h d c t) (hm : m ≤ 64) : shapeErr w h d c = none := by
  have := Z.w1
  have := Z.w2
  have := Z.h1
  have := Z.h2
  have := Z.d1
  have := Z.d2
  have := Z.ch
  unfold shapeErr
  walk_at "ifs"
theorem pic_vals {m w h d c t : Int} (Z : Sz m w h d c t) (hm : m ≤ 64) {rows : List (List Int)} : picErr w h d c rows = if valsOk (w * h) d c rows then none else some ("values" : Str) := by
  unfold picErr
  rw [shape_ok Z hm]
  have := Z.sz
  show (if w * h * c > 3072 then _ else _) = _
  rw [if_neg (by omega)]
theorem vals_bad_len {n d c : Int} {rows : List (List Int)} (h : (rows.length : Int) ≠ c) : valsOk n d c rows = false := by unfold valsOk; rw [decide_eq_false h]; rfl
theorem same_both {G H : Hp} {b : Addr} {o : HO} (s : Same G H) : Same (upd G b o) (upd H b o) := fun a u e => by
  by_cases h : a = b
  · rw [h, upd_same] at e ⊢; exact e
  · rw [upd_ne h] at e ⊢; exact s a u e
theorem mem_set {α : Type} {l : List α} {i : Nat} {x : α} (h : i < l.length) : x ∈ l.set i x := List.mem_of_getElem? (List.getElem?_set_self h)
theorem pure__law_spoilt (K : Frag) (vs : List V) (H : Hp) (Q : VK) (E : XK) (h : sp__law_spoilt K vs H Q E) : t__law_spoilt K E (ends Q) (start N__law_spoilt vs) H := by
  obtain ⟨k, j, s, p, w, h, d, c, t, ads, rows, G, rfl, k0, k9, j0, hs, R, S, gs, Z, O, q⟩ := h
  have hT := S _ _ R.top
  have ol := O.len
  have hlen : (ads.length : Int) = c := by rw [R.len]; exact O.len
  have cc := Z.ch
  have m0 := Int.emod_nonneg j (show c ≠ 0 by omega)
  have m1 := Int.emod_lt_of_pos j (show 0 < c by omega)
  have hmr : (j % c).toNat < rows.length := by have := O.len; omega
  obtain ⟨b, hb, hrow⟩ := R.at hmr
  have hrowH := S _ _ hrow
  have hrm : rows.getD (j % c).toNat [] ∈ rows := by rw [List.getD_eq_getElem?_getD, List.getElem?_eq_getElem hmr]; exact List.getElem_mem _
  obtain ⟨hrl, hrv⟩ := O.row _ hrm
  have shk := shape_ok Z (Int.le_refl _)
  have pv := fun rows' => pic_vals Z (Int.le_refl _) (rows := rows')
  have wh : 1 ≤ w * h := by have := Int.mul_le_mul Z.w1 Z.h1 (by decide) (by have := Z.w1; omega); simpa using this
  have wh2 : w * h ≤ 3072 := by have := Z.sz; rcases cc with rfl | rfl <;> omega
  have z1 := Z.w1
  have z2 := Z.w2
  have z3 := Z.h1
  have z4 := Z.h2
  have z5 := Z.d1
  have z6 := Z.d2
  have sb : s ≠ b := fun e => by rw [e, hrow] at gs; cases gs
  have sp : s ≠ p := fun e => by rw [e, R.top] at gs; cases gs
  unfold t__law_spoilt
  walk_at "go"
  rw [List.length_map, hlen]
  walk_at "go"
  refine i_ixL hT (atI_map_ref m0 hb) ?_
  generalize hr : rows.getD (j % c).toNat [] = r at *
  have k10 : k = 0 ∨ k = 1 ∨ k = 2 ∨ k = 3 ∨ k = 4 ∨ k = 5 ∨ k = 6 ∨ k = 7 ∨ k = 8 ∨ k = 9 := by omega
  have keepS : ∀ o, ∀ b' o', b' ≠ s → G b' = none → H b' = some o' → (upd H s o) b' = some o' := fun o b' o' h1 _ h3 => by rw [upd_ne h1]; exact h3
  rcases k10 with rfl | rfl | rfl | rfl | rfl | rfl | rfl | rfl | rfl | rfl
  · walk_at "go"
    intro x hx
    walk_at "go"
    refine q _ G w h d c ads rows (by rw [upd_ne (ne_of_none hs hx)]; exact hs) R (same_new S hx) (fun b' o' _ _ h3 => by rw [upd_ne (ne_of_none h3 hx)]; exact h3) (fun _ _ _ h => h) (by omega) (fun _ => ⟨rfl, rfl, rfl, rfl, rfl⟩) (fun h => absurd rfl h)
  · walk_at "go"
    intro x hx
    walk_at "go"
    refine i_ixIn [0, 65, -1] upd_same rfl (by omega) (by simp; omega) fun z hz => ?_
    have hsx : s ≠ x := ne_of_none hs hx
    walk_at "go"
    intro y hy
    walk_at "go"
    have hsy : s ≠ y := fun e => by rw [e] at hsx; rw [← e, upd_same] at hy; cases hy
    have hz' : z = 0 ∨ z = 65 ∨ z = -1 := by simp at hz; omega
    refine q _ G z h d c ads rows (by rw [upd_ne hsy, upd_same]; rfl) R (same_new (same_mut (same_new S hx) gs) hy) (fun b' o' n1 _ h3 => ?_) (fun _ _ _ h => h) (by first | omega | (simp; omega)) (fun h => absurd h (by decide)) (fun _ => ?_)
    · have e : (upd (upd H x (.lst [.int 0, .int 65, .int (-1)])) s (.lst [.int z, .int h, .int d, .int c, .int t])) b' = some o' := by rw [upd_ne n1, upd_ne (ne_of_none h3 hx)]; exact h3
      rw [upd_ne (ne_of_none e hy)]; exact e
    · unfold picErr shapeErr
      have hf : ¬ (1 ≤ z ∧ z ≤ 64) := by omega
      rw [if_pos hf]
      rfl
  · walk_at "go"
    intro x hx
    walk_at "go"
    refine i_ixIn [0, 9, -1] upd_same rfl (by omega) (by simp; omega) fun z hz => ?_
    have hsx : s ≠ x := ne_of_none hs hx
    walk_at "go"
    intro y hy
    walk_at "go"
    have hsy : s ≠ y := fun e => by rw [e] at hsx; rw [← e, upd_same] at hy; cases hy
    have hz' : z = 0 ∨ z = 9 ∨ z = -1 := by simp at hz; omega
    refine q _ G w h z c ads rows (by rw [upd_ne hsy, upd_same]; rfl) R (same_new (same_mut (same_new S hx) gs) hy) (fun b' o' n1 _ h3 => ?_) (fun _ _ _ h => h) (by first | omega | (simp; omega)) (fun h => absurd h (by decide)) (fun _ => ?_)
    · have e : (upd (upd H x (.lst [.int 0, .int 9, .int (-1)])) s (.lst [.int w, .int h, .int z, .int c, .int t])) b' = some o' := by rw [upd_ne n1, upd_ne (ne_of_none h3 hx)]; exact h3
      rw [upd_ne (ne_of_none e hy)]; exact e
    · unfold picErr shapeErr
      have hf : ¬ (1 ≤ z ∧ z ≤ 8) := by omega
      rw [if_neg (by omega), if_neg (by omega), if_pos hf]
      rfl
  · walk_at "go"
    intro x hx
    walk_at "go"
    refine i_ixIn [0, 2, 4] upd_same rfl (by omega) (by simp; omega) fun z hz => ?_
    have hsx : s ≠ x := ne_of_none hs hx
    walk_at "go"
    intro y hy
    walk_at "go"
    have hsy : s ≠ y := fun e => by rw [e] at hsx; rw [← e, upd_same] at hy; cases hy
    have hz' : z = 0 ∨ z = 2 ∨ z = 4 := by simp at hz; omega
    refine q _ G w h d z ads rows (by rw [upd_ne hsy, upd_same]; rfl) R (same_new (same_mut (same_new S hx) gs) hy) (fun b' o' n1 _ h3 => ?_) (fun _ _ _ h => h) (by first | omega | (simp; omega)) (fun h => absurd h (by decide)) (fun _ => ?_)
    · have e : (upd (upd H x (.lst [.int 0, .int 2, .int 4])) s (.lst [.int w, .int h, .int d, .int z, .int t])) b' = some o' := by rw [upd_ne n1, upd_ne (ne_of_none h3 hx)]; exact h3
      rw [upd_ne (ne_of_none e hy)]; exact e
    · unfold picErr shapeErr
      have hf : z ≠ 1 ∧ z ≠ 3 := by omega
      rw [if_neg (by omega), if_neg (by omega), if_neg (by omega), if_pos hf]
      rfl
  · walk_at "go"
    intro x hx
    walk_at "go"
    refine i_ixIn [-1, 1 * 2 ^ d.toNat] upd_same rfl (by omega) (by simp; omega) fun z hz => ?_
    have bx : b ≠ x := ne_of_none hrowH hx
    have hb1 : (upd H x (.lst [.int (-1), .int (1 * 2 ^ d.toNat)])) b = some (.lst (r.map V.int)) := by rw [upd_ne bx]; exact hrowH
    walk_at "go"
    have i0 := Int.emod_nonneg j (show (r.length : Int) ≠ 0 by omega)
    have i1 := Int.emod_lt_of_pos j (show 0 < (r.length : Int) by omega)
    refine i_setL hb1 (ixN_nat i0 (by rw [List.length_map]; exact i1)) ?_
    rw [show (r.map V.int).set (j % (r.length : Int)).toNat (.int z) = (r.set (j % (r.length : Int)).toNat z).map V.int from (List.map_set ..).symm]
    walk_at "go"
    intro y hy
    have by_ : b ≠ y := fun e => by rw [← e, upd_same] at hy; cases hy
    have hy0 : H y = none := by
      rw [upd_ne (Ne.symm by_)] at hy
      by_cases e : y = x
      · rw [e]; exact hx
      · rw [upd_ne e] at hy; exact hy
    have sx : s ≠ x := ne_of_none hs hx
    have sy : s ≠ y := ne_of_none hs hy0
    walk_at "go"
    refine q _ (upd G b (.lst ((r.set (j % (r.length : Int)).toNat z).map V.int))) w h d c ads (rows.set (j % c).toNat (r.set (j % (r.length : Int)).toNat z)) ?_ (R.setRow hb) (same_new (same_both (same_new S hx)) hy) (fun b' o' n1 n2 h3 => ?_) (fun b' o' h3 n2 => ?_) (by first | omega | (simp; omega)) (fun h => absurd h (by decide)) (fun _ => ?_)
    · rw [upd_ne sy, upd_ne sb, upd_ne sx]; exact hs
    · have e1 : b' ≠ b := fun e => by rw [e, hrow] at n2; cases n2
      rw [upd_ne (ne_of_none h3 hy0), upd_ne e1, upd_ne (ne_of_none h3 hx)]; exact h3
    · have e1 : b' ≠ b := fun e => by rw [e, hrow] at n2; cases n2
      rw [upd_ne e1]; exact n2
    · rw [pv, vals_no (mem_set hmr) (.inl (List.all_eq_false.mpr ⟨z, mem_set (by omega), ?_⟩))]
      · rfl
      · simp at hz
        have := two_pow_le z5 z6
        intro h'
        rw [Bool.and_eq_true, decide_eq_true_eq, decide_eq_true_eq] at h'
        omega
  · walk_at "go"
    rw [show r.map V.int ++ [.int 0] = (r ++ [0]).map V.int from by simp]
    intro y hy
    have by_ : b ≠ y := fun e => by rw [← e, upd_same] at hy; cases hy
    have hy0 : H y = none := by rw [upd_ne (Ne.symm by_)] at hy; exact hy
    have sy : s ≠ y := ne_of_none hs hy0
    walk_at "go"
    refine q _ (upd G b (.lst ((r ++ [0]).map V.int))) w h d c ads (rows.set (j % c).toNat (r ++ [0])) ?_ (R.setRow hb) (same_new (same_both S) hy) (fun b' o' n1 n2 h3 => ?_) (fun b' o' h3 n2 => ?_) (by first | omega | (simp; omega)) (fun h => absurd h (by decide)) (fun _ => ?_)
    · rw [upd_ne sy, upd_ne sb]; exact hs
    · have e1 : b' ≠ b := fun e => by rw [e, hrow] at n2; cases n2
      rw [upd_ne (ne_of_none h3 hy0), upd_ne e1]; exact h3
    · have e1 : b' ≠ b := fun e => by rw [e, hrow] at n2; cases n2
      rw [upd_ne e1]; exact n2
    · rw [pv, vals_no (mem_set hmr) (.inr (by simp; omega))]; rfl
  · walk_at "go"
    have hrne : r ≠ [] := fun e => by rw [e] at hrl; simp at hrl; omega
    refine i_pop hrowH (y := .int (r.getLast hrne)) ?_ ?_
    · rw [List.length_map, List.getElem?_map, ← List.getLast?_eq_getElem?, List.getLast?_eq_some_getLast hrne]; rfl
    rw [show (r.map V.int).dropLast = r.dropLast.map V.int from (List.map_dropLast ..).symm]
    walk_at "go"
    intro y hy
    have by_ : b ≠ y := fun e => by rw [← e, upd_same] at hy; cases hy
    have hy0 : H y = none := by rw [upd_ne (Ne.symm by_)] at hy; exact hy
    have sy : s ≠ y := ne_of_none hs hy0
    walk_at "go"
    refine q _ (upd G b (.lst (r.dropLast.map V.int))) w h d c ads (rows.set (j % c).toNat r.dropLast) ?_ (R.setRow hb) (same_new (same_both S) hy) (fun b' o' n1 n2 h3 => ?_) (fun b' o' h3 n2 => ?_) (by first | omega | (simp; omega)) (fun h => absurd h (by decide)) (fun _ => ?_)
    · rw [upd_ne sy, upd_ne sb]; exact hs
    · have e1 : b' ≠ b := fun e => by rw [e, hrow] at n2; cases n2
      rw [upd_ne (ne_of_none h3 hy0), upd_ne e1]; exact h3
    · have e1 : b' ≠ b := fun e => by rw [e, hrow] at n2; cases n2
      rw [upd_ne e1]; exact n2
    · rw [pv, vals_no (mem_set hmr) (.inr (by simp; omega))]; rfl
  · walk_at "go"
    intro x hx
    have px : p ≠ x := ne_of_none hT hx
    walk_at "go"
    rw [show ads.map V.ref ++ [.ref x] = (ads ++ [x]).map V.ref from by simp]
    intro y hy
    have y1 : y ≠ p := fun e => by rw [e, upd_same] at hy; cases hy
    rw [upd_ne y1] at hy
    have y2 : y ≠ x := fun e => by rw [e, upd_same] at hy; cases hy
    have hy0 : H y = none := by rw [upd_ne y2] at hy; exact hy
    walk_at "go"
    refine q _ _ w h d c (ads ++ [x]) (rows ++ [r]) ?_ (R.push (r := r) (S.free hx)) (same_new (same_both (same_both S)) (by rw [upd_ne y1, upd_ne y2]; exact hy0)) (fun b' o' n1 n2 h3 => ?_) (fun b' o' h3 n2 => ?_) (by first | omega | (simp; omega)) (fun h => absurd h (by decide)) (fun _ => ?_)
    · rw [upd_ne (ne_of_none hs hy0), upd_ne sp, upd_ne (ne_of_none hs hx)]; exact hs
    · have e1 : b' ≠ p := fun e => by rw [e, R.top] at n2; cases n2
      rw [upd_ne (ne_of_none h3 hy0), upd_ne e1, upd_ne (ne_of_none h3 hx)]; exact h3
    · have e1 : b' ≠ p := fun e => by rw [e, R.top] at n2; cases n2
      rw [upd_ne e1, upd_ne (ne_of_none h3 hx)]; exact n2
    · rw [pv, vals_bad_len (by have := O.len; simp; omega)]; rfl
  · walk_at "go"
    intro x hx
    walk_at "go"
    refine i_ixIn [0, 65, -3] upd_same rfl (by omega) (by simp; omega) fun z hz => ?_
    have hsx : s ≠ x := ne_of_none hs hx
    walk_at "go"
    intro y hy
    walk_at "go"
    have hsy : s ≠ y := fun e => by rw [e] at hsx; rw [← e, upd_same] at hy; cases hy
    have hz' : z = 0 ∨ z = 65 ∨ z = -3 := by simp at hz; omega
    refine q _ G w z d c ads rows (by rw [upd_ne hsy, upd_same]; rfl) R (same_new (same_mut (same_new S hx) gs) hy) (fun b' o' n1 _ h3 => ?_) (fun _ _ _ h => h) (by first | omega | (simp; omega)) (fun h => absurd h (by decide)) (fun _ => ?_)
    · have e : (upd (upd H x (.lst [.int 0, .int 65, .int (-3)])) s (.lst [.int w, .int z, .int d, .int c, .int t])) b' = some o' := by rw [upd_ne n1, upd_ne (ne_of_none h3 hx)]; exact h3
      rw [upd_ne (ne_of_none e hy)]; exact e
    · unfold picErr shapeErr
      have hf : ¬ (1 ≤ z ∧ z ≤ 64) := by omega
      rw [if_neg (by omega), if_pos hf]
      rfl
  · have hne : ads ≠ [] := fun e => by rw [e] at hlen; simp at hlen; omega
    walk_at "go"
    refine i_pop hT (y := .ref (ads.getLast hne)) ?_ ?_
    · rw [List.length_map, List.getElem?_map, ← List.getLast?_eq_getElem?, List.getLast?_eq_some_getLast hne]; rfl
    rw [show (ads.map V.ref).dropLast = ads.dropLast.map V.ref from (List.map_dropLast ..).symm]
    walk_at "go"
    intro y hy
    have y1 : y ≠ p := fun e => by rw [e, upd_same] at hy; cases hy
    have hy0 : H y = none := by rw [upd_ne y1] at hy; exact hy
    walk_at "go"
    refine q _ _ w h d c ads.dropLast rows.dropLast ?_ R.popRow (same_new (same_both S) (by rw [upd_ne y1]; exact hy0)) (fun b' o' n1 n2 h3 => ?_) (fun b' o' h3 n2 => ?_) (by first | omega | (simp; omega)) (fun h => absurd h (by decide)) (fun _ => ?_)
    · rw [upd_ne (ne_of_none hs hy0), upd_ne sp]; exact hs
    · have e1 : b' ≠ p := fun e => by rw [e, R.top] at n2; cases n2
      rw [upd_ne (ne_of_none h3 hy0), upd_ne e1]; exact h3
    · have e1 : b' ≠ p := fun e => by rw [e, R.top] at n2; cases n2
      rw [upd_ne e1]; exact n2
    · rw [pv, vals_bad_len (by have := O.len; simp; omega)]; rfl

--NEED rows pic
def sp_Picture_row (K : Frag) : Sp := fun vs H Q _ => ∃ (a : Addr) (i : Int) (x : Pic) (G : Hp), vs = [.ref a, .int i] ∧ Same G H ∧ PicAt K G a x ∧ 0 ≤ i ∧ i < x.rows.length ∧ ∀ H' p, Same H H' → H p = none → H' p = some (.lst ((x.rows.getD i.toNat []).map V.int)) → Q (.ref p) H'
abbrev N_Picture_row : List Str := ["self", "channel"]
def t_Picture_row (K : Frag) (E : XK) : TS :=
  tRet (tCB (kList K) (tCons (tOp (rIxL K) (tF (He.ga K "Picture") "_rows" (tVar 0)) (tVar 1)) (tNil)))

theorem ar_Picture_row {K : Frag} : Ar 2 (sp_Picture_row K) := fun _ _ _ _ ⟨_, _, _, _, e, _⟩ => by rw [e]; rfl
theorem pure_Picture_row (K : Frag) (vs : List V) (H : Hp) (Q : VK) (E : XK) (h : sp_Picture_row K vs H Q E) : t_Picture_row K E (ends Q) (start N_Picture_row vs) H := by
  obtain ⟨a, i, x, G, rfl, s, P, h0, hl, q⟩ := h
  obtain ⟨dx, r, ads, h1, R⟩ := P
  obtain ⟨b, hb, hr⟩ := R.at (i := i.toNat) (by omega)
  have hr' := s _ _ hr
  have h1' := s _ _ h1
  unfold t_Picture_row
  walk_at "go"
  refine i_ixL (s _ _ R.top) (atI_map_ref h0 hb) ?_
  walk_at "go"
  exact fun l hn => q _ l (same_upd hn) hn upd_same

--NEED rows pic
def sp_Picture_rows (K : Frag) : Sp := fun vs H Q _ => ∃ (a : Addr) (x : Pic) (G : Hp), vs = [.ref a] ∧ Same G H ∧ PicAt K G a x ∧ x.rows.length < 1000000 ∧ ∀ H' D ds, Same H H' → Rows (dif H H') D ds x.rows → Q (.ref D) H'
abbrev N_Picture_rows : List Str := ["self", "row"]
def t_Picture_rows (K : Frag) (E : XK) : TS :=
  tRet (tLc (iList K (tF (He.ga K "Picture") "_rows" (tVar 0))) (gName 1) (tYes) (tCB (kList K) (tCons (tVar 1) (tNil))) [1])

theorem ar_Picture_rows {K : Frag} : Ar 1 (sp_Picture_rows K) := fun _ _ _ _ ⟨_, _, _, e, _⟩ => by rw [e]; rfl
theorem pure_Picture_rows (K : Frag) (vs : List V) (H : Hp) (Q : VK) (E : XK) (h : sp_Picture_rows K vs H Q E) : t_Picture_rows K E (ends Q) (start N_Picture_rows vs) H := by
  obtain ⟨a, x, G, rfl, s, P, hl, q⟩ := h
  obtain ⟨dx, r, ads, h1, R⟩ := P
  unfold t_Picture_rows
  refine i_ret ?_
  refine rows_copy R s hl (fun {Q} z => ?_) ?_ (fun _ => ?_) q
  · have h1' := s _ _ h1
    walk_at "go"
    exact z
  · show 1 < 2; decide
  · exact rfl

def sp__law_is_int (K : Frag) : Sp := fun vs H Q _ => ∃ i : Int, vs = [.int i] ∧ Q (.bl true) H
abbrev N__law_is_int : List Str := ["_law_actual"]
def t__law_is_int (K : Frag) (E : XK) : TS :=
  tRet (tAndV (tCB (rIsi K) (tCons (tVar 0) (tCons (tC (.ty "int")) (tNil)))) (tNotV (tCB (rIsi K) (tCons (tVar 0) (tCons (tC (.ty "bool")) (tNil))))))

theorem ar__law_is_int {K : Frag} : Ar 1 (sp__law_is_int K) := fun _ _ _ _ ⟨_, e, _⟩ => by rw [e]; rfl
theorem isi_int {K : Frag} {H : Hp} {i : Int} {Q : VK} (q : Q (.bl true) H) : rIsi K [.int i, .ty "int"] H Q := i_isi (.ty "int") (.base (.int i)) (kit_ty (by decide +kernel)) q
theorem isi_intb {K : Frag} {H : Hp} {i : Int} {Q : VK} (q : Q (.bl false) H) : rIsi K [.int i, .ty "bool"] H Q := i_isi (.ty "bool") (.base (.int i)) (kit_ty (by decide +kernel)) q
theorem isi_list {K : Frag} {H : Hp} {p : Addr} {xs : List V} {Q : VK} (h : H p = some (.lst xs)) (q : Q (.bl true) H) : rIsi K [.ref p, .ty "list"] H Q := i_isi (.ty "list") (.base (.lst h)) (kit_ty (by decide +kernel)) q
theorem pure__law_is_int (K : Frag) (vs : List V) (H : Hp) (Q : VK) (E : XK) (h : sp__law_is_int K vs H Q E) : t__law_is_int K E (ends Q) (start N__law_is_int vs) H := by
  obtain ⟨i, rfl, q⟩ := h
  unfold t__law_is_int
  walk_at "go"
  refine isi_int ?_
  walk_at "go"
  refine isi_intb ?_
  walk_at "go"
  exact q

--NEED rows
def sp__law_are_ints (K : Frag) : Sp := fun vs H Q _ => ∃ (p : Addr) (ns : List Int), vs = [.ref p] ∧ H p = some (.lst (ns.map V.int)) ∧ ns.length < 1000000 ∧ ∀ H', Same H H' → Q (.bl true) H'
abbrev N__law_are_ints : List Str := ["_law_row", "_law_number"]
def t__law_are_ints (K : Frag) (E : XK) : TS :=
  tRet (tAndV (tCB (rIsi K) (tCons (tVar 0) (tCons (tC (.ty "list")) (tNil)))) (tCB (rAll K) (tCons (tLc (iList K (tVar 0)) (gName 1) (tYes) (tCallS (sp__law_is_int K) EF (tCons (tVar 1) (tNil))) [1]) (tNil))))

theorem ar__law_are_ints {K : Frag} : Ar 1 (sp__law_are_ints K) := fun _ _ _ _ ⟨_, _, e, _⟩ => by rw [e]; rfl
theorem all_true {xs : List Bool} (h : ∀ b ∈ xs, b = true) : xs.all id = true := List.all_eq_true.mpr fun b hb => h b hb
theorem l_ints {σ : L2.St} {H : Hp} {K : Frag} {g : TG} {tt : TT} {te : TE} {vs : List Nat} {D : Addr} {Qd : Hp → Prop} {a : Addr} {ns : List Int} (Pv : Nat → Hp → Prop) (h0 : Pv 0 (upd H D (.lst []))) (hl : ∀ i H, i ≤ ns.length → Pv i H → SqL K H a (ns.map V.int)) (hs : ∀ i z H, ns[i]? = some z → Pv i H → g (.int z) (wipe σ vs) H fun σ2 H2 => wipe σ2 vs = wipe σ vs ∧ tt σ2 H2 fun b H3 =>
      if b = true then te σ2 H3 fun y H4 => ∃ acc, H4 D = some (.lst acc) ∧ acc.length < sizeLine ∧ Pv (i + 1) (upd H4 D (.lst (acc ++ [y]))) else Pv (i + 1) H3) (hd : ∀ H, Pv ns.length H → Qd H) : LB (Itl K a) g tt te vs σ D H Qd := by
  refine l_list (xs := ns.map V.int) Pv h0 (fun i H hi => hl i H (by rw [List.length_map] at hi; exact hi)) (fun i x H hx p => ?_) (fun H p => hd H (by rw [List.length_map] at p; exact p))
  rw [List.getElem?_map] at hx
  cases e : ns[i]? with
  | none => rw [e] at hx; cases hx
  | some z =>
    rw [e] at hx
    cases hx
    exact hs i z H e p
theorem pure__law_are_ints (K : Frag) (vs : List V) (H : Hp) (Q : VK) (E : XK) (h : sp__law_are_ints K vs H Q E) : t__law_are_ints K E (ends Q) (start N__law_are_ints vs) H := by
  obtain ⟨p, ns, rfl, hp, hn, q⟩ := h
  unfold t__law_are_ints
  walk_at "go"
  refine isi_list hp ?_
  walk_at "go"
  refine i_lc ?_
  walk_at "go"
  intro D hD
  refine l_ints (ns := ns) (fun k H' => ∃ bs : List Bool, Same H H' ∧ H' D = some (.lst (bs.map V.bl)) ∧ bs.length = k ∧ ∀ b ∈ bs, b = true) ⟨[], same_upd hD, upd_same, rfl, by simp⟩ (fun k H' _ ⟨_, s, _⟩ => SqL.of (s _ _ hp)) ?_ ?_
  · rintro k z H' hz ⟨bs, s, hb, hl, ht⟩
    have hk := (List.getElem?_eq_some_iff.mp hz).1
    walk_at "go"
    refine ⟨z, rfl, bs.map V.bl, hb, line_big (by rw [List.length_map]; omega), bs ++ [true], same_mut s hD, by rw [upd_same, List.map_append]; rfl, by simp [hl], fun b hb => ?_⟩
    rcases List.mem_append.mp hb with hb | hb
    · exact ht b hb
    · exact List.mem_singleton.mp hb
  · rintro H' ⟨bs, s, hb, hl, ht⟩
    walk_at "go"
    refine i_all hb ?_
    rw [all_true ht]
    exact q H' s

--NEED rows pic
def sp_Picture_value (K : Frag) : Sp := fun vs H Q _ => ∃ (a : Addr) (i j : Int) (x : Pic) (G : Hp), vs = [.ref a, .int i, .int j] ∧ Same G H ∧ PicAt K G a x ∧ 0 ≤ i ∧ i < x.rows.length ∧ 0 ≤ j ∧ j < (x.rows.getD i.toNat []).length ∧ Q (.int ((x.rows.getD i.toNat []).getD j.toNat 0)) H
abbrev N_Picture_value : List Str := ["self", "channel", "pixel"]
def t_Picture_value (K : Frag) (E : XK) : TS :=
  tRet (tOp (rIxL K) (tOp (rIxL K) (tF (He.ga K "Picture") "_rows" (tVar 0)) (tVar 1)) (tVar 2))

theorem ar_Picture_value {K : Frag} : Ar 3 (sp_Picture_value K) := fun _ _ _ _ ⟨_, _, _, _, _, e, _⟩ => by rw [e]; rfl
theorem pure_Picture_value (K : Frag) (vs : List V) (H : Hp) (Q : VK) (E : XK) (h : sp_Picture_value K vs H Q E) : t_Picture_value K E (ends Q) (start N_Picture_value vs) H := by
  obtain ⟨a, i, j, x, G, rfl, s, P, h0, hl, j0, j1, q⟩ := h
  obtain ⟨dx, r, ads, h1, R⟩ := P
  obtain ⟨b, hb, hr⟩ := R.at (i := i.toNat) (by omega)
  have h1' := s _ _ h1
  unfold t_Picture_value
  walk_at "go"
  refine i_ixL (s _ _ R.top) (atI_map_ref h0 hb) ?_
  walk_at "go"
  exact q

/-! == of nested data -/
theorem eqv_all_map {α : Type} [DecidableEq α] {f : α → PyData} (h : ∀ a b, PyData.eqv (f a) (f b) = decide (a = b)) : ∀ xs ys : List α, PyData.eqvAll (xs.map f) (ys.map f) = decide (xs = ys)
  | [], [] => rfl
  | [], _ :: _ => rfl
  | _ :: _, [] => rfl
  | x :: xs, y :: ys => by
    show (PyData.eqv (f x) (f y) && PyData.eqvAll (xs.map f) (ys.map f)) = _
    rw [h, eqv_all_map h xs ys]
    by_cases e : x = y <;> by_cases e2 : xs = ys <;> simp [e, e2]
def dN (ns : List Int) : PyData := .list (ns.map .int)
def dR (rows : List (List Int)) : PyData := .list (rows.map dN)
theorem eqv_dN (a b : List Int) : PyData.eqv (dN a) (dN b) = decide (a = b) := eqv_all_map (f := PyData.int) (fun i j => by
  show (i == j) = _
  by_cases e : i = j <;> simp [e]) a b
theorem eqv_dR (a b : List (List Int)) : PyData.eqv (dR a) (dR b) = decide (a = b) := eqv_all_map (f := dN) eqv_dN a b
theorem shaped_of {d : PyData} (h : d.canLay0 = true) (hd : d.depth ≤ 64) : SeqAt.shaped d = true := by unfold SeqAt.shaped; rw [h, decide_eq_true hd]; rfl
theorem lay_all_map {α : Type} {f : α → PyData} : ∀ xs : List α, (∀ a ∈ xs, (f a).canLay0 = true) → PyData.canLayAll0 (xs.map f) = true
  | [], _ => rfl
  | x :: xs, h => by
    show ((f x).canLay0 && PyData.canLayAll0 (xs.map f)) = true
    rw [h x List.mem_cons_self, lay_all_map xs fun a ha => h a (List.mem_cons_of_mem _ ha)]; rfl
theorem depth_all_map {α : Type} {f : α → PyData} {n : Nat} : ∀ xs : List α, (∀ a ∈ xs, (f a).depth ≤ n) → PyData.depthAll (xs.map f) ≤ n
  | [], _ => Nat.zero_le _
  | x :: xs, h => by
    show max (f x).depth (PyData.depthAll (xs.map f)) ≤ n
    exact Nat.max_le.mpr ⟨h x List.mem_cons_self, depth_all_map xs fun a ha => h a (List.mem_cons_of_mem _ ha)⟩
theorem dN_lay (ns : List Int) : (dN ns).canLay0 = true := lay_all_map ns fun _ _ => rfl
theorem dN_depth (ns : List Int) : (dN ns).depth ≤ 1 := Nat.succ_le_succ (depth_all_map ns fun _ _ => Nat.le_refl _)
theorem dR_lay (rows : List (List Int)) : (dR rows).canLay0 = true := lay_all_map rows fun a _ => dN_lay a
theorem dR_depth (rows : List (List Int)) : (dR rows).depth ≤ 2 := Nat.succ_le_succ (depth_all_map rows fun a _ => dN_depth a)
theorem dp_ints {K : Frag} {H : Hp} : ∀ ns : List Int, DpAll K H (ns.map V.int) (ns.map .int)
  | [] => .nil
  | n :: ns => .cons (.int n) (dp_ints ns)
theorem dp_N {K : Frag} {H : Hp} {p : Addr} {ns : List Int} (h : H p = some (.lst (ns.map V.int))) : Dp K H (.ref p) (dN ns) := .lst (SqL.of h) (dp_ints ns)
theorem dp_rows {K : Frag} {H : Hp} : ∀ {ads : List Addr} {rows : List (List Int)}, ads.length = rows.length → (∀ (i : Nat) (a : Addr) (r : List Int), ads[i]? = some a → rows[i]? = some r → H a = some (.lst (r.map V.int))) → DpAll K H (ads.map V.ref) (rows.map dN)
  | [], [], _, _ => .nil
  | [], _ :: _, h, _ => nomatch h
  | _ :: _, [], h, _ => nomatch h
  | a :: ads, r :: rows, h, k => .cons (dp_N (k 0 a r rfl rfl)) (dp_rows (Nat.succ.inj h) fun i a r h1 h2 => k (i + 1) a r h1 h2)
theorem dp_R {K : Frag} {H : Hp} {p : Addr} {ads : List Addr} {rows : List (List Int)} (R : Rows H p ads rows) : Dp K H (.ref p) (dR rows) := .lst (SqL.of R.top) (dp_rows R.len R.row)
section
variable {K : Frag} {H : Hp} {Q : VK} {p q : Addr} {x y : V}
theorem i_eqD {d e : PyData} {b : Bool} (hd : Dp K H x d) (he : Dp K H y e) (sd : SeqAt.shaped d = true) (se : SeqAt.shaped e = true) (hb : PyData.eqv d e = b) (z : Q (.bl b) H) : rEqD K x y H Q := ⟨d, e, hd, he, sd, se, by rw [hb]; exact z⟩
theorem i_neD {d e : PyData} {b : Bool} (hd : Dp K H x d) (he : Dp K H y e) (sd : SeqAt.shaped d = true) (se : SeqAt.shaped e = true) (hb : PyData.eqv d e = b) (z : Q (.bl (!b)) H) : rNeD K x y H Q := ⟨d, e, hd, he, sd, se, by rw [hb]; exact z⟩
theorem shaped_N (ns : List Int) : SeqAt.shaped (dN ns) = true := shaped_of (dN_lay ns) (Nat.le_trans (dN_depth ns) (by decide))
theorem shaped_R (rows : List (List Int)) : SeqAt.shaped (dR rows) = true := shaped_of (dR_lay rows) (Nat.le_trans (dR_depth rows) (by decide))
theorem i_eqN {a b : List Int} (h1 : H p = some (.lst (a.map V.int))) (h2 : H q = some (.lst (b.map V.int))) (z : Q (.bl (decide (a = b))) H) : rEqD K (.ref p) (.ref q) H Q := i_eqD (dp_N h1) (dp_N h2) (shaped_N a) (shaped_N b) (eqv_dN a b) z
theorem i_neN {a b : List Int} (h1 : H p = some (.lst (a.map V.int))) (h2 : H q = some (.lst (b.map V.int))) (z : Q (.bl (!decide (a = b))) H) : rNeD K (.ref p) (.ref q) H Q := i_neD (dp_N h1) (dp_N h2) (shaped_N a) (shaped_N b) (eqv_dN a b) z
theorem i_eqR {ds es : List Addr} {a b : List (List Int)} (h1 : Rows H p ds a) (h2 : Rows H q es b) (z : Q (.bl (decide (a = b))) H) : rEqD K (.ref p) (.ref q) H Q := i_eqD (dp_R h1) (dp_R h2) (shaped_R a) (shaped_R b) (eqv_dR a b) z
theorem i_neR {ds es : List Addr} {a b : List (List Int)} (h1 : Rows H p ds a) (h2 : Rows H q es b) (z : Q (.bl (!decide (a = b))) H) : rNeD K (.ref p) (.ref q) H Q := i_neD (dp_R h1) (dp_R h2) (shaped_R a) (shaped_R b) (eqv_dR a b) z
end

--NEED rows pic deq
def sp__law_holds (K : Frag) : Sp := fun vs H Q _ => ∃ (a s p : Addr) (x : Pic) (t : Int) (ads : List Addr) (G : Hp), vs = [.ref a, .ref s, .ref p] ∧ Same G H ∧ PicAt K G a x ∧ G s = some (.lst [.int x.w, .int x.h, .int x.d, .int x.c, .int t]) ∧ Rows G p ads x.rows ∧ (x.rows.length : Int) = x.c ∧ x.rows.length < 1000 ∧ (∀ r ∈ x.rows, 1 ≤ r.length ∧ r.length < 1000000) ∧ ∀ H', Same H H' → Q (.bl true) H'
abbrev N__law_holds : List Str := ["_law_picture", "_law_sizes_here", "_law_values_here", "_law_rows", "_law_channel", "_law_pixel", "_law_told", "_law_row"]
def t__law_holds (K : Frag) (E : XK) : TS :=
  tSeq (tIfS (tNot (tB (tCallS (sp__law_are_ints K) EF (tCons (tLst (tCons (tF (He.ga K "Picture") "width" (tVar 0)) (tCons (tF (He.ga K "Picture") "height" (tVar 0)) (tCons (tF (He.ga K "Picture") "depth" (tVar 0)) (tCons (tF (He.ga K "Picture") "channels" (tVar 0)) (tNil)))))) (tNil))))) (tRet (tC (.bl false))) (tNext)) (tSeq (tIfS (tTest (tOp (rNeD K) (tLst (tCons (tF (He.ga K "Picture") "width" (tVar 0)) (tCons (tF (He.ga K "Picture") "height" (tVar 0)) (tCons (tF (He.ga K "Picture") "depth" (tVar 0)) (tCons (tF (He.ga K "Picture") "channels" (tVar 0)) (tNil)))))) (tSl (rSlL K) (tVar 1) (tNoPart) (tPart (tC (.int 4)))))) (tRet (tC (.bl false))) (tNext)) (tSeq (tAsg (tMe (He.ga K "Picture") "rows" (sp_Picture_rows K) EF (tVar 0) tNil) (gName 3)) (tSeq (tIfS (tOr (tNot (tB (tCB (rIsi K) (tCons (tVar 3) (tCons (tC (.ty "list")) (tNil)))))) (tOr (tNot (tB (tCB (rAll K) (tCons (tLc (iList K (tVar 3)) (gName 7) (tYes) (tCallS (sp__law_are_ints K) EF (tCons (tVar 7) (tNil))) [7]) (tNil))))) (tTest (tOp (rNeD K) (tVar 3) (tVar 2))))) (tRet (tC (.bl false))) (tNext)) (tSeq (tFor (iRng1 (tCons (tOp (rIxL K) (tVar 1) (tC (.int 3))) (tNil))) (gName 4) (tSeq (tIfS (tOr (tNot (tB (tCallS (sp__law_are_ints K) EF (tCons (tMe (He.ga K "Picture") "row" (sp_Picture_row K) EF (tVar 0) (tCons (tVar 4) (tNil))) (tNil))))) (tTest (tOp (rNeD K) (tMe (He.ga K "Picture") "row" (sp_Picture_row K) EF (tVar 0) (tCons (tVar 4) (tNil))) (tOp (rIxL K) (tVar 2) (tVar 4))))) (tRet (tC (.bl false))) (tNext)) (tFor (iList K (tLst (tCons (tC (.int 0)) (tCons (tOp bDiv (tCB (rLen K) (tCons (tOp (rIxL K) (tVar 2) (tVar 4)) (tNil))) (tC (.int 2))) (tCons (tOp bSub (tCB (rLen K) (tCons (tOp (rIxL K) (tVar 2) (tVar 4)) (tNil))) (tC (.int 1))) (tNil)))))) (gName 5) (tSeq (tAsg (tMe (He.ga K "Picture") "value" (sp_Picture_value K) EF (tVar 0) (tCons (tVar 4) (tCons (tVar 5) (tNil)))) (gName 6)) (tIfS (tOr (tNot (tB (tCallS (sp__law_is_int K) EF (tCons (tVar 6) (tNil))))) (tTest (tOp rNe (tVar 6) (tOp (rIxL K) (tOp (rIxL K) (tVar 2) (tVar 4)) (tVar 5))))) (tRet (tC (.bl false))) (tNext)))))) (tRet (tC (.bl true)))))))

theorem ar__law_holds {K : Frag} : Ar 3 (sp__law_holds K) := fun _ _ _ _ ⟨_, _, _, _, _, _, _, e, _⟩ => by rw [e]; rfl
theorem pure__law_holds (K : Frag) (vs : List V) (H : Hp) (Q : VK) (E : XK) (h : sp__law_holds K vs H Q E) : t__law_holds K E (ends Q) (start N__law_holds vs) H := by
  obtain ⟨a, s, p, x, t, ads, G, rfl, S, P, hs, R, hlen, hl3, hrow, q⟩ := h
  obtain ⟨dx, pr, prs, ha, PR⟩ := id P
  have c0 : 0 ≤ x.c := by omega
  unfold t__law_holds
  walk_at "go"
  intro p0 n0
  walk_at "go"
  refine ⟨p0, [x.w, x.h, x.d, x.c], rfl, upd_same, by simp, fun H1 s1 => ?_⟩
  have T1 : Same H H1 := (same_upd n0).trans s1
  have S1 : Same G H1 := (same_new S n0).trans s1
  clear s1
  walk_at "go"
  intro p1 n1
  have S2 : Same G (upd H1 p1 (.lst [.int x.w, .int x.h, .int x.d, .int x.c])) := same_new S1 n1
  walk_at "go"
  intro p2 n2
  have e12 : p1 ≠ p2 := fun e => by rw [← e, upd_same] at n2; cases n2
  refine i_neN (a := [x.w, x.h, x.d, x.c]) (b := [x.w, x.h, x.d, x.c]) (by rw [upd_ne e12, upd_same]; rfl) upd_same ?_
  rw [decide_eq_true rfl]
  walk_at "go"
  have T3 : Same H (upd (upd H1 p1 (.lst [.int x.w, .int x.h, .int x.d, .int x.c])) p2 (.lst (cutV [.int x.w, .int x.h, .int x.d, .int x.c, .int t] none (some 4)))) := T1.trans ((same_upd n1).trans (same_upd n2))
  have S3 : Same G (upd (upd H1 p1 (.lst [.int x.w, .int x.h, .int x.d, .int x.c])) p2 (.lst (cutV [.int x.w, .int x.h, .int x.d, .int x.c, .int t] none (some 4)))) := same_new S2 n2
  generalize upd (upd H1 p1 (.lst [.int x.w, .int x.h, .int x.d, .int x.c])) p2 (.lst (cutV [.int x.w, .int x.h, .int x.d, .int x.c, .int t] none (some 4))) = H3 at *
  have ha3 := S3 _ _ ha
  refine i_meth ha3 fsPic_m_rows ?_
  refine ⟨a, x, G, rfl, S3, P, by omega, fun H4 rp rps s4 R4 => ?_⟩
  have T4 := T3.trans s4
  have S4 := S3.trans s4
  have RG := R.same S4
  have R4' := R4.same dif_same
  have hr4 := R4'.top
  clear R4
  walk_at "go"
  refine isi_list hr4 ?_
  walk_at "go"
  refine i_lc ?_
  walk_at "go"
  intro D hD
  refine l_list (xs := rps.map V.ref) (fun k H' => ∃ bs : List Bool, Same H4 H' ∧ H' D = some (.lst (bs.map V.bl)) ∧ bs.length = k ∧ ∀ b ∈ bs, b = true) ⟨[], same_upd hD, upd_same, rfl, by simp⟩ (fun k H' _ ⟨_, s, _⟩ => SqL.of (s _ _ hr4)) ?_ ?_
  · rintro k z H' hz ⟨bs, s5, hb, hl, ht⟩
    rw [List.getElem?_map] at hz
    cases e : rps[k]? with
    | none => rw [e] at hz; cases hz
    | some b =>
      rw [e] at hz
      cases hz
      have hk : k < x.rows.length := by rw [← R4'.len]; exact (List.getElem?_eq_some_iff.mp e).1
      have hrk := R4'.row k b _ e (List.getElem?_eq_getElem hk)
      have hrk5 := s5 _ _ hrk
      have := hrow _ (List.getElem_mem hk)
      walk_at "go"
      refine ⟨b, x.rows[k], rfl, hrk5, by omega, fun H6 s6 => ?_⟩
      refine ⟨bs.map V.bl, s6 _ _ hb, line_big (by rw [List.length_map]; omega), bs ++ [true], same_mut (s5.trans s6) hD, by rw [upd_same, List.map_append]; rfl, by simp [hl], fun b hb => ?_⟩
      rcases List.mem_append.mp hb with hb | hb
      · exact ht b hb
      · exact List.mem_singleton.mp hb
  · rintro H5 ⟨bs, s5, hb, hl, ht⟩
    have T5 := T4.trans s5
    have S5 := S4.trans s5
    walk_at "go"
    refine i_all hb ?_
    rw [all_true ht]
    walk_at "go"
    refine i_neR (R4'.same s5) (RG.same s5) ?_
    rw [decide_eq_true rfl]
    walk_at "go"
    refine f_range (fun i σ H' => Same H5 H' ∧ ∃ u v w o, σ = [some (.ref a), some (.ref s), some (.ref p), some (.ref rp), u, v, w, o]) ⟨Same.refl _, _, _, _, _, rfl⟩ ?_ ?_
    · rintro i σ H6 hi ⟨s6, u, v, w, o, rfl⟩
      have T6 := T5.trans s6
      have S6 := S5.trans s6
      have hi' : i < x.rows.length := by omega
      have z0 : (0 : Int) + i = (i : Int) := by omega
      have hri := hrow _ (List.getElem_mem hi')
      rw [z0]
      walk_at "go"
      refine ⟨a, i, x, G, rfl, S6, P, by omega, by omega, fun H7 r7 s7 n7 e7 => ?_⟩
      have gd : x.rows.getD ((i : Int)).toNat [] = x.rows[i] := by rw [show ((i : Int)).toNat = i from rfl, List.getD_eq_getElem?_getD, List.getElem?_eq_getElem hi']; rfl
      rw [gd] at e7
      refine ⟨r7, x.rows[i], rfl, e7, by omega, fun H8 s8 => ?_⟩
      have T8 := (T6.trans s7).trans s8
      have S8 := (S6.trans s7).trans s8
      walk_at "go"
      refine ⟨a, i, x, G, rfl, S8, P, by omega, by omega, fun H9 r9 s9 n9 e9 => ?_⟩
      rw [gd] at e9
      have T9 := T8.trans s9
      have S9 := S8.trans s9
      obtain ⟨pi, hpi, hpr⟩ := R.at hi'
      have hpi' : ads[((i : Int)).toNat]? = some pi := hpi
      have gd2 : x.rows.getD i [] = x.rows[i] := gd
      rw [gd2] at hpr
      have hp9 := S9 _ _ R.top
      have hpr9 := S9 _ _ hpr
      walk_at "go"
      refine i_ixL hp9 (atI_map_ref (by omega) hpi') ?_
      refine i_neN e9 hpr9 ?_
      rw [decide_eq_true rfl]
      walk_at "go"
      refine i_ixL hp9 (atI_map_ref (by omega) hpi') ?_
      walk_at "go"
      refine i_ixL hp9 (atI_map_ref (by omega) hpi') ?_
      walk_at "go"
      intro l nl
      have T10 : Same H _ := T9.trans (same_upd (o := HO.lst [.int 0, .int ((x.rows[i].length : Int) / 2), .int ((x.rows[i].length : Int) - 1)]) nl)
      have S10 : Same G _ := same_new (o := HO.lst [.int 0, .int ((x.rows[i].length : Int) / 2), .int ((x.rows[i].length : Int) - 1)]) S9 nl
      generalize hH10 : upd H9 l (.lst [.int 0, .int ((x.rows[i].length : Int) / 2), .int ((x.rows[i].length : Int) - 1)]) = H10 at *
      have hl10 : H10 l = some (.lst (([0, (x.rows[i].length : Int) / 2, (x.rows[i].length : Int) - 1] : List Int).map V.int)) := by rw [← hH10, upd_same]; rfl
      walk_at "go"
      refine f_ints (ns := [0, (x.rows[i].length : Int) / 2, (x.rows[i].length : Int) - 1]) (fun j σ H' => H' = H10 ∧ ∃ v w, σ = [some (.ref a), some (.ref s), some (.ref p), some (.ref rp), some (.int i), v, w, o]) ⟨rfl, v, w, rfl⟩ (fun j σ H' _ ⟨e, _⟩ => by rw [e]; exact SqL.of hl10) ?_ ?_
      · rintro j z σ H' hz ⟨rfl, v, w, rfl⟩
        have hz' : 0 ≤ z ∧ z < x.rows[i].length := by
          have := List.mem_of_getElem? hz
          simp at this; omega
        have hp10 := S10 _ _ R.top
        have hpr10 := S10 _ _ hpr
        walk_at "go"
        refine ⟨a, i, z, x, G, rfl, S10, P, by omega, by omega, hz'.1, by rw [gd]; exact hz'.2, ?_⟩
        rw [gd]
        walk_at "go"
        refine ⟨_, rfl, ?_⟩
        walk_at "go"
        refine i_ixL hp10 (atI_map_ref (by omega) hpi') ?_
        walk_at "go"
        exact ⟨rfl, _, _, rfl⟩
      · rintro σ H' ⟨rfl, v, w, rfl⟩
        exact ⟨(((s6.trans s7).trans s8).trans s9).trans (by rw [← hH10]; exact same_upd nl), _, _, _, _, rfl⟩
    · rintro σ H6 ⟨s6, u, v, w, o, rfl⟩
      walk_at "go"
      exact q H6 (T5.trans s6)

def sp__law_cell (K : Frag) : Sp := fun vs H Q _ => ∃ (a : Addr) (k : Int) (ns : List Int), vs = [.ref a, .int k] ∧ SqL K H a (ns.map V.int) ∧ 0 ≤ k ∧ ∀ i, Q (.int i) H
abbrev N__law_cell : List Str := ["_law_script", "_law_k"]
def t__law_cell (K : Frag) (E : XK) : TS :=
  tSeq (tIfS (tTest (tOp cLt (tVar 1) (tCB (rLen K) (tCons (tVar 0) (tNil))))) (tRet (tOp (rIxL K) (tVar 0) (tVar 1))) (tNext)) (tRet (tC (.int 0)))

theorem ar__law_cell {K : Frag} : Ar 2 (sp__law_cell K) := fun _ _ _ _ ⟨_, _, _, e, _⟩ => by rw [e]; rfl
theorem pure__law_cell (K : Frag) (vs : List V) (H : Hp) (Q : VK) (E : XK) (h : sp__law_cell K vs H Q E) : t__law_cell K E (ends Q) (start N__law_cell vs) H := by
  obtain ⟨a, k, ns, rfl, hs, hk, q⟩ := h
  unfold t__law_cell
  walk_at "go"
  refine i_lenQ hs ?_
  walk_at "go"
  refine i_iteD (fun c => ?_) fun _ => ?_
  · walk_at "go"
    refine i_ixLq hs (atI_in hk c (.int 0)) ?_
    obtain ⟨n, rfl⟩ : ∃ n : Nat, k = n := ⟨k.toNat, by omega⟩
    rw [List.length_map] at c
    have hn : n < ns.length := by omega
    rw [show ((n : Int)).toNat = n from rfl, List.getD_eq_getElem?_getD, List.getElem?_map, List.getElem?_eq_getElem hn]
    exact q _
  · walk_at "go"
    exact q 0

--FACTS x_OutOfRange n_OutOfRange_name
def sp_OutOfRange_init (K : Frag) : Sp := spX1 (He.ga K "OutOfRange") "name"
abbrev N_OutOfRange_init : List Str := ["self", "name"]
def t_OutOfRange_init (K : Frag) (E : XK) : TS :=
  tOst K "name" (tVar 0) (tVar 1)

theorem ar_OutOfRange_init {K : Frag} : Ar 2 (sp_OutOfRange_init K) := fun _ _ _ _ ⟨_, _, e, _⟩ => by rw [e]; rfl
theorem pure_OutOfRange_init (K : Frag) (x : OexC K (He.ga K "OutOfRange")) (n : PySem.W.findIn K (.ref (He.ga K "OutOfRange")) "name" = some none) (vs : List V) (H : Hp) (Q : VK) (E : XK) (h : sp_OutOfRange_init K vs H Q E) : t_OutOfRange_init K E (ends Q) (start N_OutOfRange_init vs) H := by
  obtain ⟨a, v, rfl, ha, q⟩ := h
  exact ⟨_, rfl, _, rfl, a, _, rfl, x, n, .inl ⟨ha, fun dx h1 h2 => q dx h1 h2⟩⟩

--NEED rows pic
def sp_check_shape (K : Frag) : Sp := fun vs H Q E => ∃ w h d c : Int, vs = [.int w, .int h, .int d, .int c] ∧ OrErr K H E (shapeErr w h d c) (Q .non H)
abbrev N_check_shape : List Str := ["width", "height", "depth", "channels"]
def t_check_shape (K : Frag) (E : XK) : TS :=
  tSeq (tIfS (tNot (tTest (tChain cLe cLe (tC (.int 1)) (tVar 0) (tC (.int 64))))) (tRaiseO (He.ga K "OutOfRange") (sp_OutOfRange_init K) (wE E) (tCons (tC (.str "width")) (tNil))) (tNext)) (tSeq (tIfS (tNot (tTest (tChain cLe cLe (tC (.int 1)) (tVar 1) (tC (.int 64))))) (tRaiseO (He.ga K "OutOfRange") (sp_OutOfRange_init K) (wE E) (tCons (tC (.str "height")) (tNil))) (tNext)) (tSeq (tIfS (tNot (tTest (tChain cLe cLe (tC (.int 1)) (tVar 2) (tC (.int 8))))) (tRaiseO (He.ga K "OutOfRange") (sp_OutOfRange_init K) (wE E) (tCons (tC (.str "depth")) (tNil))) (tNext)) (tIfS (tAnd (tTest (tOp rNe (tVar 3) (tC (.int 1)))) (tTest (tOp rNe (tVar 3) (tC (.int 3))))) (tRaiseO (He.ga K "OutOfRange") (sp_OutOfRange_init K) (wE E) (tCons (tC (.str "channels")) (tNil))) (tNext))))

theorem ar_check_shape {K : Frag} : Ar 4 (sp_check_shape K) := fun _ _ _ _ ⟨_, _, _, _, e, _⟩ => by rw [e]; rfl
theorem pure_check_shape (K : Frag) (vs : List V) (H : Hp) (Q : VK) (E : XK) (h : sp_check_shape K vs H Q E) : t_check_shape K E (ends Q) (start N_check_shape vs) H := by
  obtain ⟨w, h, d, c, rfl, q⟩ := h
  unfold t_check_shape
  walk_at "gos"
  all_goals first
    | exact q.ok (by unfold shapeErr; walk_at "ifs")
    | exact i_raiseC (q.err (by unfold shapeErr; walk_at "ifs"))

--NEED rows pic
def sp_check_size (K : Frag) : Sp := fun vs H Q E => ∃ w h c : Int, vs = [.int w, .int h, .int c] ∧ 0 ≤ w ∧ w ≤ 64 ∧ 0 ≤ h ∧ h ≤ 64 ∧ (w * h * c > 3072 → ErrN K H E "size") ∧ (¬ w * h * c > 3072 → Q .non H)
abbrev N_check_size : List Str := ["width", "height", "channels"]
def t_check_size (K : Frag) (E : XK) : TS :=
  tIfS (tTest (tOp cGt (tOp bMul (tOp bMul (tVar 0) (tVar 1)) (tVar 2)) (tC (.int 3072)))) (tRaiseO (He.ga K "OutOfRange") (sp_OutOfRange_init K) (wE E) (tCons (tC (.str "size")) (tNil))) (tNext)

theorem ar_check_size {K : Frag} : Ar 3 (sp_check_size K) := fun _ _ _ _ ⟨_, _, _, e, _⟩ => by rw [e]; rfl
theorem pure_check_size (K : Frag) (vs : List V) (H : Hp) (Q : VK) (E : XK) (h : sp_check_size K vs H Q E) : t_check_size K E (ends Q) (start N_check_size vs) H := by
  obtain ⟨w, h, c, rfl, w0, w1, h0, h1, q1, q2⟩ := h
  have n0 : 0 ≤ w * h := Int.mul_nonneg w0 h0
  have n1 : w * h ≤ 64 * 64 := Int.mul_le_mul w1 h1 h0 (by decide)
  unfold t_check_size
  walk_at "go"
  refine i_iteD (fun c => ?_) fun c => ?_
  · exact i_raiseC (q1 c)
  · walk_at "go"
    exact q2 c

--NEED rows pic
def sp__are_values (K : Frag) : Sp := fun vs H Q _ => ∃ (n d c : Int) (p : Addr) (ads : List Addr) (rows : List (List Int)) (G : Hp), vs = [.int n, .int d, .int c, .ref p] ∧ Same G H ∧ Rows G p ads rows ∧ 0 ≤ d ∧ d ≤ 1000000 ∧ Q (.bl (valsOk n d c rows)) H
abbrev N__are_values : List Str := ["pixels", "depth", "channels", "values", "beyond", "row", "value"]
def t__are_values (K : Frag) (E : XK) : TS :=
  tSeq (tIfS (tTest (tOp rNe (tCB (rLen K) (tCons (tVar 3) (tNil))) (tVar 2))) (tRet (tC (.bl false))) (tNext)) (tSeq (tAsg (tOp bShl (tC (.int 1)) (tVar 1)) (gName 4)) (tSeq (tFor (iList K (tVar 3)) (gName 5) (tSeq (tIfS (tTest (tOp rNe (tCB (rLen K) (tCons (tVar 5) (tNil))) (tVar 0))) (tRet (tC (.bl false))) (tNext)) (tFor (iList K (tVar 5)) (gName 6) (tIfS (tNot (tTest (tChain cLe cLt (tC (.int 0)) (tVar 6) (tVar 4)))) (tRet (tC (.bl false))) (tNext))))) (tRet (tC (.bl true)))))

theorem ar__are_values {K : Frag} : Ar 4 (sp__are_values K) := fun _ _ _ _ ⟨_, _, _, _, _, _, _, e, _⟩ => by rw [e]; rfl
theorem pure__are_values (K : Frag) (vs : List V) (H : Hp) (Q : VK) (E : XK) (h : sp__are_values K vs H Q E) : t__are_values K E (ends Q) (start N__are_values vs) H := by
  obtain ⟨n, d, c, p, ads, rows, G, rfl, s, R, d0, d1, q⟩ := h
  have hT := s _ _ R.top
  unfold t__are_values
  walk_at "go"
  rw [List.length_map, R.len]
  refine i_iteN (fun e => ?_) fun e => ?_
  · walk_at "go"
    have : valsOk n d c rows = false := by unfold valsOk; rw [decide_eq_false e]; rfl
    rw [this] at q; exact q
  · walk_at "go"
    refine f_list (xs := ads.map V.ref) (fun i σ H' => H' = H ∧ ∃ v w, σ = [some (.int n), some (.int d), some (.int c), some (.ref p), some (.int (1 * 2 ^ d.toNat)), v, w] ∧ ∀ r ∈ rows.take i, (r.length : Int) = n ∧ (r.all fun v => decide (0 ≤ v) && decide (v < 2 ^ d.toNat)) = true)
      ⟨rfl, none, none, rfl, by simp⟩ (fun i σ H' _ ⟨e, _⟩ => by rw [e]; exact SqL.of hT) ?_ ?_
    · rintro i x σ H' hx ⟨rfl, v, w, rfl, ok⟩
      rw [List.getElem?_map] at hx
      cases e : ads[i]? with
      | none => rw [e] at hx; cases hx
      | some a =>
        rw [e] at hx
        cases hx
        have hi : i < rows.length := by rw [← R.len]; exact (List.getElem?_eq_some_iff.mp e).1
        have hrow := s _ _ (R.row i a rows[i] e (List.getElem?_eq_getElem hi))
        have hm : rows[i] ∈ rows := List.getElem_mem hi
        walk_at "go"
        refine i_iteN (fun e => ?_) fun e => ?_
        · walk_at "go"
          rw [vals_no hm (.inr e)] at q; exact q
        · walk_at "go"
          refine f_ints (ns := rows[i]) (fun j σ H'' => H'' = H' ∧ ∃ w, σ = [some (.int n), some (.int d), some (.int c), some (.ref p), some (.int (1 * 2 ^ d.toNat)), some (.ref a), w] ∧ ∀ v ∈ rows[i].take j, 0 ≤ v ∧ v < 2 ^ d.toNat)
            ⟨rfl, w, rfl, by simp⟩ (fun j σ H'' _ ⟨e, _⟩ => by rw [e]; exact SqL.of hrow) ?_ ?_
          · rintro j z σ H'' hz ⟨rfl, w, rfl, okv⟩
            have hj := (List.getElem?_eq_some_iff.mp hz).1
            have hz' := (List.getElem?_eq_some_iff.mp hz).2
            have bad : ¬ (0 ≤ z ∧ z < 2 ^ d.toNat) → valsOk n d c rows = false := fun h => vals_no hm (.inl (List.all_eq_false.mpr ⟨z, List.mem_of_getElem? hz, by
              intro h'; rw [Bool.and_eq_true, decide_eq_true_eq, decide_eq_true_eq] at h'; exact h h'⟩))
            have good : (0 ≤ z ∧ z < 2 ^ d.toNat) → ∀ v ∈ rows[i].take (j + 1), 0 ≤ v ∧ v < 2 ^ d.toNat := fun h v hv => by
              rw [← List.take_append_getElem hj, List.mem_append] at hv
              rcases hv with hv | hv
              · exact okv v hv
              · rw [List.mem_singleton.mp hv, hz']; exact h
            walk_at "gos"
            all_goals first
              | exact ⟨rfl, _, rfl, good (by omega)⟩
              | (rw [bad (by omega)] at q; exact q)
          · rintro σ H'' ⟨rfl, w, rfl, okv⟩
            refine ⟨rfl, _, _, rfl, fun r hr => ?_⟩
            rw [← List.take_append_getElem hi, List.mem_append] at hr
            rcases hr with hr | hr
            · exact ok r hr
            · rw [List.mem_singleton.mp hr]
              rw [List.take_length] at okv
              refine ⟨e, List.all_eq_true.mpr fun v hv => ?_⟩
              rw [Bool.and_eq_true, decide_eq_true_eq, decide_eq_true_eq]; exact okv v hv
    · rintro σ H' ⟨rfl, v, w, rfl, ok⟩
      walk_at "go"
      rw [List.length_map, R.len, List.take_length] at ok
      have : valsOk n d c rows = true := by
        unfold valsOk
        rw [decide_eq_true e, Bool.true_and, List.all_eq_true]
        intro r hr
        rw [decide_eq_true (ok r hr).1, (ok r hr).2]; rfl
      rw [this] at q; exact q

--NEED rows pic
def sp_Picture_init (K : Frag) : Sp := fun vs H Q E => ∃ (x dx : Addr) (w h d c : Int) (p : Addr) (ads : List Addr) (rows : List (List Int)) (G : Hp), vs = [.ref x, .int w, .int h, .int d, .int c, .ref p] ∧ H x = some (.ins (He.ga K "Picture") dx []) ∧
  Same G H ∧ G x = none ∧ Rows G p ads rows ∧ rows.length < 1000000 ∧ OrErr K H E (picErr w h d c rows) (∀ H' q ds, (∀ b o, b ≠ x → H b = some o → H' b = some o) → H' x = some (.ins (He.ga K "Picture") dx (fsPic w h d c q)) → Rows (dif H H') q ds rows → Q .non H')
abbrev N_Picture_init : List Str := ["self", "width", "height", "depth", "channels", "values", "row"]
def t_Picture_init (K : Frag) (E : XK) : TS :=
  tSeq (tDrop (tCallS (sp_check_shape K) (WE (wE E)) (tCons (tVar 1) (tCons (tVar 2) (tCons (tVar 3) (tCons (tVar 4) (tNil))))))) (tSeq (tDrop (tCallS (sp_check_size K) (WE (wE E)) (tCons (tVar 1) (tCons (tVar 2) (tCons (tVar 4) (tNil)))))) (tSeq (tIfS (tNot (tB (tCallS (sp__are_values K) EF (tCons (tOp bMul (tVar 1) (tVar 2)) (tCons (tVar 3) (tCons (tVar 4) (tCons (tVar 5) (tNil)))))))) (tRaiseO (He.ga K "OutOfRange") (sp_OutOfRange_init K) (wE E) (tCons (tC (.str "values")) (tNil))) (tNext)) (tSeq (sF (He.ga K "Picture") "width" (tVar 0) (tVar 1)) (tSeq (sF (He.ga K "Picture") "height" (tVar 0) (tVar 2)) (tSeq (sF (He.ga K "Picture") "depth" (tVar 0) (tVar 3)) (tSeq (sF (He.ga K "Picture") "channels" (tVar 0) (tVar 4)) (sF (He.ga K "Picture") "_rows" (tVar 0) (tLc (iList K (tVar 5)) (gName 6) (tYes) (tCB (kList K) (tCons (tVar 6) (tNil))) [6]))))))))

theorem ar_Picture_init {K : Frag} : Ar 6 (sp_Picture_init K) := fun _ _ _ _ ⟨_, _, _, _, _, _, _, _, _, _, e, _⟩ => by rw [e]; rfl
theorem pure_Picture_init (K : Frag) (vs : List V) (H : Hp) (Q : VK) (E : XK) (h : sp_Picture_init K vs H Q E) : t_Picture_init K E (ends Q) (start N_Picture_init vs) H := by
  obtain ⟨x, dx, w, h, d, c, p, ads, rows, G, rfl, hx, s, gx, R, hl, q⟩ := h
  unfold t_Picture_init
  walk_at "go"
  refine ⟨w, h, d, c, rfl, fun s' e => ?_, fun e => ?_⟩
  · exact q.err (by unfold picErr; rw [e])
  walk_at "go"
  have hs : picErr w h d c rows = if w * h * c > 3072 then some ("size" : Str) else if valsOk (w * h) d c rows then none else some ("values" : Str) := by unfold picErr; rw [e]
  have sh : 1 ≤ w ∧ w ≤ 64 ∧ 1 ≤ h ∧ h ≤ 64 ∧ 1 ≤ d ∧ d ≤ 8 ∧ (c = 1 ∨ c = 3) := by
    unfold shapeErr at e
    repeat (split at e; · cases e)
    omega
  obtain ⟨a1, a2, a3, a4, a5, a6, a7⟩ := sh
  refine ⟨w, h, c, rfl, by omega, a2, by omega, a4, fun e1 => q.err (by rw [hs, if_pos e1]), fun e1 => ?_⟩
  rw [if_neg e1] at hs
  walk_at "go"
  refine ⟨w * h, d, c, p, ads, rows, G, rfl, s, R, by omega, by omega, ?_⟩
  walk_at "go"
  cases ev : valsOk (w * h) d c rows with
  | false =>
    walk_at "go"
    exact i_raiseC (q.err (by rw [hs, ev]; rfl))
  | true =>
    walk_at "go"
    rw [ev] at hs
    have q' := q.ok (by rw [hs]; rfl)
    clear q hs
    walk_at "go"
    refine rows_copy R (same_mut (same_mut (same_mut (same_mut s gx) gx) gx) gx) hl (fun {Q} z => ?_) ?_ (fun _ => ?_) fun H' D ds sD RD => ?_
    · walk_at "go"
      exact z
    · show 6 < 7; decide
    · exact rfl
    · have hx' := sD _ _ upd_same
      walk_at "go"
      have hD : D ≠ x := fun e => by have := RD.fresh.1; rw [e, upd_same] at this; cases this
      refine q' _ D ds (fun b o hb hH => ?_) upd_same ?_
      · rw [upd_ne hb]
        exact sD b o (by rw [upd_ne hb, upd_ne hb, upd_ne hb, upd_ne hb]; exact hH)
      · refine RD.same fun b o h => ?_
        have n1 := dif_new h
        have hb : b ≠ x := fun e => by rw [e, upd_same] at n1; cases n1
        rw [upd_ne hb, upd_ne hb, upd_ne hb, upd_ne hb] at n1
        rw [dif_at n1, upd_ne hb]
        exact dif_same _ _ h

--NEED rows pic deq
--FACTS xm_OutOfRange_OutOfRange kit_OutOfRange_NoFrame
def sp_law (K : Frag) : Sp := fun vs H Q _ => ∃ (a : Addr) (ns : List Int), vs = [.ref a] ∧ SqL K H a (ns.map V.int) ∧ ∀ H', Q (.bl true) H'
abbrev N_law : List Str := ["_law_script", "_law_sizes_here", "_law_values_here", "_law_passed", "_law_numbers_here", "_law_pick", "_law_kind", "_law_expected", "_law_name", "_law_picture", "e", "_law_told", "_law_first", "_law_row"]
def t_law (K : Frag) (E : XK) : TS :=
  tSeq (tAsg (tCallS (sp__law_sizes K) EF (tCons (tCallS (sp__law_cell K) EF (tCons (tVar 0) (tCons (tC (.int 0)) (tNil)))) (tCons (tIf (tTest (tOp rEq (tOp bMod (tCallS (sp__law_cell K) EF (tCons (tVar 0) (tCons (tC (.int 1)) (tNil)))) (tC (.int 4))) (tC (.int 1)))) (tC (.int 64)) (tC (.int 5))) (tNil)))) (gName 1)) (tSeq (tAsg (tCallS (sp__law_values K) EF (tCons (tCallS (sp__law_cell K) EF (tCons (tVar 0) (tCons (tC (.int 2)) (tNil)))) (tCons (tVar 1) (tNil)))) (gName 2)) (tSeq (tAsg (tLc (iList K (tVar 2)) (gName 13) (tYes) (tCB (kList K) (tCons (tVar 13) (tNil))) [13]) (gName 3)) (tSeq (tAsg (tCB (kList K) (tCons (tVar 1) (tNil))) (gName 4)) (tSeq (tAsg (tCallS (sp__law_numbers K) EF (tCons (tCallS (sp__law_cell K) EF (tCons (tVar 0) (tCons (tC (.int 3)) (tNil)))) (tCons (tC (.int 2)) (tCons (tC (.int 14000)) (tNil))))) (gName 5)) (tSeq (tAsg (tCB kMax (tCons (tC (.int 0)) (tCons (tOp bSub (tOp bMod (tOp (rIxL K) (tVar 5) (tC (.int 0))) (tC (.int 14))) (tC (.int 4))) (tNil)))) (gName 6)) (tSeq (tAsg (tCallS (sp__law_spoilt K) EF (tCons (tVar 6) (tCons (tOp (rIxL K) (tVar 5) (tC (.int 1))) (tCons (tVar 4) (tCons (tVar 3) (tNil)))))) (gName 7)) (tSeq (tAsg (tC (.str "")) (gName 8)) (tSeq (tAsg (tC .non) (gName 9)) (tSeq (tTryAs K (He.ga K "OutOfRange") 10 (fun W => tAsg (tMk (He.ga K "Picture") (sp_Picture_init K) (WE W) (tCons (tOp (rIxL K) (tVar 4) (tC (.int 0))) (tCons (tOp (rIxL K) (tVar 4) (tC (.int 1))) (tCons (tOp (rIxL K) (tVar 4) (tC (.int 2))) (tCons (tOp (rIxL K) (tVar 4) (tC (.int 3))) (tCons (tVar 3) (tNil))))))) (gName 9)) (fun a cls d => tAsg (tIf (tAnd (tB (tCB (rIsi K) (tCons (tXf a cls d (He.ga K "OutOfRange") "name" (tVar 10)) (tCons (tC (.ty "str")) (tNil))))) (tNot (tB (tCB (rIsX K (He.ga K "OutOfRange") a cls d) (tCons (tVar 10) (tCons (tC (.ref (He.ga K "NoFrame"))) (tNil))))))) (tXf a cls d (He.ga K "OutOfRange") "name" (tVar 10)) (tC (.str "odd"))) (gName 8)) CF) (tSeq (tIfS (tTest (tOp cGt (tVar 6) (tC (.int 0)))) (tRet (tAndV (tOp cIsN (tVar 9) (tC .non)) (tOp rEq (tVar 8) (tVar 7)))) (tNext)) (tSeq (tIfS (tOr (tTest (tOp cIsN (tVar 9) (tC .non))) (tNot (tB (tCallS (sp__law_holds K) EF (tCons (tVar 9) (tCons (tVar 1) (tCons (tVar 2) (tNil)))))))) (tRet (tC (.bl false))) (tNext)) (tSeq (tAsg (tUn uNeg (tC (.int 5))) (gSub (tOp (rIxL K) (tVar 3) (tC (.int 0))) (tC (.int 0)) rSetL)) (tSeq (tDrop (tBM K "list" rAppend (tVar 3) (tCons (tLst (tNil)) (tNil)))) (tSeq (tAsg (tMe (He.ga K "Picture") "row" (sp_Picture_row K) EF (tVar 9) (tCons (tC (.int 0)) (tNil))) (gName 11)) (tSeq (tAsg (tUn uNeg (tC (.int 5))) (gSub (tVar 11) (tC (.int 0)) rSetL)) (tSeq (tAsg (tMe (He.ga K "Picture") "rows" (sp_Picture_rows K) EF (tVar 9) tNil) (gName 11)) (tSeq (tAsg (tOp (rIxL K) (tVar 11) (tC (.int 0))) (gName 12)) (tSeq (tAsg (tUn uNeg (tC (.int 5))) (gSub (tVar 12) (tC (.int 0)) rSetL)) (tSeq (tDrop (tBM K "list" rAppend (tVar 11) (tCons (tLst (tNil)) (tNil)))) (tRet (tCallS (sp__law_holds K) EF (tCons (tVar 9) (tCons (tVar 1) (tCons (tVar 2) (tNil)))))))))))))))))))))))))

theorem ar_law {K : Frag} : Ar 1 (sp_law K) := fun _ _ _ _ ⟨_, _, e, _⟩ => by rw [e]; rfl
theorem vals_ok {w h d c : Int} {rows : List (List Int)} (O : RowsOk w h d c rows) : valsOk (w * h) d c rows = true := by
  unfold valsOk
  rw [decide_eq_true O.len, Bool.true_and, List.all_eq_true]
  intro r hr
  obtain ⟨h1, h2⟩ := O.row r hr
  rw [decide_eq_true h1, Bool.true_and, List.all_eq_true]
  intro v hv
  obtain ⟨a, b⟩ := h2 v hv
  rw [decide_eq_true a, decide_eq_true b]; rfl
theorem pure_law (K : Frag) (hxm : PySem.W.exmOne K (.ref (He.ga K "OutOfRange")) (.ref (He.ga K "OutOfRange")) = some true) (hkit : PySem.W.kitOne K (.ref (He.ga K "OutOfRange")) (.ref (He.ga K "NoFrame")) = some false)
    (vs : List V) (H : Hp) (Q : VK) (E : XK) (h : sp_law K vs H Q E) : t_law K E (ends Q) (start N_law vs) H := by
  obtain ⟨a, ns, rfl, hS, q⟩ := h
  unfold t_law
  walk_at "go"
  refine ⟨a, 0, ns, rfl, hS, by decide, fun c0 => ?_⟩
  walk_at "go"
  refine ⟨a, 1, ns, rfl, hS, by decide, fun c1 => ?_⟩
  walk_at "go"
  refine i_iteC fun z hz => ?_
  obtain ⟨m, rfl, m1, m2⟩ : ∃ m, z = .int m ∧ 1 ≤ m ∧ m ≤ 64 := by
    rcases hz with rfl | rfl
    · exact ⟨64, rfl, by decide, by decide⟩
    · exact ⟨5, rfl, by decide, by decide⟩
  walk_at "go"
  refine ⟨c0, m, rfl, m1, m2, fun H1 s w h d c t S1 s0 hs Z => ?_⟩
  have Z64 : Sz 64 w h d c t := ⟨Z.w1, Int.le_trans Z.w2 m2, Z.h1, Int.le_trans Z.h2 m2, Z.d1, Z.d2, Z.ch, Z.t1, Z.t2, Z.sz⟩
  clear Z
  walk_at "go"
  refine ⟨a, 2, ns, rfl, S1.seq hS, by decide, fun c2 => ?_⟩
  walk_at "go"
  refine ⟨c2, s, w, h, d, c, t, rfl, hs, Z64, fun H2 p ads rows S2 R2 O => ?_⟩
  have hl : rows.length < 1000000 := by have := O.len; have := Z64.ch; omega
  walk_at "go"
  refine rows_copy R2 dif_same hl (fun {Q} z => ?_) ?_ (fun _ => ?_) fun H3 D ds S3 R3 => ?_
  · walk_at "go"
    exact z
  · show 13 < 14; decide
  · exact rfl
  have hs3 : H3 s = some (.lst [.int w, .int h, .int d, .int c, .int t]) := S3 _ _ (S2 _ _ hs)
  walk_at "go"
  intro l nl
  walk_at "go"
  have S4 : Same H3 (upd H3 l (.lst [.int w, .int h, .int d, .int c, .int t])) := same_upd nl
  refine ⟨a, 3, ns, rfl, (((S1.trans S2).trans S3).trans S4).seq hS, by decide, fun c3 => ?_⟩
  walk_at "go"
  refine ⟨c3, 2, 14000, rfl, by decide, by decide, by decide, by decide, fun H5 pk ks S5 n5 hk l5 a5 => ?_⟩
  obtain ⟨k0, k1, rfl⟩ : ∃ k0 k1, ks = [k0, k1] := by
    match ks, l5 with
    | [k0, k1], _ => exact ⟨k0, k1, rfl⟩
    | [], l => simp at l
    | [_], l => simp at l
    | _ :: _ :: _ :: _, l => simp at l; omega
  have hk' : H5 pk = some (.lst [.int k0, .int k1]) := hk
  have b0 := a5 k0 (by simp)
  have b1 := a5 k1 (by simp)
  clear hk a5
  walk_at "go"
  have hl5 : H5 l = some (.lst [.int w, .int h, .int d, .int c, .int t]) := S5 _ _ upd_same
  have nl2 : H2 l = none := S3.free nl
  have GS : Same (dif H2 H3) H5 := (dif_same.trans S4).trans S5
  have Gl : dif H2 H3 l = none := by rw [dif_at nl2]; exact nl
  generalize hkk : (if k0 % 14 - 4 > 0 then k0 % 14 - 4 else 0 : Int) = kk at *
  have kk0 : 0 ≤ kk ∧ kk ≤ 9 := by
    rw [← hkk]; split <;> omega
  refine ⟨kk, k1, l, D, w, h, d, c, t, ds, rows, dif H2 H3, rfl, kk0.1, kk0.2, b1.1, hl5, R3, GS, Gl, Z64, O, ?_⟩
  intro H6 G6 w' h' d' c' es rows' hl6 R6 S6 keep6 dom6 len6 z6 bad6
  have keep : ∀ b o, b ≠ l → dif H2 H3 b = none → H5 b = some o → H6 b = some o := keep6
  have hs5 : H5 s = some (.lst [.int w, .int h, .int d, .int c, .int t]) := S5 _ _ (S4 _ _ hs3)
  have sl : s ≠ l := ne_of_none hs3 nl
  have hs6 : H6 s = some (.lst [.int w, .int h, .int d, .int c, .int t]) := keep s _ sl (dif_none (S2 _ _ hs)) hs5
  have gs6 : G6 s = none := dom6 s _ hs5 (dif_none (S2 _ _ hs))
  -- the drawn values
  have RV6 : Rows H6 p ads rows ∧ ∀ b o, dif H1 H2 b = some o → G6 b = none := by
    have k1 : ∀ b o, dif H1 H2 b = some o → H6 b = some o ∧ G6 b = none := fun b o e => by
      have e2 := dif_same _ _ e
      have e5 : H5 b = some o := S5 _ _ (S4 _ _ (S3 _ _ e2))
      exact ⟨keep b o (fun z => by rw [z, nl2] at e2; cases e2) (dif_none e2) e5, dom6 b o e5 (dif_none e2)⟩
    exact ⟨R2.same fun b o e => (k1 b o e).1, fun b o e => (k1 b o e).2⟩
  obtain ⟨RV, domV⟩ := RV6
  walk_at "go"
  intro x dx nx ndx nex
  have gx : G6 x = none := S6.free nx
  have Smk : Same H6 (upd (upd H6 dx (.own x)) x (.ins (He.ga K "Picture") dx [])) := same_new (same_upd ndx) (by rw [upd_ne (Ne.symm nex)]; exact nx)
  refine ⟨x, dx, w', h', d', c', D, es, rows', G6, rfl, upd_same, S6.trans Smk, gx, R6, by omega, fun er her => ?_, fun her => ?_⟩
  · -- refused
    have kpos : kk ≠ 0 := fun e => by
      obtain ⟨rfl, rfl, rfl, rfl, rfl⟩ := z6 e
      rw [pic_vals Z64 (Int.le_refl _), vals_ok O] at her
      cases her
    have ern : er = spoiltName kk := Option.some.inj (her.symm.trans (bad6 kpos))
    intro dd ndd
    refine w_as hxm fun ea nea => ?_
    walk_at "go"
    refine r_xf upd_same rfl ?_
    walk_at "go"
    refine i_isi (b := true) (.ty "str") (.base (.str er)) (kit_ty (by decide +kernel)) ?_
    walk_at "go"
    refine i_isX (b := false) upd_same (.own _) hkit ?_
    walk_at "go"
    refine r_xf upd_same rfl ?_
    walk_at "go"
    rw [decide_eq_true ern]
    exact q _
  · intro H7 pr prs keep7 hx7 R7
    have k00 : kk = 0 := by
      by_cases e : kk = 0
      · exact e
      · rw [bad6 e] at her; cases her
    obtain ⟨rfl, rfl, rfl, rfl, rfl⟩ := z6 k00
    refine ⟨rfl, ?_⟩
    have S7 : Same H6 H7 := fun b o e => keep7 b o (ne_of_none e nx) (Smk _ _ e)
    have hx7n : ∀ b, dif (upd (upd H6 dx (.own x)) x (.ins (He.ga K "Picture") dx [])) H7 b ≠ none → H6 b = none := fun b hb => by
      cases e : H6 b with
      | none => rfl
      | some o => exact absurd (dif_none (Smk _ _ e)) hb
    -- what is never written from here on
    have SG : Same (dif G6 H7) H7 := dif_same
    have PG : PicAt K (dif G6 H7) x ⟨w', h', d', c', rows'⟩ := by
      refine ⟨dx, pr, prs, by rw [dif_at gx]; exact hx7, R7.same fun b o e => ?_⟩
      have n6 := hx7n b (by rw [e]; exact fun z => nomatch z)
      rw [dif_at (S6.free n6)]
      exact dif_same _ _ e
    have sG : dif G6 H7 s = some (.lst [.int w', .int h', .int d', .int c', .int t]) := by rw [dif_at gs6]; exact S7 _ _ hs6
    have RG : Rows (dif G6 H7) p ads rows' := R2.same fun b o e => by
      rw [dif_at (domV b o e)]
      have e2 := dif_same _ _ e
      have e5 : H5 b = some o := S5 _ _ (S4 _ _ (S3 _ _ e2))
      exact S7 _ _ (keep b o (fun z => by rw [z, nl2] at e2; cases e2) (dif_none e2) e5)
    have rl := O.len
    have ch := Z64.ch
    have wh : 1 ≤ w' * h' := by have := Int.mul_le_mul Z64.w1 Z64.h1 (by decide) (by have := Z64.w1; omega); simpa using this
    have wh2 : w' * h' ≤ 3072 := by have := Z64.sz; rcases ch with rfl | rfl <;> omega
    have rows1 : ∀ r ∈ rows', 1 ≤ r.length ∧ r.length < 1000000 := fun r hr => by have := (O.row r hr).1; omega
    walk_at "go"
    refine ⟨x, s, p, ⟨w', h', d', c', rows'⟩, t, ads, dif G6 H7, rfl, SG, PG, sG, RG, by show (rows'.length : Int) = c'; omega, by show rows'.length < 1000; omega, rows1, fun H8 S8 => ?_⟩
    have SG8 := SG.trans S8
    have R68 := R6.same ((S6.trans S7).trans S8)
    -- passed[0][0] = -5
    obtain ⟨b0, hb0, hr0⟩ := R68.at (i := 0) (by omega)
    have hb0' : es[(0 : Int).toNat]? = some b0 := hb0
    have hD8 := R68.top
    have len0 : 1 ≤ (rows'.getD 0 []).length := by
      have hm : rows'.getD 0 [] ∈ rows' := by rw [List.getD_eq_getElem?_getD, List.getElem?_eq_getElem (by omega)]; exact List.getElem_mem _
      exact (rows1 _ hm).1
    walk_at "go"
    refine i_ixL hD8 (atI_map_ref (by decide) hb0') ?_
    walk_at "go"
    refine i_setL hr0 (ixN_nat (by decide) (by rw [List.length_map]; omega)) ?_
    have gb0 : dif G6 H7 b0 = none := by
      obtain ⟨r, e⟩ := R6.has (List.mem_of_getElem? hb0)
      exact dif_none e
    have gD : dif G6 H7 D = none := dif_none R6.top
    have SG9 := same_mut (o := HO.lst (((rows'.getD 0 []).map V.int).set (0 : Int).toNat (.int (-1 * 5)))) SG8 gb0
    have Db : D ≠ b0 := fun e => (List.nodup_cons.mp R68.nd).1 (e ▸ List.mem_of_getElem? hb0)
    have hD9 : (upd H8 b0 (.lst (((rows'.getD 0 []).map V.int).set (0 : Int).toNat (.int (-5))))) D = some (.lst (es.map V.ref)) := by rw [upd_ne Db]; exact hD8
    have SG9' : Same (dif G6 H7) (upd H8 b0 (.lst (((rows'.getD 0 []).map V.int).set (0 : Int).toNat (.int (-5))))) := SG9
    clear SG9
    generalize upd H8 b0 (.lst (((rows'.getD 0 []).map V.int).set (0 : Int).toNat (.int (-5)))) = H9 at *
    -- passed.append([])
    walk_at "go"
    intro y ny
    have hD10 : (upd H9 y (.lst [])) D = some (.lst (es.map V.ref)) := by rw [upd_ne (ne_of_none hD9 ny)]; exact hD9
    have SG10 := same_mut (o := HO.lst (es.map V.ref ++ [.ref y])) (same_new (o := HO.lst []) SG9' ny) gD
    have le : es.length = rows'.length := R6.len
    walk_at "go"
    generalize upd (upd H9 y (.lst [])) D (.lst (es.map V.ref ++ [.ref y])) = H10 at *
    -- told = picture.row(0); told[0] = -5
    obtain ⟨dx1, q1, ads1, hx1, _⟩ := id PG
    have hx10 := SG10 _ _ hx1
    walk_at "go"
    refine ⟨x, 0, ⟨w', h', d', c', rows'⟩, dif G6 H7, rfl, SG10, PG, by decide, by show (0 : Int) < rows'.length; omega, fun H11 tr S11 n11 e11 => ?_⟩
    have e11' : H11 tr = some (.lst ((rows'.getD 0 []).map V.int)) := e11
    clear e11
    walk_at "go"
    refine i_setL e11' (ixN_nat (by decide) (by rw [List.length_map]; omega)) ?_
    have SG11 := same_mut (o := HO.lst (((rows'.getD 0 []).map V.int).set (0 : Int).toNat (.int (-5)))) (SG10.trans S11) (SG10.free n11)
    generalize upd H11 tr (.lst (((rows'.getD 0 []).map V.int).set (0 : Int).toNat (.int (-5)))) = H12 at *
    have hx12 := SG11 _ _ hx1
    walk_at "go"
    -- told = picture.rows(); told[0][0] = -5; told.append([])
    refine ⟨x, ⟨w', h', d', c', rows'⟩, dif G6 H7, rfl, SG11, PG, by show rows'.length < 1000000; omega, fun H13 T ts S13 R13 => ?_⟩
    have R13' : Rows (dif H12 H13) T ts rows' := R13
    clear R13
    obtain ⟨b1, hb1, hr1⟩ := (R13'.same dif_same).at (i := 0) (by omega)
    have hb1' : ts[(0 : Int).toNat]? = some b1 := hb1
    have hT13 := (R13'.same dif_same).top
    walk_at "go"
    refine i_ixL hT13 (atI_map_ref (by decide) hb1') ?_
    walk_at "go"
    refine i_setL hr1 (ixN_nat (by decide) (by rw [List.length_map]; omega)) ?_
    have gb1 : dif G6 H7 b1 = none := SG11.free (R13'.fresh.2 b1 (List.mem_of_getElem? hb1))
    have gT : dif G6 H7 T = none := SG11.free R13'.fresh.1
    have SG13 := same_mut (o := HO.lst (((rows'.getD 0 []).map V.int).set (0 : Int).toNat (.int (-5)))) (SG11.trans S13) gb1
    have Tb : T ≠ b1 := fun e => (List.nodup_cons.mp R13'.nd).1 (e ▸ List.mem_of_getElem? hb1)
    have hT14 : (upd H13 b1 (.lst (((rows'.getD 0 []).map V.int).set (0 : Int).toNat (.int (-5))))) T = some (.lst (ts.map V.ref)) := by rw [upd_ne Tb]; exact hT13
    generalize upd H13 b1 (.lst (((rows'.getD 0 []).map V.int).set (0 : Int).toNat (.int (-5)))) = H14 at *
    walk_at "go"
    intro u nu
    have hT15 : (upd H14 u (.lst [])) T = some (.lst (ts.map V.ref)) := by rw [upd_ne (ne_of_none hT14 nu)]; exact hT14
    have lt : ts.length = rows'.length := R13'.len
    have SG15 := same_mut (o := HO.lst (ts.map V.ref ++ [.ref u])) (same_new (o := HO.lst []) SG13 nu) gT
    walk_at "go"
    exact ⟨x, s, p, ⟨w', h', d', c', rows'⟩, t, ads, dif G6 H7, rfl, SG15, PG, sG, RG, by show (rows'.length : Int) = c'; omega, by show rows'.length < 1000; omega, rows1, fun H8 S8 => q _⟩

def top (i : Nat) : Stmt := PySem.Challenge.pw_packetpicture_k06_picture_bounds_and_cop.main.body.getD i (.Pass ⟨0, 0, 0, 0⟩)
abbrev s__law_mixed : Stmt := top 16
def d__law_mixed : He.DefD := ⟨("_law_mixed", none), "_law_mixed", "_law_mixed", defArgs s__law_mixed, defBody s__law_mixed, defScope s__law_mixed, [], []⟩

abbrev s__law_numbers : Stmt := top 17
def d__law_numbers : He.DefD := ⟨("_law_numbers", none), "_law_numbers", "_law_numbers", defArgs s__law_numbers, defBody s__law_numbers, defScope s__law_numbers, [], []⟩

abbrev s__law_sizes : Stmt := top 18
def d__law_sizes : He.DefD := ⟨("_law_sizes", none), "_law_sizes", "_law_sizes", defArgs s__law_sizes, defBody s__law_sizes, defScope s__law_sizes, [], []⟩

abbrev s__law_values : Stmt := top 19
def d__law_values : He.DefD := ⟨("_law_values", none), "_law_values", "_law_values", defArgs s__law_values, defBody s__law_values, defScope s__law_values, [], []⟩

abbrev s__law_spoilt : Stmt := top 22
def d__law_spoilt : He.DefD := ⟨("_law_spoilt", none), "_law_spoilt", "_law_spoilt", defArgs s__law_spoilt, defBody s__law_spoilt, defScope s__law_spoilt, [], []⟩

abbrev s_Picture_row : Stmt := inClass (top 13) 2
def d_Picture_row : He.DefD := ⟨("Picture", some "row"), "row", "Picture.row", defArgs s_Picture_row, defBody s_Picture_row, defScope s_Picture_row, [], []⟩

abbrev s_Picture_rows : Stmt := inClass (top 13) 3
def d_Picture_rows : He.DefD := ⟨("Picture", some "rows"), "rows", "Picture.rows", defArgs s_Picture_rows, defBody s_Picture_rows, defScope s_Picture_rows, [], []⟩

abbrev s__law_is_int : Stmt := top 20
def d__law_is_int : He.DefD := ⟨("_law_is_int", none), "_law_is_int", "_law_is_int", defArgs s__law_is_int, defBody s__law_is_int, defScope s__law_is_int, [], []⟩

abbrev s__law_are_ints : Stmt := top 21
def d__law_are_ints : He.DefD := ⟨("_law_are_ints", none), "_law_are_ints", "_law_are_ints", defArgs s__law_are_ints, defBody s__law_are_ints, defScope s__law_are_ints, [], []⟩

abbrev s_Picture_value : Stmt := inClass (top 13) 1
def d_Picture_value : He.DefD := ⟨("Picture", some "value"), "value", "Picture.value", defArgs s_Picture_value, defBody s_Picture_value, defScope s_Picture_value, [], []⟩

abbrev s__law_holds : Stmt := top 23
def d__law_holds : He.DefD := ⟨("_law_holds", none), "_law_holds", "_law_holds", defArgs s__law_holds, defBody s__law_holds, defScope s__law_holds, [], []⟩

abbrev s__law_cell : Stmt := top 15
def d__law_cell : He.DefD := ⟨("_law_cell", none), "_law_cell", "_law_cell", defArgs s__law_cell, defBody s__law_cell, defScope s__law_cell, [], []⟩

abbrev s_OutOfRange_init : Stmt := inClass (top 3) 0
def d_OutOfRange_init : He.DefD := ⟨("OutOfRange", some "__init__"), "__init__", "OutOfRange.__init__", defArgs s_OutOfRange_init, defBody s_OutOfRange_init, defScope s_OutOfRange_init, [], []⟩

abbrev s_check_shape : Stmt := top 9
def d_check_shape : He.DefD := ⟨("check_shape", none), "check_shape", "check_shape", defArgs s_check_shape, defBody s_check_shape, defScope s_check_shape, [], []⟩

abbrev s_check_size : Stmt := top 10
def d_check_size : He.DefD := ⟨("check_size", none), "check_size", "check_size", defArgs s_check_size, defBody s_check_size, defScope s_check_size, [], []⟩

abbrev s__are_values : Stmt := top 12
def d__are_values : He.DefD := ⟨("_are_values", none), "_are_values", "_are_values", defArgs s__are_values, defBody s__are_values, defScope s__are_values, [], []⟩

abbrev s_Picture_init : Stmt := inClass (top 13) 0
def d_Picture_init : He.DefD := ⟨("Picture", some "__init__"), "__init__", "Picture.__init__", defArgs s_Picture_init, defBody s_Picture_init, defScope s_Picture_init, [], []⟩

abbrev s_law : Stmt := top 24
def d_law : He.DefD := ⟨("law", none), "law", "law", defArgs s_law, defBody s_law, defScope s_law, [], []⟩

def fn : List He.DefD := ([d__law_mixed, d__law_numbers, d__law_sizes, d__law_values, d__law_spoilt, d_Picture_row, d_Picture_rows, d__law_is_int, d__law_are_ints, d_Picture_value, d__law_holds, d__law_cell, d_OutOfRange_init, d_check_shape, d_check_size, d__are_values, d_Picture_init, d_law] : List He.DefD)
def fa0 : List (Frag → Bool) := [
  fun K => (He.Fa.cls "Picture").ok K,
  fun K => (He.Fa.glo "NoFrame").ok K,
  fun K => (He.Fa.glo "OutOfRange").ok K,
  fun K => (He.Fa.glo "Picture").ok K,
  fun K => (He.Fa.glo "_are_values").ok K,
  fun K => (He.Fa.glo "_law_are_ints").ok K,
  fun K => (He.Fa.glo "_law_cell").ok K,
  fun K => (He.Fa.glo "_law_holds").ok K,
  fun K => (He.Fa.glo "_law_is_int").ok K,
  fun K => (He.Fa.glo "_law_mixed").ok K,
  fun K => (He.Fa.glo "_law_numbers").ok K,
  fun K => (He.Fa.glo "_law_sizes").ok K,
  fun K => (He.Fa.glo "_law_spoilt").ok K,
  fun K => (He.Fa.glo "_law_values").ok K,
  fun K => (He.Fa.glo "check_shape").ok K,
  fun K => (He.Fa.glo "check_size").ok K,
  fun K => (He.Fa.glo "law").ok K,
  fun K => (He.Fa.int "DEPTH_MOST" (8)).ok K,
  fun K => (He.Fa.int "SIDE_MOST" (64)).ok K,
  fun K => (He.Fa.int "VALUES_MOST" (3072)).ok K,
  fun K => (He.Fa.mkr "Picture").ok K,
  fun K => decide (PySem.W.kitOne K (.ref (He.ga K "OutOfRange")) (.ref (He.ga K "NoFrame")) = some false),
  fun K => (He.Fa.meth "Picture" "row").ok K,
  fun K => (He.Fa.meth "Picture" "rows").ok K,
  fun K => (He.Fa.meth "Picture" "value").ok K,
  fun K => (He.Fa.noat "OutOfRange" "name").ok K,
  fun K => (He.Fa.noat "Picture" "_rows").ok K,
  fun K => (He.Fa.noat "Picture" "channels").ok K,
  fun K => (He.Fa.noat "Picture" "depth").ok K,
  fun K => (He.Fa.noat "Picture" "height").ok K]
def fa1 : List (Frag → Bool) := [
  fun K => (He.Fa.noat "Picture" "width").ok K,
  fun K => oexB K (He.ga K "OutOfRange"),
  fun K => excCB K (He.ga K "OutOfRange"),
  fun K => xfB K (He.ga K "OutOfRange"),
  fun K => oexI K (He.ga K "OutOfRange") (He.fAd K ("OutOfRange", some "__init__")),
  fun K => (He.Fa.exm "OutOfRange" "OutOfRange" true).ok K,
  fun K => (He.Fa.free "abs").ok K,
  fun K => (He.Fa.free "all").ok K,
  fun K => (He.Fa.free "bool").ok K,
  fun K => (He.Fa.free "int").ok K,
  fun K => (He.Fa.free "isinstance").ok K,
  fun K => (He.Fa.free "len").ok K,
  fun K => (He.Fa.free "list").ok K,
  fun K => (He.Fa.free "max").ok K,
  fun K => (He.Fa.free "min").ok K,
  fun K => (He.Fa.free "range").ok K,
  fun K => (He.Fa.free "str").ok K]
def fa : List (Frag → Bool) := fa0 ++ fa1
structure Top (K : Frag) (mg : Str → Option Value) : Prop where
  ex : ∃ h : Heap, K.In h ∧ h.Ns mainGlobals mg
  says : SaysP (fun K => fa.all fun f => f K) fn K
theorem Top.fact {K : Frag} {mg : Str → Option Value} (T : Top K mg) {g : List (Frag → Bool)} (hg : ∀ f, f ∈ g → f ∈ fa) (i : Nat) {f : Frag → Bool} (h : g[i]? = some f := by rfl) : f K = true := List.all_eq_true.mp T.says.facts f (hg f (List.mem_of_getElem? h))
theorem in_fa0 : ∀ f, f ∈ fa0 → f ∈ fa := fun f h => by unfold fa; simp only [List.mem_append]; simp only [h, true_or, or_true]
theorem in_fa1 : ∀ f, f ∈ fa1 → f ∈ fa := fun f h => by unfold fa; simp only [List.mem_append]; simp only [h, true_or, or_true]
section
variable {K : Frag} {mg : Str → Option Value}
theorem c_Picture (T : Top K mg) : Cls K (He.ga K "Picture") := He.cls_ok (T.fact in_fa0 0)
theorem g_NoFrame (T : Top K mg) : mg "NoFrame" = some (.ref (He.ga K "NoFrame")) := let ⟨_, X, G⟩ := T.ex; He.glo_ok X G (T.fact in_fa0 1)
theorem g_OutOfRange (T : Top K mg) : mg "OutOfRange" = some (.ref (He.ga K "OutOfRange")) := let ⟨_, X, G⟩ := T.ex; He.glo_ok X G (T.fact in_fa0 2)
theorem g_Picture (T : Top K mg) : mg "Picture" = some (.ref (He.ga K "Picture")) := let ⟨_, X, G⟩ := T.ex; He.glo_ok X G (T.fact in_fa0 3)
theorem g__are_values (T : Top K mg) : mg "_are_values" = some (.ref (He.ga K "_are_values")) := let ⟨_, X, G⟩ := T.ex; He.glo_ok X G (T.fact in_fa0 4)
theorem g__law_are_ints (T : Top K mg) : mg "_law_are_ints" = some (.ref (He.ga K "_law_are_ints")) := let ⟨_, X, G⟩ := T.ex; He.glo_ok X G (T.fact in_fa0 5)
theorem g__law_cell (T : Top K mg) : mg "_law_cell" = some (.ref (He.ga K "_law_cell")) := let ⟨_, X, G⟩ := T.ex; He.glo_ok X G (T.fact in_fa0 6)
theorem g__law_holds (T : Top K mg) : mg "_law_holds" = some (.ref (He.ga K "_law_holds")) := let ⟨_, X, G⟩ := T.ex; He.glo_ok X G (T.fact in_fa0 7)
theorem g__law_is_int (T : Top K mg) : mg "_law_is_int" = some (.ref (He.ga K "_law_is_int")) := let ⟨_, X, G⟩ := T.ex; He.glo_ok X G (T.fact in_fa0 8)
theorem g__law_mixed (T : Top K mg) : mg "_law_mixed" = some (.ref (He.ga K "_law_mixed")) := let ⟨_, X, G⟩ := T.ex; He.glo_ok X G (T.fact in_fa0 9)
theorem g__law_numbers (T : Top K mg) : mg "_law_numbers" = some (.ref (He.ga K "_law_numbers")) := let ⟨_, X, G⟩ := T.ex; He.glo_ok X G (T.fact in_fa0 10)
theorem g__law_sizes (T : Top K mg) : mg "_law_sizes" = some (.ref (He.ga K "_law_sizes")) := let ⟨_, X, G⟩ := T.ex; He.glo_ok X G (T.fact in_fa0 11)
theorem g__law_spoilt (T : Top K mg) : mg "_law_spoilt" = some (.ref (He.ga K "_law_spoilt")) := let ⟨_, X, G⟩ := T.ex; He.glo_ok X G (T.fact in_fa0 12)
theorem g__law_values (T : Top K mg) : mg "_law_values" = some (.ref (He.ga K "_law_values")) := let ⟨_, X, G⟩ := T.ex; He.glo_ok X G (T.fact in_fa0 13)
theorem g_check_shape (T : Top K mg) : mg "check_shape" = some (.ref (He.ga K "check_shape")) := let ⟨_, X, G⟩ := T.ex; He.glo_ok X G (T.fact in_fa0 14)
theorem g_check_size (T : Top K mg) : mg "check_size" = some (.ref (He.ga K "check_size")) := let ⟨_, X, G⟩ := T.ex; He.glo_ok X G (T.fact in_fa0 15)
theorem g_law (T : Top K mg) : mg "law" = some (.ref (He.ga K "law")) := let ⟨_, X, G⟩ := T.ex; He.glo_ok X G (T.fact in_fa0 16)
theorem i_DEPTH_MOST (T : Top K mg) : ∃ t, mg "DEPTH_MOST" = some (.int (8) t) := let ⟨_, X, G⟩ := T.ex; He.int_ok X G (T.fact in_fa0 17)
theorem i_SIDE_MOST (T : Top K mg) : ∃ t, mg "SIDE_MOST" = some (.int (64) t) := let ⟨_, X, G⟩ := T.ex; He.int_ok X G (T.fact in_fa0 18)
theorem i_VALUES_MOST (T : Top K mg) : ∃ t, mg "VALUES_MOST" = some (.int (3072) t) := let ⟨_, X, G⟩ := T.ex; He.int_ok X G (T.fact in_fa0 19)
theorem k_Picture (T : Top K mg) : Mk K (He.ga K "Picture") (He.fAd K ("Picture", some "__init__")) := He.mkr_ok (T.fact in_fa0 20)
theorem kit_OutOfRange_NoFrame (T : Top K mg) : PySem.W.kitOne K (.ref (He.ga K "OutOfRange")) (.ref (He.ga K "NoFrame")) = some false := of_decide_eq_true (T.fact in_fa0 21)
theorem m_Picture_row (T : Top K mg) : Meth K (He.ga K "Picture") "row" (He.fAd K ("Picture", some "row")) := He.meth_ok (T.fact in_fa0 22)
theorem m_Picture_rows (T : Top K mg) : Meth K (He.ga K "Picture") "rows" (He.fAd K ("Picture", some "rows")) := He.meth_ok (T.fact in_fa0 23)
theorem m_Picture_value (T : Top K mg) : Meth K (He.ga K "Picture") "value" (He.fAd K ("Picture", some "value")) := He.meth_ok (T.fact in_fa0 24)
theorem n_OutOfRange_name (T : Top K mg) : NoAttr K (He.ga K "OutOfRange") "name" := He.noat_ok (T.fact in_fa0 25)
theorem n_Picture__rows (T : Top K mg) : NoAttr K (He.ga K "Picture") "_rows" := He.noat_ok (T.fact in_fa0 26)
theorem n_Picture_channels (T : Top K mg) : NoAttr K (He.ga K "Picture") "channels" := He.noat_ok (T.fact in_fa0 27)
theorem n_Picture_depth (T : Top K mg) : NoAttr K (He.ga K "Picture") "depth" := He.noat_ok (T.fact in_fa0 28)
theorem n_Picture_height (T : Top K mg) : NoAttr K (He.ga K "Picture") "height" := He.noat_ok (T.fact in_fa0 29)
theorem n_Picture_width (T : Top K mg) : NoAttr K (He.ga K "Picture") "width" := He.noat_ok (T.fact in_fa1 0)
theorem x_OutOfRange (T : Top K mg) : OexC K (He.ga K "OutOfRange") := oexB_ok (T.fact in_fa1 1)
theorem xd_OutOfRange (T : Top K mg) : ExcC K (He.ga K "OutOfRange") := excCB_ok (T.fact in_fa1 2)
theorem xf_OutOfRange (T : Top K mg) : XfC K (He.ga K "OutOfRange") := xfB_ok (T.fact in_fa1 3)
theorem xi_OutOfRange (T : Top K mg) : OexI K (He.ga K "OutOfRange") (He.fAd K ("OutOfRange", some "__init__")) := oexI_ok (T.fact in_fa1 4)
theorem xm_OutOfRange_OutOfRange (T : Top K mg) : PySem.W.exmOne K (.ref (He.ga K "OutOfRange")) (.ref (He.ga K "OutOfRange")) = some true := He.exm_ok (T.fact in_fa1 5)
theorem z_abs (T : Top K mg) : mg "abs" = none := let ⟨_, X, G⟩ := T.ex; He.free_ok X G (T.fact in_fa1 6)
theorem z_all (T : Top K mg) : mg "all" = none := let ⟨_, X, G⟩ := T.ex; He.free_ok X G (T.fact in_fa1 7)
theorem z_bool (T : Top K mg) : mg "bool" = none := let ⟨_, X, G⟩ := T.ex; He.free_ok X G (T.fact in_fa1 8)
theorem z_int (T : Top K mg) : mg "int" = none := let ⟨_, X, G⟩ := T.ex; He.free_ok X G (T.fact in_fa1 9)
theorem z_isinstance (T : Top K mg) : mg "isinstance" = none := let ⟨_, X, G⟩ := T.ex; He.free_ok X G (T.fact in_fa1 10)
theorem z_len (T : Top K mg) : mg "len" = none := let ⟨_, X, G⟩ := T.ex; He.free_ok X G (T.fact in_fa1 11)
theorem z_list (T : Top K mg) : mg "list" = none := let ⟨_, X, G⟩ := T.ex; He.free_ok X G (T.fact in_fa1 12)
theorem z_max (T : Top K mg) : mg "max" = none := let ⟨_, X, G⟩ := T.ex; He.free_ok X G (T.fact in_fa1 13)
theorem z_min (T : Top K mg) : mg "min" = none := let ⟨_, X, G⟩ := T.ex; He.free_ok X G (T.fact in_fa1 14)
theorem z_range (T : Top K mg) : mg "range" = none := let ⟨_, X, G⟩ := T.ex; He.free_ok X G (T.fact in_fa1 15)
theorem z_str (T : Top K mg) : mg "str" = none := let ⟨_, X, G⟩ := T.ex; He.free_ok X G (T.fact in_fa1 16)
end
theorem sc__law_mixed : FnScope N__law_mixed ["_law_number", "_law_k", "_law_limit"] (defScope s__law_mixed) := ⟨rfl, rfl, rfl, by decide +kernel, rfl, by decide +kernel, by decide +kernel⟩
theorem ok__law_mixed {P : Program} {w : World} {K : Frag} {mg : Str → Option Value} {base : Heap} (T : Top K mg) : DefOk P w K mg base 1 (He.fAd K ("_law_mixed", none)) ["_law_number", "_law_k", "_law_limit"] (sp__law_mixed K) :=
  def_ok (d := d__law_mixed) (tt := t__law_mixed K) (T.says.def_ 0) rfl sc__law_mixed ar__law_mixed (fun _ _ _ _ _ _ us hl => match us, hl with | [_, _, _], _ => rfl) (pure__law_mixed K) fun cdv A outer s H E hr => by
    have sc := sc__law_mixed
    have tk : Takes (cxOf (L2.CX P w) P w K mg base N__law_mixed (d__law_mixed).qual (d__law_mixed).scope (He.fAd K (d__law_mixed).at_) cdv A outer s H E) (wE E) := takes_of rfl rfl rfl rfl
    have own := passes_of (X := cxOf (L2.CX P w) P w K mg base N__law_mixed (d__law_mixed).qual (d__law_mixed).scope (He.fAd K (d__law_mixed).at_) cdv A outer s H E) rfl
    exact pss_cons (ps_set (i := 3) sc.nd rfl (Or.inl rfl) (pe_op op_mod (pe_callTy call_int1 rfl (z_int T) (by decide +kernel) (pa_cons (pe_op op_mul (pe_op op_add (pe_op op_add (pv 0) (pe_op op_mul (pe_int) (pv 1))) (pe_int)) (pe_int)) (pa_nil))) (pe_int)))
      (pss_cons (ps_set (i := 4) sc.nd rfl (Or.inl rfl) (pe_op op_mod (pe_callTy call_int1 rfl (z_int T) (by decide +kernel) (pa_cons (pe_op op_add (pe_op op_mul (pv 3) (pv 3)) (pe_op op_mul (pe_int) (pv 1))) (pa_nil))) (pe_int)))
      (pss_one (ps_ret (pe_op op_mod (pe_op op_mod (pe_callTy call_int1 rfl (z_int T) (by decide +kernel) (pa_cons (pe_op op_add (pe_op op_mul (pv 4) (pe_int)) (pv 3)) (pa_nil))) (pe_int)) (pv 2)))))

theorem sc__law_numbers : FnScope N__law_numbers ["_law_cell_here", "_law_count", "_law_limit"] (defScope s__law_numbers) := ⟨rfl, rfl, rfl, by decide +kernel, rfl, by decide +kernel, by decide +kernel⟩
theorem ok__law_numbers {P : Program} {w : World} {K : Frag} {mg : Str → Option Value} {base : Heap} (T : Top K mg) : DefOk P w K mg base 2 (He.fAd K ("_law_numbers", none)) ["_law_cell_here", "_law_count", "_law_limit"] (sp__law_numbers K) :=
  def_ok (d := d__law_numbers) (tt := t__law_numbers K) (T.says.def_ 1) rfl sc__law_numbers ar__law_numbers (fun _ _ _ _ _ _ us hl => match us, hl with | [_, _, _], _ => rfl) (pure__law_numbers K) fun cdv A outer s H E hr => by
    have sc := sc__law_numbers
    have tk : Takes (cxOf (L2.CX P w) P w K mg base N__law_numbers (d__law_numbers).qual (d__law_numbers).scope (He.fAd K (d__law_numbers).at_) cdv A outer s H E) (wE E) := takes_of rfl rfl rfl rfl
    have own := passes_of (X := cxOf (L2.CX P w) P w K mg base N__law_numbers (d__law_numbers).qual (d__law_numbers).scope (He.fAd K (d__law_numbers).at_) cdv A outer s H E) rfl
    exact pss_cons (ps_set (i := 3) sc.nd rfl (Or.inl rfl) (pe_callB call_abs rfl (z_abs T) (by decide +kernel) (pa_cons (pv 0) (pa_nil))))
      (pss_cons (ps_set (i := 4) sc.nd rfl (Or.inl rfl) (pe_cmpR op_ge (pv 3) (pe_op op_pow (pe_int) (pe_int)) (nomark _)))
      (pss_cons (ps_set (i := 5) sc.nd rfl (Or.inl rfl) (pe_lst (pa_nil)))
      (pss_cons (ps_for own rfl (pi_range1 rfl (z_range T) (pa_cons (pv 1) (pa_nil))) (pg_name (i := 6) sc.nd rfl (Or.inl rfl))
      (pss_one (ps_if (PW.pt (pw_and (pt_val (pv 4)) (pw_and1 (pt_cmpR op_gt (pv 3) (pe_int) (nomark _))))) (pss_cons (ps_expr (pe_bm PySem.F.plainAttrs_list PySem.F.slot_list_append PySem.F.type_list_append mt_append (pv 5) (pa_cons (pe_op op_mod (pe_callTy call_int1 rfl (z_int T) (by decide +kernel) (pa_cons (pv 3) (pa_nil))) (pv 2)) (pa_nil))))
      (pss_one (ps_set (i := 3) sc.nd rfl (Or.inl rfl) (pe_op op_fdiv (pv 3) (pv 2))))) (pss_one (ps_expr (pe_bm PySem.F.plainAttrs_list PySem.F.slot_list_append PySem.F.type_list_append mt_append (pv 5) (pa_cons (pe_fn (ok__law_mixed T) hr rfl rfl (g__law_mixed T) passF (pa_cons (pe_callB call_abs rfl (z_abs T) (by decide +kernel) (pa_cons (pv 0) (pa_nil))) (pa_cons (pv 6) (pa_cons (pv 2) (pa_nil))))) (pa_nil))))))))
      (pss_one (ps_ret (pv 5))))))

theorem sc__law_sizes : FnScope N__law_sizes ["_law_cell_here", "_law_most"] (defScope s__law_sizes) := ⟨rfl, rfl, rfl, by decide +kernel, rfl, by decide +kernel, by decide +kernel⟩
theorem ok__law_sizes {P : Program} {w : World} {K : Frag} {mg : Str → Option Value} {base : Heap} (T : Top K mg) : DefOk P w K mg base 3 (He.fAd K ("_law_sizes", none)) ["_law_cell_here", "_law_most"] (sp__law_sizes K) :=
  def_ok (d := d__law_sizes) (tt := t__law_sizes K) (T.says.def_ 2) rfl sc__law_sizes ar__law_sizes (fun _ _ _ _ _ _ us hl => match us, hl with | [_, _], _ => rfl) (pure__law_sizes K) fun cdv A outer s H E hr => by
    have sc := sc__law_sizes
    have tk : Takes (cxOf (L2.CX P w) P w K mg base N__law_sizes (d__law_sizes).qual (d__law_sizes).scope (He.fAd K (d__law_sizes).at_) cdv A outer s H E) (wE E) := takes_of rfl rfl rfl rfl
    have own := passes_of (X := cxOf (L2.CX P w) P w K mg base N__law_sizes (d__law_sizes).qual (d__law_sizes).scope (He.fAd K (d__law_sizes).at_) cdv A outer s H E) rfl
    exact pss_cons (ps_set (i := 2) sc.nd rfl (Or.inl rfl) (pe_fn (ok__law_numbers T) hr rfl rfl (g__law_numbers T) passF (pa_cons (pv 0) (pa_cons (pe_int) (pa_cons (pe_int) (pa_nil))))))
      (pss_cons (ps_set (i := 3) sc.nd rfl (Or.inl rfl) (pe_op op_add (pe_int) (pe_op op_mul (pe_int) (pe_op op_mod (pe_ix ix_list (pv 2) (pe_int) (fun _ _ => rfl)) (pe_int)))))
      (pss_cons (ps_set (i := 4) sc.nd rfl (Or.inl rfl) (pe_op op_add (pe_int) (pe_op op_mod (pe_ix ix_list (pv 2) (pe_int) (fun _ _ => rfl)) (pv 1))))
      (pss_cons (ps_set (i := 5) sc.nd rfl (Or.inl rfl) (pe_callB (call_min2 rfl) rfl (z_min T) (by decide +kernel) (pa_cons (pe_op op_add (pe_int) (pe_op op_mod (pe_ix ix_list (pv 2) (pe_int) (fun _ _ => rfl)) (pv 1))) (pa_cons (pe_op op_fdiv (pe_int) (pe_op op_mul (pv 4) (pv 3))) (pa_nil)))))
      (pss_one (ps_ret (pe_lst (pa_cons (pv 4) (pa_cons (pv 5) (pa_cons (pe_op op_add (pe_int) (pe_op op_mod (pe_ix ix_list (pv 2) (pe_int) (fun _ _ => rfl)) (pe_int))) (pa_cons (pv 3) (pa_cons (pe_op op_add (pe_int) (pe_op op_mod (pe_ix ix_list (pv 2) (pe_int) (fun _ _ => rfl)) (pe_int))) (pa_nil))))))))))))

theorem sc__law_values : FnScope N__law_values ["_law_cell_here", "_law_sizes_here"] (defScope s__law_values) := ⟨rfl, rfl, rfl, by decide +kernel, rfl, by decide +kernel, by decide +kernel⟩
theorem ok__law_values {P : Program} {w : World} {K : Frag} {mg : Str → Option Value} {base : Heap} (T : Top K mg) : DefOk P w K mg base 3 (He.fAd K ("_law_values", none)) ["_law_cell_here", "_law_sizes_here"] (sp__law_values K) :=
  def_ok (d := d__law_values) (tt := t__law_values K) (T.says.def_ 3) rfl sc__law_values ar__law_values (fun _ _ _ _ _ _ us hl => match us, hl with | [_, _], _ => rfl) (pure__law_values K) fun cdv A outer s H E hr => by
    have sc := sc__law_values
    have tk : Takes (cxOf (L2.CX P w) P w K mg base N__law_values (d__law_values).qual (d__law_values).scope (He.fAd K (d__law_values).at_) cdv A outer s H E) (wE E) := takes_of rfl rfl rfl rfl
    have own := passes_of (X := cxOf (L2.CX P w) P w K mg base N__law_values (d__law_values).qual (d__law_values).scope (He.fAd K (d__law_values).at_) cdv A outer s H E) rfl
    exact pss_cons (ps_set (i := 2) sc.nd rfl (Or.inr rfl) (pe_op op_mul (pe_ix ix_list (pv 1) (pe_int) (fun _ _ => rfl)) (pe_ix ix_list (pv 1) (pe_int) (fun _ _ => rfl))))
      (pss_cons (ps_set (i := 3) sc.nd rfl (Or.inr rfl) (pe_fn (ok__law_numbers T) hr rfl rfl (g__law_numbers T) passF (pa_cons (pv 0) (pa_cons (pe_op op_mul (pv 2) (pe_ix ix_list (pv 1) (pe_int) (fun _ _ => rfl))) (pa_cons (pe_op op_shl (pe_int) (pe_ix ix_list (pv 1) (pe_int) (fun _ _ => rfl))) (pa_nil))))))
      (pss_one (ps_ret (pe_lc (own := [("_law_k", 4)]) (g := gName 4) (tt := tYes) rfl sc.nd (pi_range1 rfl (z_range T) (pa_cons (pe_ix ix_list (pv 1) (pe_int) (fun _ _ => rfl)) (pa_nil))) (blkOk_by (N := N__law_values) (sc := defScope s__law_values) (by decide +kernel)) (fun _ _ _ _ _ => pg_name (i := 4) sc.nd rfl (Or.inl rfl)) (fun _ _ _ _ _ => pts_nil) (fun _ _ _ _ _ => pe_slice sl_list (pv 3) (po_some (pe_op op_mul (pv 2) (pv 4))) (po_some (pe_op op_add (pe_op op_mul (pv 2) (pv 4)) (pv 2))))))))

theorem sc__law_spoilt : FnScope N__law_spoilt ["_law_kind", "_law_at", "_law_sizes_here", "_law_values_here"] (defScope s__law_spoilt) := ⟨rfl, rfl, rfl, by decide +kernel, rfl, by decide +kernel, by decide +kernel⟩
theorem ok__law_spoilt {P : Program} {w : World} {K : Frag} {mg : Str → Option Value} {base : Heap} (T : Top K mg) : DefOk P w K mg base 1 (He.fAd K ("_law_spoilt", none)) ["_law_kind", "_law_at", "_law_sizes_here", "_law_values_here"] (sp__law_spoilt K) :=
  def_ok (d := d__law_spoilt) (tt := t__law_spoilt K) (T.says.def_ 4) rfl sc__law_spoilt ar__law_spoilt (fun _ _ _ _ _ _ us hl => match us, hl with | [_, _, _, _], _ => rfl) (pure__law_spoilt K) fun cdv A outer s H E hr => by
    have sc := sc__law_spoilt
    have tk : Takes (cxOf (L2.CX P w) P w K mg base N__law_spoilt (d__law_spoilt).qual (d__law_spoilt).scope (He.fAd K (d__law_spoilt).at_) cdv A outer s H E) (wE E) := takes_of rfl rfl rfl rfl
    have own := passes_of (X := cxOf (L2.CX P w) P w K mg base N__law_spoilt (d__law_spoilt).qual (d__law_spoilt).scope (He.fAd K (d__law_spoilt).at_) cdv A outer s H E) rfl
    exact pss_cons (ps_set (i := 4) sc.nd rfl (Or.inl rfl) (pe_ix ix_list (pv 3) (pe_op op_mod (pv 1) (pe_callB call_len rfl (z_len T) (by decide +kernel) (pa_cons (pv 3) (pa_nil)))) (fun _ _ => rfl)))
      (pss_cons (ps_if (pt_cmpR op_eq (pv 0) (pe_int) (nomark _)) (pss_one (ps_asg (pe_ix ix_list (pe_lst (pa_cons (pe_int) (pa_cons (pe_int) (pa_cons (pe_un un_neg (pe_int)) (pa_nil))))) (pe_op op_mod (pv 1) (pe_int)) (fun _ _ => rfl)) (pg_sub (pv 2) (pe_int) set_list))) (pss_nil))
      (pss_cons (ps_if (pt_cmpR op_eq (pv 0) (pe_int) (nomark _)) (pss_one (ps_asg (pe_ix ix_list (pe_lst (pa_cons (pe_int) (pa_cons (pe_int) (pa_cons (pe_un un_neg (pe_int)) (pa_nil))))) (pe_op op_mod (pv 1) (pe_int)) (fun _ _ => rfl)) (pg_sub (pv 2) (pe_int) set_list))) (pss_nil))
      (pss_cons (ps_if (pt_cmpR op_eq (pv 0) (pe_int) (nomark _)) (pss_one (ps_asg (pe_ix ix_list (pe_lst (pa_cons (pe_int) (pa_cons (pe_int) (pa_cons (pe_int) (pa_nil))))) (pe_op op_mod (pv 1) (pe_int)) (fun _ _ => rfl)) (pg_sub (pv 2) (pe_int) set_list))) (pss_nil))
      (pss_cons (ps_if (pt_cmpR op_eq (pv 0) (pe_int) (nomark _)) (pss_one (ps_asg (pe_ix ix_list (pe_lst (pa_cons (pe_un un_neg (pe_int)) (pa_cons (pe_op op_shl (pe_int) (pe_ix ix_list (pv 2) (pe_int) (fun _ _ => rfl))) (pa_nil)))) (pe_op op_mod (pv 1) (pe_int)) (fun _ _ => rfl)) (pg_sub (pv 4) (pe_op op_mod (pv 1) (pe_callB call_len rfl (z_len T) (by decide +kernel) (pa_cons (pv 4) (pa_nil)))) set_list))) (pss_nil))
      (pss_cons (ps_if (pt_cmpR op_eq (pv 0) (pe_int) (nomark _)) (pss_one (ps_expr (pe_bm PySem.F.plainAttrs_list PySem.F.slot_list_append PySem.F.type_list_append mt_append (pv 4) (pa_cons (pe_int) (pa_nil))))) (pss_nil))
      (pss_cons (ps_if (pt_cmpR op_eq (pv 0) (pe_int) (nomark _)) (pss_one (ps_expr (pe_bm0 PySem.F.plainAttrs_list PySem.F.slot_list_pop PySem.F.type_list_pop mt_pop (pv 4)))) (pss_nil))
      (pss_cons (ps_if (pt_cmpR op_eq (pv 0) (pe_int) (nomark _)) (pss_one (ps_expr (pe_bm PySem.F.plainAttrs_list PySem.F.slot_list_append PySem.F.type_list_append mt_append (pv 3) (pa_cons (pe_callTy call_list_of rfl (z_list T) (by decide +kernel) (pa_cons (pv 4) (pa_nil))) (pa_nil))))) (pss_nil))
      (pss_cons (ps_if (pt_cmpR op_eq (pv 0) (pe_int) (nomark _)) (pss_one (ps_asg (pe_ix ix_list (pe_lst (pa_cons (pe_int) (pa_cons (pe_int) (pa_cons (pe_un un_neg (pe_int)) (pa_nil))))) (pe_op op_mod (pv 1) (pe_int)) (fun _ _ => rfl)) (pg_sub (pv 2) (pe_int) set_list))) (pss_nil))
      (pss_cons (ps_if (pt_cmpR op_eq (pv 0) (pe_int) (nomark _)) (pss_one (ps_expr (pe_bm0 PySem.F.plainAttrs_list PySem.F.slot_list_pop PySem.F.type_list_pop mt_pop (pv 3)))) (pss_nil))
      (pss_one (ps_ret (pe_ix ix_list (pe_lst (pa_cons (pe_str) (pa_cons (pe_str) (pa_cons (pe_str) (pa_cons (pe_str) (pa_cons (pe_str) (pa_cons (pe_str) (pa_cons (pe_str) (pa_cons (pe_str) (pa_cons (pe_str) (pa_cons (pe_str) (pa_nil)))))))))))) (pv 0) (fun _ _ => rfl)))))))))))))

theorem sc_Picture_row : FnScope N_Picture_row ["self", "channel"] (defScope s_Picture_row) := ⟨rfl, rfl, rfl, by decide +kernel, rfl, by decide +kernel, by decide +kernel⟩
theorem ok_Picture_row {P : Program} {w : World} {K : Frag} {mg : Str → Option Value} {base : Heap} (T : Top K mg) : DefOk P w K mg base 1 (He.fAd K ("Picture", some "row")) ["self", "channel"] (sp_Picture_row K) :=
  def_ok (d := d_Picture_row) (tt := t_Picture_row K) (T.says.def_ 5) rfl sc_Picture_row ar_Picture_row (fun _ _ _ _ _ _ us hl => match us, hl with | [_, _], _ => rfl) (pure_Picture_row K) fun cdv A outer s H E hr => by
    have sc := sc_Picture_row
    have tk : Takes (cxOf (L2.CX P w) P w K mg base N_Picture_row (d_Picture_row).qual (d_Picture_row).scope (He.fAd K (d_Picture_row).at_) cdv A outer s H E) (wE E) := takes_of rfl rfl rfl rfl
    have own := passes_of (X := cxOf (L2.CX P w) P w K mg base N_Picture_row (d_Picture_row).qual (d_Picture_row).scope (He.fAd K (d_Picture_row).at_) cdv A outer s H E) rfl
    exact pss_one (ps_ret (pe_callTy call_list_of rfl (z_list T) (by decide +kernel) (pa_cons (pe_ix ix_list (pe_f (pv 0) (c_Picture T) (n_Picture__rows T)) (pv 1) (fun _ _ => rfl)) (pa_nil))))

theorem sc_Picture_rows : FnScope N_Picture_rows ["self"] (defScope s_Picture_rows) := ⟨rfl, rfl, rfl, by decide +kernel, rfl, by decide +kernel, by decide +kernel⟩
theorem ok_Picture_rows {P : Program} {w : World} {K : Frag} {mg : Str → Option Value} {base : Heap} (T : Top K mg) : DefOk P w K mg base 1 (He.fAd K ("Picture", some "rows")) ["self"] (sp_Picture_rows K) :=
  def_ok (d := d_Picture_rows) (tt := t_Picture_rows K) (T.says.def_ 6) rfl sc_Picture_rows ar_Picture_rows (fun _ _ _ _ _ _ us hl => match us, hl with | [_], _ => rfl) (pure_Picture_rows K) fun cdv A outer s H E hr => by
    have sc := sc_Picture_rows
    have tk : Takes (cxOf (L2.CX P w) P w K mg base N_Picture_rows (d_Picture_rows).qual (d_Picture_rows).scope (He.fAd K (d_Picture_rows).at_) cdv A outer s H E) (wE E) := takes_of rfl rfl rfl rfl
    have own := passes_of (X := cxOf (L2.CX P w) P w K mg base N_Picture_rows (d_Picture_rows).qual (d_Picture_rows).scope (He.fAd K (d_Picture_rows).at_) cdv A outer s H E) rfl
    exact pss_one (ps_ret (pe_lc (own := [("row", 1)]) (g := gName 1) (tt := tYes) rfl sc.nd (pi_list (pe_f (pv 0) (c_Picture T) (n_Picture__rows T))) (blkOk_by (N := N_Picture_rows) (sc := defScope s_Picture_rows) (by decide +kernel)) (fun _ _ _ _ _ => pg_name (i := 1) sc.nd rfl (Or.inl rfl)) (fun _ _ _ _ _ => pts_nil) (fun _ _ _ _ _ => pe_callTy call_list_of rfl (z_list T) (by decide +kernel) (pa_cons (pv 1) (pa_nil)))))

theorem sc__law_is_int : FnScope N__law_is_int ["_law_actual"] (defScope s__law_is_int) := ⟨rfl, rfl, rfl, by decide +kernel, rfl, by decide +kernel, by decide +kernel⟩
theorem ok__law_is_int {P : Program} {w : World} {K : Frag} {mg : Str → Option Value} {base : Heap} (T : Top K mg) : DefOk P w K mg base 1 (He.fAd K ("_law_is_int", none)) ["_law_actual"] (sp__law_is_int K) :=
  def_ok (d := d__law_is_int) (tt := t__law_is_int K) (T.says.def_ 7) rfl sc__law_is_int ar__law_is_int (fun _ _ _ _ _ _ us hl => match us, hl with | [_], _ => rfl) (pure__law_is_int K) fun cdv A outer s H E hr => by
    have sc := sc__law_is_int
    have tk : Takes (cxOf (L2.CX P w) P w K mg base N__law_is_int (d__law_is_int).qual (d__law_is_int).scope (He.fAd K (d__law_is_int).at_) cdv A outer s H E) (wE E) := takes_of rfl rfl rfl rfl
    have own := passes_of (X := cxOf (L2.CX P w) P w K mg base N__law_is_int (d__law_is_int).qual (d__law_is_int).scope (He.fAd K (d__law_is_int).at_) cdv A outer s H E) rfl
    exact pss_one (ps_ret (pe_and (pe_callB call_isi rfl (z_isinstance T) (by decide +kernel) (pa_cons (pv 0) (pa_cons (pe_bltn rfl (z_int T) (by decide +kernel) rfl) (pa_nil)))) (pe_one (pe_not (pe_callB call_isi rfl (z_isinstance T) (by decide +kernel) (pa_cons (pv 0) (pa_cons (pe_bltn rfl (z_bool T) (by decide +kernel) rfl) (pa_nil))))))))

theorem sc__law_are_ints : FnScope N__law_are_ints ["_law_row"] (defScope s__law_are_ints) := ⟨rfl, rfl, rfl, by decide +kernel, rfl, by decide +kernel, by decide +kernel⟩
theorem ok__law_are_ints {P : Program} {w : World} {K : Frag} {mg : Str → Option Value} {base : Heap} (T : Top K mg) : DefOk P w K mg base 2 (He.fAd K ("_law_are_ints", none)) ["_law_row"] (sp__law_are_ints K) :=
  def_ok (d := d__law_are_ints) (tt := t__law_are_ints K) (T.says.def_ 8) rfl sc__law_are_ints ar__law_are_ints (fun _ _ _ _ _ _ us hl => match us, hl with | [_], _ => rfl) (pure__law_are_ints K) fun cdv A outer s H E hr => by
    have sc := sc__law_are_ints
    have tk : Takes (cxOf (L2.CX P w) P w K mg base N__law_are_ints (d__law_are_ints).qual (d__law_are_ints).scope (He.fAd K (d__law_are_ints).at_) cdv A outer s H E) (wE E) := takes_of rfl rfl rfl rfl
    have own := passes_of (X := cxOf (L2.CX P w) P w K mg base N__law_are_ints (d__law_are_ints).qual (d__law_are_ints).scope (He.fAd K (d__law_are_ints).at_) cdv A outer s H E) rfl
    exact pss_one (ps_ret (pe_and (pe_callB call_isi rfl (z_isinstance T) (by decide +kernel) (pa_cons (pv 0) (pa_cons (pe_bltn rfl (z_list T) (by decide +kernel) rfl) (pa_nil)))) (pe_one (pe_callB (cr_all rfl) rfl (z_all T) (by decide +kernel) (pa_cons (pe_lc (own := [("_law_number", 1)]) (g := gName 1) (tt := tYes) rfl sc.nd (pi_list (pv 0)) (blkOk_by (N := N__law_are_ints) (sc := defScope s__law_are_ints) (by decide +kernel)) (fun _ _ _ _ _ => pg_name (i := 1) sc.nd rfl (Or.inl rfl)) (fun _ _ _ _ _ => pts_nil) (fun _ _ _ _ _ => pe_fn (ok__law_is_int T) hr rfl rfl (g__law_is_int T) passF (pa_cons (pv 1) (pa_nil)))) (pa_nil))))))

theorem sc_Picture_value : FnScope N_Picture_value ["self", "channel", "pixel"] (defScope s_Picture_value) := ⟨rfl, rfl, rfl, by decide +kernel, rfl, by decide +kernel, by decide +kernel⟩
theorem ok_Picture_value {P : Program} {w : World} {K : Frag} {mg : Str → Option Value} {base : Heap} (T : Top K mg) : DefOk P w K mg base 1 (He.fAd K ("Picture", some "value")) ["self", "channel", "pixel"] (sp_Picture_value K) :=
  def_ok (d := d_Picture_value) (tt := t_Picture_value K) (T.says.def_ 9) rfl sc_Picture_value ar_Picture_value (fun _ _ _ _ _ _ us hl => match us, hl with | [_, _, _], _ => rfl) (pure_Picture_value K) fun cdv A outer s H E hr => by
    have sc := sc_Picture_value
    have tk : Takes (cxOf (L2.CX P w) P w K mg base N_Picture_value (d_Picture_value).qual (d_Picture_value).scope (He.fAd K (d_Picture_value).at_) cdv A outer s H E) (wE E) := takes_of rfl rfl rfl rfl
    have own := passes_of (X := cxOf (L2.CX P w) P w K mg base N_Picture_value (d_Picture_value).qual (d_Picture_value).scope (He.fAd K (d_Picture_value).at_) cdv A outer s H E) rfl
    exact pss_one (ps_ret (pe_ix ix_list (pe_ix ix_list (pe_f (pv 0) (c_Picture T) (n_Picture__rows T)) (pv 1) (fun _ _ => rfl)) (pv 2) (fun _ _ => rfl)))

theorem sc__law_holds : FnScope N__law_holds ["_law_picture", "_law_sizes_here", "_law_values_here"] (defScope s__law_holds) := ⟨rfl, rfl, rfl, by decide +kernel, rfl, by decide +kernel, by decide +kernel⟩
theorem ok__law_holds {P : Program} {w : World} {K : Frag} {mg : Str → Option Value} {base : Heap} (T : Top K mg) : DefOk P w K mg base 3 (He.fAd K ("_law_holds", none)) ["_law_picture", "_law_sizes_here", "_law_values_here"] (sp__law_holds K) :=
  def_ok (d := d__law_holds) (tt := t__law_holds K) (T.says.def_ 10) rfl sc__law_holds ar__law_holds (fun _ _ _ _ _ _ us hl => match us, hl with | [_, _, _], _ => rfl) (pure__law_holds K) fun cdv A outer s H E hr => by
    have sc := sc__law_holds
    have tk : Takes (cxOf (L2.CX P w) P w K mg base N__law_holds (d__law_holds).qual (d__law_holds).scope (He.fAd K (d__law_holds).at_) cdv A outer s H E) (wE E) := takes_of rfl rfl rfl rfl
    have own := passes_of (X := cxOf (L2.CX P w) P w K mg base N__law_holds (d__law_holds).qual (d__law_holds).scope (He.fAd K (d__law_holds).at_) cdv A outer s H E) rfl
    exact pss_cons (ps_if (pt_not (pt_val (pe_fn (ok__law_are_ints T) hr rfl rfl (g__law_are_ints T) passF (pa_cons (pe_lst (pa_cons (pe_f (pv 0) (c_Picture T) (n_Picture_width T)) (pa_cons (pe_f (pv 0) (c_Picture T) (n_Picture_height T)) (pa_cons (pe_f (pv 0) (c_Picture T) (n_Picture_depth T)) (pa_cons (pe_f (pv 0) (c_Picture T) (n_Picture_channels T)) (pa_nil)))))) (pa_nil))))) (pss_one (ps_ret (pe_bl))) (pss_nil))
      (pss_cons (ps_if (pt_cmpR (op_neD hr.units) (pe_lst (pa_cons (pe_f (pv 0) (c_Picture T) (n_Picture_width T)) (pa_cons (pe_f (pv 0) (c_Picture T) (n_Picture_height T)) (pa_cons (pe_f (pv 0) (c_Picture T) (n_Picture_depth T)) (pa_cons (pe_f (pv 0) (c_Picture T) (n_Picture_channels T)) (pa_nil)))))) (pe_slice sl_list (pv 1) (po_none) (po_some (pe_int))) (nomark _)) (pss_one (ps_ret (pe_bl))) (pss_nil))
      (pss_cons (ps_set (i := 3) sc.nd rfl (Or.inl rfl) (pe_mt0 (pv 0) (c_Picture T) (m_Picture_rows T) (ok_Picture_rows T) hr rfl passF))
      (pss_cons (ps_if (PW.pt (pw_or (pt_not (pt_val (pe_callB call_isi rfl (z_isinstance T) (by decide +kernel) (pa_cons (pv 3) (pa_cons (pe_bltn rfl (z_list T) (by decide +kernel) rfl) (pa_nil)))))) (pw_or (pt_not (pt_val (pe_callB (cr_all rfl) rfl (z_all T) (by decide +kernel) (pa_cons (pe_lc (own := [("_law_row", 7)]) (g := gName 7) (tt := tYes) rfl sc.nd (pi_list (pv 3)) (blkOk_by (N := N__law_holds) (sc := defScope s__law_holds) (by decide +kernel)) (fun _ _ _ _ _ => pg_name (i := 7) sc.nd rfl (Or.inl rfl)) (fun _ _ _ _ _ => pts_nil) (fun _ _ _ _ _ => pe_fn (ok__law_are_ints T) hr rfl rfl (g__law_are_ints T) passF (pa_cons (pv 7) (pa_nil)))) (pa_nil))))) (pw_or1 (pt_cmpR (op_neD hr.units) (pv 3) (pv 2) (nomark _)))))) (pss_one (ps_ret (pe_bl))) (pss_nil))
      (pss_cons (ps_for own rfl (pi_range1 rfl (z_range T) (pa_cons (pe_ix ix_list (pv 1) (pe_int) (fun _ _ => rfl)) (pa_nil))) (pg_name (i := 4) sc.nd rfl (Or.inl rfl))
      (pss_cons (ps_if (PW.pt (pw_or (pt_not (pt_val (pe_fn (ok__law_are_ints T) hr rfl rfl (g__law_are_ints T) passF (pa_cons (pe_mt (pv 0) (c_Picture T) (m_Picture_row T) (ok_Picture_row T) hr rfl passF (pa_cons (pv 4) (pa_nil))) (pa_nil))))) (pw_or1 (pt_cmpR (op_neD hr.units) (pe_mt (pv 0) (c_Picture T) (m_Picture_row T) (ok_Picture_row T) hr rfl passF (pa_cons (pv 4) (pa_nil))) (pe_ix ix_list (pv 2) (pv 4) (fun _ _ => rfl)) (nomark _))))) (pss_one (ps_ret (pe_bl))) (pss_nil))
      (pss_one (ps_for own rfl (pi_list (pe_lst (pa_cons (pe_int) (pa_cons (pe_op op_fdiv (pe_callB call_len rfl (z_len T) (by decide +kernel) (pa_cons (pe_ix ix_list (pv 2) (pv 4) (fun _ _ => rfl)) (pa_nil))) (pe_int)) (pa_cons (pe_op op_sub (pe_callB call_len rfl (z_len T) (by decide +kernel) (pa_cons (pe_ix ix_list (pv 2) (pv 4) (fun _ _ => rfl)) (pa_nil))) (pe_int)) (pa_nil)))))) (pg_name (i := 5) sc.nd rfl (Or.inl rfl))
      (pss_cons (ps_set (i := 6) sc.nd rfl (Or.inl rfl) (pe_mt (pv 0) (c_Picture T) (m_Picture_value T) (ok_Picture_value T) hr rfl passF (pa_cons (pv 4) (pa_cons (pv 5) (pa_nil)))))
      (pss_one (ps_if (PW.pt (pw_or (pt_not (pt_val (pe_fn (ok__law_is_int T) hr rfl rfl (g__law_is_int T) passF (pa_cons (pv 6) (pa_nil))))) (pw_or1 (pt_cmpR op_ne (pv 6) (pe_ix ix_list (pe_ix ix_list (pv 2) (pv 4) (fun _ _ => rfl)) (pv 5) (fun _ _ => rfl)) (nomark _))))) (pss_one (ps_ret (pe_bl))) (pss_nil))))))))
      (pss_one (ps_ret (pe_bl)))))))

theorem sc__law_cell : FnScope N__law_cell ["_law_script", "_law_k"] (defScope s__law_cell) := ⟨rfl, rfl, rfl, by decide +kernel, rfl, by decide +kernel, by decide +kernel⟩
theorem ok__law_cell {P : Program} {w : World} {K : Frag} {mg : Str → Option Value} {base : Heap} (T : Top K mg) : DefOk P w K mg base 1 (He.fAd K ("_law_cell", none)) ["_law_script", "_law_k"] (sp__law_cell K) :=
  def_ok (d := d__law_cell) (tt := t__law_cell K) (T.says.def_ 11) rfl sc__law_cell ar__law_cell (fun _ _ _ _ _ _ us hl => match us, hl with | [_, _], _ => rfl) (pure__law_cell K) fun cdv A outer s H E hr => by
    have sc := sc__law_cell
    have tk : Takes (cxOf (L2.CX P w) P w K mg base N__law_cell (d__law_cell).qual (d__law_cell).scope (He.fAd K (d__law_cell).at_) cdv A outer s H E) (wE E) := takes_of rfl rfl rfl rfl
    have own := passes_of (X := cxOf (L2.CX P w) P w K mg base N__law_cell (d__law_cell).qual (d__law_cell).scope (He.fAd K (d__law_cell).at_) cdv A outer s H E) rfl
    exact pss_cons (ps_if (pt_cmpR op_lt (pv 1) (pe_callB call_len rfl (z_len T) (by decide +kernel) (pa_cons (pv 0) (pa_nil))) (nomark _)) (pss_one (ps_ret (pe_ix ix_list (pv 0) (pv 1) (fun _ _ => rfl)))) (pss_nil))
      (pss_one (ps_ret (pe_int)))

theorem sc_OutOfRange_init : FnScope N_OutOfRange_init ["self", "name"] (defScope s_OutOfRange_init) := ⟨rfl, rfl, rfl, by decide +kernel, rfl, by decide +kernel, by decide +kernel⟩
theorem ok_OutOfRange_init {P : Program} {w : World} {K : Frag} {mg : Str → Option Value} {base : Heap} (T : Top K mg) : DefOk P w K mg base 1 (He.fAd K ("OutOfRange", some "__init__")) ["self", "name"] (sp_OutOfRange_init K) :=
  def_ok (d := d_OutOfRange_init) (tt := t_OutOfRange_init K) (T.says.def_ 12) rfl sc_OutOfRange_init ar_OutOfRange_init (fun _ _ _ _ _ _ us hl => match us, hl with | [_, _], _ => rfl) (pure_OutOfRange_init K (x_OutOfRange T) (n_OutOfRange_name T)) fun cdv A outer s H E hr => by
    have sc := sc_OutOfRange_init
    have tk : Takes (cxOf (L2.CX P w) P w K mg base N_OutOfRange_init (d_OutOfRange_init).qual (d_OutOfRange_init).scope (He.fAd K (d_OutOfRange_init).at_) cdv A outer s H E) (wE E) := takes_of rfl rfl rfl rfl
    have own := passes_of (X := cxOf (L2.CX P w) P w K mg base N_OutOfRange_init (d_OutOfRange_init).qual (d_OutOfRange_init).scope (He.fAd K (d_OutOfRange_init).at_) cdv A outer s H E) rfl
    exact pss_one (ps_ost (pv 0) (pv 1))

theorem sc_check_shape : FnScope N_check_shape ["width", "height", "depth", "channels"] (defScope s_check_shape) := ⟨rfl, rfl, rfl, by decide +kernel, rfl, by decide +kernel, by decide +kernel⟩
theorem ok_check_shape {P : Program} {w : World} {K : Frag} {mg : Str → Option Value} {base : Heap} (T : Top K mg) : DefOk P w K mg base 3 (He.fAd K ("check_shape", none)) ["width", "height", "depth", "channels"] (sp_check_shape K) :=
  def_ok (d := d_check_shape) (tt := t_check_shape K) (T.says.def_ 13) rfl sc_check_shape ar_check_shape (fun _ _ _ _ _ _ us hl => match us, hl with | [_, _, _, _], _ => rfl) (pure_check_shape K) fun cdv A outer s H E hr => by
    have sc := sc_check_shape
    have tk : Takes (cxOf (L2.CX P w) P w K mg base N_check_shape (d_check_shape).qual (d_check_shape).scope (He.fAd K (d_check_shape).at_) cdv A outer s H E) (wE E) := takes_of rfl rfl rfl rfl
    have own := passes_of (X := cxOf (L2.CX P w) P w K mg base N_check_shape (d_check_shape).qual (d_check_shape).scope (He.fAd K (d_check_shape).at_) cdv A outer s H E) rfl
    exact pss_cons (ps_if (pt_not (pt_chain op_le op_le (pe_int) (pv 0) (pe_gi rfl (i_SIDE_MOST T)))) (pss_one (ps_raiseO rfl tk (x_OutOfRange T) (xi_OutOfRange T) (ok_OutOfRange_init T) hr rfl rfl (g_OutOfRange T) (pa_cons (pe_str) (pa_nil)))) (pss_nil))
      (pss_cons (ps_if (pt_not (pt_chain op_le op_le (pe_int) (pv 1) (pe_gi rfl (i_SIDE_MOST T)))) (pss_one (ps_raiseO rfl tk (x_OutOfRange T) (xi_OutOfRange T) (ok_OutOfRange_init T) hr rfl rfl (g_OutOfRange T) (pa_cons (pe_str) (pa_nil)))) (pss_nil))
      (pss_cons (ps_if (pt_not (pt_chain op_le op_le (pe_int) (pv 2) (pe_gi rfl (i_DEPTH_MOST T)))) (pss_one (ps_raiseO rfl tk (x_OutOfRange T) (xi_OutOfRange T) (ok_OutOfRange_init T) hr rfl rfl (g_OutOfRange T) (pa_cons (pe_str) (pa_nil)))) (pss_nil))
      (pss_one (ps_if (PW.pt (pw_and (pt_cmpR op_ne (pv 3) (pe_int) (nomark _)) (pw_and1 (pt_cmpR op_ne (pv 3) (pe_int) (nomark _))))) (pss_one (ps_raiseO rfl tk (x_OutOfRange T) (xi_OutOfRange T) (ok_OutOfRange_init T) hr rfl rfl (g_OutOfRange T) (pa_cons (pe_str) (pa_nil)))) (pss_nil)))))

theorem sc_check_size : FnScope N_check_size ["width", "height", "channels"] (defScope s_check_size) := ⟨rfl, rfl, rfl, by decide +kernel, rfl, by decide +kernel, by decide +kernel⟩
theorem ok_check_size {P : Program} {w : World} {K : Frag} {mg : Str → Option Value} {base : Heap} (T : Top K mg) : DefOk P w K mg base 3 (He.fAd K ("check_size", none)) ["width", "height", "channels"] (sp_check_size K) :=
  def_ok (d := d_check_size) (tt := t_check_size K) (T.says.def_ 14) rfl sc_check_size ar_check_size (fun _ _ _ _ _ _ us hl => match us, hl with | [_, _, _], _ => rfl) (pure_check_size K) fun cdv A outer s H E hr => by
    have sc := sc_check_size
    have tk : Takes (cxOf (L2.CX P w) P w K mg base N_check_size (d_check_size).qual (d_check_size).scope (He.fAd K (d_check_size).at_) cdv A outer s H E) (wE E) := takes_of rfl rfl rfl rfl
    have own := passes_of (X := cxOf (L2.CX P w) P w K mg base N_check_size (d_check_size).qual (d_check_size).scope (He.fAd K (d_check_size).at_) cdv A outer s H E) rfl
    exact pss_one (ps_if (pt_cmpR op_gt (pe_op op_mul (pe_op op_mul (pv 0) (pv 1)) (pv 2)) (pe_gi rfl (i_VALUES_MOST T)) (nomark _)) (pss_one (ps_raiseO rfl tk (x_OutOfRange T) (xi_OutOfRange T) (ok_OutOfRange_init T) hr rfl rfl (g_OutOfRange T) (pa_cons (pe_str) (pa_nil)))) (pss_nil))

theorem sc__are_values : FnScope N__are_values ["pixels", "depth", "channels", "values"] (defScope s__are_values) := ⟨rfl, rfl, rfl, by decide +kernel, rfl, by decide +kernel, by decide +kernel⟩
theorem ok__are_values {P : Program} {w : World} {K : Frag} {mg : Str → Option Value} {base : Heap} (T : Top K mg) : DefOk P w K mg base 1 (He.fAd K ("_are_values", none)) ["pixels", "depth", "channels", "values"] (sp__are_values K) :=
  def_ok (d := d__are_values) (tt := t__are_values K) (T.says.def_ 15) rfl sc__are_values ar__are_values (fun _ _ _ _ _ _ us hl => match us, hl with | [_, _, _, _], _ => rfl) (pure__are_values K) fun cdv A outer s H E hr => by
    have sc := sc__are_values
    have tk : Takes (cxOf (L2.CX P w) P w K mg base N__are_values (d__are_values).qual (d__are_values).scope (He.fAd K (d__are_values).at_) cdv A outer s H E) (wE E) := takes_of rfl rfl rfl rfl
    have own := passes_of (X := cxOf (L2.CX P w) P w K mg base N__are_values (d__are_values).qual (d__are_values).scope (He.fAd K (d__are_values).at_) cdv A outer s H E) rfl
    exact pss_cons (ps_if (pt_cmpR op_ne (pe_callB call_len rfl (z_len T) (by decide +kernel) (pa_cons (pv 3) (pa_nil))) (pv 2) (nomark _)) (pss_one (ps_ret (pe_bl))) (pss_nil))
      (pss_cons (ps_set (i := 4) sc.nd rfl (Or.inl rfl) (pe_op op_shl (pe_int) (pv 1)))
      (pss_cons (ps_for own rfl (pi_list (pv 3)) (pg_name (i := 5) sc.nd rfl (Or.inl rfl))
      (pss_cons (ps_if (pt_cmpR op_ne (pe_callB call_len rfl (z_len T) (by decide +kernel) (pa_cons (pv 5) (pa_nil))) (pv 0) (nomark _)) (pss_one (ps_ret (pe_bl))) (pss_nil))
      (pss_one (ps_for own rfl (pi_list (pv 5)) (pg_name (i := 6) sc.nd rfl (Or.inl rfl))
      (pss_one (ps_if (pt_not (pt_chain op_le op_lt (pe_int) (pv 6) (pv 4))) (pss_one (ps_ret (pe_bl))) (pss_nil)))))))
      (pss_one (ps_ret (pe_bl)))))

theorem sc_Picture_init : FnScope N_Picture_init ["self", "width", "height", "depth", "channels", "values"] (defScope s_Picture_init) := ⟨rfl, rfl, rfl, by decide +kernel, rfl, by decide +kernel, by decide +kernel⟩
theorem ok_Picture_init {P : Program} {w : World} {K : Frag} {mg : Str → Option Value} {base : Heap} (T : Top K mg) : DefOk P w K mg base 4 (He.fAd K ("Picture", some "__init__")) ["self", "width", "height", "depth", "channels", "values"] (sp_Picture_init K) :=
  def_ok (d := d_Picture_init) (tt := t_Picture_init K) (T.says.def_ 16) rfl sc_Picture_init ar_Picture_init (fun _ _ _ _ _ _ us hl => match us, hl with | [_, _, _, _, _, _], _ => rfl) (pure_Picture_init K) fun cdv A outer s H E hr => by
    have sc := sc_Picture_init
    have tk : Takes (cxOf (L2.CX P w) P w K mg base N_Picture_init (d_Picture_init).qual (d_Picture_init).scope (He.fAd K (d_Picture_init).at_) cdv A outer s H E) (wE E) := takes_of rfl rfl rfl rfl
    have own := passes_of (X := cxOf (L2.CX P w) P w K mg base N_Picture_init (d_Picture_init).qual (d_Picture_init).scope (He.fAd K (d_Picture_init).at_) cdv A outer s H E) rfl
    exact pss_cons (ps_expr (pe_fn (ok_check_shape T) hr rfl rfl (g_check_shape T) (passW tk) (pa_cons (pv 1) (pa_cons (pv 2) (pa_cons (pv 3) (pa_cons (pv 4) (pa_nil)))))))
      (pss_cons (ps_expr (pe_fn (ok_check_size T) hr rfl rfl (g_check_size T) (passW tk) (pa_cons (pv 1) (pa_cons (pv 2) (pa_cons (pv 4) (pa_nil))))))
      (pss_cons (ps_if (pt_not (pt_val (pe_fn (ok__are_values T) hr rfl rfl (g__are_values T) passF (pa_cons (pe_op op_mul (pv 1) (pv 2)) (pa_cons (pv 3) (pa_cons (pv 4) (pa_cons (pv 5) (pa_nil)))))))) (pss_one (ps_raiseO rfl tk (x_OutOfRange T) (xi_OutOfRange T) (ok_OutOfRange_init T) hr rfl rfl (g_OutOfRange T) (pa_cons (pe_str) (pa_nil)))) (pss_nil))
      (pss_cons (ps_f (pv 0) (pv 1) (c_Picture T) (n_Picture_width T))
      (pss_cons (ps_f (pv 0) (pv 2) (c_Picture T) (n_Picture_height T))
      (pss_cons (ps_f (pv 0) (pv 3) (c_Picture T) (n_Picture_depth T))
      (pss_cons (ps_f (pv 0) (pv 4) (c_Picture T) (n_Picture_channels T))
      (pss_one (ps_f (pv 0) (pe_lc (own := [("row", 6)]) (g := gName 6) (tt := tYes) rfl sc.nd (pi_list (pv 5)) (blkOk_by (N := N_Picture_init) (sc := defScope s_Picture_init) (by decide +kernel)) (fun _ _ _ _ _ => pg_name (i := 6) sc.nd rfl (Or.inl rfl)) (fun _ _ _ _ _ => pts_nil) (fun _ _ _ _ _ => pe_callTy call_list_of rfl (z_list T) (by decide +kernel) (pa_cons (pv 6) (pa_nil)))) (c_Picture T) (n_Picture__rows T)))))))))

theorem sc_law : FnScope N_law ["_law_script"] (defScope s_law) := ⟨rfl, rfl, rfl, by decide +kernel, rfl, by decide +kernel, by decide +kernel⟩
theorem ok_law {P : Program} {w : World} {K : Frag} {mg : Str → Option Value} (T : Top K mg) : FnLaw P w K mg 6 (He.fAd K ("law", none)) "_law_script" (sp_law K) :=
  law_ok (d := d_law) (tt := t_law K) (T.says.def_ 17) rfl sc_law ar_law (fun _ _ _ _ _ _ us hl => match us, hl with | [_], _ => rfl) (pure_law K (xm_OutOfRange_OutOfRange T) (kit_OutOfRange_NoFrame T)) fun base cdv A outer s H E hr => by
    have sc := sc_law
    exact pss_cons (ps_set (i := 1) sc.nd rfl (Or.inl rfl) (pe_fn (ok__law_sizes T) hr rfl rfl (g__law_sizes T) passF (pa_cons (pe_fn (ok__law_cell T) hr rfl rfl (g__law_cell T) passF (pa_cons (pv 0) (pa_cons (pe_int) (pa_nil)))) (pa_cons (pe_ifExp (pt_cmpR op_eq (pe_op op_mod (pe_fn (ok__law_cell T) hr rfl rfl (g__law_cell T) passF (pa_cons (pv 0) (pa_cons (pe_int) (pa_nil)))) (pe_int)) (pe_int) (nomark _)) (pe_int) (pe_int)) (pa_nil)))))
      (pss_cons (ps_set (i := 2) sc.nd rfl (Or.inl rfl) (pe_fn (ok__law_values T) hr rfl rfl (g__law_values T) passF (pa_cons (pe_fn (ok__law_cell T) hr rfl rfl (g__law_cell T) passF (pa_cons (pv 0) (pa_cons (pe_int) (pa_nil)))) (pa_cons (pv 1) (pa_nil)))))
      (pss_cons (ps_setLc (i := 3) (own := [("_law_row", 13)]) (g := gName 13) (tt := tYes) rfl sc.nd rfl rfl (sw_true rfl rfl rfl (by decide +kernel)) (pi_list (pv 2)) (blkOk_by (N := N_law) (sc := defScope s_law) (by decide +kernel)) (fun _ _ _ _ _ => pg_name (i := 13) sc.nd rfl (Or.inl rfl)) (fun _ _ _ _ _ => pts_nil) (fun _ _ _ _ _ => pe_callTy call_list_of rfl (z_list T) (by decide +kernel) (pa_cons (pv 13) (pa_nil))))
      (pss_cons (ps_set (i := 4) sc.nd rfl (Or.inl rfl) (pe_callTy call_list_of rfl (z_list T) (by decide +kernel) (pa_cons (pv 1) (pa_nil))))
      (pss_cons (ps_set (i := 5) sc.nd rfl (Or.inl rfl) (pe_fn (ok__law_numbers T) hr rfl rfl (g__law_numbers T) passF (pa_cons (pe_fn (ok__law_cell T) hr rfl rfl (g__law_cell T) passF (pa_cons (pv 0) (pa_cons (pe_int) (pa_nil)))) (pa_cons (pe_int) (pa_cons (pe_int) (pa_nil))))))
      (pss_cons (ps_set (i := 6) sc.nd rfl (Or.inl rfl) (pe_callB (call_max2 rfl) rfl (z_max T) (by decide +kernel) (pa_cons (pe_int) (pa_cons (pe_op op_sub (pe_op op_mod (pe_ix ix_list (pv 5) (pe_int) (fun _ _ => rfl)) (pe_int)) (pe_int)) (pa_nil)))))
      (pss_cons (ps_set (i := 7) sc.nd rfl (Or.inl rfl) (pe_fn (ok__law_spoilt T) hr rfl rfl (g__law_spoilt T) passF (pa_cons (pv 6) (pa_cons (pe_ix ix_list (pv 5) (pe_int) (fun _ _ => rfl)) (pa_cons (pv 4) (pa_cons (pv 3) (pa_nil)))))))
      (pss_cons (ps_set (i := 8) sc.nd rfl (Or.inl rfl) (pe_str))
      (pss_cons (ps_set (i := 9) sc.nd rfl (Or.inl rfl) (pe_non))
      (pss_cons (ps_try_as (i := 10) (tb := fun W => tAsg (tMk (He.ga K "Picture") (sp_Picture_init K) (WE W) (tCons (tOp (rIxL K) (tVar 4) (tC (.int 0))) (tCons (tOp (rIxL K) (tVar 4) (tC (.int 1))) (tCons (tOp (rIxL K) (tVar 4) (tC (.int 2))) (tCons (tOp (rIxL K) (tVar 4) (tC (.int 3))) (tCons (tVar 3) (tNil))))))) (gName 9)) (ts := fun a cls d => tAsg (tIf (tAnd (tB (tCB (rIsi K) (tCons (tXf a cls d (He.ga K "OutOfRange") "name" (tVar 10)) (tCons (tC (.ty "str")) (tNil))))) (tNot (tB (tCB (rIsX K (He.ga K "OutOfRange") a cls d) (tCons (tVar 10) (tCons (tC (.ref (He.ga K "NoFrame"))) (tNil))))))) (tXf a cls d (He.ga K "OutOfRange") "name" (tVar 10)) (tC (.str "odd"))) (gName 8)) rfl rfl sc.nd rfl rfl ⟨rfl, by decide, Or.inl (g_OutOfRange T)⟩ takes0
      (fun W pn xe tk po => pss_one (ps_set (i := 9) sc.nd rfl (Or.inl rfl) (pe_mk (k_Picture T) (ok_Picture_init T) hr rfl rfl (g_Picture T) (passW tk) (pa_cons (pe_ix ix_list (pv 4) (pe_int) (fun _ _ => rfl)) (pa_cons (pe_ix ix_list (pv 4) (pe_int) (fun _ _ => rfl)) (pa_cons (pe_ix ix_list (pv 4) (pe_int) (fun _ _ => rfl)) (pa_cons (pe_ix ix_list (pv 4) (pe_int) (fun _ _ => rfl)) (pa_cons (pv 3) (pa_nil)))))))))
      (fun a oe cls d pn hz hf => pss_one (ps_set (i := 8) sc.nd rfl (Or.inl rfl) (pe_ifExp (PW.pt (pw_and (pt_val (pe_callB call_isi rfl (z_isinstance T) (by decide +kernel) (pa_cons (pe_xf (xf_OutOfRange T) (n_OutOfRange_name T) hz hf (pv 10)) (pa_cons (pe_bltn rfl (z_str T) (by decide +kernel) rfl) (pa_nil))))) (pw_and1 (pt_not (pt_val (pe_callB (call_isX (xd_OutOfRange T) hz hf) rfl (z_isinstance T) (by decide +kernel) (pa_cons (pv 10) (pa_cons (pe_ga rfl (g_NoFrame T)) (pa_nil))))))))) (pe_xf (xf_OutOfRange T) (n_OutOfRange_name T) hz hf (pv 10)) (pe_str)))))
      (pss_cons (ps_if (pt_cmpR op_gt (pv 6) (pe_int) (nomark _)) (pss_one (ps_ret (pe_and (pe_cmpR op_isN (pv 9) (pe_non) (nomark _)) (pe_one (pe_cmpR op_eq (pv 8) (pv 7) (nomark _)))))) (pss_nil))
      (pss_cons (ps_if (PW.pt (pw_or (pt_cmpR op_isN (pv 9) (pe_non) (nomark _)) (pw_or1 (pt_not (pt_val (pe_fn (ok__law_holds T) hr rfl rfl (g__law_holds T) passF (pa_cons (pv 9) (pa_cons (pv 1) (pa_cons (pv 2) (pa_nil)))))))))) (pss_one (ps_ret (pe_bl))) (pss_nil))
      (pss_cons (ps_asg (pe_un un_neg (pe_int)) (pg_sub (pe_ix ix_list (pv 3) (pe_int) (fun _ _ => rfl)) (pe_int) set_list))
      (pss_cons (ps_expr (pe_bm PySem.F.plainAttrs_list PySem.F.slot_list_append PySem.F.type_list_append mt_append (pv 3) (pa_cons (pe_lst (pa_nil)) (pa_nil))))
      (pss_cons (ps_set (i := 11) sc.nd rfl (Or.inl rfl) (pe_mt (pv 9) (c_Picture T) (m_Picture_row T) (ok_Picture_row T) hr rfl passF (pa_cons (pe_int) (pa_nil))))
      (pss_cons (ps_asg (pe_un un_neg (pe_int)) (pg_sub (pv 11) (pe_int) set_list))
      (pss_cons (ps_set (i := 11) sc.nd rfl (Or.inl rfl) (pe_mt0 (pv 9) (c_Picture T) (m_Picture_rows T) (ok_Picture_rows T) hr rfl passF))
      (pss_cons (ps_set (i := 12) sc.nd rfl (Or.inl rfl) (pe_ix ix_list (pv 11) (pe_int) (fun _ _ => rfl)))
      (pss_cons (ps_asg (pe_un un_neg (pe_int)) (pg_sub (pv 12) (pe_int) set_list))
      (pss_cons (ps_expr (pe_bm PySem.F.plainAttrs_list PySem.F.slot_list_append PySem.F.type_list_append mt_append (pv 11) (pa_cons (pe_lst (pa_nil)) (pa_nil))))
      (pss_one (ps_ret (pe_fn (ok__law_holds T) hr rfl rfl (g__law_holds T) passF (pa_cons (pv 9) (pa_cons (pv 1) (pa_cons (pv 2) (pa_nil))))))))))))))))))))))))))

end PB
namespace PB
open PySem PySem.Spec PyProof.Rows L2
abbrev RR : PySem.W.OpenRow := PySem.W.OpenLaw.row PySem.Challenge.rw_packetpicture_k06_picture_bounds_and_cop
abbrev faK (K : Frag) : Bool := fa.all fun f => f K
abbrev hk : PySem.W.Hook := hookP 5 faK fn
def ob (s : PySem.W.SharedT) : He.AlD := obsPG 5 faK fn (HandSHeadRun.getT s)
theorem ob_eq (s : PySem.W.SharedT) : ob s = hk.obs s.abs := obsPG_eq (HandSHeadRun.getT_eq s)
def names : List PySem.Str := (["_wall", "PictureError", "OutOfRange", "NoFrame", "SIDE_MOST", "VALUES_MOST", "DEPTH_MOST", "check_shape", "check_size", "_are_values", "Picture", "_law_cell", "_law_mixed", "_law_numbers", "_law_sizes", "_law_values", "_law_is_int", "_law_are_ints", "_law_spoilt", "_law_holds"] : List PySem.Str)
set_option maxHeartbeats 0 in
theorem run (w : World) : HandSHeadRun.RunEq RR (PySem.W.view RR.prog [24]) hk ob 4000 names w := by
  intro os
  kernel_rfl
end PB
open PySem PySem.W PySem.Calls PyProof.Rows
set_option maxHeartbeats 0 in
theorem PySem.Challenge.cw_packetpicture_k06_picture_bounds_and_cop_holds : PySem.Challenge.rw_packetpicture_k06_picture_bounds_and_cop.Holds := by
  w_on; o_law
  refine HandSHeadRun.head_any (r := OpenLaw.row PySem.Challenge.rw_packetpicture_k06_picture_bounds_and_cop) (q := view (OpenLaw.row PySem.Challenge.rw_packetpicture_k06_picture_bounds_and_cop).prog [24]) (H := PB.hk) (ob := PB.ob) (M := 4000) (loose := PB.names) (d := HandSHeadRun.topDef (OpenLaw.row PySem.Challenge.rw_packetpicture_k06_picture_bounds_and_cop).prog 24) (kwd := []) PB.ob_eq
    (by kernel_rfl) (fun s => by kernel_rfl) PB.run (by kernel_rfl) (by kernel_rfl) (by kernel_rfl) (by rfl) (by first | assumption | decide +kernel) (by decide +kernel) ⟨rfl, rfl, rfl, rfl, rfl, by decide +kernel⟩ ?hw ?hc
  case hw => w_witness2
  case hc =>
    refine L2.walk_ofE (l := PySem.Challenge.rw_packetpicture_k06_picture_bounds_and_cop) (n := 63) (k := 6) (x := "_law_script") (CX := L2.CX0) rfl (by decide) (by kernel_rfl) ⟨rfl, by decide, by decide⟩ ?F (fun _ _ _ _ z => z)
    intro w mg fa h Y G hmg0
    obtain ⟨K, KX, c⟩ := Y
    have hmg : mg ("law" : PySem.Str) = some (.ref fa) := by
      have e : (HandSHeadRun.topDef (OpenLaw.row PySem.Challenge.rw_packetpicture_k06_picture_bounds_and_cop).prog 24).name = ("law" : PySem.Str) := by kernel_rfl
      rw [← e]
      exact hmg0
    have T : PB.Top K mg := ⟨⟨h, KX, G⟩, c⟩
    have efa : fa = He.fAd K ("law", none) := by
      have z := hmg.symm.trans (PB.g_law T)
      exact Value.ref.inj (Option.some.inj z)
    have fn : ∃ fd : FuncData, (∀ (s : Shared) (v : Value), BindsTo s fd ⟨[v], []⟩ [("_law_script", v)]) ∧ ∀ base : Heap, K.In base → base.Ns mainGlobals mg → L2.FnOk (PySem.Challenge.rw_packetpicture_k06_picture_bounds_and_cop).prog w K mg base L2.CX0 6 fa fd ["_law_script"] (PB.sp_law K) := by
      subst efa
      obtain ⟨fd, h1, h2⟩ := PB.ok_law (P := (PySem.Challenge.rw_packetpicture_k06_picture_bounds_and_cop).prog) (w := w) T
      exact ⟨fd, h1, fun base _ _ => h2 base⟩
    obtain ⟨fd, hb, hF⟩ := fn
    exact ⟨K, fd, PB.sp_law K, KX, hb, fun H a ns hl _ hS => ⟨a, ns, rfl, hS, fun _ => rfl⟩, hF⟩

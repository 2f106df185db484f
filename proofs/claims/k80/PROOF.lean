import PyProof.Rows.All
import Wide.All
import OpenK.AllK
import Wide.FinOn
import KE.KStateDown
import Lean
import HandS.ForMost
import HandS.Exc
import HandS.ExcOwn
import HandS.ExcInit
import HandS.ExcIs
import HandS.ExcField
import HandS.TryOnly
import HandS.TryMany
import HandS.IsInst
import HandS.WordsExc
import HandS.Defaults
import HandS.Wide
import HandS.More
import KE.KExcIs
import HandS.Head0
import HandS.Head1
import HandS.Head2
import HandS.HeadEnd
import HandS.HeadHook1
import HandS.HeadHook2
import PySem.Challenge.RW_packetpicture_k80_current_header
set_option Elab.async false
set_option linter.all false
set_option maxRecDepth 100000
set_option maxHeartbeats 2000000
/-! PB: the ground of these proofs: readings step by step, heaps, the head's facts as one Bool. -/
namespace PB
open PySem PySem.Spec PyProof.Rows L2

/-! ### operators by name -/
abbrev bAdd : R2 := rI0 fun i j => .int (i + j)
abbrev bSub : R2 := rI0 fun i j => .int (i - j)
abbrev bMul : R2 := rI CMul fun i j => .int (i * j)
abbrev bDiv : R2 := rI CDiv fun i j => .int (i / j)
abbrev bMod : R2 := rI (fun _ j => 0 < j) fun i j => .int (i % j)
abbrev bPow : R2 := rI CPow fun i j => .int (i ^ j.toNat)
abbrev bShl : R2 := rI CPow fun i j => .int (i * 2 ^ j.toNat)
abbrev bShr : R2 := rI (fun _ j => 0 ≤ j) fun i j => .int (i / 2 ^ j.toNat)
abbrev bAnd : R2 := rI0 fun i j => .int (Builtin.bitAnd i j)
abbrev bXor : R2 := rI0 fun i j => .int (Builtin.bitXor i j)
abbrev cLt : R2 := rI0 fun i j => .bl (decide (i < j))
abbrev cLe : R2 := rI0 fun i j => .bl (decide (i ≤ j))
abbrev cGt : R2 := rI0 fun i j => .bl (decide (j < i))
abbrev cGe : R2 := rI0 fun i j => .bl (decide (j ≤ i))
abbrev uNeg : V → Hp → VK → Prop := rU fun i => .int (-i)
abbrev cIsN : R2 := fun x y H Q => y = .non ∧ Q (.bl (decide (x = .non))) H
abbrev cIsntN : R2 := fun x y H Q => y = .non ∧ Q (.bl (!decide (x = .non))) H
def bAddS : R2 := fun x y H Q => ∃ i j, x = .str i ∧ y = .str j ∧ i.length + j.length ≤ sizeLine ∧ Q (.str (i ++ j)) H

/-! ### built-ins by name -/
def kAbs : List V → Hp → VK → Prop := fun xs H Q => ∃ i, xs = [.int i] ∧ Q (.int (if i < 0 then -i else i)) H
def kMax : List V → Hp → VK → Prop := fun xs H Q => ∃ i j, xs = [.int i, .int j] ∧ Q (.int (if j > i then j else i)) H
def kMin : List V → Hp → VK → Prop := fun xs H Q => ∃ i j, xs = [.int i, .int j] ∧ Q (.int (if j < i then j else i)) H
def kInt : List V → Hp → VK → Prop := fun xs H Q => (∃ i, xs = [.int i] ∧ Q (.int i) H) ∨ ∃ k, xs = [.bl k] ∧ Q (.int (if k then 1 else 0)) H
def kList (K : PySem.W.Frag) : List V → Hp → VK → Prop := fun xs H Q => ∃ p ys, xs = [.ref p] ∧ (SqL K H p ys ∨ SqT K H p ys) ∧ ∀ l, H l = none → Q (.ref l) (upd H l (.lst ys))

/-- what a def lets out: E at any slots -/
abbrev wE (E : XK) : WX := fun cls d _ H => E cls d H
abbrev ends (Q : VK) : Ends := { nx := fun _ H' => Q .non H', rt := Q }

/-! ### readings: one step each -/
section
variable {σ : L2.St} {H H' : Hp} {Q : VK} {v x y : V} {i j : Int} {n : Nat} {ta tb tc te : TE} {t u : TT} {ts us : TS} {r r' : R2} {K : PySem.W.Frag} {nx bk ct : L2.St → Hp → Prop} {rt : VK} {QB : Bool → Hp → Prop}
theorem i_var (h : σ[n]? = some (some v)) (q : Q v H) : tVar n σ H Q := ⟨v, h, q⟩
theorem i_c (q : Q v H) : tC v σ H Q := q
theorem i_op (q : ta σ H fun x H1 => tb σ H1 fun y H2 => r x y H2 Q) : tOp r ta tb σ H Q := q
theorem i_un {r : V → Hp → VK → Prop} (q : ta σ H fun x H1 => r x H1 Q) : tUn r ta σ H Q := q
theorem i_rI0 {g : Int → Int → V} (q : Q (g i j) H) : rI0 g (.int i) (.int j) H Q := ⟨i, j, rfl, rfl, q⟩
theorem i_rI {C : Int → Int → Prop} {g : Int → Int → V} (c : C i j) (q : Q (g i j) H) : rI C g (.int i) (.int j) H Q := ⟨i, j, rfl, rfl, c, q⟩
theorem i_rU {g : Int → V} (q : Q (g i) H) : rU g (.int i) H Q := ⟨i, rfl, q⟩
theorem i_eqI (q : Q (.bl (decide (i = j))) H) : rEq (.int i) (.int j) H Q := ⟨rfl, by rw [show decide (V.int i = V.int j) = decide (i = j) from by simp]; exact q⟩
theorem i_neI (q : Q (.bl (!decide (i = j))) H) : rNe (.int i) (.int j) H Q := ⟨rfl, by rw [show decide (V.int i = V.int j) = decide (i = j) from by simp]; exact q⟩
theorem i_eqS {a b : Str} (q : Q (.bl (decide (a = b))) H) : rEq (.str a) (.str b) H Q := ⟨rfl, by rw [show decide (V.str a = V.str b) = decide (a = b) from by simp]; exact q⟩
theorem i_neS {a b : Str} (q : Q (.bl (!decide (a = b))) H) : rNe (.str a) (.str b) H Q := ⟨rfl, by rw [show decide (V.str a = V.str b) = decide (a = b) from by simp]; exact q⟩
theorem i_addS {a b : Str} (h : a.length + b.length ≤ sizeLine) (q : Q (.str (a ++ b)) H) : bAddS (.str a) (.str b) H Q := ⟨a, b, rfl, rfl, h, q⟩
theorem i_isN (q : Q (.bl (decide (x = .non))) H) : cIsN x .non H Q := ⟨rfl, q⟩
theorem i_isntN (q : Q (.bl (!decide (x = .non))) H) : cIsntN x .non H Q := ⟨rfl, q⟩
theorem i_test (q : ta σ H fun x H' => ∃ k, x = .bl k ∧ QB k H') : tTest ta σ H QB := q
theorem i_tB (q : ta σ H fun x H' => ∃ k, x = .bl k ∧ QB k H') : tB ta σ H QB := q
theorem i_bl {b : Bool} {P : Bool → Prop} (q : P b) : ∃ k, V.bl b = .bl k ∧ P k := ⟨b, rfl, q⟩
theorem i_chain (q : ta σ H fun x H1 => tb σ H1 fun y H2 => r x y H2 fun z H3 => ∃ k, z = .bl k ∧ (if k = true then tc σ H3 fun w' H4 => r' y w' H4 Q else Q (.bl false) H3)) : tChain r r' ta tb tc σ H Q := q
theorem i_and (q : t σ H fun c H1 => if c = true then u σ H1 QB else QB false H1) : tAnd t u σ H QB := q
theorem i_or (q : t σ H fun c H1 => if c = true then QB true H1 else u σ H1 QB) : tOr t u σ H QB := q
theorem i_not (q : t σ H fun c H1 => QB (!c) H1) : tNot t σ H QB := q
theorem i_andV (q : ta σ H fun x H1 => ∃ c, x = .bl c ∧ if c = true then tb σ H1 Q else Q (.bl false) H1) : tAndV ta tb σ H Q := q
theorem i_orV (q : ta σ H fun x H1 => ∃ c, x = .bl c ∧ if c = true then Q (.bl true) H1 else tb σ H1 Q) : tOrV ta tb σ H Q := q
theorem i_notV (q : ta σ H fun x H1 => ∃ c, x = .bl c ∧ Q (.bl (!c)) H1) : tNotV ta σ H Q := q
theorem i_if (q : t σ H fun c H1 => if c = true then ta σ H1 Q else tb σ H1 Q) : tIf t ta tb σ H Q := q
theorem i_nil {Q : List V → Hp → Prop} (q : Q [] H) : tNil σ H Q := q
theorem i_cons {tr : TA} {Q : List V → Hp → Prop} (q : te σ H fun x H1 => tr σ H1 fun xs H2 => Q (x :: xs) H2) : tCons te tr σ H Q := q
theorem i_cb {r : List V → Hp → VK → Prop} {tr : TA} (q : tr σ H fun vs H1 => r vs H1 Q) : tCB r tr σ H Q := q
theorem i_call {sp : Sp} {dvs : List V} {E : XK} {tr : TA} (q : tr σ H fun vs H1 => sp (vs ++ dvs) H1 Q E) : tCall sp dvs E tr σ H Q := q
theorem i_callS {sp : Sp} {E : L2.St → XK} {tr : TA} (q : tr σ H fun vs H1 => sp vs H1 Q (E σ)) : tCallS sp E tr σ H Q := q
theorem i_seq (q : ts ⟨us ⟨nx, rt, bk, ct⟩, rt, bk, ct⟩ σ H) : tSeq ts us ⟨nx, rt, bk, ct⟩ σ H := q
theorem i_next (q : nx σ H) : tNext ⟨nx, rt, bk, ct⟩ σ H := q
theorem i_break (q : bk σ H) : tBreak ⟨nx, rt, bk, ct⟩ σ H := q
theorem i_cont (q : ct σ H) : tCont ⟨nx, rt, bk, ct⟩ σ H := q
theorem i_drop (q : te σ H fun _ H1 => nx σ H1) : tDrop te ⟨nx, rt, bk, ct⟩ σ H := q
theorem i_ret (q : te σ H rt) : tRet te ⟨nx, rt, bk, ct⟩ σ H := q
theorem i_retN (q : rt .non H) : tRetN ⟨nx, rt, bk, ct⟩ σ H := q
theorem i_ifS (q : t σ H fun b H1 => if b = true then ts ⟨nx, rt, bk, ct⟩ σ H1 else us ⟨nx, rt, bk, ct⟩ σ H1) : tIfS t ts us ⟨nx, rt, bk, ct⟩ σ H := q
theorem i_asg {g : TG} (q : te σ H fun x H1 => g x σ H1 nx) : tAsg te g ⟨nx, rt, bk, ct⟩ σ H := q
theorem i_name {Q : L2.St → Hp → Prop} (q : Q (σ.set n (some v)) H) : gName n v σ H Q := q
theorem i_sub {to ti : TE} {s : TSet} {Q : L2.St → Hp → Prop} (q : to σ H fun o H1 => ti σ H1 fun i H2 => s o i v H2 fun H3 => Q σ H3) : gSub to ti s v σ H Q := q
theorem i_lst {tr : TA} (q : tr σ H fun xs H1 => xs.length ≤ sizeLine ∧ ∀ p, H1 p = none → Q (.ref p) (upd H1 p (.lst xs))) : tLst tr σ H Q := q
theorem i_tup {tr : TA} (q : tr σ H fun xs H1 => xs.length ≤ sizeLine ∧ ∀ p, H1 p = none → Q (.ref p) (upd H1 p (.tup xs))) : tTup tr σ H Q := q
theorem i_new {xs : List V} {R : Prop} (h : Nat.ble xs.length 1000 = true) (q : R) : xs.length ≤ sizeLine ∧ R := ⟨Nat.le_trans (Nat.le_of_ble_eq_true h) (by rw [sizeLine_eq]; decide), q⟩
theorem i_iteT {A B : Prop} (q : A) : if true = true then A else B := by rw [if_pos rfl]; exact q
theorem i_iteF {A B : Prop} (q : B) : if false = true then A else B := by rw [if_neg Bool.false_ne_true]; exact q
theorem i_iteNF {A B : Prop} (q : A) : if (!false) = true then A else B := q
theorem i_iteNT {A B : Prop} (q : B) : if (!true) = true then A else B := by rw [if_neg (by decide)]; exact q
theorem i_iteDt {c A B : Prop} [Decidable c] (h : c) (q : A) : if decide c = true then A else B := by rw [if_pos (decide_eq_true h)]; exact q
theorem i_iteDf {c A B : Prop} [Decidable c] (h : ¬ c) (q : B) : if decide c = true then A else B := by rw [if_neg (by simpa using h)]; exact q
theorem i_iteNt {c A B : Prop} [Decidable c] (h : ¬ c) (q : A) : if (!decide c) = true then A else B := by rw [if_pos (by simp [h])]; exact q
theorem i_iteNf {c A B : Prop} [Decidable c] (h : c) (q : B) : if (!decide c) = true then A else B := by rw [if_neg (by simp [h])]; exact q
theorem i_iteD {c A B : Prop} [Decidable c] (h1 : c → A) (h2 : ¬ c → B) : if decide c = true then A else B := by
  by_cases h : c
  · rw [if_pos (decide_eq_true h)]; exact h1 h
  · rw [if_neg (by simpa using h)]; exact h2 h
theorem i_iteN {c A B : Prop} [Decidable c] (h1 : ¬ c → A) (h2 : c → B) : if (!decide c) = true then A else B := by
  by_cases h : c
  · rw [if_neg (by simp [h])]; exact h2 h
  · rw [if_pos (by simp [h])]; exact h1 h
theorem i_iteB {b : Bool} {A B : Prop} (h1 : b = true → A) (h2 : b = false → B) : if b = true then A else B := by
  cases b with
  | true => rw [if_pos rfl]; exact h1 rfl
  | false => rw [if_neg Bool.false_ne_true]; exact h2 rfl
theorem i_iteC {b : Bool} {w : V} (h : ∀ z, z = v ∨ z = w → Q z H) : if b = true then tC v σ H Q else tC w σ H Q := by
  cases b with
  | true => exact h _ (.inl rfl)
  | false => exact h _ (.inr rfl)
theorem i_abs (q : Q (.int (if i < 0 then -i else i)) H) : kAbs [.int i] H Q := ⟨i, rfl, q⟩
theorem i_max (q : Q (.int (if j > i then j else i)) H) : kMax [.int i, .int j] H Q := ⟨i, j, rfl, q⟩
theorem i_min (q : Q (.int (if j < i then j else i)) H) : kMin [.int i, .int j] H Q := ⟨i, j, rfl, q⟩
theorem i_int (q : Q (.int i) H) : kInt [.int i] H Q := .inl ⟨i, rfl, q⟩
theorem i_intB {b : Bool} (q : Q (.int (if b then 1 else 0)) H) : kInt [.bl b] H Q := .inr ⟨b, rfl, q⟩
end

/-! ### fields: the class is known -/
def rFld (C : Addr) (f : Str) : V → Hp → VK → Prop := fun x H Q => ∃ a dx fs v, x = .ref a ∧ H a = some (.ins C dx fs) ∧ fs.lookup f = some v ∧ Q v H
def tF (C : Addr) (f : Str) (ta : TE) : TE := fun σ H Q => ta σ H fun x H1 => rFld C f x H1 Q
def rPut (C : Addr) (f : Str) (y : V) : V → Hp → (Hp → Prop) → Prop := fun x H Q => ∃ a dx fs, x = .ref a ∧ H a = some (.ins C dx fs) ∧ fs.length < 1000 ∧ Q (upd H a (.ins C dx (putF f y fs)))
def sF (C : Addr) (f : Str) (ta tv : TE) : TS := fun D σ H => tv σ H fun y H1 => ta σ H1 fun x H2 => rPut C f y x H2 (D.nx σ)
section
variable {X : Cx} {o e value : Expr} {f : Str} {pos pos' : Pos} {ta tv : TE} {C : Addr}
theorem pe_f (he : PE X e ta) (c : Cls X.K C) (n : NoAttr X.K C f) (hb : attributeBase e f X.env (eval e X.env) = eval e X.env := by rfl) : PE X (.Attribute e f pos) (tF C f ta) := by
  refine ⟨fun pins s σ H Q I h => attr_of hb (thn (he.run pins s σ H _ I h) fun u s1 hh => ?_)⟩
  obtain ⟨x, H1, I1, rx, a, dx, fs, v, ex, ea, l, q⟩ := hh
  subst ex
  have eu : u = Value.ref a := rx
  subst eu
  exact getattr_ok I1 ea c n l fun _ _ J ru => ⟨v, H1, J, ru, q⟩
theorem ps_f (ha : PE X o ta) (hv : PE X value tv) (c : Cls X.K C) (n : NoAttr X.K C f) (hs : swapsWith value (some (.Attribute o f pos')) pos.line X.env = pure false := by rfl) : PS X (.Assign [.Attribute o f pos'] value pos) (sF C f ta tv) := by
  refine ⟨fun pins s σ H D I h => plainObj_wpAny_Assign_Attribute (thn (hv.run pins s σ H _ I h) fun u s1 hh => ?_) hs⟩
  obtain ⟨y, H1, I1, ry, q⟩ := hh
  refine thn (ha.run pins s1 σ H1 _ I1 q) fun ov s2 hh => ?_
  obtain ⟨x, H2, I2, rx, a, dx, fs, ex, ea, l, q2⟩ := hh
  subst ex
  have eu : ov = Value.ref a := rx
  subst eu
  exact setattr_ok I2 ea c n l ry fun _ J => ⟨σ, _, J, q2⟩
/-- a module's int -/
theorem pe_gi {x : Str} {i : Int} (hg : Gl X x) (hm : ∃ t, X.mg x = some (.int i t)) (hd : (x == ("__debug__" : Str)) = false := by decide) : PE X (.Name x pos) (tC (.int i)) := by
  obtain ⟨t, ht⟩ := hm
  exact pe_glob hg ht ⟨t, rfl⟩ hd
theorem pe_gs {x z : Str} (hg : Gl X x) (hm : ∃ t, X.mg x = some (.str z t)) (hd : (x == ("__debug__" : Str)) = false := by decide) : PE X (.Name x pos) (tC (.str z)) := by
  obtain ⟨t, ht⟩ := hm
  exact pe_glob hg ht ⟨t, rfl⟩ hd
theorem pe_ga {x : Str} {a : Addr} (hg : Gl X x) (hm : X.mg x = some (.ref a)) (hd : (x == ("__debug__" : Str)) = false := by decide) : PE X (.Name x pos) (tC (.ref a)) := pe_glob hg hm rfl hd
end
section
variable {σ : L2.St} {H : Hp} {Q : VK} {y v : V} {C a dx : Addr} {f : Str} {fs : List (Str × V)} {ta tv : TE} {nx bk ct : L2.St → Hp → Prop} {rt : VK}
theorem i_F (q : ta σ H fun x H1 => rFld C f x H1 Q) : tF C f ta σ H Q := q
theorem i_fld (h : H a = some (.ins C dx fs)) (l : fs.lookup f = some v) (q : Q v H) : rFld C f (.ref a) H Q := ⟨a, dx, fs, v, rfl, h, l, q⟩
theorem i_sF (q : tv σ H fun y H1 => ta σ H1 fun x H2 => rPut C f y x H2 (nx σ)) : sF C f ta tv ⟨nx, rt, bk, ct⟩ σ H := q
theorem i_put {Q : Hp → Prop} (h : H a = some (.ins C dx fs)) (l : fs.length < 1000) (q : Q (upd H a (.ins C dx (putF f y fs)))) : rPut C f y (.ref a) H Q := ⟨a, dx, fs, rfl, h, l, q⟩
end

/-! ### methods, makers: E by the slots -/
def rMeth (C : Addr) (m : Str) : V → Hp → (Prop) → Prop := fun x H q => ∃ a dx fs, x = .ref a ∧ H a = some (.ins C dx fs) ∧ fs.lookup m = none ∧ q
def tMe (C : Addr) (m : Str) (sp : Sp) (E : L2.St → XK) (ta : TE) (t : TA) : TE := fun σ H Q => ta σ H fun x H1 => rMeth C m x H1 (t σ H1 fun vs H2 => sp (x :: vs) H2 Q (E σ))
def tMk (C : Addr) (sp : Sp) (E : L2.St → XK) (t : TA) : TE := fun σ H Q => t σ H fun vs H1 => ∀ x dx, H1 x = none → H1 dx = none → dx ≠ x →
  sp (.ref x :: vs) (upd (upd H1 dx (.own x)) x (.ins C dx [])) (fun v H2 => v = .non ∧ Q (.ref x) H2) (E σ)
abbrev EF : L2.St → XK := fun _ => E0
/-- a def of the text as its callers see it -/
structure DefOk (P : Program) (w : World) (K : PySem.W.Frag) (mg : Str → Option Value) (base : Heap) (k : Nat) (f : Addr) (ps : List Str) (sp : Sp) : Prop where
  ex : ∃ fd, FnOk P w K mg base (L2.CX P w) k f fd ps sp ∧ Binds K fd ps []
  kp : PySem.W.keepIn K (.ref f) = true
section
variable {X : Cx} {k j : Nat} {f C : Addr} {ps : List Str} {sp : Sp} {E : L2.St → XK} {x m : Str} {p pos apos : Pos} {e o : Expr} {es : List Expr} {ta : TE} {t : TA}
abbrev PassA (X : Cx) (E : L2.St → XK) : Prop := ∀ σ, PassesAt (L2.CX X.prog X.w) X σ (E σ)
theorem passF {X : Cx} : PassA X EF := fun _ _ _ _ _ _ _ h => by
  obtain ⟨_, _, _, _, _, _, _, _, _, _, _, _, z⟩ := h
  exact z.elim
theorem passW {X : Cx} {W : WX} (tk : Takes X W) : PassA X (WE W) := fun σ => passAt tk σ
theorem pe_fn (D : DefOk X.prog X.w X.K X.mg X.base k f ps sp) (hr : Room j X.A) (hk : Nat.ble k j = true) (hg : Gl X x) (hm : X.mg x = some (.ref f)) (hx : PassA X E) (ha : PA X (e :: es) t) (hdb : (x == ("__debug__" : Str)) = false := by decide)
    (he : starEach (e :: es) X.env = (false, eval e X.env) :: starEach es X.env := by rfl) (hpl : (backTo pos (starEach es X.env)).any (·.1) = false := by rfl) : PE X (.Call (.Name x p) (e :: es) [] pos) (tCallS sp E t) := by
  obtain ⟨⟨fd, F, b⟩, kp⟩ := D
  exact pe_callS F (hr.mono (Nat.le_of_ble_eq_true hk)) hg hm kp b hx ha hdb he hpl
theorem run_at {pins : List (Addr × Obj)} {σ : L2.St} {H : Hp} {s : Shared} {Q : VK} {us : List Value} {vs : List V} {fd : FuncData} (F : FnOk X.prog X.w X.K X.mg X.base (L2.CX X.prog X.w) k f fd ps sp) (hr : Room k X.A) (b : Binds X.K fd ps []) (hx : PassA X E)
    (I : Inv X pins σ H s) (r : Vals vs us) (h : sp vs H Q (E σ)) : wpAny (model X.prog X.w) X.A (call (.ref f) us) (EP X pins σ Q) X.xe s := run_fnS F hr b (hx σ) I r h
theorem pe_mt {pl : Sem Bool} (he : PE X o ta) (c : Cls X.K C) (hm : Meth X.K C m f) (D : DefOk X.prog X.w X.K X.mg X.base k f ps sp) (hr : Room j X.A) (hk : Nat.ble k j = true) (hx : PassA X E) (ha : PA X (e :: es) t)
    (hc : eval (.Call (.Attribute o m apos) (e :: es) [] pos) X.env = (do
      let ov ← eval o X.env
      standAt apos.atName
      let (f, first) ← holding [ov] (getMethod ov m pl)
      callWith pos f first (backTo pos (starEach (e :: es) X.env)) (backToKw pos (keywordEach [] X.env))) := by rfl)
    (hs : starEach (e :: es) X.env = (false, eval e X.env) :: starEach es X.env := by rfl) (hpl : (backTo pos (starEach es X.env)).any (·.1) = false := by rfl) :
    PE X (.Call (.Attribute o m apos) (e :: es) [] pos) (tMe C m sp E ta t) := by
  refine ⟨fun pins s σ H Q I h => PySem.W.methodCall_KW (pl := pl) (thn (he.run pins s σ H _ I h) fun u s1 hh => ?_) hc⟩
  obtain ⟨x, H1, I1, rx, a, dx, fs, ex, ea, l, q⟩ := hh
  subst ex
  have eu : u = Value.ref a := rx
  subst eu
  obtain ⟨⟨fd, F, b⟩, kp⟩ := D
  refine getmeth_ok I1 ea c hm l (PySem.W.callWith_K (first := [.ref a]) (h₀ := X.base) I.ok.mod.kin hm.kp (thn (ha.run pos pins s1 σ H1 _ I1 q) fun us s2 hh => ?_) hs hpl)
  obtain ⟨vs, H2, I2, r, q2⟩ := hh
  exact ⟨I2.kIn, run_at (us := .ref a :: us) (vs := .ref a :: vs) F (hr.mono (Nat.le_of_ble_eq_true hk)) b hx I2 (.cons rfl r) q2⟩
theorem pe_mt0 {pl : Sem Bool} (he : PE X o ta) (c : Cls X.K C) (hm : Meth X.K C m f) (D : DefOk X.prog X.w X.K X.mg X.base k f ps sp) (hr : Room j X.A) (hk : Nat.ble k j = true) (hx : PassA X E)
    (hc : eval (.Call (.Attribute o m apos) [] [] pos) X.env = (do
      let ov ← eval o X.env
      standAt apos.atName
      let (f, first) ← holding [ov] (getMethod ov m pl)
      callWith pos f first (backTo pos (starEach [] X.env)) (backToKw pos (keywordEach [] X.env))) := by rfl) :
    PE X (.Call (.Attribute o m apos) [] [] pos) (tMe C m sp E ta tNil) := by
  refine ⟨fun pins s σ H Q I h => PySem.W.methodCall_KW (pl := pl) (thn (he.run pins s σ H _ I h) fun u s1 hh => ?_) hc⟩
  obtain ⟨x, H1, I1, rx, a, dx, fs, ex, ea, l, q⟩ := hh
  subst ex
  have eu : u = Value.ref a := rx
  subst eu
  obtain ⟨⟨fd, F, b⟩, kp⟩ := D
  exact getmeth_ok I1 ea c hm l (PySem.W.callWith_K0 (first := [.ref a]) I1.kIn hm.kp (run_at (us := [.ref a]) (vs := [.ref a]) F (hr.mono (Nat.le_of_ble_eq_true hk)) b hx I1 (.cons rfl .nil) q))
theorem pe_fn0 (D : DefOk X.prog X.w X.K X.mg X.base k f ps sp) (hr : Room j X.A) (hk : Nat.ble k j = true) (hg : Gl X x) (hm : X.mg x = some (.ref f)) (hx : PassA X E) (hdb : (x == ("__debug__" : Str)) = false := by decide) :
    PE X (.Call (.Name x p) [] [] pos) (tCallS sp E tNil) := by
  obtain ⟨⟨fd, F, b⟩, kp⟩ := D
  exact ⟨fun pins s σ H Q I h => wpAny_Call_Name_kw (ld_glob I hg hm (PySem.W.callWith_K0 I.kIn kp (run_at (us := []) F (hr.mono (Nat.le_of_ble_eq_true hk)) b hx I .nil h)) hdb)⟩
theorem run_mk {pins : List (Addr × Obj)} {σ : L2.St} {H : Hp} {s : Shared} {Q : VK} {us : List Value} {vs : List V} {fd : FuncData} (M : Mk X.K C f) (F : FnOk X.prog X.w X.K X.mg X.base (L2.CX X.prog X.w) k f fd ps sp) (hr : Room (k + 1) X.A) (b : Binds X.K fd ps [])
    (hx : PassA X E) (I : Inv X pins σ H s) (r : Vals vs us)
    (h : ∀ x dx, H x = none → H dx = none → dx ≠ x → sp (.ref x :: vs) (upd (upd H dx (.own x)) x (.ins C dx [])) (fun v H2 => v = .non ∧ Q (.ref x) H2) (fun cls d H2 => E σ cls d H2)) :
    wpAny (model X.prog X.w) X.A (call (.ref C) us) (EP X pins σ Q) X.xe s := by
  have sz := Nat.lt_succ_self s.heap.objs.size
  have hq := h (s.heap.objs.size + 1) s.heap.objs.size (I.hok.fresh (Nat.le_of_lt sz)) (I.hok.fresh (Nat.le_refl _)) (Nat.ne_of_lt sz)
  have I2 := Inv.made (C := C) I
  have r2 : Vals (V.ref (s.heap.objs.size + 1) :: vs) (Value.ref (s.heap.objs.size + 1) :: us) := .cons rfl r
  have hl : (Value.ref (s.heap.objs.size + 1) :: us).length = ps.length := r2.length.symm.trans (F.len _ _ _ _ hq)
  have hb := b _ (Value.ref (s.heap.objs.size + 1) :: us) I2.kIn (by rw [List.append_nil]; exact hl)
  rw [List.append_nil] at hb
  refine wpAny_call (make_map (f := f) I.kIn M.makes M.init (beq_iff_eq.mp M.fn) (codeAny_mono (F.run _ X.stack _ _ ⟨Value.ref (s.heap.objs.size + 1) :: us, []⟩ _ _ _ (E σ) (hr.make C us [])
    (I2.env0.make C us []) hb r2 hq) fun res s' z => ?_))
  cases res with
  | error e => exact hx σ pins _ _ e s' I2 z
  | ok fl =>
    cases fl with
    | ret u =>
      obtain ⟨v, H', I3, rv, ev, q3⟩ := I2.after z
      subst ev
      exact ⟨rv, ⟨V.ref (s.heap.objs.size + 1), H', I3, rfl, q3⟩⟩
    | next => exact z.elim
    | brk => exact z.elim
    | cont => exact z.elim
theorem pe_mk (M : Mk X.K C f) (D : DefOk X.prog X.w X.K X.mg X.base k f ps sp) (hr : Room j X.A) (hk : Nat.ble (k + 1) j = true) (hg : Gl X x) (hm : X.mg x = some (.ref C)) (hx : PassA X E) (ha : PA X (e :: es) t) (hdb : (x == ("__debug__" : Str)) = false := by decide)
    (he : starEach (e :: es) X.env = (false, eval e X.env) :: starEach es X.env := by rfl) (hpl : (backTo pos (starEach es X.env)).any (·.1) = false := by rfl) : PE X (.Call (.Name x p) (e :: es) [] pos) (tMk C sp E t) := by
  obtain ⟨⟨fd, F, b⟩, _⟩ := D
  refine ⟨fun pins s σ H Q I h => wpAny_Call_Name_kw (ld_glob I hg hm (PySem.W.callWith_K (h₀ := X.base) I.ok.mod.kin M.kp (thn (ha.run pos pins s σ H _ I h) fun us s1 hh => ?_) he hpl) hdb)⟩
  obtain ⟨vs, H1, I1, r, q⟩ := hh
  exact ⟨I1.kIn, run_mk M F (hr.mono (Nat.le_of_ble_eq_true hk)) b hx I1 r q⟩
theorem pe_mk0 (M : Mk X.K C f) (D : DefOk X.prog X.w X.K X.mg X.base k f ps sp) (hr : Room j X.A) (hk : Nat.ble (k + 1) j = true) (hg : Gl X x) (hm : X.mg x = some (.ref C)) (hx : PassA X E) (hdb : (x == ("__debug__" : Str)) = false := by decide) :
    PE X (.Call (.Name x p) [] [] pos) (tMk C sp E tNil) := by
  obtain ⟨⟨fd, F, b⟩, _⟩ := D
  exact ⟨fun pins s σ H Q I h => wpAny_Call_Name_kw (ld_glob I hg hm (PySem.W.callWith_K0 I.kIn M.kp (run_mk (us := []) M F (hr.mono (Nat.le_of_ble_eq_true hk)) b hx I .nil h)) hdb)⟩
end
section
variable {σ : L2.St} {H : Hp} {Q : VK} {C a dx : Addr} {m : Str} {fs : List (Str × V)} {ta : TE} {t : TA} {sp : Sp} {E : L2.St → XK} {q : Prop}
theorem i_me (h : ta σ H fun x H1 => rMeth C m x H1 (t σ H1 fun vs H2 => sp (x :: vs) H2 Q (E σ))) : tMe C m sp E ta t σ H Q := h
theorem i_meth (h : H a = some (.ins C dx fs)) (l : fs.lookup m = none) (z : q) : rMeth C m (.ref a) H q := ⟨a, dx, fs, rfl, h, l, z⟩
theorem i_mk (h : t σ H fun vs H1 => ∀ x dx, H1 x = none → H1 dx = none → dx ≠ x → sp (.ref x :: vs) (upd (upd H1 dx (.own x)) x (.ins C dx [])) (fun v H2 => v = .non ∧ Q (.ref x) H2) (E σ)) : tMk C sp E t σ H Q := h
end

/-! ### a def from the head's facts to its promise -/
/-- sp speaks of n arguments -/
def Ar (n : Nat) (sp : Sp) : Prop := ∀ vs H Q E, sp vs H Q E → vs.length = n
theorem def_ok {P : Program} {w : World} {K : PySem.W.Frag} {mg : Str → Option Value} {base : Heap} {d : He.DefD} {N ps : List Str} {k : Nat} {sp : Sp} {tt : XK → TS} (F : ∃ fd, FunD K d.name d.qual d.params d.body d.scope (d.dvs K) (d.kws K) (He.fAd K d.at_) fd)
    (hd : d.dfl = [] := by rfl) (S : FnScope N ps d.scope) (ar : Ar ps.length sp)
    (hb : ∀ (kV doc pm : Value) (an : Option Addr) (cdv ct : Value) (us : List Value), us.length = ps.length → bindArgs (PySem.W.fnOf d.name d.qual d.params d.body d.scope .none kV doc pm an cdv ct) ⟨us, []⟩ = pure (ps.zip us))
    (pure_ : ∀ vs H Q E, sp vs H Q E → tt E (ends Q) (start N vs) H)
    (walk : ∀ (cdv : Value) (A : Around) (outer : List Env) (s : Shared) (H : Hp) (E : XK), Room k (A.deeper (envOfC d.qual d.scope s.heap.objs.size (He.fAd K d.at_) cdv)) →
      PSs (cxOf (L2.CX P w) P w K mg base N d.qual d.scope (He.fAd K d.at_) cdv A outer s H E) d.body (tt E)) : DefOk P w K mg base (k + 1) (He.fAd K d.at_) ps sp := by
  obtain ⟨fd, F⟩ := F
  have e0 : d.dvs K = [] := by unfold He.DefD.dvs; rw [hd]; rfl
  rw [e0] at F
  exact ⟨⟨fd, F.ok S (fun vs H Q E h => ar vs H Q E h) fun cdv A outer s H vs Q E hr h => ⟨_, walk cdv A outer s H E hr, pure_ vs H Q E h⟩, F.bindsN hb⟩, F.kp⟩

/-! ### the head's facts -/
abbrev Frag := PySem.W.Frag
def obsP (fa : Frag → Bool) (fn : List He.DefD) (K : Frag) : He.AlD := (fa K && fn.all fun d => d.ok K, fn.map fun d => He.fnW K d.at_)
def SaysP (fa : Frag → Bool) (fn : List He.DefD) (K : Frag) : Prop := obsP fa fn K = He.valD fn
def obsPG (n : Nat) (fa : Frag → Bool) (fn : List He.DefD) (g : Addr → Option Obj) : He.AlD := obsP fa fn (He.frG g (He.asD g n))
def hookP (n : Nat) (fa : Frag → Bool) (fn : List He.DefD) : PySem.W.Hook where
  α := He.AlD
  obs := fun s => obsPG n fa fn s.heap.get?
  val := fun _ => He.valD fn
  says := fun _ h => ∃ K : Frag, K.In h ∧ SaysP fa fn K
  of := fun _ _ e => ⟨_, He.frG_in, e⟩
  keeps := fun _ _ _ ⟨K, hK, c⟩ k => ⟨K, PySem.W.Frag.In.keeps hK k, c⟩
theorem obsPG_eq {n : Nat} {fa : Frag → Bool} {fn : List He.DefD} {g : Addr → Option Obj} {s : Shared} (h : ∀ a, g a = s.heap.get? a) : obsPG n fa fn g = (hookP n fa fn).obs s := by
  have e : g = s.heap.get? := funext h
  rw [e] <;> rfl
section
variable {fa : Frag → Bool} {fn : List He.DefD} {K : Frag}
theorem SaysP.facts (c : SaysP fa fn K) : fa K = true := (He.ba (congrArg (fun z : He.AlD => z.1) c)).1
theorem SaysP.def_ (c : SaysP fa fn K) (i : Nat) {d : He.DefD} (h : fn[i]? = some d := by rfl) : ∃ fd, FunD K d.name d.qual d.params d.body d.scope (d.dvs K) (d.kws K) (He.fAd K d.at_) fd := by
  have c2 := (He.ba (congrArg (fun z : He.AlD => z.1) c)).2
  have e2 : (fn.map fun d => He.fnW K d.at_)[i]? = (fn.map He.DefD.val)[i]? := by rw [show fn.map (fun d => He.fnW K d.at_) = fn.map He.DefD.val from congrArg (fun z : He.AlD => z.2) c]
  rw [List.getElem?_map, List.getElem?_map, h] at e2
  exact He.DefD.funD (Option.some.inj e2) (List.all_eq_true.mp c2 d (List.mem_of_getElem? h))
end

/-! ### exceptions -/
abbrev veB : List Value := He.veBase
def oexB (K : Frag) (C : Addr) : Bool := (match K.lookup C with
  | some ⟨.type t, _, .cls cd, sl⟩ => decide (t = "type") && (match cd.mro, sl.toList with
    | .ref C' :: bm, [_, _, _, _, some (.builtin n), _] => decide (C' = C) && (decide (n = "ValueError.__new__") && (!cd.hasDel && (cd.hasDict && PySem.HandSPX.refsVE bm)))
    | _, _ => false)
  | _ => false) && (He.eqO (PySem.W.findIn K (.ref C) "__setattr__") (some (some (.builtin "object.__setattr__"))) && (decide (PySem.W.subIn K (.ref C) (.type "BaseException") = some true) && (decide (PySem.W.typeIn K (.ref C) = some (.type "type")) && PySem.W.keepIn K (.ref C))))
theorem oexB_ok {K : Frag} {C : Addr} (h : oexB K C = true) : OexC K C := by
  obtain ⟨h1, h⟩ := He.ba h
  obtain ⟨h2, h⟩ := He.ba h
  obtain ⟨h3, h⟩ := He.ba h
  obtain ⟨h4, h5⟩ := He.ba h
  refine ⟨?_, He.eqO_ok h2, of_decide_eq_true h3, of_decide_eq_true h4, h5⟩
  cases q : K.lookup C with
  | none => rw [q] at h1; cases h1
  | some o =>
    obtain ⟨oc, od, dt, sl⟩ := o
    rw [q] at h1
    cases oc with
    | type t =>
      cases dt with
      | cls cd =>
        obtain ⟨e1, h1⟩ := He.ba h1
        obtain ⟨nm, bs, mro, ns, qn, hd, sn, sb, ab, col, del⟩ := cd
        split at h1
        · rename_i C' bm k0 k1 k2 k3 n k5 hm hs
          obtain ⟨e2, h1⟩ := He.ba h1
          obtain ⟨e3, h1⟩ := He.ba h1
          obtain ⟨e4, h1⟩ := He.ba h1
          obtain ⟨e5, e6⟩ := He.ba h1
          have e4' : del = false := by cases del <;> first | rfl | cases e4
          have e1' := of_decide_eq_true e1
          have e2' := of_decide_eq_true e2
          have e3' := of_decide_eq_true e3
          subst e1' e2' e3' e4'
          obtain ⟨sl⟩ := sl
          have hs' : sl = [k0, k1, k2, k3, some (.builtin "ValueError.__new__"), k5] := hs
          subst hs'
          have hm' : mro = .ref C' :: bm := hm
          subst hm'
          have e5' : hd = true := e5
          subst e5'
          exact ⟨nm, qn, ns, bs, bm, sn, sb, ab, col, od, k0, k1, k2, k3, k5, rfl, e6⟩
        · cases h1
      | _ => cases h1
    | _ => cases dt <;> cases h1
structure OexI (K : Frag) (C f : Addr) : Prop where
  i : PySem.W.findIn K (.ref C) "__init__" = some (some (.ref f))
  t : PySem.W.typeIn K (.ref f) = some (.type "function")
def oexI (K : Frag) (C f : Addr) : Bool := He.eqO (PySem.W.findIn K (.ref C) "__init__") (some (some (.ref f))) && decide (PySem.W.typeIn K (.ref f) = some (.type "function"))
theorem oexI_ok {K : Frag} {C f : Addr} (h : oexI K C f = true) : OexI K C f := ⟨He.eqO_ok (He.ba h).1, of_decide_eq_true (He.ba h).2⟩
abbrev ExcF (K : Frag) (C : Addr) : Prop := PySem.W.excIn K C He.veBase "ValueError.__new__" = true ∧ PySem.W.keepIn K (.ref C) = true ∧ PySem.W.subIn K (.ref C) (.type "BaseException") = some true ∧ PySem.W.typeIn K (.ref C) = some (.type "type")
def excCB (K : Frag) (D : Addr) : Bool := He.eqO (PySem.W.findIn K (.ref D) "__getattribute__") (some (some (.builtin "BaseException.__getattribute__"))) && (He.eqO (PySem.W.findIn K (.ref D) "__getattr__") (some none) && (decide (PySem.W.subIn K (.ref D) (.type "BaseException") = some true) && (PySem.W.hasDictIn K D &&
  (He.eqO (PySem.W.findIn K (.ref D) "__class__") (some (some (.builtin "object.__class__"))) && (He.eqO (PySem.W.specialIn K (.builtin "object.__class__") "__get__") (some (some (.builtin "getset_descriptor.__get__"))) && (decide (PySem.W.takesIn K (.builtin "object.__class__") = some true) && decide (PySem.W.mroIn K D (.type "object") = some true)))))))
theorem excCB_ok {K : Frag} {D : Addr} (h : excCB K D = true) : ExcC K D := by
  obtain ⟨h1, h⟩ := He.ba h
  obtain ⟨h2, h⟩ := He.ba h
  obtain ⟨h3, h⟩ := He.ba h
  obtain ⟨h4, h⟩ := He.ba h
  obtain ⟨h5, h⟩ := He.ba h
  obtain ⟨h6, h⟩ := He.ba h
  obtain ⟨h7, h8⟩ := He.ba h
  exact ⟨He.eqO_ok h1, He.eqO_ok h2, of_decide_eq_true h3, h4, He.eqO_ok h5, He.eqO_ok h6, of_decide_eq_true h7, of_decide_eq_true h8⟩
/-- isinstance(e, c), e the exception that a suite holds, with or without a dict of its own -/
def rIsX (K : Frag) (D a : Addr) (cls : Value) (d : Option Addr) : List V → Hp → VK → Prop := fun xs H Q => ∃ (c : V) (cv : Value) (b : Bool), cls = .ref D ∧ xs = [.ref a, c] ∧ (∀ dd, d = some dd → ∃ fs, H dd = some (.xd fs)) ∧ ClsV c cv ∧ PySem.W.kitOne K (.ref D) cv = some b ∧ Q (.bl b) H
theorem call_isX {X : Cx} {a D : Addr} {cls : Value} {d : Option Addr} {oe : Obj} {pn : List (Addr × Obj)} (Z : ExcC X.K D) (hz : Zc cls d oe) (hf : ∃ vs, oe.data = .fields vs) : CallR (X.suite a ((a, oe) :: pn)) (.builtin "isinstance") (rIsX X.K D a cls d) := by
  intro pins s σ H xs us Q I r h
  obtain ⟨c, cv, b, rfl, rfl, hdd, hc, e, q⟩ := h
  match us, r with
  | [u0, u1], .cons rx (.cons rt .nil) =>
    cases rx
    have ec := hc.eq rt
    subst ec
    obtain ⟨hget, _⟩ := I.pin (a, oe) (List.mem_append.mpr (.inl List.mem_cons_self))
    obtain ⟨vs, hv⟩ := hf
    have hcl : (PySem.W.clsIn X.K D).isSome = true := by
      obtain ⟨cd, hcd, _⟩ := PySem.W.any_some Z.hd
      rw [hcd]; rfl
    have done : ∀ od, PySem.W.InstAt s.heap a oe D od → wpAny (model X.prog X.w) (X.suite a ((a, oe) :: pn)).A (call (.builtin "isinstance") [.ref a, u1]) (EP (X.suite a ((a, oe) :: pn)) pins σ Q) (X.suite a ((a, oe) :: pn)).xe s := fun od J =>
      PySem.W.kia_one (PySem.W.kitx_exc hcl Z.hg Z.hk Z.hs Z.ha Z.hn Z.ht Z.hm) I.kIn J e (fun z => nomatch z) fun tk => ⟨.bl b, H, I.kept (t' := tk) fun _ _ z => z, rfl, q⟩
    obtain ⟨oc, od, oda, osl⟩ := oe
    obtain ⟨h1, h2⟩ := hz
    dsimp only at h1 h2 hv
    subst h1 h2 hv
    cases od with
    | none => exact done none ⟨hget, rfl, rfl, trivial⟩
    | some dd =>
      obtain ⟨fs, hfs⟩ := hdd dd rfl
      have hx : ObjOk X.prog X.w H s.heap dd (.xd fs) := I.hok dd _ hfs
      obtain ⟨mA, ⟨o, es, ep, ho, _⟩, _⟩ := hx
      exact done (some o) ⟨hget, rfl, rfl, ho⟩
/-- raise C(e, ..), C with an __init__ of its own -/
def tRaiseO (C : Addr) (sp : Sp) (W : WX) (ta : TA) : TS := fun _ σ H => tMkO C sp [] ta σ H fun cls d H' => W cls d σ H'
/-- raise C('..') -/
def tRaiseP (C : Addr) (W : WX) : TS := fun _ σ H => W (.ref C) none σ H
section
variable {X : Cx} {C f : Addr} {e : Expr} {es : List Expr} {ta : TA} {x m : Str} {p p2 pos pos2 : Pos} {k j : Nat} {ps : List Str} {sp : Sp} {W : WX}
theorem ps_raiseO (hc : X.calm = true) (tk : Takes X W) (T : OexC X.K C) (I : OexI X.K C f) (D : DefOk X.prog X.w X.K X.mg X.base k f ps sp) (hr : Room j X.A) (hk : Nat.ble (k + 1) j = true) (hg : Gl X x) (hm : X.mg x = some (.ref C)) (ha : PA X (e :: es) ta)
    (hdb : (x == ("__debug__" : Str)) = false := by decide) (he : starEach (e :: es) X.env = (false, eval e X.env) :: starEach es X.env := by rfl) (hpl : (backTo pos (starEach es X.env)).any (·.1) = false := by rfl) :
    PS X (.Raise (some (.Call (.Name x p) (e :: es) [] pos)) none pos2) (tRaiseO C sp W ta) := by
  obtain ⟨⟨fd, F, b⟩, _⟩ := D
  exact ps_raise hc tk (pmk_oex (dvs := []) (ds := []) T I.i I.t F (hr.mono (Nat.le_of_ble_eq_true hk)) b .nil passL hg hm ha hdb he hpl)
theorem ps_raiseP {j' : Nat} (hc : X.calm = true) (tk : Takes X W) (Z : ExcF X.K C) (hg : Gl X x) (hm : X.mg x = some (.ref C)) (hdb : (x == ("__debug__" : Str)) = false := by decide) :
    PS X (.Raise (some (.Call (.Name x p) [.Constant (.str m) j' p2] [] pos)) none pos2) (tRaiseP C W) :=
  ps_raise hc tk (pmk_own PySem.F.excBase_ValueError Z.1 hm Z.2.1 (raises_own Z.2.2.1 Z.2.2.2) hg hdb)
end
abbrev CF : WX := fun _ _ _ _ => False
def tTryAs (K : Frag) (C : Addr) (i : Nat) (tb : WX → TS) (ts : Addr → Value → Option Addr → TS) (Wout : WX) : TS := fun D σ H => tb (wAs K (.ref C) i ts Wout D) D σ H
def tTryOnly (K : Frag) (C : Addr) (tb : WX → TS) (ts : Addr → Value → Option Addr → TS) (Wout : WX) : TS := fun D σ H => tb (wOnly K (.ref C) ts Wout D) D σ H
def tTru (K : Frag) (ta : TE) : TT := fun σ H Q => ta σ H fun x H' => ∃ k, TruV K x H' k ∧ Q k H'

/-- an __init__(self, f): self.f = f -/
def spX1 (C : Addr) (f : Str) : Sp := fun vs H Q _ => ∃ (a : Addr) (v : V), vs = [.ref a, v] ∧ H a = some (exo a C none) ∧ ∀ dx, H dx = none → dx ≠ a → Q .non (upd (upd H dx (exd dx [(f, v)])) a (exo a C (some dx)))
theorem del_upd2 {H : Hp} {a d : Addr} {o u z : HO} (ha : H a = none) (hd : d ≠ a) : upd (del (upd (upd (upd H a o) d u) a o) a) d z = upd H d z := by
  funext b
  by_cases h1 : b = d
  · rw [h1, upd_same, upd_same]
  · rw [upd_ne h1, upd_ne h1]
    by_cases h2 : b = a
    · rw [h2, del_same, ha]
    · rw [del_ne h2, upd_ne h2, upd_ne h1, upd_ne h2]
section
variable {σ : L2.St} {H : Hp} {C : Addr} {f : Str} {v : V} {W : WX} {te : TE} {nx bk ct : L2.St → Hp → Prop} {rt : VK}
theorem i_raise1 (h : te σ H fun v H1 => ∀ d, H1 d = none → W (.ref C) (some d) σ (upd H1 d (.xd [(f, v)])))
    (mono : ∀ {Q Q' : VK}, (∀ v H', Q v H' → Q' v H') → te σ H Q → te σ H Q') : tRaiseO C (spX1 C f) W (tCons te tNil) ⟨nx, rt, bk, ct⟩ σ H := by
  refine mono (fun v H1 q => ?_) h
  refine ⟨by simp, fun a ha => ⟨a, v, rfl, upd_same, fun dx hd hne => ⟨rfl, dx, [(f, v)], upd_same, ?_, ?_, ?_⟩⟩⟩
  · rw [upd_ne hne, upd_same]
  · rw [upd_ne hne] at hd; exact hd
  · have hd' : H1 dx = none := by rw [upd_ne hne] at hd; exact hd
    have e : upd (del (upd (upd (upd H1 a (exo a C none)) dx (exd dx [(f, v)])) a (exo a C (some dx))) a) dx (.xd [(f, v)]) = upd H1 dx (.xd [(f, v)]) := by
      funext b
      by_cases h1 : b = dx
      · rw [h1, upd_same, upd_same]
      · rw [upd_ne h1, upd_ne h1]
        by_cases h2 : b = a
        · rw [h2, del_same, ha]
        · rw [del_ne h2, upd_ne h2, upd_ne h1, upd_ne h2]
    rw [e]
    exact q dx hd'
/-- .. of a constant -/
theorem i_raiseC (h : ∀ d, H d = none → W (.ref C) (some d) σ (upd H d (.xd [(f, v)]))) : tRaiseO C (spX1 C f) W (tCons (tC v) tNil) ⟨nx, rt, bk, ct⟩ σ H := i_raise1 (te := tC v) h fun k q => k _ _ q
theorem i_raiseP (h : W (.ref C) none σ H) : tRaiseP C W ⟨nx, rt, bk, ct⟩ σ H := h
end

/-! ### heaps and lists -/
theorem same_at {H H' : Hp} {a : Addr} {o : HO} (s : Same H H') (h : H a = some o) : H' a = some o := s a o h
theorem same_new {H H' : Hp} {p : Addr} {o : HO} (s : Same H H') (h : H' p = none) : Same H (upd H' p o) := fun b u e => by rw [upd_ne (ne_of_none (s b u e) h)]; exact s b u e
theorem same_mut {H H' : Hp} {p : Addr} {o : HO} (s : Same H H') (h : H p = none) : Same H (upd H' p o) := fun b u e => by rw [upd_ne (ne_of_none e h)]; exact s b u e
theorem same_upd {H : Hp} {p : Addr} {o : HO} (h : H p = none) : Same H (upd H p o) := same_new (Same.refl H) h
/-- what is new -/
def dif (H H' : Hp) : Hp := fun a => match H a with | none => H' a | some _ => none
theorem dif_same {H H' : Hp} : Same (dif H H') H' := fun b o e => by
  unfold dif at e
  split at e
  · exact e
  · cases e
theorem dif_none {H H' : Hp} {a : Addr} {o : HO} (h : H a = some o) : dif H H' a = none := by unfold dif; rw [h]
theorem dif_at {H H' : Hp} {a : Addr} (h : H a = none) : dif H H' a = H' a := by unfold dif; rw [h]
theorem dif_new {H H' : Hp} {a : Addr} {o : HO} (h : dif H H' a = some o) : H a = none := by
  unfold dif at h
  split at h
  · assumption
  · cases h
theorem dif_mono {H H1 H2 : Hp} (s : Same H1 H2) : Same (dif H H1) (dif H H2) := fun b o e => by
  rw [dif_at (dif_new e)]
  exact s b o (dif_same b o e)
theorem dif_from {H H1 H2 : Hp} (s : Same H H1) : Same (dif H1 H2) (dif H H2) := fun b o e => by
  have n := dif_new e
  rw [dif_at (s.free n)]
  exact dif_same b o e
theorem ref_non {a : Addr} : ¬ V.ref a = V.non := fun h => by cases h
theorem int_non {a : Int} : ¬ V.int a = V.non := fun h => by cases h
theorem str_non {a : Str} : ¬ V.str a = V.non := fun h => by cases h
theorem bl_non {a : Bool} : ¬ V.bl a = V.non := fun h => by cases h
theorem cmulL {i j : Int} (h : (-18446744073709551616 < i ∧ i < 18446744073709551616)) : CMul i j := .inl (by have := h.1; have := h.2; omega)
theorem cmulR {i j : Int} (h : (-18446744073709551616 < j ∧ j < 18446744073709551616)) : CMul i j := .inr (by have := h.1; have := h.2; omega)
theorem cpow_small {i j : Int} (h : 0 ≤ j) (h1 : j ≤ 1000000) (h2 : i.natAbs < 2 ^ 64) : CPow i j := ⟨h, h1, h2⟩
theorem cpow2 {j : Int} (h : 0 ≤ j) (h1 : j ≤ 1000000) : CPow 1 j := ⟨h, h1, by decide⟩
theorem line_big {n : Nat} (h : n < 16777216) : n < sizeLine := by rw [sizeLine_eq]; exact h
section
variable {σ : L2.St} {H : Hp} {Q : VK} {v x y : V} {i j : Int} {n : Nat} {p : Addr} {xs : List V} {ns : List Int} {K : Frag} {te : TE} {to : TO}
theorem i_append (h : H p = some (.lst xs)) (l : xs.length < sizeLine) (q : Q .non (upd H p (.lst (xs ++ [v])))) : rAppend (.ref p) [v] H Q := ⟨p, xs, v, rfl, rfl, h, l, q⟩
theorem i_pop (h : H p = some (.lst xs)) (l : xs[xs.length - 1]? = some y) (q : Q y (upd H p (.lst xs.dropLast))) : rPop (.ref p) [] H Q := ⟨p, xs, y, rfl, rfl, h, l, q⟩
theorem i_bm {T : String} {r : V → List V → Hp → VK → Prop} {to : TE} {t : TA} (h : to σ H fun x H1 => tyV K T x H1 ∧ t σ H1 fun xs H2 => r x xs H2 Q) : tBM K T r to t σ H Q := h
theorem i_bm0 {T : String} {r : V → List V → Hp → VK → Prop} {to : TE} (h : to σ H fun x H1 => tyV K T x H1 ∧ r x [] H1 Q) : tBM0 K T r to σ H Q := h
theorem i_tyL {q : Prop} (h : H p = some (.lst xs)) (z : q) : tyV K "list" (.ref p) H ∧ q := ⟨.inl ⟨rfl, _, SqL.of h⟩, z⟩
theorem i_tyS {q : Prop} {x : Str} (z : q) : tyV K "str" (.str x) H ∧ q := ⟨rfl, z⟩
theorem i_tyI {q : Prop} (z : q) : tyV K "int" (.int i) H ∧ q := ⟨rfl, z⟩
theorem i_ixL (h : H p = some (.lst xs)) (a : atI xs i = some v) (q : Q v H) : rIxL K (.ref p) (.int i) H Q := ⟨p, xs, i, v, rfl, rfl, SqL.of h, a, q⟩
theorem i_ixLq (h : SqL K H p xs) (a : atI xs i = some v) (q : Q v H) : rIxL K (.ref p) (.int i) H Q := ⟨p, xs, i, v, rfl, rfl, h, a, q⟩
theorem i_ixT (h : H p = some (.tup xs)) (a : atI xs i = some v) (q : Q v H) : rIxT K (.ref p) (.int i) H Q := ⟨p, xs, i, v, rfl, rfl, SqT.of h, a, q⟩
theorem atI_in {α : Type} {xs : List α} {i : Int} (h0 : 0 ≤ i) (h1 : i < xs.length) (d : α) : atI xs i = some (xs.getD i.toNat d) := by
  obtain ⟨n, rfl⟩ : ∃ n : Nat, i = n := ⟨i.toNat, by omega⟩
  refine atI_nat ?_
  have hn : n < xs.length := by omega
  rw [show ((n : Int)).toNat = n from rfl, List.getD_eq_getElem?_getD, List.getElem?_eq_getElem hn]
  rfl
theorem i_ixN (h : H p = some (.lst (ns.map V.int))) (h0 : 0 ≤ i) (h1 : i < ns.length) (q : Q (.int (ns.getD i.toNat 0)) H) : rIxL K (.ref p) (.int i) H Q := by
  refine i_ixL h ?_ q
  rw [atI_in h0 (by rw [List.length_map]; exact h1) (V.int 0), List.getD_eq_getElem?_getD, List.getD_eq_getElem?_getD, List.getElem?_map]
  have hn : i.toNat < ns.length := by omega
  rw [List.getElem?_eq_getElem hn]
  rfl
theorem i_ixIn (ns : List Int) (h : H p = some (.lst xs)) (e : xs = ns.map V.int) (h0 : 0 ≤ i) (h1 : i < ns.length) (q : ∀ z ∈ ns, Q (.int z) H) : rIxL K (.ref p) (.int i) H Q := by
  subst e
  refine i_ixN h h0 h1 (q _ ?_)
  rw [List.getD_eq_getElem?_getD, List.getElem?_eq_getElem (by omega)]
  exact List.getElem_mem _
theorem i_len (h : H p = some (.lst xs)) (q : Q (.int xs.length) H) : rLen K [.ref p] H Q := ⟨_, _, rfl, .inl ⟨_, SqL.of h, rfl⟩, q⟩
theorem i_lenN (h : H p = some (.lst (ns.map V.int))) (q : Q (.int ns.length) H) : rLen K [.ref p] H Q := ⟨_, _, rfl, .inl ⟨_, SqL.of h, rfl⟩, by rw [List.length_map]; exact q⟩
theorem i_lenT (h : H p = some (.tup xs)) (q : Q (.int xs.length) H) : rLen K [.ref p] H Q := ⟨_, _, rfl, .inr ⟨_, SqT.of h, rfl⟩, q⟩
theorem i_lenS {z : Str} (h : z.length ≤ sizeLine) (q : Q (.int z.length) H) : rLen K [.str z] H Q := ⟨_, _, rfl, ⟨h, rfl⟩, q⟩
theorem i_lenQ (h : SqL K H p xs) (q : Q (.int xs.length) H) : rLen K [.ref p] H Q := ⟨_, _, rfl, .inl ⟨_, h, rfl⟩, q⟩
theorem i_sl {r : V → Option Int → Option Int → Hp → VK → Prop} {tl th : TO} (h : te σ H fun x H1 => tl σ H1 fun l H2 => th σ H2 fun u H3 => r x l u H3 Q) : tSl r te tl th σ H Q := h
theorem i_part {QO : Option Int → Hp → Prop} (h : te σ H fun x H1 => ∃ i, x = .int i ∧ QO (some i) H1) : tPart te σ H QO := h
theorem i_partI {P : Int → Prop} (h : P i) : ∃ k, V.int i = .int k ∧ P k := ⟨i, rfl, h⟩
theorem i_nopart {QO : Option Int → Hp → Prop} (h : QO none H) : tNoPart σ H QO := h
theorem i_slL {lo hi : Option Int} (h : H p = some (.lst xs)) (q : ∀ l, H l = none → Q (.ref l) (upd H l (.lst (cutV xs lo hi)))) : rSlL K (.ref p) lo hi H Q := ⟨p, xs, rfl, SqL.of h, q⟩
theorem i_kListL (h : H p = some (.lst xs)) (q : ∀ l, H l = none → Q (.ref l) (upd H l (.lst xs))) : kList K [.ref p] H Q := ⟨p, xs, rfl, .inl (SqL.of h), q⟩
theorem i_kListT (h : H p = some (.tup xs)) (q : ∀ l, H l = none → Q (.ref l) (upd H l (.lst xs))) : kList K [.ref p] H Q := ⟨p, xs, rfl, .inr (SqT.of h), q⟩
theorem i_setL {k : Nat} {QH : Hp → Prop} (h : H p = some (.lst xs)) (l : ixN xs.length i = some k) (q : QH (upd H p (.lst (xs.set k v)))) : rSetL (.ref p) (.int i) v H QH := ⟨p, xs, i, k, rfl, rfl, h, l, q⟩
theorem ixN_nat {n : Nat} {i : Int} (h0 : 0 ≤ i) (h1 : i < n) : ixN n i = some i.toNat := by unfold ixN; rw [if_pos h0, if_pos h1]
theorem i_all {bs : List Bool} (h : H p = some (.lst (bs.map V.bl))) (q : Q (.bl (bs.all id)) H) : rAll K [.ref p] H Q := ⟨p, bs, rfl, SqL.of h, q⟩
theorem i_isi {x c : V} {t u : Value} {b : Bool} (hc : ClsV c u) (ht : TyX K H x t) (e : PySem.W.kitOne K t u = some b) (q : Q (.bl b) H) : rIsi K [x, c] H Q := ⟨x, c, t, u, b, rfl, hc, ht, e, q⟩
end

theorem len_put {f : Str} {v : V} {fs : List (Str × V)} {n : Nat} (h : fs.length < n) : (putF f v fs).length < n + 1 := Nat.lt_of_le_of_lt (length_putF f v fs) (Nat.succ_lt_succ h)
/-! ### loops -/
def FB (J : It) (g : TG) (tb : TS) (nx : L2.St → Hp → Prop) (rt : VK) (σ : L2.St) (H : Hp) : Prop := ∃ W : Nat → Nat → L2.St → Hp → Prop, (∃ m, W 0 m σ H) ∧ ∀ i m σ H, W i m σ H →
  (J.stop i H ∧ nx σ H) ∨ (J.go i H ∧ ∃ N : L2.St → Hp → Prop, (∀ σ' H', N σ' H' → ∃ m', m' < m ∧ W (i + 1) m' σ' H') ∧ ∀ x H', J.yld i H x H' → g x σ H' fun σ2 H2 => tb ⟨N, rt, nx, N⟩ σ2 H2)
def LB (J : It) (g : TG) (tt : TT) (te : TE) (vs : List Nat) (σ : L2.St) (D : Addr) (H1 : Hp) (Qd : Hp → Prop) : Prop := ∃ W : Nat → Nat → Hp → Prop, (∃ m, W 0 m (upd H1 D (.lst []))) ∧ ∀ i m H, W i m H →
  (J.stop i H ∧ Qd H) ∨ (J.go i H ∧ ∃ Nx : Hp → Prop, (∀ H', Nx H' → ∃ m', m' < m ∧ W (i + 1) m' H') ∧ ∀ x H', J.yld i H x H' → g x (wipe σ vs) H' fun σ2 H2 => wipe σ2 vs = wipe σ vs ∧ tt σ2 H2 fun b H3 =>
    if b = true then te σ2 H3 fun y H4 => ∃ acc, H4 D = some (.lst acc) ∧ acc.length < sizeLine ∧ Nx (upd H4 D (.lst (acc ++ [y]))) else Nx H3)
section
variable {σ : L2.St} {H : Hp} {Q : VK} {K : Frag} {g : TG} {tb : TS} {tt : TT} {te : TE} {wi : TI} {nx bk ct : L2.St → Hp → Prop} {rt : VK} {vs : List Nat} {D : Addr} {Qd : Hp → Prop} {ta : TA}
theorem i_for (h : wi σ H fun J H1 => FB J g tb nx rt σ H1) : tFor wi g tb ⟨nx, rt, bk, ct⟩ σ H := h
theorem i_lc (h : wi σ H fun J H1 => ∀ D, H1 D = none → LB J g tt te vs σ D H1 fun H => Q (.ref D) H) : tLc wi g tt te vs σ H Q := h
theorem i_iRng1 {R : It → Hp → Prop} (h : ta σ H fun vs H1 => ∃ j : Int, vs = [.int j] ∧ -(2 ^ 62) ≤ j ∧ j < 2 ^ 62 ∧ R (Itr 0 j.toNat) H1) : iRng1 ta σ H R := h
theorem i_iRng2 {R : It → Hp → Prop} (h : ta σ H fun vs H1 => ∃ i j : Int, vs = [.int i, .int j] ∧ (-(2 ^ 62) ≤ i ∧ i < 2 ^ 62 ∧ -(2 ^ 62) ≤ j ∧ j < 2 ^ 62) ∧ R (Itr i (j - i).toNat) H1) : iRng2 ta σ H R := h
theorem i_rng1 {j : Int} {P : Int → Prop} (h1 : -(2 ^ 62) ≤ j) (h2 : j < 2 ^ 62) (q : P j) : ∃ j' : Int, [V.int j] = [.int j'] ∧ -(2 ^ 62) ≤ j' ∧ j' < 2 ^ 62 ∧ P j' := ⟨j, rfl, h1, h2, q⟩
theorem i_rng2 {i j : Int} {P : Int → Int → Prop} (h : -(2 ^ 62) ≤ i ∧ i < 2 ^ 62 ∧ -(2 ^ 62) ≤ j ∧ j < 2 ^ 62) (q : P i j) : ∃ i' j' : Int, [V.int i, V.int j] = [.int i', .int j'] ∧ (-(2 ^ 62) ≤ i' ∧ i' < 2 ^ 62 ∧ -(2 ^ 62) ≤ j' ∧ j' < 2 ^ 62) ∧ P i' j' := ⟨i, j, rfl, h, q⟩
theorem i_iList {R : It → Hp → Prop} (h : te σ H fun x H1 => ∃ a, x = .ref a ∧ (∃ xs, SqL K H1 a xs) ∧ R (Itl K a) H1) : iList K te σ H R := h
theorem i_iTup {R : It → Hp → Prop} (h : te σ H fun x H1 => ∃ a, x = .ref a ∧ (∃ xs, SqT K H1 a xs) ∧ R (Itt K a) H1) : iTup K te σ H R := h
theorem i_itL {P : Addr → Prop} {a : Addr} {xs : List V} (h : H a = some (.lst xs)) (q : P a) : ∃ a', V.ref a = .ref a' ∧ (∃ xs, SqL K H a' xs) ∧ P a' := ⟨a, rfl, ⟨xs, SqL.of h⟩, q⟩
theorem i_itT {P : Addr → Prop} {a : Addr} {xs : List V} (h : H a = some (.tup xs)) (q : P a) : ∃ a', V.ref a = .ref a' ∧ (∃ xs, SqT K H a' xs) ∧ P a' := ⟨a, rfl, ⟨xs, SqT.of h⟩, q⟩
theorem f_range {lo : Int} {n : Nat} (Pv : Nat → L2.St → Hp → Prop) (h0 : Pv 0 σ H) (hs : ∀ i σ H, i < n → Pv i σ H → g (.int (lo + i)) σ H fun σ2 H2 => tb ⟨Pv (i + 1), rt, nx, Pv (i + 1)⟩ σ2 H2) (hd : ∀ σ H, Pv n σ H → nx σ H) : FB (Itr lo n) g tb nx rt σ H :=
  for_range (D := ⟨nx, rt, nx, nx⟩) Pv h0 hs hd
theorem f_list {a : Addr} {xs : List V} (Pv : Nat → L2.St → Hp → Prop) (h0 : Pv 0 σ H) (hl : ∀ i σ H, i ≤ xs.length → Pv i σ H → SqL K H a xs) (hs : ∀ i x σ H, xs[i]? = some x → Pv i σ H → g x σ H fun σ2 H2 => tb ⟨Pv (i + 1), rt, nx, Pv (i + 1)⟩ σ2 H2)
    (hd : ∀ σ H, Pv xs.length σ H → nx σ H) : FB (Itl K a) g tb nx rt σ H := for_list (D := ⟨nx, rt, nx, nx⟩) Pv h0 hl hs hd
theorem f_tup {a : Addr} {xs : List V} (Pv : Nat → L2.St → Hp → Prop) (h0 : Pv 0 σ H) (hl : ∀ i σ H, i ≤ xs.length → Pv i σ H → SqT K H a xs) (hs : ∀ i x σ H, xs[i]? = some x → Pv i σ H → g x σ H fun σ2 H2 => tb ⟨Pv (i + 1), rt, nx, Pv (i + 1)⟩ σ2 H2)
    (hd : ∀ σ H, Pv xs.length σ H → nx σ H) : FB (Itt K a) g tb nx rt σ H := for_tup (D := ⟨nx, rt, nx, nx⟩) Pv h0 hl hs hd
/-- over a list of ints -/
theorem f_ints {a : Addr} {ns : List Int} (Pv : Nat → L2.St → Hp → Prop) (h0 : Pv 0 σ H) (hl : ∀ i σ H, i ≤ ns.length → Pv i σ H → SqL K H a (ns.map V.int)) (hs : ∀ i z σ H, ns[i]? = some z → Pv i σ H → g (.int z) σ H fun σ2 H2 => tb ⟨Pv (i + 1), rt, nx, Pv (i + 1)⟩ σ2 H2)
    (hd : ∀ σ H, Pv ns.length σ H → nx σ H) : FB (Itl K a) g tb nx rt σ H := by
  refine f_list (xs := ns.map V.int) Pv h0 (fun i σ H hi => hl i σ H (by rw [List.length_map] at hi; exact hi)) (fun i x σ H hx p => ?_) (fun σ H p => hd σ H (by rw [List.length_map] at p; exact p))
  rw [List.getElem?_map] at hx
  cases e : ns[i]? with
  | none => rw [e] at hx; cases hx
  | some z =>
    rw [e] at hx
    cases hx
    exact hs i z σ H e p
theorem l_range {lo : Int} {n : Nat} (Pv : Nat → Hp → Prop) (h0 : Pv 0 (upd H D (.lst []))) (hs : ∀ i H, i < n → Pv i H → g (.int (lo + i)) (wipe σ vs) H fun σ2 H2 => wipe σ2 vs = wipe σ vs ∧ tt σ2 H2 fun b H3 =>
      if b = true then te σ2 H3 fun y H4 => ∃ acc, H4 D = some (.lst acc) ∧ acc.length < sizeLine ∧ Pv (i + 1) (upd H4 D (.lst (acc ++ [y]))) else Pv (i + 1) H3) (hd : ∀ H, Pv n H → Qd H) : LB (Itr lo n) g tt te vs σ D H Qd := lc_range Pv h0 hs hd
theorem l_list {a : Addr} {xs : List V} (Pv : Nat → Hp → Prop) (h0 : Pv 0 (upd H D (.lst []))) (hl : ∀ i H, i ≤ xs.length → Pv i H → SqL K H a xs) (hs : ∀ i x H, xs[i]? = some x → Pv i H → g x (wipe σ vs) H fun σ2 H2 => wipe σ2 vs = wipe σ vs ∧ tt σ2 H2 fun b H3 =>
      if b = true then te σ2 H3 fun y H4 => ∃ acc, H4 D = some (.lst acc) ∧ acc.length < sizeLine ∧ Pv (i + 1) (upd H4 D (.lst (acc ++ [y]))) else Pv (i + 1) H3) (hd : ∀ H, Pv xs.length H → Qd H) : LB (Itl K a) g tt te vs σ D H Qd := lc_list Pv h0 hl hs hd
theorem i_wq {a b : L2.St} {q : Prop} (h : a = b) (z : q) : a = b ∧ q := ⟨h, z⟩
theorem i_yes {Q : Bool → Hp → Prop} (q : Q true H) : tYes σ H Q := q
theorem i_acc {acc : List V} {R : Hp → Prop} {y : V} (h : H D = some (.lst acc)) (l : acc.length < sizeLine) (q : R (upd H D (.lst (acc ++ [y])))) : ∃ acc, H D = some (.lst acc) ∧ acc.length < sizeLine ∧ R (upd H D (.lst (acc ++ [y]))) := ⟨acc, h, l, q⟩
end

/-! ### suites -/
section
variable {σ : L2.St} {H : Hp} {Q : VK} {K : Frag} {C a : Addr} {i : Nat} {tb : WX → TS} {ts : Addr → Value → Option Addr → TS} {W : WX} {D : Ends} {cls : Value} {d : Option Addr} {te : TE} {f : Str} {v : V} {fs : List (Str × V)}
theorem i_tryAs (h : tb (wAs K (.ref C) i ts W D) D σ H) : tTryAs K C i tb ts W D σ H := h
theorem i_tryOnly (h : tb (wOnly K (.ref C) ts W D) D σ H) : tTryOnly K C tb ts W D σ H := h
theorem w_as {nx bk ct : L2.St → Hp → Prop} {rt : VK} (e : PySem.W.exmOne K cls (.ref C) = some true) (h : ∀ a, H a = none → ts a cls d ⟨fun σ' H' => nx (σ'.set i none) H', rt, fun σ' H' => bk (σ'.set i none) H', fun σ' H' => ct (σ'.set i none) H'⟩ (σ.set i (some (.ref a))) H) : wAs K (.ref C) i ts W ⟨nx, rt, bk, ct⟩ cls d σ H :=
  ⟨true, e, fun _ a ha => h a ha, (fun z => Bool.noConfusion z)⟩
theorem w_asNo (e : PySem.W.exmOne K cls (.ref C) = some false) (h : W cls d σ H) : wAs K (.ref C) i ts W D cls d σ H := ⟨false, e, (fun z => Bool.noConfusion z), fun _ => h⟩
theorem w_only (e : PySem.W.exmOne K cls (.ref C) = some true) (h : ∀ a, H a = none → ts a cls d D σ H) : wOnly K (.ref C) ts W D cls d σ H := ⟨true, e, fun _ a ha => h a ha, (fun z => Bool.noConfusion z)⟩
theorem w_onlyNo (e : PySem.W.exmOne K cls (.ref C) = some false) (h : W cls d σ H) : wOnly K (.ref C) ts W D cls d σ H := ⟨false, e, (fun z => Bool.noConfusion z), fun _ => h⟩
def rXf (a : Addr) (cls : Value) (d : Option Addr) (C : Addr) (f : Str) : V → Hp → VK → Prop := fun x H1 Q => x = .ref a ∧ cls = .ref C ∧ ∃ (dd : Addr) (fs : List (Str × V)) (v : V), d = some dd ∧ H1 dd = some (.xd fs) ∧ fs.lookup f = some v ∧ Q v H1
theorem i_xf (h : te σ H fun x H1 => rXf a cls d C f x H1 Q) : tXf a cls d C f te σ H Q := h
theorem r_xf {dd : Addr} (h : H dd = some (.xd fs)) (l : fs.lookup f = some v) (q : Q v H) : rXf a (.ref C) (some dd) C f (.ref a) H Q := ⟨rfl, rfl, dd, fs, v, rfl, h, l, q⟩
theorem i_isX {c : V} {cv : Value} {b : Bool} {dd : Addr} (h : H dd = some (.xd fs)) (hc : ClsV c cv) (e : PySem.W.kitOne K (.ref C) cv = some b) (q : Q (.bl b) H) : rIsX K C a (.ref C) (some dd) [.ref a, c] H Q :=
  ⟨c, cv, b, rfl, rfl, fun _ e => by cases e; exact ⟨fs, h⟩, hc, e, q⟩
end

/-! ### the law's own def: nothing leaves it -/
def FnLaw (P : Program) (w : World) (K : Frag) (mg : Str → Option Value) (k : Nat) (f : Addr) (x : Str) (sp : Sp) : Prop :=
  ∃ fd : FuncData, (∀ (s : Shared) (v : Value), BindsTo s fd ⟨[v], []⟩ [(x, v)]) ∧ ∀ base : Heap, FnOk P w K mg base CX0 k f fd [x] sp
theorem law_ok {P : Program} {w : World} {K : Frag} {mg : Str → Option Value} {d : He.DefD} {N : List Str} {x : Str} {k : Nat} {sp : Sp} {tt : XK → TS} (F : ∃ fd, FunD K d.name d.qual d.params d.body d.scope (d.dvs K) (d.kws K) (He.fAd K d.at_) fd)
    (hd : d.dfl = [] := by rfl) (S : FnScope N [x] d.scope) (ar : Ar 1 sp)
    (hb : ∀ (kV doc pm : Value) (an : Option Addr) (cdv ct : Value) (us : List Value), us.length = ([x] : List Str).length → bindArgs (PySem.W.fnOf d.name d.qual d.params d.body d.scope .none kV doc pm an cdv ct) ⟨us, []⟩ = pure (([x] : List Str).zip us))
    (pure_ : ∀ vs H Q E, sp vs H Q E → tt E (ends Q) (start N vs) H)
    (walk : ∀ (base : Heap) (cdv : Value) (A : Around) (outer : List Env) (s : Shared) (H : Hp) (E : XK), Room k (A.deeper (envOfC d.qual d.scope s.heap.objs.size (He.fAd K d.at_) cdv)) →
      PSs (cxOf CX0 P w K mg base N d.qual d.scope (He.fAd K d.at_) cdv A outer s H E).nox d.body (tt E)) : FnLaw P w K mg (k + 1) (He.fAd K d.at_) x sp := by
  obtain ⟨fd, F⟩ := F
  have e0 : d.dvs K = [] := by unfold He.DefD.dvs; rw [hd]; rfl
  rw [e0] at F
  exact ⟨fd, fun s v => F.bindsA hb s [v] rfl, fun base => F.ok S (fun vs H Q E h => ar vs H Q E h) fun cdv A outer s H vs Q E hr h => ⟨_, (walk base cdv A outer s H E hr).nox, pure_ vs H Q E h⟩⟩

/-- a def that is never reached: its promise is false -/
theorem dead_ok {P : Program} {w : World} {K : Frag} {mg : Str → Option Value} {base : Heap} {d : He.DefD} {ps : List Str} (F : ∃ fd, FunD K d.name d.qual d.params d.body d.scope (d.dvs K) (d.kws K) (He.fAd K d.at_) fd)
    (hd : d.dfl = [] := by rfl) (hb : ∀ (kV doc pm : Value) (an : Option Addr) (cdv ct : Value) (us : List Value), us.length = ps.length → bindArgs (PySem.W.fnOf d.name d.qual d.params d.body d.scope .none kV doc pm an cdv ct) ⟨us, []⟩ = pure (ps.zip us)) :
    DefOk P w K mg base 1 (He.fAd K d.at_) ps (fun _ _ _ _ => False) := by
  obtain ⟨fd, F⟩ := F
  have e0 : d.dvs K = [] := by unfold He.DefD.dvs; rw [hd]; rfl
  rw [e0] at F
  exact ⟨⟨fd, ⟨fun _ _ _ _ h => h.elim, fun _ _ _ _ _ _ _ _ _ _ _ _ _ h => h.elim⟩, F.bindsN hb⟩, F.kp⟩
def kDivmod : List V → Hp → VK → Prop := fun xs H Q => ∃ i j, xs = [.int i, .int j] ∧ CDiv i j ∧ ∀ p, H p = none → Q (.ref p) (upd H p (.tup [.int (i / j), .int (i % j)]))
theorem i_divmod {H : Hp} {Q : VK} {i j : Int} (c : CDiv i j) (q : ∀ p, H p = none → Q (.ref p) (upd H p (.tup [.int (i / j), .int (i % j)]))) : kDivmod [.int i, .int j] H Q := ⟨i, j, rfl, c, q⟩
section
variable {σ : L2.St} {H : Hp} {Q : VK} {K : Frag} {l b p : Addr} {k n : Int} {xs zs : List V} {v : V}
theorem i_cat (h1 : H l = some (.lst xs)) (h2 : H b = some (.lst zs)) (hl : xs.length + zs.length ≤ sizeLine) (q : ∀ p, H p = none → Q (.ref p) (upd H p (.lst (xs ++ zs)))) : rCat (.ref l) (.ref b) H Q := ⟨l, b, xs, zs, rfl, rfl, h1, h2, hl, q⟩
theorem rep_one {α : Type} (m : Nat) (x : α) : (List.replicate m [x]).flatten = List.replicate m x := by
  induction m with
  | zero => rfl
  | succ m ih => rw [List.replicate_succ, List.flatten_cons, ih, List.replicate_succ]; rfl
theorem i_repN (h : H l = some (.lst [.int n])) (k0 : 0 ≤ k) (k1 : k ≤ 1000000) (q : ∀ p, H p = none → Q (.ref p) (upd H p (.lst ((List.replicate k.toNat n).map V.int)))) : rRep (.ref l) (.int k) H Q := by
  refine ⟨l, k, [.int n], rfl, rfl, h, by omega, by omega, ?_, fun p hp => ?_⟩
  · rw [sizeLine_eq]; show 1 * k.toNat ≤ _; omega
  · rw [rep_one, show List.replicate k.toNat (V.int n) = (List.replicate k.toNat n).map V.int from by rw [List.map_replicate]]
    exact q p hp
theorem i_gTup {m : Nat} {t : TGs} {R : L2.St → Hp → Prop} (h : H p = some (.tup xs)) (e : xs.length = m) (q : t xs σ H R) : gTup K m t (.ref p) σ H R := ⟨p, xs, rfl, SqT.of h, e, q⟩
theorem i_gCons {t : TG} {u : TGs} {R : L2.St → Hp → Prop} (q : t v σ H fun σ' H' => u xs σ' H' R) : gCons t u (v :: xs) σ H R := ⟨v, xs, rfl, q⟩
theorem i_gNil {R : L2.St → Hp → Prop} (q : R σ H) : gNil [] σ H R := ⟨rfl, q⟩
theorem i_dnewT (q : ∀ p, H p = none → Q (.ref p) (upd H p (.dT []))) : tDNewT σ H Q := q
theorem i_dnewK (q : ∀ p, H p = none → Q (.ref p) (upd H p (.dK []))) : tDNewK σ H Q := q
end
structure InsC (K : Frag) (C : Addr) : Prop where
  ha : PySem.W.findIn K (.ref C) "__class__" = some (some (.builtin "object.__class__"))
  hn : PySem.W.specialIn K (.builtin "object.__class__") "__get__" = some (some (.builtin "getset_descriptor.__get__"))
  ht : PySem.W.takesIn K (.builtin "object.__class__") = some true
  hm : PySem.W.mroIn K C (.type "object") = some true
def insB (K : Frag) (C : Addr) : Bool := He.eqO (PySem.W.findIn K (.ref C) "__class__") (some (some (.builtin "object.__class__"))) && (He.eqO (PySem.W.specialIn K (.builtin "object.__class__") "__get__") (some (some (.builtin "getset_descriptor.__get__"))) && (decide (PySem.W.takesIn K (.builtin "object.__class__") = some true) && decide (PySem.W.mroIn K C (.type "object") = some true)))
theorem insB_ok {K : Frag} {C : Addr} (h : insB K C = true) : InsC K C := by
  obtain ⟨h1, h⟩ := He.ba h
  obtain ⟨h2, h⟩ := He.ba h
  obtain ⟨h3, h4⟩ := He.ba h
  exact ⟨He.eqO_ok h1, He.eqO_ok h2, of_decide_eq_true h3, of_decide_eq_true h4⟩
section
variable {σ : L2.St} {H : Hp} {Q : VK} {K : Frag} {p C D dx : Addr} {xs : List V} {fs : List (Str × V)} {b : Bool} {ta : TE} {QB : Bool → Hp → Prop} {ts us : TS} {nx bk ct : L2.St → Hp → Prop} {rt : VK}
theorem isi_ins (h : H p = some (.ins C dx fs)) (c : Cls K C) (I : InsC K C) (e : PySem.W.kitOne K (.ref C) (.ref D) = some b) (q : Q (.bl b) H) : rIsi K [.ref p, .ref D] H Q := i_isi (.own D) (.base (.ins h c I.ha I.hn I.ht I.hm)) e q
theorem isi_tup (h : H p = some (.tup xs)) (q : Q (.bl true) H) : rIsi K [.ref p, .ty "tuple"] H Q := i_isi (.ty "tuple") (.base (.tup h)) (kit_ty (by decide +kernel)) q
theorem i_tru (h : ta σ H fun x H' => ∃ k, TruV K x H' k ∧ QB k H') : tTru K ta σ H QB := h
theorem tru_bl {P : Bool → Prop} {k : Bool} (q : P k) : ∃ k', TruV K (.bl k) H k' ∧ P k' := ⟨k, rfl, q⟩
theorem i_joinN {N : L2.St → Hp → Prop} (P : L2.St → Hp → Prop) (h1 : ∀ R : L2.St → Hp → Prop, (∀ σ H, P σ H → R σ H) → ts ⟨R, rt, bk, ct⟩ σ H) (h2 : ∀ σ H, P σ H → N σ H) : ts ⟨N, rt, bk, ct⟩ σ H := h1 _ h2
theorem i_ifJ {σ' : L2.St} {H' : Hp} {N : L2.St → Hp → Prop} {c : Bool} (P : L2.St → Hp → Prop) (h1 : c = true → ∀ R : L2.St → Hp → Prop, (∀ σ H, P σ H → R σ H) → ts ⟨R, rt, bk, ct⟩ σ H) (h2 : c = false → ∀ R : L2.St → Hp → Prop, (∀ σ H, P σ H → R σ H) → us ⟨R, rt, bk, ct⟩ σ' H')
    (h3 : ∀ σ H, P σ H → N σ H) : if c = true then ts ⟨N, rt, bk, ct⟩ σ H else us ⟨N, rt, bk, ct⟩ σ' H' := by
  cases c with
  | true => rw [if_pos rfl]; exact h1 rfl _ h3
  | false => rw [if_neg Bool.false_ne_true]; exact h2 rfl _ h3
/-- two ways meet again -/
theorem i_join (P : L2.St → Hp → Prop) (h1 : ∀ R : L2.St → Hp → Prop, (∀ σ H, P σ H → R σ H) → ts ⟨R, rt, bk, ct⟩ σ H) (h2 : ∀ σ H, P σ H → us ⟨nx, rt, bk, ct⟩ σ H) : tSeq ts us ⟨nx, rt, bk, ct⟩ σ H := h1 _ h2
end
end PB

set_option maxHeartbeats 8000000
set_option autoImplicit false
local macro_rules | `(tactic| walk_at "ne") => `(tactic| first
  | assumption
  | (refine Ne.symm ?_; assumption)
  | (refine L2.ne_of_none ?_ (by assumption); walk_at "look")
  | (refine Ne.symm (L2.ne_of_none ?_ (by assumption)); walk_at "look"))
local macro_rules | `(tactic| walk_at "look") => `(tactic| first
  | assumption
  | exact L2.upd_same
  | (refine Eq.trans (L2.upd_ne ?_) ?_; (walk_at "ne"); (walk_at "look"))
  | (refine PB.same_at (by assumption) ?_; walk_at "look"))
local macro_rules | `(tactic| walk_at "s") => `(tactic| first
  | ((with_reducible refine' PB.i_var ?h1 ?_); (case h1 => exact rfl))
  | with_reducible refine PB.i_c ?_
  | with_reducible refine PB.i_op ?_
  | with_reducible refine PB.i_rI0 ?_
  | with_reducible refine PB.i_cons ?_
  | with_reducible refine PB.i_nil ?_
  | with_reducible refine PB.i_seq ?_
  | with_reducible refine PB.i_asg ?_
  | with_reducible refine PB.i_name ?_
  | with_reducible refine PB.i_ifS ?_
  | with_reducible refine PB.i_test ?_
  | with_reducible refine PB.i_bl ?_
  | with_reducible refine PB.i_next ?_
  | with_reducible refine PB.i_ret ?_
  | with_reducible refine PB.i_retN ?_
  | with_reducible refine PB.i_cb ?_
  | with_reducible refine PB.i_callS ?_
  | with_reducible refine PB.i_eqI ?_
  | with_reducible refine PB.i_neI ?_
  | with_reducible refine PB.i_eqS ?_
  | with_reducible refine PB.i_neS ?_
  | with_reducible refine PB.i_isN ?_
  | with_reducible refine PB.i_isntN ?_
  | with_reducible refine PB.i_tB ?_
  | with_reducible refine PB.i_not ?_
  | with_reducible refine PB.i_and ?_
  | with_reducible refine PB.i_or ?_
  | with_reducible refine PB.i_iteT ?_
  | with_reducible refine PB.i_iteF ?_
  | with_reducible refine PB.i_iteNF ?_
  | with_reducible refine PB.i_iteNT ?_
  | ((with_reducible refine' PB.i_iteDt ?h1 ?_); (case h1 => first | decide | assumption | omega))
  | ((with_reducible refine' PB.i_iteDf ?h1 ?_); (case h1 => first | decide | assumption | omega | exact PB.ref_non | exact PB.int_non | exact PB.str_non | exact PB.bl_non))
  | ((with_reducible refine' PB.i_iteNt ?h1 ?_); (case h1 => first | decide | assumption | omega | exact PB.ref_non | exact PB.int_non | exact PB.str_non | exact PB.bl_non))
  | ((with_reducible refine' PB.i_iteNf ?h1 ?_); (case h1 => first | decide | assumption | omega))
  | with_reducible refine PB.i_chain ?_
  | with_reducible refine PB.i_un ?_
  | with_reducible refine PB.i_rU ?_
  | with_reducible refine PB.i_andV ?_
  | with_reducible refine PB.i_orV ?_
  | with_reducible refine PB.i_notV ?_
  | with_reducible refine PB.i_if ?_
  | with_reducible refine PB.i_drop ?_
  | with_reducible refine PB.i_break ?_
  | with_reducible refine PB.i_cont ?_
  | with_reducible refine PB.i_sub ?_
  | with_reducible refine PB.i_F ?_
  | with_reducible refine PB.i_sF ?_
  | with_reducible refine PB.i_me ?_
  | with_reducible refine PB.i_mk ?_
  | with_reducible refine PB.i_lst ?_
  | with_reducible refine PB.i_tup ?_
  | with_reducible refine PB.i_abs ?_
  | with_reducible refine PB.i_max ?_
  | with_reducible refine PB.i_min ?_
  | with_reducible refine PB.i_int ?_
  | with_reducible refine PB.i_intB ?_
  | with_reducible refine PB.i_bm ?_
  | with_reducible refine PB.i_bm0 ?_
  | with_reducible refine PB.i_sl ?_
  | with_reducible refine PB.i_part ?_
  | with_reducible refine PB.i_nopart ?_
  | ((with_reducible refine' PB.i_rI ?h1 ?_); (case h1 => (first | assumption | exact PB.cmulL (by decide) | exact PB.cmulR (by decide) | exact PB.cmulL (by omega) | exact PB.cmulR (by omega) | (show (0 : Int) < _; first | decide | omega) | (exact ⟨by omega, by omega⟩) | (exact PB.cpow_small (by decide) (by decide) (by decide)) | (exact PB.cpow2 (by omega) (by omega)))))
  | ((with_reducible refine' PB.i_new ?h1 ?_); (case h1 => exact rfl))
  | ((with_reducible refine' PB.i_tyL ?h1 ?_); (case h1 => (walk_at "look")))
  | with_reducible refine PB.i_tyS ?_
  | with_reducible refine PB.i_tyI ?_
  | ((with_reducible refine' PB.i_append ?h1 ?h2 ?_); (case h1 => (walk_at "look")); (try (case h2 => (refine PB.line_big ?_; simp only [List.length_map, List.length_append, List.length_cons, List.length_nil]; omega))))
  | ((with_reducible refine' PB.i_lenN ?h1 ?_); (case h1 => (walk_at "look")))
  | with_reducible refine PB.i_partI ?_
  | with_reducible refine PB.i_for ?_
  | with_reducible refine PB.i_tryAs ?_
  | with_reducible refine PB.i_tryOnly ?_
  | with_reducible refine PB.i_xf ?_
  | ((with_reducible refine' PB.i_rng1 ?h1 ?h2 ?_); (case h1 => omega); (case h2 => omega))
  | ((with_reducible refine' PB.i_rng2 ?h1 ?_); (case h1 => omega))
  | ((with_reducible refine' PB.i_wq ?h1 ?_); (case h1 => exact rfl))
  | with_reducible refine PB.i_yes ?_
  | with_reducible refine PB.i_iRng1 ?_
  | with_reducible refine PB.i_iRng2 ?_
  | with_reducible refine PB.i_iList ?_
  | with_reducible refine PB.i_iTup ?_
  | with_reducible refine PB.i_gCons ?_
  | with_reducible refine PB.i_gNil ?_
  | with_reducible refine PB.i_dnewT ?_
  | with_reducible refine PB.i_dnewK ?_
  | ((with_reducible refine' PB.i_gTup ?h1 ?h2 ?_); (case h1 => (walk_at "look")); (case h2 => exact rfl))
  | ((with_reducible refine' PB.i_repN ?h1 ?h2 ?h3 ?_); (case h1 => (walk_at "look")); (case h2 => (first | decide | omega)); (case h3 => (first | decide | omega)))
  | ((with_reducible refine' PB.i_ixT ?h1 ?h2 ?_); (case h1 => (walk_at "look")); (case h2 => exact rfl))
  | ((with_reducible refine' PB.i_itL ?h1 ?_); (case h1 => (walk_at "look")))
  | ((with_reducible refine' PB.i_itT ?h1 ?_); (case h1 => (walk_at "look")))
  | ((with_reducible refine' PB.i_slL ?h1 ?_); (case h1 => (walk_at "look")))
  | ((with_reducible refine' PB.i_kListL ?h1 ?_); (case h1 => (walk_at "look")))
  | ((with_reducible refine' PB.i_kListT ?h1 ?_); (case h1 => (walk_at "look")))
  | ((with_reducible refine' PB.i_ixL ?h1 ?h2 ?_); (case h1 => (walk_at "look")); (case h2 => exact rfl))
  | ((with_reducible refine' PB.i_ixN ?h1 ?h2 ?h3 ?_); (case h1 => (walk_at "look")); (case h2 => (first | decide | omega)); (case h3 => (first | decide | omega)))
  | ((with_reducible refine' PB.i_len ?h1 ?_); (case h1 => (walk_at "look")))
  | ((with_reducible refine' PB.i_lenT ?h1 ?_); (case h1 => (walk_at "look")))
  | ((with_reducible refine' PB.i_fld ?h1 ?h2 ?_); (case h1 => (walk_at "look")); (case h2 => (first | assumption | exact rfl)))
  | ((with_reducible refine' PB.i_put ?h1 ?h2 ?_); (case h1 => (walk_at "look")); (case h2 => ((repeat (refine PB.len_put ?_)); first | assumption | decide)))
  | ((with_reducible refine' PB.i_setL ?h1 ?h2 ?_); (case h1 => (walk_at "look")); (case h2 => exact rfl))
  | ((with_reducible refine' PB.i_meth ?h1 ?h2 ?_); (case h1 => (walk_at "look")); (case h2 => (first | assumption | exact rfl))))
local macro_rules | `(tactic| walk_at "go") => `(tactic| first | ((walk_at "s") <;> (walk_at "go")) | skip)
local macro_rules | `(tactic| walk_at "split") => `(tactic| first | (with_reducible refine PB.i_iteD (fun _ => ?_) fun _ => ?_) | (with_reducible refine PB.i_iteN (fun _ => ?_) fun _ => ?_) | (with_reducible refine PB.i_iteB (fun _ => ?_) fun _ => ?_))
local macro_rules | `(tactic| walk_at "gos") => `(tactic| first | ((walk_at "s") <;> (walk_at "gos")) | ((walk_at "split") <;> (walk_at "gos")) | skip)
local macro_rules | `(tactic| walk_at "ifs") => `(tactic| repeat (first | rw [if_pos (by omega)] | rw [if_neg (by omega)]))
namespace PB
open PySem PySem.Spec PyProof.Rows L2
--FACTS x_OutOfRange n_OutOfRange_name
def sp_OutOfRange_init (K : Frag) : Sp := spX1 (He.ga K "OutOfRange") "name"
abbrev N_OutOfRange_init : List Str := ["self", "name"]
def t_OutOfRange_init (K : Frag) (E : XK) : TS :=
  tOst K "name" (tVar 0) (tVar 1)

theorem ar_OutOfRange_init {K : Frag} : Ar 2 (sp_OutOfRange_init K) := fun _ _ _ _ ⟨_, _, e, _⟩ => by rw [e]; rfl
theorem pure_OutOfRange_init (K : Frag) (x : OexC K (He.ga K "OutOfRange")) (n : PySem.W.findIn K (.ref (He.ga K "OutOfRange")) "name" = some none) (vs : List V) (H : Hp) (Q : VK) (E : XK) (h : sp_OutOfRange_init K vs H Q E) : t_OutOfRange_init K E (ends Q) (start N_OutOfRange_init vs) H := by
  obtain ⟨a, v, rfl, ha, q⟩ := h
  exact ⟨_, rfl, _, rfl, a, _, rfl, x, n, .inl ⟨ha, fun dx h1 h2 => q dx h1 h2⟩⟩

/-! lists of lists of ints -/
structure Rows (H : Hp) (p : Addr) (ads : List Addr) (rows : List (List Int)) : Prop where
  top : H p = some (.lst (ads.map V.ref))
  len : ads.length = rows.length
  nd : (p :: ads).Nodup
  row : ∀ (i : Nat) (a : Addr) (r : List Int), ads[i]? = some a → rows[i]? = some r → H a = some (.lst (r.map V.int))
theorem Rows.same {H H' : Hp} {p : Addr} {ads : List Addr} {rows : List (List Int)} (R : Rows H p ads rows) (s : Same H H') : Rows H' p ads rows :=
  ⟨s _ _ R.top, R.len, R.nd, fun i a r h1 h2 => s _ _ (R.row i a r h1 h2)⟩
theorem Rows.at {H : Hp} {p : Addr} {ads : List Addr} {rows : List (List Int)} (R : Rows H p ads rows) {i : Nat} (h : i < rows.length) : ∃ a, ads[i]? = some a ∧ H a = some (.lst ((rows.getD i []).map V.int)) := by
  have ha : i < ads.length := by rw [R.len]; exact h
  refine ⟨ads[i], List.getElem?_eq_getElem ha, ?_⟩
  refine R.row i _ _ (List.getElem?_eq_getElem ha) ?_
  rw [List.getD_eq_getElem?_getD, List.getElem?_eq_getElem h]; rfl
theorem Rows.has {H : Hp} {p : Addr} {ads : List Addr} {rows : List (List Int)} (R : Rows H p ads rows) {a : Addr} (h : a ∈ ads) : ∃ r : List Int, H a = some (.lst (r.map V.int)) := by
  obtain ⟨i, hi, rfl⟩ := List.mem_iff_getElem.mp h
  have hr : i < rows.length := by rw [← R.len]; exact hi
  exact ⟨rows[i], R.row i _ _ (List.getElem?_eq_getElem hi) (List.getElem?_eq_getElem hr)⟩
theorem Rows.push {G : Hp} {p a : Addr} {ads : List Addr} {rows : List (List Int)} {r : List Int} (R : Rows G p ads rows) (ha : G a = none) :
    Rows (upd (upd G a (.lst (r.map V.int))) p (.lst ((ads ++ [a]).map V.ref))) p (ads ++ [a]) (rows ++ [r]) := by
  have hp : p ≠ a := ne_of_none R.top ha
  have hm : a ∉ ads := fun h => by obtain ⟨r, e⟩ := R.has h; rw [ha] at e; cases e
  obtain ⟨hpn, hnd⟩ := List.nodup_cons.mp R.nd
  refine ⟨upd_same, by simp [R.len], ?_, fun i b q h1 h2 => ?_⟩
  · refine List.nodup_cons.mpr ⟨?_, ?_⟩
    · simp only [List.mem_append, List.mem_singleton, not_or]; exact ⟨hpn, hp⟩
    · rw [List.nodup_append]
      refine ⟨hnd, by simp, ?_⟩
      intro x hx y hy
      rw [List.mem_singleton.mp hy]
      intro e; exact hm (e ▸ hx)
  · by_cases hi : i < ads.length
    · rw [List.getElem?_append_left hi] at h1
      rw [List.getElem?_append_left (by rw [← R.len]; exact hi)] at h2
      have z := R.row i b q h1 h2
      have hb : b ∈ ads := List.mem_of_getElem? h1
      have b1 : b ≠ p := fun e => hpn (e ▸ hb)
      have b2 : b ≠ a := fun e => hm (e ▸ hb)
      rw [upd_ne b1, upd_ne b2]; exact z
    · have hi2 : i = ads.length := by
        have := (List.getElem?_eq_some_iff.mp h1).1
        simp at this; omega
      subst hi2
      rw [List.getElem?_append_right (Nat.le_refl _)] at h1
      rw [R.len, List.getElem?_append_right (Nat.le_refl _)] at h2
      simp at h1 h2
      subst h1 h2
      rw [upd_ne (Ne.symm hp), upd_same]
theorem Rows.nil {G : Hp} {p : Addr} : Rows (upd G p (.lst [])) p [] [] := ⟨upd_same, rfl, by simp, fun i a r h => by simp at h⟩
theorem dif_upd {H0 H : Hp} {a : Addr} {o : HO} (h : H0 a = none) : dif H0 (upd H a o) = upd (dif H0 H) a o := by
  funext b
  by_cases e : b = a
  · rw [e, upd_same, dif_at h, upd_same]
  · unfold dif
    rw [upd_ne e, upd_ne e]
theorem Rows.fresh {H H' : Hp} {p : Addr} {ads : List Addr} {rows : List (List Int)} (R : Rows (dif H H') p ads rows) : H p = none ∧ ∀ a ∈ ads, H a = none :=
  ⟨dif_new R.top, fun a h => by obtain ⟨r, e⟩ := R.has h; exact dif_new e⟩
/-- a new row at the end of a list that is being made: at the turn of a comprehension or by append -/
theorem Rows.more {H0 H : Hp} {p a : Addr} {ads : List Addr} {rows : List (List Int)} {r : List Int} (R : Rows (dif H0 H) p ads rows) (s : Same H0 H) (ha : H a = none) :
    Rows (dif H0 (upd (upd H a (.lst (r.map V.int))) p (.lst (ads.map V.ref ++ [V.ref a])))) p (ads ++ [a]) (rows ++ [r]) := by
  have z := R.push (r := r) (a := a) (by rw [dif_at (s.free ha)]; exact ha)
  rw [List.map_append] at z
  rw [dif_upd (dif_new R.top), dif_upd (s.free ha)]
  exact z
theorem Rows.len_lt {G : Hp} {p : Addr} {ads : List Addr} {rows : List (List Int)} (R : Rows G p ads rows) {n : Nat} (h : rows.length < n) (hn : n ≤ 16777216) : (ads.map V.ref).length < sizeLine := by
  rw [List.length_map, R.len]; exact line_big (by omega)
theorem cutV_nat {xs : List V} {a b : Int} (h0 : 0 ≤ a) (h1 : a ≤ b) (h2 : b ≤ xs.length) : cutV xs (some a) (some b) = (xs.drop a.toNat).take (b - a).toNat := by
  obtain ⟨x, rfl⟩ : ∃ n : Nat, a = n := ⟨a.toNat, by omega⟩
  obtain ⟨y, rfl⟩ : ∃ n : Nat, b = n := ⟨b.toNat, by omega⟩
  unfold cutV
  rw [HT.sIx_nat, HT.sIx_nat, Nat.min_eq_left (by omega), Nat.min_eq_left (by omega)]
  congr 1
  omega
/-- [list(row) for row in p] -/
theorem rows_copy {K : Frag} {te : TE} {i : Nat} {σ : L2.St} {H G : Hp} {p : Addr} {ads : List Addr} {rows : List (List Int)} {Q : VK} (R : Rows G p ads rows) (s : Same G H) (hs : rows.length < 1000000) (hte : ∀ {Q : VK}, Q (.ref p) H → te σ H Q) (hi : i < σ.length)
    (hw : ∀ v, wipe ((wipe σ [i]).set i v) [i] = wipe σ [i]) (q : ∀ H' D ds, Same H H' → Rows (dif H H') D ds rows → Q (.ref D) H') : tLc (iList K te) (gName i) tYes (tCB (kList K) (tCons (tVar i) tNil)) [i] σ H Q := by
  refine i_lc (i_iList (hte (i_itL (s _ _ R.top) fun D hD => ?_)))
  refine l_list (xs := ads.map V.ref) (fun k H' => ∃ ds, Same H H' ∧ Rows (dif H H') D ds (rows.take k)) ⟨[], same_upd hD, ?_⟩ (fun k H' _ ⟨ds, s', _⟩ => SqL.of (s' _ _ (s _ _ R.top))) ?_ ?_
  · rw [dif_upd hD]; exact Rows.nil
  · rintro k x H' hx ⟨ds, s', R'⟩
    rw [List.getElem?_map] at hx
    cases e : ads[k]? with
    | none => rw [e] at hx; cases hx
    | some a =>
      rw [e] at hx
      cases hx
      have hk : k < rows.length := by rw [← R.len]; exact (List.getElem?_eq_some_iff.mp e).1
      have hrow := R.row k a rows[k] e (List.getElem?_eq_getElem hk)
      refine i_name ⟨hw _, i_yes (i_iteT (i_cb (i_cons (i_var (v := .ref a) ?_ (i_nil (i_kListL (s' _ _ (s _ _ hrow)) fun l hl => ?_))))))⟩
      · have : i < (wipe σ [i]).length := by rw [wipe_length]; exact hi
        rw [List.getElem?_set_self this]
      · have R2 := R'.more (r := rows[k]) s' hl
        have hne : D ≠ l := ne_of_none (dif_same _ _ R'.top) hl
        refine ⟨ds.map V.ref, by rw [upd_ne hne]; exact dif_same _ _ R'.top, R'.len_lt (n := 1000001) (by rw [List.length_take]; omega) (by omega), ds ++ [l], ?_, ?_⟩
        · exact same_mut (same_new s' hl) (dif_new R'.top)
        · rw [show rows.take (k + 1) = rows.take k ++ [rows[k]] from (List.take_append_getElem hk).symm]
          exact R2
  · rintro H' ⟨ds, s', R'⟩
    rw [List.length_map, R.len, List.take_length] at R'
    exact q H' D ds s' R'
theorem atI_map_ref {ads : List Addr} {b : Addr} {i : Int} (h0 : 0 ≤ i) (h : ads[i.toNat]? = some b) : atI (ads.map V.ref) i = some (.ref b) := by
  obtain ⟨n, rfl⟩ : ∃ n : Nat, i = n := ⟨i.toNat, by omega⟩
  refine atI_nat ?_
  rw [List.getElem?_map, show ads[n]? = some b from h]; rfl
theorem Rows.setRow {G : Hp} {p b : Addr} {ads : List Addr} {rows : List (List Int)} {m : Nat} {r' : List Int} (R : Rows G p ads rows) (hb : ads[m]? = some b) : Rows (upd G b (.lst (r'.map V.int))) p ads (rows.set m r') := by
  obtain ⟨hpn, hnd⟩ := List.nodup_cons.mp R.nd
  have hbm := List.mem_of_getElem? hb
  have hpb : p ≠ b := fun e => hpn (e ▸ hbm)
  refine ⟨by rw [upd_ne hpb]; exact R.top, by rw [List.length_set]; exact R.len, R.nd, fun i a r h1 h2 => ?_⟩
  by_cases hi : i = m
  · subst hi
    have e := Option.some.inj (hb.symm.trans h1)
    subst e
    have hl : i < rows.length := by rw [← R.len]; exact (List.getElem?_eq_some_iff.mp h1).1
    rw [List.getElem?_set_self hl] at h2
    cases h2
    exact upd_same
  · have hab : a ≠ b := fun e => hi (nd_ix hnd (e ▸ h1) hb)
    rw [List.getElem?_set_ne (Ne.symm hi)] at h2
    rw [upd_ne hab]
    exact R.row i a r h1 h2
theorem Rows.popRow {G : Hp} {p : Addr} {ads : List Addr} {rows : List (List Int)} (R : Rows G p ads rows) : Rows (upd G p (.lst (ads.dropLast.map V.ref))) p ads.dropLast rows.dropLast := by
  obtain ⟨hpn, hnd⟩ := List.nodup_cons.mp R.nd
  refine ⟨upd_same, by rw [List.length_dropLast, List.length_dropLast, R.len], List.nodup_cons.mpr ⟨fun h => hpn (List.dropLast_subset _ h), hnd.sublist (List.dropLast_sublist _)⟩, fun i a r h1 h2 => ?_⟩
  rw [List.dropLast_eq_take, List.getElem?_take] at h1 h2
  split at h1
  · rw [if_pos (by rw [← R.len]; assumption)] at h2
    have ha : a ≠ p := fun e => hpn (e ▸ List.mem_of_getElem? h1)
    rw [upd_ne ha]
    exact R.row i a r h1 h2
  · cases h1

/-! G: what is never written from here on; M: what one thing owns and may write -/
structure Fm (G M H : Hp) : Prop where
  gs : Same G H
  ms : Same M H
  dj : ∀ a o, G a = some o → M a = none
structure Step (G M H G' M' H' : Hp) : Prop where
  gg : Same G G'
  keep : ∀ a o, M a = none → H a = some o → H' a = some o
  gf : ∀ a o, G' a = some o → G a = some o ∨ H a = none
  mf : ∀ a o, M' a = some o → (∃ u, M a = some u) ∨ H a = none
  mm : ∀ a u, M a = some u → ∃ u, M' a = some u
def grow (G H H' : Hp) : Hp := fun a => match G a with | some o => some o | none => dif H H' a
theorem grow_l {G H H' : Hp} : Same G (grow G H H') := fun a o e => by unfold grow; rw [e]
theorem grow_r {G M H H' : Hp} (F : Fm G M H) : Same (dif H H') (grow G H H') := fun a o e => by
  unfold grow
  rw [F.gs.free (dif_new e)]; exact e
theorem grow_in {G H H' : Hp} {a : Addr} {o : HO} (h : grow G H H' a = some o) : G a = some o ∨ (H a = none ∧ H' a = some o) := by
  unfold grow at h
  split at h
  · rename_i e; exact .inl (e.trans h)
  · exact .inr ⟨dif_new h, dif_same _ _ h⟩
theorem Fm.grow {G M H H' : Hp} (F : Fm G M H) (s : Same H H') : Fm (grow G H H') M H' := ⟨fun a o e => by
    rcases grow_in e with e | e
    · exact s _ _ (F.gs _ _ e)
    · exact e.2, F.ms.trans s, fun a o e => by
    rcases grow_in e with e | e
    · exact F.dj a o e
    · cases q : M a with
      | none => rfl
      | some u => rw [F.ms _ _ q] at e; cases e.1⟩
theorem Step.grow {G M H H' : Hp} (s : Same H H') : Step G M H (grow G H H') M H' := ⟨grow_l, fun a o _ e => s a o e, fun a o e => (grow_in e).imp id And.left, fun a o e => .inl ⟨o, e⟩, fun a o e => ⟨o, e⟩⟩
theorem Step.refl {G M H : Hp} : Step G M H G M H := ⟨Same.refl _, fun _ _ _ e => e, fun _ _ e => .inl e, fun _ o e => .inl ⟨o, e⟩, fun _ o e => ⟨o, e⟩⟩
theorem Step.trans {G M H G1 M1 H1 G2 M2 H2 : Hp} (F1 : Fm G1 M1 H1) (a : Step G M H G1 M1 H1) (b : Step G1 M1 H1 G2 M2 H2) : Step G M H G2 M2 H2 := by
  have back : ∀ x, H1 x = none → H x = none := fun x e => by
    cases q : H x with
    | none => rfl
    | some o =>
      cases m : M x with
      | none => rw [a.keep x o m q] at e; cases e
      | some u =>
        obtain ⟨u', m1⟩ := a.mm x u m
        rw [F1.ms _ _ m1] at e; cases e
  have m1 : ∀ x o, M x = none → H x = some o → M1 x = none := fun x o m h => by
    cases q : M1 x with
    | none => rfl
    | some u =>
      rcases a.mf x u q with ⟨_, e⟩ | e
      · rw [m] at e; cases e
      · rw [h] at e; cases e
  exact ⟨a.gg.trans b.gg, fun x o m h => b.keep x o (m1 x o m h) (a.keep x o m h), fun x o e => by
    rcases b.gf x o e with e | e
    · exact a.gf x o e
    · exact .inr (back x e), fun x o e => by
    rcases b.mf x o e with ⟨u, e⟩ | e
    · exact a.mf x u e
    · exact .inr (back x e), fun x u e => by
    obtain ⟨u', e⟩ := a.mm x u e
    exact b.mm x u' e⟩
theorem Fm.away {G M H : Hp} (F : Fm G M H) {a b : Addr} {o u : HO} (h : G a = some o) (hb : M b = some u) : a ≠ b := fun e => by
  subst e
  rw [F.dj _ _ h] at hb; cases hb
/-- a write into what is owned -/
theorem Fm.put {G M H : Hp} {a : Addr} {o u : HO} (F : Fm G M H) (h : M a = some u) : Fm G (upd M a o) (upd H a o) := by
  refine ⟨fun b v e => ?_, fun b v e => ?_, fun b v e => ?_⟩
  · rw [upd_ne (F.away e h)]; exact F.gs _ _ e
  · by_cases q : b = a
    · subst q; rw [upd_same] at e ⊢; exact e
    · rw [upd_ne q] at e ⊢; exact F.ms _ _ e
  · rw [upd_ne (F.away e h)]; exact F.dj _ _ e
theorem Step.put {G M H : Hp} {a : Addr} {o u : HO} (h : M a = some u) : Step G M H G (upd M a o) (upd H a o) := by
  refine ⟨Same.refl _, fun b v m e => by rw [upd_ne (fun q => by subst q; rw [m] at h; cases h)]; exact e, fun b v e => .inl e, fun b v e => ?_, fun b v e => ?_⟩
  · by_cases q : b = a
    · subst q; exact .inl ⟨u, h⟩
    · rw [upd_ne q] at e; exact .inl ⟨v, e⟩
  · by_cases q : b = a
    · subst q; exact ⟨o, upd_same⟩
    · exact ⟨v, by rw [upd_ne q]; exact e⟩
/-- a new thing that is never written -/
theorem Fm.newG {G M H : Hp} {a : Addr} {o : HO} (F : Fm G M H) (h : H a = none) : Fm (upd G a o) M (upd H a o) := by
  refine ⟨fun b v e => ?_, same_new F.ms h, fun b v e => ?_⟩
  · by_cases q : b = a
    · subst q; rw [upd_same] at e ⊢; exact e
    · rw [upd_ne q] at e ⊢; exact F.gs _ _ e
  · by_cases q : b = a
    · subst q; exact F.ms.free h
    · rw [upd_ne q] at e; exact F.dj _ _ e
theorem Step.newG {G M H : Hp} {a : Addr} {o : HO} (F : Fm G M H) (h : H a = none) : Step G M H (upd G a o) M (upd H a o) := by
  refine ⟨same_upd (F.gs.free h), fun b v m e => by rw [upd_ne (ne_of_none e h)]; exact e, fun b v e => ?_, fun b v e => .inl ⟨v, e⟩, fun b v e => ⟨v, e⟩⟩
  by_cases q : b = a
  · subst q; exact .inr h
  · rw [upd_ne q] at e; exact .inl e
/-- a new thing that is owned -/
theorem Fm.newM {G M H : Hp} {a : Addr} {o : HO} (F : Fm G M H) (h : H a = none) : Fm G (upd M a o) (upd H a o) := by
  refine ⟨same_new F.gs h, fun b v e => ?_, fun b v e => ?_⟩
  · by_cases q : b = a
    · subst q; rw [upd_same] at e ⊢; exact e
    · rw [upd_ne q] at e ⊢; exact F.ms _ _ e
  · rw [upd_ne (ne_of_none (F.gs _ _ e) h)]; exact F.dj _ _ e
theorem Step.newM {G M H : Hp} {a : Addr} {o : HO} (h : H a = none) : Step G M H G (upd M a o) (upd H a o) := by
  refine ⟨Same.refl _, fun b v m e => by rw [upd_ne (ne_of_none e h)]; exact e, fun b v e => .inl e, fun b v e => ?_, fun b v e => ?_⟩
  · by_cases q : b = a
    · subst q; exact .inr h
    · rw [upd_ne q] at e; exact .inl ⟨v, e⟩
  · by_cases q : b = a
    · subst q; exact ⟨o, upd_same⟩
    · exact ⟨v, by rw [upd_ne q]; exact e⟩
/-- a write elsewhere -/
theorem Fm.else_ {G M H : Hp} {a : Addr} {o : HO} (F : Fm G M H) (g : G a = none) (m : M a = none) : Fm G M (upd H a o) := ⟨same_mut F.gs g, same_mut F.ms m, F.dj⟩
/-- a thing that stands and is never written from here on -/
theorem Fm.add {G M H : Hp} {a : Addr} {o : HO} (F : Fm G M H) (h : H a = some o) (m : M a = none) : Fm (upd G a o) M H := by
  refine ⟨fun b v e => ?_, F.ms, fun b v e => ?_⟩
  · by_cases q : b = a
    · subst q; rw [upd_same] at e; rw [h]; exact e
    · rw [upd_ne q] at e; exact F.gs _ _ e
  · by_cases q : b = a
    · subst q; exact m
    · rw [upd_ne q] at e; exact F.dj _ _ e
theorem Fm.addS {G M H : Hp} {a : Addr} {o : HO} (F : Fm G M H) (h : H a = some o) : Same G (upd G a o) := fun b v e => by
  by_cases q : b = a
  · subst q; rw [upd_same, ← h]; exact F.gs _ _ e
  · rw [upd_ne q]; exact e
/-- lists side by side -/
inductive Lst2 {α β : Type} (R : α → β → Prop) : List α → List β → Prop where
  | nil : Lst2 R [] []
  | cons {a : α} {b : β} {as : List α} {bs : List β} : R a b → Lst2 R as bs → Lst2 R (a :: as) (b :: bs)
section
variable {α β : Type} {R R' : α → β → Prop}
theorem Lst2.len {as : List α} {bs : List β} (h : Lst2 R as bs) : as.length = bs.length := by
  induction h with
  | nil => rfl
  | cons _ _ ih => simp [ih]
theorem Lst2.mono {as : List α} {bs : List β} (h : Lst2 R as bs) (k : ∀ a b, R a b → R' a b) : Lst2 R' as bs := by
  induction h with
  | nil => exact .nil
  | cons r _ ih => exact .cons (k _ _ r) ih
theorem Lst2.get {as : List α} {bs : List β} (h : Lst2 R as bs) : ∀ {i : Nat} {a : α}, as[i]? = some a → ∃ b, bs[i]? = some b ∧ R a b := by
  induction h with
  | nil => intro i a e; simp at e
  | cons r _ ih =>
    intro i a e
    cases i with
    | zero => cases e; exact ⟨_, rfl, r⟩
    | succ i => exact ih (i := i) e
theorem Lst2.at {as : List α} {bs : List β} (h : Lst2 R as bs) {i : Nat} (hi : i < bs.length) (d : β) : ∃ a, as[i]? = some a ∧ R a (bs.getD i d) := by
  have : i < as.length := by rw [h.len]; exact hi
  obtain ⟨b, e, r⟩ := h.get (List.getElem?_eq_getElem this)
  exact ⟨_, List.getElem?_eq_getElem this, by rw [List.getD_eq_getElem?_getD, e]; exact r⟩
theorem Lst2.append {as cs : List α} {bs ds : List β} (h : Lst2 R as bs) (k : Lst2 R cs ds) : Lst2 R (as ++ cs) (bs ++ ds) := by
  induction h with
  | nil => exact k
  | cons r _ ih => exact .cons r ih
theorem Lst2.set {as : List α} {bs : List β} (h : Lst2 R as bs) {a : α} {b : β} (r : R a b) : ∀ i : Nat, Lst2 R (as.set i a) (bs.set i b) := by
  induction h with
  | nil => intro i; exact .nil
  | cons r' h' ih =>
    intro i
    cases i with
    | zero => exact .cons r h'
    | succ i => exact .cons r' (ih i)
end

/-! disks -/
structure Dk where
  bs : List (List Int)
  pd : List (Int × List Int)
  cuts : Int
  left : Option Int
  torn : List Int
def optV : Option Int → V
  | none => .non
  | some i => .int i
def fsDisk (bl pl tn : Addr) (cuts : Int) (left : V) : List (Str × V) := putF "_torn" (.ref tn) (putF "_left" left (putF "_cuts" (.int cuts) (putF "_pending" (.ref pl) (putF "_blocks" (.ref bl) []))))
section
variable {bl pl tn q : Addr} {c : Int} {l v : V}
theorem fsDisk_blocks : (fsDisk bl pl tn c l).lookup ("_blocks" : Str) = some (.ref bl) := by kernel_rfl
theorem fsDisk_pending : (fsDisk bl pl tn c l).lookup ("_pending" : Str) = some (.ref pl) := by kernel_rfl
theorem fsDisk_cuts : (fsDisk bl pl tn c l).lookup ("_cuts" : Str) = some (.int c) := by kernel_rfl
theorem fsDisk_left : (fsDisk bl pl tn c l).lookup ("_left" : Str) = some l := by kernel_rfl
theorem fsDisk_torn : (fsDisk bl pl tn c l).lookup ("_torn" : Str) = some (.ref tn) := by kernel_rfl
theorem fsDisk_m_size : (fsDisk bl pl tn c l).lookup ("size" : Str) = none := by kernel_rfl
theorem fsDisk_m_check : (fsDisk bl pl tn c l).lookup ("_check_at" : Str) = none := by kernel_rfl
theorem fsDisk_m_read : (fsDisk bl pl tn c l).lookup ("read" : Str) = none := by kernel_rfl
theorem fsDisk_m_cut : (fsDisk bl pl tn c l).lookup ("_cut" : Str) = none := by kernel_rfl
theorem fsDisk_m_spend : (fsDisk bl pl tn c l).lookup ("_spend" : Str) = none := by kernel_rfl
theorem fsDisk_m_write : (fsDisk bl pl tn c l).lookup ("write" : Str) = none := by kernel_rfl
theorem fsDisk_m_flush : (fsDisk bl pl tn c l).lookup ("flush" : Str) = none := by kernel_rfl
theorem fsDisk_m_pending_count : (fsDisk bl pl tn c l).lookup ("pending_count" : Str) = none := by kernel_rfl
theorem fsDisk_m_cut_count : (fsDisk bl pl tn c l).lookup ("cut_count" : Str) = none := by kernel_rfl
theorem fsDisk_m_cut_power : (fsDisk bl pl tn c l).lookup ("cut_power" : Str) = none := by kernel_rfl
theorem fsDisk_m_schedule_cut : (fsDisk bl pl tn c l).lookup ("schedule_cut" : Str) = none := by kernel_rfl
theorem fsDisk_putP : putF "_pending" (.ref q) (fsDisk bl pl tn c l) = fsDisk bl q tn c l := by kernel_rfl
theorem fsDisk_len : (fsDisk bl pl tn c l).length < 1000 := by
  have : (fsDisk bl pl tn c l).length = 5 := by kernel_rfl
  omega
end
def BlkAt (G : Hp) (a : Addr) (r : List Int) : Prop := G a = some (.lst (r.map V.int))
def PndAt (G : Hp) (a : Addr) (x : Int × List Int) : Prop := ∃ b, G a = some (.tup [.int x.1, .ref b]) ∧ BlkAt G b x.2
structure DiskM (K : Frag) (G M : Hp) (d : Addr) (x : Dk) (dx bl pl tn : Addr) (bads pads : List Addr) : Prop where
  fd : M d = some (.ins (He.ga K "Disk") dx (fsDisk bl pl tn x.cuts (optV x.left)))
  fb : M bl = some (.lst (bads.map V.ref))
  fp : M pl = some (.lst (pads.map V.ref))
  ft : G tn = some (.lst (x.torn.map V.int))
  db : d ≠ bl
  dp : d ≠ pl
  bp : bl ≠ pl
  bs : Lst2 (BlkAt G) bads x.bs
  ps : Lst2 (PndAt G) pads x.pd
def DiskAt (K : Frag) (G M : Hp) (d : Addr) (x : Dk) : Prop := ∃ dx bl pl tn bads pads, DiskM K G M d x dx bl pl tn bads pads
theorem BlkAt.same {G G' : Hp} (s : Same G G') {a : Addr} {r : List Int} (h : BlkAt G a r) : BlkAt G' a r := s _ _ h
theorem PndAt.same {G G' : Hp} (s : Same G G') {a : Addr} {x : Int × List Int} (h : PndAt G a x) : PndAt G' a x := by
  obtain ⟨b, h1, h2⟩ := h
  exact ⟨b, s _ _ h1, h2.same s⟩
theorem DiskM.more {K : Frag} {G G' M : Hp} {d : Addr} {x : Dk} {dx bl pl tn : Addr} {bads pads : List Addr} (D : DiskM K G M d x dx bl pl tn bads pads) (s : Same G G') : DiskM K G' M d x dx bl pl tn bads pads :=
  ⟨D.fd, D.fb, D.fp, s _ _ D.ft, D.db, D.dp, D.bp, D.bs.mono fun _ _ h => h.same s, D.ps.mono fun _ _ h => h.same s⟩
theorem DiskAt.more {K : Frag} {G G' M : Hp} {d : Addr} {x : Dk} (D : DiskAt K G M d x) (s : Same G G') : DiskAt K G' M d x := by
  obtain ⟨_, _, _, _, _, _, D⟩ := D
  exact ⟨_, _, _, _, _, _, D.more s⟩
def Dk.seen (x : Dk) (at_ : Int) : List Int := x.pd.foldl (fun f p => if p.1 = at_ then p.2 else f) (x.bs.getD at_.toNat [])
def flushBs (bs : List (List Int)) (pd : List (Int × List Int)) : List (List Int) := pd.foldl (fun bs p => bs.set p.1.toNat p.2) bs
def Dk.flushed (x : Dk) : Dk := { x with bs := flushBs x.bs x.pd, pd := [] }
def Dk.wrote (x : Dk) (at_ : Int) (r : List Int) : Dk := { x with pd := x.pd ++ [(at_, r)] }
theorem flushBs_len (bs : List (List Int)) (pd : List (Int × List Int)) : (flushBs bs pd).length = bs.length := by
  unfold flushBs
  induction pd generalizing bs with
  | nil => rfl
  | cons p pd ih => rw [List.foldl_cons, ih, List.length_set]
/-- a disk that is well -/
structure Dk.Ok (x : Dk) : Prop where
  b1 : 4 ≤ x.bs.length
  b2 : x.bs.length ≤ 400
  bl : ∀ r ∈ x.bs, r.length = 32
  pd : ∀ p ∈ x.pd, 0 ≤ p.1 ∧ p.1 < x.bs.length ∧ p.2.length = 32
theorem seen_wrote (x : Dk) (a b : Int) (r : List Int) : (x.wrote a r).seen b = if a = b then r else x.seen b := by
  unfold Dk.wrote Dk.seen
  rw [List.foldl_append]; rfl
theorem seen_flushed (x : Dk) (O : x.Ok) (b : Int) (hb : 0 ≤ b) : x.flushed.seen b = x.seen b := by
  unfold Dk.flushed Dk.seen flushBs
  show (List.foldl (fun bs p => bs.set p.1.toNat p.2) x.bs x.pd).getD b.toNat [] = _
  have h : ∀ (pd : List (Int × List Int)) (bs : List (List Int)), (∀ p ∈ pd, 0 ≤ p.1 ∧ p.1 < bs.length) → (List.foldl (fun bs p => bs.set p.1.toNat p.2) bs pd).getD b.toNat [] = List.foldl (fun f p => if p.1 = b then p.2 else f) (bs.getD b.toNat []) pd := by
    intro pd
    induction pd with
    | nil => intro bs _; rfl
    | cons p pd ih =>
      intro bs h
      obtain ⟨h1, h2⟩ := h p List.mem_cons_self
      rw [List.foldl_cons, List.foldl_cons, ih _ fun q hq => by rw [List.length_set]; exact h q (List.mem_cons_of_mem _ hq)]
      congr 1
      by_cases e : p.1 = b
      · rw [if_pos e, ← e, List.getD_eq_getElem?_getD, List.getElem?_set_self (by omega)]; rfl
      · rw [if_neg e, List.getD_eq_getElem?_getD, List.getD_eq_getElem?_getD, List.getElem?_set_ne (by omega)]
  exact h x.pd x.bs fun p hp => ⟨(O.pd p hp).1, (O.pd p hp).2.1⟩
theorem Dk.Ok.wrote {x : Dk} (O : x.Ok) {a : Int} {r : List Int} (h0 : 0 ≤ a) (h1 : a < x.bs.length) (hr : r.length = 32) : (x.wrote a r).Ok :=
  ⟨O.b1, O.b2, O.bl, fun p hp => by
    rcases List.mem_append.mp hp with h | h
    · exact O.pd p h
    · rw [List.mem_singleton.mp h]; exact ⟨h0, h1, hr⟩⟩
theorem flushBs_mem (bs : List (List Int)) (pd : List (Int × List Int)) (h1 : ∀ r ∈ bs, r.length = 32) (h2 : ∀ p ∈ pd, p.2.length = 32) : ∀ r ∈ flushBs bs pd, r.length = 32 := by
  unfold flushBs
  induction pd generalizing bs with
  | nil => exact h1
  | cons p pd ih =>
    refine ih (bs.set p.1.toNat p.2) (fun r hr => ?_) fun q hq => h2 q (List.mem_cons_of_mem _ hq)
    rcases List.mem_or_eq_of_mem_set hr with h | h
    · exact h1 r h
    · rw [h]; exact h2 p List.mem_cons_self
theorem Dk.Ok.flushed {x : Dk} (O : x.Ok) : x.flushed.Ok :=
  ⟨by show 4 ≤ (flushBs x.bs x.pd).length; rw [flushBs_len]; exact O.b1, by show (flushBs x.bs x.pd).length ≤ 400; rw [flushBs_len]; exact O.b2,
    flushBs_mem _ _ O.bl fun p hp => (O.pd p hp).2.2, fun p hp => nomatch hp⟩
theorem seen_len {x : Dk} (O : x.Ok) {b : Int} (h0 : 0 ≤ b) (h1 : b < x.bs.length) : (x.seen b).length = 32 := by
  unfold Dk.seen
  have h : ∀ (pd : List (Int × List Int)) (r : List Int), (∀ p ∈ pd, p.2.length = 32) → r.length = 32 → (List.foldl (fun f p => if p.1 = b then p.2 else f) r pd).length = 32 := by
    intro pd
    induction pd with
    | nil => intro r _ h; exact h
    | cons p pd ih =>
      intro r h hr
      rw [List.foldl_cons]
      refine ih _ (fun q hq => h q (List.mem_cons_of_mem _ hq)) ?_
      split
      · exact h p List.mem_cons_self
      · exact hr
  refine h _ _ (fun p hp => (O.pd p hp).2.2) (O.bl _ ?_)
  rw [List.getD_eq_getElem?_getD, List.getElem?_eq_getElem (show b.toNat < x.bs.length by omega)]
  exact List.getElem_mem _
section
variable {K : Frag} {G M H : Hp} {d : Addr} {x : Dk} {dx bl pl tn : Addr} {bads pads : List Addr}
theorem DiskM.looks (_ : DiskM K G M d x dx bl pl tn bads pads) : (fsDisk bl pl tn x.cuts (optV x.left)).lookup ("_blocks" : Str) = some (.ref bl) ∧ (fsDisk bl pl tn x.cuts (optV x.left)).lookup ("_pending" : Str) = some (.ref pl) ∧
    (fsDisk bl pl tn x.cuts (optV x.left)).lookup ("_cuts" : Str) = some (.int x.cuts) ∧ (fsDisk bl pl tn x.cuts (optV x.left)).lookup ("_left" : Str) = some (optV x.left) ∧ (fsDisk bl pl tn x.cuts (optV x.left)).lookup ("_torn" : Str) = some (.ref tn) :=
  ⟨fsDisk_blocks, fsDisk_pending, fsDisk_cuts, fsDisk_left, fsDisk_torn⟩
theorem DiskM.meths (_ : DiskM K G M d x dx bl pl tn bads pads) : (fsDisk bl pl tn x.cuts (optV x.left)).lookup ("size" : Str) = none ∧ (fsDisk bl pl tn x.cuts (optV x.left)).lookup ("_check_at" : Str) = none ∧
    (fsDisk bl pl tn x.cuts (optV x.left)).lookup ("read" : Str) = none ∧ (fsDisk bl pl tn x.cuts (optV x.left)).lookup ("_cut" : Str) = none ∧ (fsDisk bl pl tn x.cuts (optV x.left)).lookup ("_spend" : Str) = none ∧
    (fsDisk bl pl tn x.cuts (optV x.left)).lookup ("write" : Str) = none ∧ (fsDisk bl pl tn x.cuts (optV x.left)).lookup ("flush" : Str) = none ∧ (fsDisk bl pl tn x.cuts (optV x.left)).lookup ("cut_count" : Str) = none ∧
    (fsDisk bl pl tn x.cuts (optV x.left)).lookup ("pending_count" : Str) = none ∧ (fsDisk bl pl tn x.cuts (optV x.left)).lookup ("cut_power" : Str) = none ∧ (fsDisk bl pl tn x.cuts (optV x.left)).lookup ("schedule_cut" : Str) = none :=
  ⟨fsDisk_m_size, fsDisk_m_check, fsDisk_m_read, fsDisk_m_cut, fsDisk_m_spend, fsDisk_m_write, fsDisk_m_flush, fsDisk_m_cut_count, fsDisk_m_pending_count, fsDisk_m_cut_power, fsDisk_m_schedule_cut⟩
theorem DiskM.see (D : DiskM K G M d x dx bl pl tn bads pads) (ms : Same M H) : H d = some (.ins (He.ga K "Disk") dx (fsDisk bl pl tn x.cuts (optV x.left))) ∧ H bl = some (.lst (bads.map V.ref)) ∧ H pl = some (.lst (pads.map V.ref)) := ⟨ms _ _ D.fd, ms _ _ D.fb, ms _ _ D.fp⟩
theorem DiskM.blen (D : DiskM K G M d x dx bl pl tn bads pads) : (bads.map V.ref).length = x.bs.length := by rw [List.length_map, D.bs.len]
theorem DiskAt.see (D : DiskAt K G M d x) (ms : Same M H) : ∃ dx bl pl tn, H d = some (.ins (He.ga K "Disk") dx (fsDisk bl pl tn x.cuts (optV x.left))) := by
  obtain ⟨dx, bl, pl, tn, _, _, D⟩ := D
  exact ⟨dx, bl, pl, tn, ms _ _ D.fd⟩
end

--NEED rows fm disk
def sp_Disk_init (K : Frag) : Sp := fun vs H Q _ => ∃ (d dx : Addr) (n : Int), vs = [.ref d, .int n] ∧ H d = some (.ins (He.ga K "Disk") dx []) ∧ 4 ≤ n ∧ n ≤ 400 ∧
  ∀ H' G M, Fm G M H' → DiskAt K G M d ⟨List.replicate n.toNat (List.replicate 32 0), [], 0, none, []⟩ → (∀ a o, a ≠ d → H a = some o → H' a = some o) → (∀ a o, G a = some o → H a = none) → (∀ a o, M a = some o → a = d ∨ H a = none) → Q .non H'
abbrev N_Disk_init : List Str := ["self", "blocks", "_"]
def t_Disk_init (K : Frag) (E : XK) : TS :=
  tSeq (tIfS (tNot (tTest (tChain cLe cLe (tC (.int 4)) (tVar 1) (tC (.int 400))))) (tRaiseO (He.ga K "OutOfRange") (sp_OutOfRange_init K) (wE E) (tCons (tC (.str "blocks")) (tNil))) (tNext)) (tSeq (sF (He.ga K "Disk") "_blocks" (tVar 0) (tLc (iRng1 (tCons (tVar 1) (tNil))) (gName 2) (tYes) (tOp rRep (tLst (tCons (tC (.int 0)) (tNil))) (tC (.int 32))) [2])) (tSeq (sF (He.ga K "Disk") "_pending" (tVar 0) (tLst (tNil))) (tSeq (sF (He.ga K "Disk") "_cuts" (tVar 0) (tC (.int 0))) (tSeq (sF (He.ga K "Disk") "_left" (tVar 0) (tC .non)) (sF (He.ga K "Disk") "_torn" (tVar 0) (tLst (tNil)))))))

theorem ar_Disk_init {K : Frag} : Ar 2 (sp_Disk_init K) := fun _ _ _ _ ⟨_, _, _, e, _⟩ => by rw [e]; rfl
theorem rows_blks {G : Hp} {ads : List Addr} {rows : List (List Int)} (hl : ads.length = rows.length) (h : ∀ (i : Nat) (a : Addr) (r : List Int), ads[i]? = some a → rows[i]? = some r → G a = some (.lst (r.map V.int))) : Lst2 (BlkAt G) ads rows := by
  induction ads generalizing rows with
  | nil => cases rows with
    | nil => exact .nil
    | cons _ _ => cases hl
  | cons a ads ih => cases rows with
    | nil => cases hl
    | cons r rows => exact .cons (h 0 a r rfl rfl) (ih (Nat.succ.inj hl) fun i b s e1 e2 => h (i + 1) b s e1 e2)
theorem pure_Disk_init (K : Frag) (vs : List V) (H : Hp) (Q : VK) (E : XK) (h : sp_Disk_init K vs H Q E) : t_Disk_init K E (ends Q) (start N_Disk_init vs) H := by
  obtain ⟨d, dx, n, rfl, hd, n0, n1, q⟩ := h
  unfold t_Disk_init
  walk_at "go"
  refine i_lc ?_
  walk_at "go"
  intro D hD
  refine l_range (fun k H' => ∃ ds, Same H H' ∧ Rows (dif H H') D ds (List.replicate k (List.replicate 32 0))) ⟨[], same_upd hD, by rw [dif_upd hD]; exact Rows.nil⟩ ?_ ?_
  · rintro k H2 hk ⟨ds, s2, R⟩
    walk_at "go"
    intro l hl
    walk_at "go"
    intro p hp
    have hp' : H2 p = none := by
      by_cases e : p = l
      · rw [e]; exact hl
      · rw [upd_ne e] at hp; exact hp
    have hl2 : (upd H2 l (.lst [.int 0])) l = some (.lst [.int 0]) := upd_same
    have hne : p ≠ l := fun e => by rw [e, upd_same] at hp; cases hp
    have hDl : D ≠ l := ne_of_none (dif_same _ _ R.top) hl
    have hDp : D ≠ p := ne_of_none (dif_same _ _ R.top) hp'
    have s3 : Same H (upd H2 l (.lst [.int 0])) := same_new s2 hl
    have R3 : Rows (dif H (upd H2 l (.lst [.int 0]))) D ds (List.replicate k (List.replicate 32 0)) := by
      refine R.same fun b o e => ?_
      rw [dif_at (dif_new e), upd_ne (ne_of_none (dif_same _ _ e) hl)]
      exact dif_same _ _ e
    refine ⟨ds.map V.ref, by rw [upd_ne hDp, upd_ne hDl]; exact dif_same _ _ R.top, R.len_lt (n := 1000) (by rw [List.length_replicate]; omega) (by omega), ds ++ [p], same_mut (same_new s3 hp) (dif_new R.top), ?_⟩
    have := R3.more (r := List.replicate 32 0) s3 hp
    rw [List.replicate_succ']
    exact this
  · rintro H2 ⟨ds, s2, R⟩
    have hd2 := s2 _ _ hd
    walk_at "go"
    intro p hp
    walk_at "go"
    have hdp : d ≠ p := ne_of_none (H := upd H2 d (.ins (He.ga K "Disk") dx (putF "_blocks" (.ref D) []))) upd_same hp
    walk_at "go"
    intro t ht
    have hdt : d ≠ t := fun e => by
      rw [← e, upd_same] at ht; cases ht
    walk_at "go"
    have hDp : D ≠ p := ne_of_none (H := upd H2 d (.ins (He.ga K "Disk") dx (putF "_blocks" (.ref D) []))) (by
      rw [upd_ne (Ne.symm (ne_of_none hd R.fresh.1))]; exact dif_same _ _ R.top) hp
    have hp2 : H2 p = none := by rw [upd_ne (Ne.symm hdp)] at hp; exact hp
    have htp : t ≠ p := fun e => by
      rw [e, upd_ne (Ne.symm hdp), upd_ne (Ne.symm hdp), upd_ne (Ne.symm hdp), upd_same] at ht; cases ht
    have ht2 : H2 t = none := by rw [upd_ne (Ne.symm hdt), upd_ne (Ne.symm hdt), upd_ne (Ne.symm hdt), upd_ne htp, upd_ne (Ne.symm hdt)] at ht; exact ht
    have hDt : D ≠ t := ne_of_none (dif_same _ _ R.top) ht2
    have hdD : d ≠ D := ne_of_none hd R.fresh.1
    generalize hHf : upd (upd (upd (upd (upd (upd (upd H2 d _) p _) d _) d _) d _) t _) d _ = Hf
    have hfo : ∀ a, a ≠ d → a ≠ p → a ≠ t → Hf a = H2 a := fun a h1 h2 h3 => by
      rw [← hHf]
      rw [upd_ne h1, upd_ne h3, upd_ne h1, upd_ne h1, upd_ne h1, upd_ne h2, upd_ne h1]
    have hft : Hf t = some (.lst []) := by rw [← hHf, upd_ne (Ne.symm hdt), upd_same]
    have hfp : Hf p = some (.lst []) := by
      rw [← hHf, upd_ne (Ne.symm hdp), upd_ne (Ne.symm htp), upd_ne (Ne.symm hdp), upd_ne (Ne.symm hdp), upd_ne (Ne.symm hdp), upd_same]
    have hfd : Hf d = some (.ins (He.ga K "Disk") dx (fsDisk D p t 0 .non)) := by rw [← hHf, upd_same]; rfl
    have hfD : Hf D = some (.lst (ds.map V.ref)) := by rw [hfo D (Ne.symm hdD) hDp hDt]; exact dif_same _ _ R.top
    clear hHf
    have nd := List.nodup_cons.mp R.nd
    have hds : ∀ (i : Nat) (a : Addr) (r : List Int), ds[i]? = some a → (List.replicate n.toNat (List.replicate 32 (0 : Int)))[i]? = some r → upd (del (dif H H2) D) t (.lst []) a = some (.lst (r.map V.int)) := fun i a r e1 e2 => by
      have e3 := R.row i a r e1 e2
      rw [upd_ne (ne_of_none (dif_same _ _ e3) ht2), del_ne (fun (e : a = D) => nd.1 (by rw [← e]; exact List.mem_of_getElem? e1))]
      exact e3
    refine q Hf (upd (del (dif H H2) D) t (.lst [])) (upd (upd (upd (fun _ => none) D (.lst (ds.map V.ref))) p (.lst [])) d (.ins (He.ga K "Disk") dx (fsDisk D p t 0 .non)))
      ⟨fun a o e => ?_, fun a o e => ?_, fun a o e => ?_⟩ ⟨dx, D, p, t, ds, [], upd_same, by rw [upd_ne (Ne.symm hdD), upd_ne hDp, upd_same], by rw [upd_ne (Ne.symm hdp), upd_same]; rfl, upd_same, hdD, hdp, hDp, ?_, .nil⟩ (fun a o h1 h2 => ?_) (fun a o e => ?_) fun a o e => ?_
    · by_cases h : a = t
      · subst h; rw [upd_same] at e; rw [hft]; exact e
      · rw [upd_ne h] at e
        have hD' : a ≠ D := fun z => by rw [z, del_same] at e; cases e
        rw [del_ne hD'] at e
        have e2 := dif_same _ _ e
        rw [hfo a (fun z => by subst z; rw [dif_none hd] at e; cases e) (ne_of_none e2 hp2) h]
        exact e2
    · by_cases h1 : a = d
      · subst h1; rw [upd_same] at e; rw [hfd]; exact e
      · rw [upd_ne h1] at e
        by_cases h2 : a = p
        · subst h2; rw [upd_same] at e; rw [hfp]; exact e
        · rw [upd_ne h2] at e
          by_cases h3 : a = D
          · subst h3; rw [upd_same] at e; rw [hfD]; exact e
          · rw [upd_ne h3] at e; cases e
    · have ad : a ≠ d := fun z => by
        subst z
        rw [upd_ne hdt, del_ne hdD, dif_none hd] at e; cases e
      have ap : a ≠ p := fun z => by
        subst z
        rw [upd_ne (Ne.symm htp), del_ne (Ne.symm hDp)] at e
        rw [dif_same _ _ e] at hp2; cases hp2
      have aD : a ≠ D := fun z => by
        subst z
        rw [upd_ne hDt, del_same] at e; cases e
      rw [upd_ne ad, upd_ne ap, upd_ne aD]
    · refine rows_blks ?_ ?_
      · exact R.len
      · exact hds
    · have e2 := s2 _ _ h2
      rw [hfo a h1 (ne_of_none e2 hp2) (ne_of_none e2 ht2)]; exact e2
    · by_cases h : a = t
      · subst h; exact s2.free ht2
      · rw [upd_ne h] at e
        have hD' : a ≠ D := fun z => by rw [z, del_same] at e; cases e
        rw [del_ne hD'] at e
        exact dif_new e
    · by_cases h1 : a = d
      · exact .inl h1
      · refine .inr ?_
        rw [upd_ne h1] at e
        by_cases h2 : a = p
        · subst h2; exact s2.free hp2
        · rw [upd_ne h2] at e
          by_cases h3 : a = D
          · subst h3; exact R.fresh.1
          · rw [upd_ne h3] at e; cases e

/-! pictures -/
structure Sz (m w h d c t : Int) : Prop where
  w1 : 1 ≤ w
  w2 : w ≤ m
  h1 : 1 ≤ h
  h2 : h ≤ m
  d1 : 1 ≤ d
  d2 : d ≤ 8
  ch : c = 1 ∨ c = 3
  t1 : 1 ≤ t
  t2 : t ≤ 16
  sz : w * h * c ≤ 3072
structure Pic where
  w : Int
  h : Int
  d : Int
  c : Int
  rows : List (List Int)
def fsPic (w h d c : Int) (q : Addr) : List (Str × V) := putF "_rows" (.ref q) (putF "channels" (.int c) (putF "depth" (.int d) (putF "height" (.int h) (putF "width" (.int w) []))))
section
variable {w h d c : Int} {q : Addr}
theorem fsPic_width : (fsPic w h d c q).lookup ("width" : Str) = some (.int w) := by kernel_rfl
theorem fsPic_height : (fsPic w h d c q).lookup ("height" : Str) = some (.int h) := by kernel_rfl
theorem fsPic_depth : (fsPic w h d c q).lookup ("depth" : Str) = some (.int d) := by kernel_rfl
theorem fsPic_channels : (fsPic w h d c q).lookup ("channels" : Str) = some (.int c) := by kernel_rfl
theorem fsPic_rows : (fsPic w h d c q).lookup ("_rows" : Str) = some (.ref q) := by kernel_rfl
theorem fsPic_m_rows : (fsPic w h d c q).lookup ("rows" : Str) = none := by kernel_rfl
theorem fsPic_m_row : (fsPic w h d c q).lookup ("row" : Str) = none := by kernel_rfl
theorem fsPic_m_value : (fsPic w h d c q).lookup ("value" : Str) = none := by kernel_rfl
theorem fsPic_m_same : (fsPic w h d c q).lookup ("same" : Str) = none := by kernel_rfl
theorem fsPic_m_with_value : (fsPic w h d c q).lookup ("with_value" : Str) = none := by kernel_rfl
theorem fsPic_m_framed : (fsPic w h d c q).lookup ("framed" : Str) = none := by kernel_rfl
end
structure PicAt (K : Frag) (H : Hp) (a : Addr) (x : Pic) : Prop where
  ex : ∃ dx q ads, H a = some (.ins (He.ga K "Picture") dx (fsPic x.w x.h x.d x.c q)) ∧ Rows H q ads x.rows
theorem PicAt.same {K : Frag} {H H' : Hp} {a : Addr} {x : Pic} (p : PicAt K H a x) (s : Same H H') : PicAt K H' a x := by
  obtain ⟨dx, q, ads, h, r⟩ := p
  exact ⟨dx, q, ads, s _ _ h, r.same s⟩
/-- an OutOfRange of this name leaves -/
def ErrN (K : Frag) (H : Hp) (E : XK) (s : Str) : Prop := ∀ d, H d = none → E (.ref (He.ga K "OutOfRange")) (some d) (upd H d (.xd [("name", .str s)]))
def shapeErr (w h d c : Int) : Option Str :=
  if ¬ (1 ≤ w ∧ w ≤ 64) then some "width" else if ¬ (1 ≤ h ∧ h ≤ 64) then some "height" else if ¬ (1 ≤ d ∧ d ≤ 8) then some "depth" else if c ≠ 1 ∧ c ≠ 3 then some "channels" else none
def valsOk (n d c : Int) (rows : List (List Int)) : Bool := decide ((rows.length : Int) = c) && rows.all fun r => decide ((r.length : Int) = n) && r.all fun v => decide (0 ≤ v) && decide (v < 2 ^ d.toNat)
def picErr (w h d c : Int) (rows : List (List Int)) : Option Str :=
  match shapeErr w h d c with
  | some s => some s
  | none => if w * h * c > 3072 then some "size" else if valsOk (w * h) d c rows then none else some "values"
/-- raises by name, or goes on -/
def OrErr (K : Frag) (H : Hp) (E : XK) (e : Option Str) (k : Prop) : Prop := (∀ s, e = some s → ErrN K H E s) ∧ (e = none → k)
theorem OrErr.err {K : Frag} {H : Hp} {E : XK} {e : Option Str} {k : Prop} (h : OrErr K H E e k) {s : Str} (q : e = some s) : ErrN K H E s := h.1 s q
theorem OrErr.ok {K : Frag} {H : Hp} {E : XK} {e : Option Str} {k : Prop} (h : OrErr K H E e k) (q : e = none) : k := h.2 q
theorem vals_no {n d c : Int} {rows : List (List Int)} {r : List Int} (hr : r ∈ rows) (h : (r.all fun v => decide (0 ≤ v) && decide (v < 2 ^ d.toNat)) = false ∨ (r.length : Int) ≠ n) : valsOk n d c rows = false := by
  unfold valsOk
  have : (rows.all fun r => decide ((r.length : Int) = n) && r.all fun v => decide (0 ≤ v) && decide (v < 2 ^ d.toNat)) = false := by
    refine List.all_eq_false.mpr ⟨r, hr, ?_⟩
    rcases h with h | h
    · rw [h]; simp
    · simp [h]
  rw [this, Bool.and_false]

/-! frames -/
structure Fr where
  w : Int
  h : Int
  d : Int
  c : Int
  t : Int
def fsFrame (w h d c t : Int) : List (Str × V) := putF "tile" (.int t) (putF "channels" (.int c) (putF "depth" (.int d) (putF "height" (.int h) (putF "width" (.int w) []))))
section
variable {w h d c t : Int}
theorem fsFrame_width : (fsFrame w h d c t).lookup ("width" : Str) = some (.int w) := by kernel_rfl
theorem fsFrame_height : (fsFrame w h d c t).lookup ("height" : Str) = some (.int h) := by kernel_rfl
theorem fsFrame_depth : (fsFrame w h d c t).lookup ("depth" : Str) = some (.int d) := by kernel_rfl
theorem fsFrame_channels : (fsFrame w h d c t).lookup ("channels" : Str) = some (.int c) := by kernel_rfl
theorem fsFrame_tile : (fsFrame w h d c t).lookup ("tile" : Str) = some (.int t) := by kernel_rfl
theorem fsFrame_m_across : (fsFrame w h d c t).lookup ("across" : Str) = none := by kernel_rfl
theorem fsFrame_m_down : (fsFrame w h d c t).lookup ("down" : Str) = none := by kernel_rfl
theorem fsFrame_m_tiles : (fsFrame w h d c t).lookup ("tiles" : Str) = none := by kernel_rfl
theorem fsFrame_m_pixels : (fsFrame w h d c t).lookup ("pixels" : Str) = none := by kernel_rfl
theorem fsFrame_m_packets : (fsFrame w h d c t).lookup ("packets" : Str) = none := by kernel_rfl
theorem fsFrame_m_same : (fsFrame w h d c t).lookup ("same" : Str) = none := by kernel_rfl
end
def FrameAt (K : Frag) (H : Hp) (a : Addr) (x : Fr) : Prop := ∃ dx, H a = some (.ins (He.ga K "Frame") dx (fsFrame x.w x.h x.d x.c x.t))
theorem FrameAt.same {K : Frag} {H H' : Hp} {a : Addr} {x : Fr} (p : FrameAt K H a x) (s : Same H H') : FrameAt K H' a x := by
  obtain ⟨dx, h⟩ := p
  exact ⟨dx, s _ _ h⟩
def frameErr (w h d c t : Int) : Option Str :=
  match shapeErr w h d c with
  | some s => some s
  | none => if ¬ (1 ≤ t ∧ t ≤ 16) then some "tile" else if w * h * c > 3072 then some "size" else none
theorem frame_none {m w h d c t : Int} (Z : Sz m w h d c t) (hm : m ≤ 64) : frameErr w h d c t = none := by
  have := Z.w1
  have := Z.w2
  have := Z.h1
  have := Z.h2
  have := Z.d1
  have := Z.d2
  have := Z.ch
  have := Z.t1
  have := Z.t2
  have := Z.sz
  unfold frameErr shapeErr
  walk_at "ifs"

/-! headers -/
def hdr (g : Int) (x : Fr) : List Int := [72, g, x.w, x.h, x.d, x.c, x.t] ++ List.replicate 24 0 ++ [72]
def decOf (ns : List Int) : Option (Int × Fr) := if ns.getD 0 0 ≠ 72 ∨ ns.getD 31 0 ≠ 72 then none else
  match frameErr (ns.getD 2 0) (ns.getD 3 0) (ns.getD 4 0) (ns.getD 5 0) (ns.getD 6 0) with
  | some _ => none
  | none => some (ns.getD 1 0, ⟨ns.getD 2 0, ns.getD 3 0, ns.getD 4 0, ns.getD 5 0, ns.getD 6 0⟩)
def HdrAt (K : Frag) (H : Hp) (v : V) : Option (Int × Fr) → Prop
  | none => v = .non
  | some (g, x) => ∃ t f, v = .ref t ∧ H t = some (.tup [.int g, .ref f]) ∧ FrameAt K H f x
theorem HdrAt.same {K : Frag} {H H' : Hp} {v : V} {o : Option (Int × Fr)} (h : HdrAt K H v o) (s : Same H H') : HdrAt K H' v o := by
  cases o with
  | none => exact h
  | some p =>
    obtain ⟨t, f, e, h1, h2⟩ := h
    exact ⟨t, f, e, s _ _ h1, h2.same s⟩
def newestOf (a b : Option (Int × Fr)) : Option (Int × Fr) :=
  match a with
  | none => b
  | some p => match b with
    | none => some p
    | some q => if q.1 = (p.1 + 1) % 256 then some q else some p
def Dk.newest (x : Dk) : Option (Int × Fr) := newestOf (decOf (x.seen 0)) (decOf (x.seen 1))
theorem dec_hdr {g m : Int} {x : Fr} (Z : Sz m x.w x.h x.d x.c x.t) (hm : m ≤ 64) : decOf (hdr g x) = some (g, x) := by
  unfold decOf
  rw [if_neg (by show ¬ ((72 : Int) ≠ 72 ∨ (72 : Int) ≠ 72); decide)]
  show (match frameErr x.w x.h x.d x.c x.t with
    | some _ => none
    | none => some (g, (⟨x.w, x.h, x.d, x.c, x.t⟩ : Fr))) = _
  rw [frame_none Z hm]
theorem dec_first {ns : List Int} (h : ns.getD 0 0 ≠ 72) : decOf ns = none := by unfold decOf; rw [if_pos (.inl h)]
theorem dec_last {ns : List Int} (h : ns.getD 31 0 ≠ 72) : decOf ns = none := by unfold decOf; rw [if_pos (.inr h)]
theorem hdr_len {g : Int} {x : Fr} : (hdr g x).length = 32 := rfl
theorem hdr_bytes {g m : Int} {x : Fr} (Z : Sz m x.w x.h x.d x.c x.t) (hm : m ≤ 64) (g0 : 0 ≤ g) (g1 : g ≤ 255) : ∀ y ∈ hdr g x, 0 ≤ y ∧ y ≤ 255 := by
  have := Z.w1
  have := Z.w2
  have := Z.h1
  have := Z.h2
  have := Z.d1
  have := Z.d2
  have := Z.ch
  have := Z.t1
  have := Z.t2
  intro y hy
  unfold hdr at hy
  simp only [List.mem_append, List.mem_cons, List.not_mem_nil, or_false, List.mem_replicate] at hy
  rcases hy with (h | h) | h
  · rcases h with h | h | h | h | h | h | h <;> omega
  · omega
  · omega

--NEED rows pic frame fm disk hdr
def sp_encode_header (K : Frag) : Sp := fun vs H Q _ => ∃ (g : Int) (f : Addr) (x : Fr), vs = [.int g, .ref f] ∧ FrameAt K H f x ∧ ∀ H' p, Same H H' → H p = none → H' p = some (.lst ((hdr g x).map V.int)) → Q (.ref p) H'
abbrev N_encode_header : List Str := ["generation", "frame", "row"]
def t_encode_header (K : Frag) (E : XK) : TS :=
  tSeq (tAsg (tLst (tCons (tC (.int 72)) (tCons (tVar 0) (tCons (tF (He.ga K "Frame") "width" (tVar 1)) (tCons (tF (He.ga K "Frame") "height" (tVar 1)) (tCons (tF (He.ga K "Frame") "depth" (tVar 1)) (tCons (tF (He.ga K "Frame") "channels" (tVar 1)) (tCons (tF (He.ga K "Frame") "tile" (tVar 1)) (tNil))))))))) (gName 2)) (tRet (tOp rCat (tOp rCat (tVar 2) (tOp rRep (tLst (tCons (tC (.int 0)) (tNil))) (tC (.int 24)))) (tLst (tCons (tC (.int 72)) (tNil)))))

theorem ar_encode_header {K : Frag} : Ar 2 (sp_encode_header K) := fun _ _ _ _ ⟨_, _, _, e, _⟩ => by rw [e]; rfl
theorem pure_encode_header (K : Frag) (vs : List V) (H : Hp) (Q : VK) (E : XK) (h : sp_encode_header K vs H Q E) : t_encode_header K E (ends Q) (start N_encode_header vs) H := by
  obtain ⟨g, f, ⟨w, h, d, c, t⟩, rfl, ⟨dx, hf⟩, q⟩ := h
  have l1 : (fsFrame w h d c t).lookup ("width" : Str) = some (.int w) := fsFrame_width
  have l2 : (fsFrame w h d c t).lookup ("height" : Str) = some (.int h) := fsFrame_height
  have l3 : (fsFrame w h d c t).lookup ("depth" : Str) = some (.int d) := fsFrame_depth
  have l4 : (fsFrame w h d c t).lookup ("channels" : Str) = some (.int c) := fsFrame_channels
  have l5 : (fsFrame w h d c t).lookup ("tile" : Str) = some (.int t) := fsFrame_tile
  unfold t_encode_header
  walk_at "go"
  intro r nr
  walk_at "go"
  intro l nl
  have hr1 : upd H r (.lst [.int 72, .int g, .int w, .int h, .int d, .int c, .int t]) r = some (.lst [.int 72, .int g, .int w, .int h, .int d, .int c, .int t]) := upd_same
  have S1 : Same H _ := same_upd (o := .lst [.int 72, .int g, .int w, .int h, .int d, .int c, .int t]) nr
  generalize upd H r (.lst [.int 72, .int g, .int w, .int h, .int d, .int c, .int t]) = H1 at *
  have S2 := same_new (o := .lst [.int 0]) S1 nl
  have hr2 : upd H1 l (.lst [.int 0]) r = _ := (upd_ne (ne_of_none hr1 nl)).trans hr1
  have hl2 : upd H1 l (.lst [.int 0]) l = some (.lst [.int 0]) := upd_same
  generalize upd H1 l (.lst [.int 0]) = H2 at *
  walk_at "go"
  intro p np
  have S3 := same_new (o := .lst ((List.replicate (24 : Int).toNat (0 : Int)).map V.int)) S2 np
  have hr3 : upd H2 p (.lst ((List.replicate (24 : Int).toNat (0 : Int)).map V.int)) r = _ := (upd_ne (ne_of_none hr2 np)).trans hr2
  have hp3 : upd H2 p (.lst ((List.replicate (24 : Int).toNat (0 : Int)).map V.int)) p = _ := upd_same
  generalize upd H2 p (.lst ((List.replicate (24 : Int).toNat (0 : Int)).map V.int)) = H3 at *
  refine i_cat hr3 hp3 (by rw [sizeLine_eq]; exact Nat.le_of_ble_eq_true rfl) fun u nu => ?_
  generalize hx : [V.int 72, .int g, .int w, .int h, .int d, .int c, .int t] ++ (List.replicate (24 : Int).toNat (0 : Int)).map V.int = xs at *
  have S4 := same_new (o := .lst xs) S3 nu
  have hu4 : upd H3 u (.lst xs) u = _ := upd_same
  generalize upd H3 u (.lst xs) = H4 at *
  walk_at "go"
  intro y ny
  have S5 := same_new (o := .lst [.int 72]) S4 ny
  have hu5 : upd H4 y (.lst [.int 72]) u = _ := (upd_ne (ne_of_none hu4 ny)).trans hu4
  have hy5 : upd H4 y (.lst [.int 72]) y = _ := upd_same
  generalize upd H4 y (.lst [.int 72]) = H5 at *
  refine i_cat hu5 hy5 (by rw [sizeLine_eq, ← hx]; exact Nat.le_of_ble_eq_true rfl) fun z nz => ?_
  refine q _ z (same_new S5 nz) (S5.free nz) ?_
  rw [upd_same, ← hx]
  rfl

def sp__law_draw (K : Frag) : Sp := fun vs H Q _ => ∃ (b dg : Addr) (k m : Int) (ns : List Int), vs = [.ref b, .int m] ∧ H b = some (.lst [.ref dg, .int k]) ∧ 0 ≤ k ∧ H dg = some (.lst (ns.map V.int)) ∧ b ≠ dg ∧ 0 < m ∧
  ∀ r, 0 ≤ r → r < m → Q (.int r) (upd H b (.lst [.ref dg, .int (k + 1)]))
abbrev N__law_draw : List Str := ["_law_box", "_law_many", "_law_at"]
def t__law_draw (K : Frag) (E : XK) : TS :=
  tSeq (tAsg (tOp (rIxL K) (tVar 0) (tC (.int 1))) (gName 2)) (tSeq (tAsg (tOp bAdd (tVar 2) (tC (.int 1))) (gSub (tVar 0) (tC (.int 1)) rSetL)) (tSeq (tIfS (tTest (tOp cLt (tVar 2) (tCB (rLen K) (tCons (tOp (rIxL K) (tVar 0) (tC (.int 0))) (tNil))))) (tRet (tOp bMod (tCB kInt (tCons (tOp (rIxL K) (tOp (rIxL K) (tVar 0) (tC (.int 0))) (tVar 2)) (tNil))) (tVar 1))) (tNext)) (tRet (tOp bMod (tCB kInt (tCons (tOp bAdd (tOp bMul (tVar 2) (tC (.int 7))) (tC (.int 3))) (tNil))) (tVar 1)))))

theorem ar__law_draw {K : Frag} : Ar 2 (sp__law_draw K) := fun _ _ _ _ ⟨_, _, _, _, _, e, _⟩ => by rw [e]; rfl
theorem pure__law_draw (K : Frag) (vs : List V) (H : Hp) (Q : VK) (E : XK) (h : sp__law_draw K vs H Q E) : t__law_draw K E (ends Q) (start N__law_draw vs) H := by
  obtain ⟨b, dg, k, m, ns, rfl, hb, h0, hd, ne, hm, q⟩ := h
  have hd' : ∀ o, (upd H b o) dg = some (.lst (ns.map V.int)) := fun o => by rw [upd_ne (Ne.symm ne)]; exact hd
  unfold t__law_draw
  walk_at "go"
  refine i_iteD (fun c => ?_) fun c => ?_
  · walk_at "go"
    exact q _ (Int.emod_nonneg _ (by omega)) (Int.emod_lt_of_pos _ hm)
  · walk_at "go"
    exact q _ (Int.emod_nonneg _ (by omega)) (Int.emod_lt_of_pos _ hm)

--NEED rows pic
def sp_check_shape (K : Frag) : Sp := fun vs H Q E => ∃ w h d c : Int, vs = [.int w, .int h, .int d, .int c] ∧ OrErr K H E (shapeErr w h d c) (Q .non H)
abbrev N_check_shape : List Str := ["width", "height", "depth", "channels"]
def t_check_shape (K : Frag) (E : XK) : TS :=
  tSeq (tIfS (tNot (tTest (tChain cLe cLe (tC (.int 1)) (tVar 0) (tC (.int 64))))) (tRaiseO (He.ga K "OutOfRange") (sp_OutOfRange_init K) (wE E) (tCons (tC (.str "width")) (tNil))) (tNext)) (tSeq (tIfS (tNot (tTest (tChain cLe cLe (tC (.int 1)) (tVar 1) (tC (.int 64))))) (tRaiseO (He.ga K "OutOfRange") (sp_OutOfRange_init K) (wE E) (tCons (tC (.str "height")) (tNil))) (tNext)) (tSeq (tIfS (tNot (tTest (tChain cLe cLe (tC (.int 1)) (tVar 2) (tC (.int 8))))) (tRaiseO (He.ga K "OutOfRange") (sp_OutOfRange_init K) (wE E) (tCons (tC (.str "depth")) (tNil))) (tNext)) (tIfS (tAnd (tTest (tOp rNe (tVar 3) (tC (.int 1)))) (tTest (tOp rNe (tVar 3) (tC (.int 3))))) (tRaiseO (He.ga K "OutOfRange") (sp_OutOfRange_init K) (wE E) (tCons (tC (.str "channels")) (tNil))) (tNext))))

theorem ar_check_shape {K : Frag} : Ar 4 (sp_check_shape K) := fun _ _ _ _ ⟨_, _, _, _, e, _⟩ => by rw [e]; rfl
theorem pure_check_shape (K : Frag) (vs : List V) (H : Hp) (Q : VK) (E : XK) (h : sp_check_shape K vs H Q E) : t_check_shape K E (ends Q) (start N_check_shape vs) H := by
  obtain ⟨w, h, d, c, rfl, q⟩ := h
  unfold t_check_shape
  walk_at "gos"
  all_goals first
    | exact q.ok (by unfold shapeErr; walk_at "ifs")
    | exact i_raiseC (q.err (by unfold shapeErr; walk_at "ifs"))

--NEED rows pic
def sp_check_size (K : Frag) : Sp := fun vs H Q E => ∃ w h c : Int, vs = [.int w, .int h, .int c] ∧ 0 ≤ w ∧ w ≤ 64 ∧ 0 ≤ h ∧ h ≤ 64 ∧ (w * h * c > 3072 → ErrN K H E "size") ∧ (¬ w * h * c > 3072 → Q .non H)
abbrev N_check_size : List Str := ["width", "height", "channels"]
def t_check_size (K : Frag) (E : XK) : TS :=
  tIfS (tTest (tOp cGt (tOp bMul (tOp bMul (tVar 0) (tVar 1)) (tVar 2)) (tC (.int 3072)))) (tRaiseO (He.ga K "OutOfRange") (sp_OutOfRange_init K) (wE E) (tCons (tC (.str "size")) (tNil))) (tNext)

theorem ar_check_size {K : Frag} : Ar 3 (sp_check_size K) := fun _ _ _ _ ⟨_, _, _, e, _⟩ => by rw [e]; rfl
theorem pure_check_size (K : Frag) (vs : List V) (H : Hp) (Q : VK) (E : XK) (h : sp_check_size K vs H Q E) : t_check_size K E (ends Q) (start N_check_size vs) H := by
  obtain ⟨w, h, c, rfl, w0, w1, h0, h1, q1, q2⟩ := h
  have n0 : 0 ≤ w * h := Int.mul_nonneg w0 h0
  have n1 : w * h ≤ 64 * 64 := Int.mul_le_mul w1 h1 h0 (by decide)
  unfold t_check_size
  walk_at "go"
  refine i_iteD (fun c => ?_) fun c => ?_
  · exact i_raiseC (q1 c)
  · walk_at "go"
    exact q2 c

--NEED rows pic frame
def sp_Frame_init (K : Frag) : Sp := fun vs H Q E => ∃ (x dx : Addr) (w h d c t : Int), vs = [.ref x, .int w, .int h, .int d, .int c, .int t] ∧ H x = some (.ins (He.ga K "Frame") dx []) ∧
  OrErr K H E (frameErr w h d c t) (Q .non (upd H x (.ins (He.ga K "Frame") dx (fsFrame w h d c t))))
abbrev N_Frame_init : List Str := ["self", "width", "height", "depth", "channels", "tile"]
def t_Frame_init (K : Frag) (E : XK) : TS :=
  tSeq (tDrop (tCallS (sp_check_shape K) (WE (wE E)) (tCons (tVar 1) (tCons (tVar 2) (tCons (tVar 3) (tCons (tVar 4) (tNil))))))) (tSeq (tIfS (tNot (tTest (tChain cLe cLe (tC (.int 1)) (tVar 5) (tC (.int 16))))) (tRaiseO (He.ga K "OutOfRange") (sp_OutOfRange_init K) (wE E) (tCons (tC (.str "tile")) (tNil))) (tNext)) (tSeq (tDrop (tCallS (sp_check_size K) (WE (wE E)) (tCons (tVar 1) (tCons (tVar 2) (tCons (tVar 4) (tNil)))))) (tSeq (sF (He.ga K "Frame") "width" (tVar 0) (tVar 1)) (tSeq (sF (He.ga K "Frame") "height" (tVar 0) (tVar 2)) (tSeq (sF (He.ga K "Frame") "depth" (tVar 0) (tVar 3)) (tSeq (sF (He.ga K "Frame") "channels" (tVar 0) (tVar 4)) (sF (He.ga K "Frame") "tile" (tVar 0) (tVar 5))))))))

theorem ar_Frame_init {K : Frag} : Ar 6 (sp_Frame_init K) := fun _ _ _ _ ⟨_, _, _, _, _, _, _, e, _⟩ => by rw [e]; rfl
theorem pure_Frame_init (K : Frag) (vs : List V) (H : Hp) (Q : VK) (E : XK) (h : sp_Frame_init K vs H Q E) : t_Frame_init K E (ends Q) (start N_Frame_init vs) H := by
  obtain ⟨x, dx, w, h, d, c, t, rfl, hx, q⟩ := h
  unfold t_Frame_init
  walk_at "go"
  refine ⟨w, h, d, c, rfl, fun s' e => ?_, fun e => ?_⟩
  · exact q.err (by unfold frameErr; rw [e])
  have hs : frameErr w h d c t = if ¬ (1 ≤ t ∧ t ≤ 16) then some ("tile" : Str) else if w * h * c > 3072 then some ("size" : Str) else none := by unfold frameErr; rw [e]
  have sh : 1 ≤ w ∧ w ≤ 64 ∧ 1 ≤ h ∧ h ≤ 64 := by
    unfold shapeErr at e
    repeat (split at e; · cases e)
    omega
  have bad : ¬ (1 ≤ t ∧ t ≤ 16) → ErrN K H E "tile" := fun c => q.err (by rw [hs, if_pos c])
  walk_at "gos"
  all_goals first
    | exact i_raiseC (bad (by omega))
    | skip
  have good : (1 ≤ t ∧ t ≤ 16) := by omega
  rw [if_neg (by omega)] at hs
  refine ⟨w, h, c, rfl, by omega, by omega, by omega, by omega, fun e1 => q.err (by rw [hs, if_pos e1]), fun e1 => ?_⟩
  have q' := q.ok (by rw [hs, if_neg e1])
  walk_at "go"
  rw [upd_upd, upd_upd, upd_upd, upd_upd]
  exact q'

--NEED rows pic frame
def sp__law_frame (K : Frag) : Sp := fun vs H Q _ => ∃ (s : Addr) (m w h d c t : Int), vs = [.ref s] ∧ H s = some (.lst [.int w, .int h, .int d, .int c, .int t]) ∧ Sz m w h d c t ∧ m ≤ 64 ∧ ∀ H' x, Same H H' → H x = none → FrameAt K (dif H H') x ⟨w, h, d, c, t⟩ → Q (.ref x) H'
abbrev N__law_frame : List Str := ["_law_shape_here"]
def t__law_frame (K : Frag) (E : XK) : TS :=
  tRet (tMk (He.ga K "Frame") (sp_Frame_init K) (WE (wE E)) (tCons (tOp (rIxL K) (tVar 0) (tC (.int 0))) (tCons (tOp (rIxL K) (tVar 0) (tC (.int 1))) (tCons (tOp (rIxL K) (tVar 0) (tC (.int 2))) (tCons (tOp (rIxL K) (tVar 0) (tC (.int 3))) (tCons (tOp (rIxL K) (tVar 0) (tC (.int 4))) (tNil)))))))

theorem ar__law_frame {K : Frag} : Ar 1 (sp__law_frame K) := fun _ _ _ _ ⟨_, _, _, _, _, _, _, e, _⟩ => by rw [e]; rfl
theorem pure__law_frame (K : Frag) (vs : List V) (H : Hp) (Q : VK) (E : XK) (h : sp__law_frame K vs H Q E) : t__law_frame K E (ends Q) (start N__law_frame vs) H := by
  obtain ⟨s, m, w, h, d, c, t, rfl, hs, Z, hm, q⟩ := h
  unfold t__law_frame
  walk_at "go"
  intro x dx nx ndx nex
  refine ⟨x, dx, w, h, d, c, t, rfl, upd_same, ⟨fun s' e => (by rw [frame_none Z hm] at e; cases e), fun _ => ⟨rfl, ?_⟩⟩⟩
  rw [upd_upd]
  refine q _ x (same_new (same_upd ndx) (by rw [upd_ne (Ne.symm nex)]; exact nx)) nx ⟨dx, ?_⟩
  rw [dif_at nx, upd_same]

/-! the box that is drawn from -/
structure Bx (G M H : Hp) (b dg : Addr) (ns : List Int) (k : Int) : Prop where
  g : G b = none
  m : M b = none
  h : H b = some (.lst [.ref dg, .int k])
  k0 : 0 ≤ k
  d : G dg = some (.lst (ns.map V.int))
section
variable {G M H G' M' H' : Hp} {b dg : Addr} {ns : List Int} {k : Int}
theorem Bx.ne (B : Bx G M H b dg ns k) : b ≠ dg := fun e => by
  have := B.g
  rw [e, B.d] at this; cases this
theorem Bx.step (B : Bx G M H b dg ns k) (S : Step G M H G' M' H') : Bx G' M' H' b dg ns k := by
  refine ⟨?_, ?_, S.keep _ _ B.m B.h, B.k0, S.gg _ _ B.d⟩
  · cases q : G' b with
    | none => rfl
    | some o =>
      rcases S.gf _ _ q with e | e
      · rw [B.g] at e; cases e
      · rw [B.h] at e; cases e
  · cases q : M' b with
    | none => rfl
    | some o =>
      rcases S.mf _ _ q with ⟨_, e⟩ | e
      · rw [B.m] at e; cases e
      · rw [B.h] at e; cases e
theorem draw_ok {K : Frag} {Q : VK} {E : XK} {m : Int} (F : Fm G M H) (B : Bx G M H b dg ns k) (hm : 0 < m)
    (q : ∀ r H', 0 ≤ r → r < m → Fm G M H' → Bx G M H' b dg ns (k + 1) → (∀ a o, a ≠ b → H a = some o → H' a = some o) → (∀ a, H' a = none → H a = none) → Q (.int r) H') : sp__law_draw K [.ref b, .int m] H Q E :=
  ⟨b, dg, k, m, ns, rfl, B.h, B.k0, F.gs _ _ B.d, B.ne, hm, fun r r0 r1 => q r _ r0 r1 (F.else_ B.g B.m) ⟨B.g, B.m, upd_same, by have := B.k0; omega, B.d⟩ (fun a o h e => by rw [upd_ne h]; exact e) fun a h => by
    by_cases e : a = b
    · rw [e, upd_same] at h; cases h
    · rw [upd_ne e] at h; exact h⟩
theorem Bx.off (B : Bx G M H b dg ns k) {a : Addr} {o : HO} (h : G a = some o) : a ≠ b := fun e => by
  rw [e, B.g] at h; cases h
theorem Bx.add (B : Bx G M H b dg ns k) (F : Fm G M H) {a : Addr} {o : HO} (h : H a = some o) (n : b ≠ a) : Bx (upd G a o) M H b dg ns k := ⟨by rw [upd_ne n]; exact B.g, B.m, B.h, B.k0, F.addS h _ _ B.d⟩
end

--NEED rows pic frame fm disk hdr box
theorem cutV_to {xs : List V} {b : Int} (h1 : 0 ≤ b) : cutV xs none (some b) = xs.take b.toNat := by
  obtain ⟨y, rfl⟩ : ∃ n : Nat, b = n := ⟨b.toNat, by omega⟩
  unfold cutV
  rw [HT.sIx_nat, HT.sIx_none]
  show (xs.drop 0).take (min y xs.length - 0) = _
  rw [List.drop_zero, Nat.sub_zero]
  show _ = xs.take y
  by_cases c : y ≤ xs.length
  · rw [Nat.min_eq_left c]
  · rw [Nat.min_eq_right (by omega), List.take_of_length_le (Nat.le_refl _), List.take_of_length_le (by omega)]
structure BlkOk (g : Int) (x : Fr) (blk : List Int) (fl : Bool) : Prop where
  len : 32 ≤ blk.length ∧ blk.length ≤ 64
  byt : ∀ y ∈ blk, 0 ≤ y ∧ y ≤ 255
  dec : decOf (blk.take 32) = if fl = true then some (g % 256, x) else none
def sp__law_block (K : Frag) : Sp := fun vs H Q _ => ∃ (b dg s : Addr) (k g m : Int) (x : Fr) (G M : Hp) (ns : List Int), vs = [.ref b, .ref s, .int g] ∧ Fm G M H ∧ Bx G M H b dg ns k ∧ G s = some (.lst [.int x.w, .int x.h, .int x.d, .int x.c, .int x.t]) ∧ Sz m x.w x.h x.d x.c x.t ∧ m ≤ 64 ∧
  ∀ H' G' p q blk fl k', Fm G' M H' → Bx G' M H' b dg ns k' → Same G G' → G' p = some (.lst [.ref q, .bl fl]) → G' q = some (.lst (blk.map V.int)) → BlkOk g x blk fl → Q (.ref p) H'
abbrev N__law_block : List Str := ["_law_box", "_law_shape_here", "_law_generation", "_law_block_here", "_law_kind"]
def t__law_block (K : Frag) (E : XK) : TS :=
  tSeq (tAsg (tCallS (sp_encode_header K) EF (tCons (tOp bMod (tCB kInt (tCons (tVar 2) (tNil))) (tC (.int 256))) (tCons (tCallS (sp__law_frame K) (WE (wE E)) (tCons (tVar 1) (tNil))) (tNil)))) (gName 3)) (tSeq (tAsg (tCallS (sp__law_draw K) EF (tCons (tVar 0) (tCons (tC (.int 6)) (tNil)))) (gName 4)) (tSeq (tIfS (tTest (tOp rEq (tVar 4) (tC (.int 0)))) (tRet (tLst (tCons (tOp rRep (tLst (tCons (tC (.int 0)) (tNil))) (tC (.int 32))) (tCons (tC (.bl false)) (tNil))))) (tNext)) (tSeq (tIfS (tTest (tOp rEq (tVar 4) (tC (.int 1)))) (tRet (tLst (tCons (tOp rCat (tSl (rSlL K) (tVar 3) (tNoPart) (tPart (tOp bAdd (tC (.int 1)) (tCallS (sp__law_draw K) EF (tCons (tVar 0) (tCons (tC (.int 30)) (tNil))))))) (tOp rRep (tLst (tCons (tC (.int 0)) (tNil))) (tC (.int 32)))) (tCons (tC (.bl false)) (tNil))))) (tNext)) (tRet (tLst (tCons (tVar 3) (tCons (tC (.bl true)) (tNil))))))))

theorem ar__law_block {K : Frag} : Ar 3 (sp__law_block K) := fun _ _ _ _ ⟨_, _, _, _, _, _, _, _, _, _, e, _⟩ => by rw [e]; rfl
theorem blk_zero (g : Int) (x : Fr) : BlkOk g x (List.replicate (32 : Int).toNat 0) false := ⟨by decide, fun y hy => by
  rw [List.eq_of_mem_replicate hy]; decide, dec_first (by decide)⟩
theorem blk_cut {g m r : Int} {x : Fr} (Z : Sz m x.w x.h x.d x.c x.t) (hm : m ≤ 64) (r0 : 0 ≤ r) (r1 : r < 30) : BlkOk g x ((hdr (g % 256) x).take (1 + r).toNat ++ List.replicate (32 : Int).toNat 0) false := by
  have lh : (hdr (g % 256) x).length = 32 := hdr_len
  have lt : ((hdr (g % 256) x).take (1 + r).toNat).length = (1 + r).toNat := by rw [List.length_take, lh]; omega
  refine ⟨?_, fun y hy => ?_, ?_⟩
  · rw [List.length_append, lt, List.length_replicate]; omega
  · rcases List.mem_append.mp hy with h | h
    · exact hdr_bytes Z hm (Int.emod_nonneg _ (by decide)) (by have := Int.emod_lt_of_pos g (show (0 : Int) < 256 by decide); omega) y (List.mem_of_mem_take h)
    · rw [List.eq_of_mem_replicate h]; decide
  · rw [if_neg (by decide)]
    refine dec_last ?_
    rw [List.getD_eq_getElem?_getD, List.getElem?_take_of_lt (by decide), List.getElem?_append_right (by omega), List.getElem?_replicate, if_pos (by rw [lt]; show _ < 32; omega)]
    decide
theorem blk_all {g m : Int} {x : Fr} (Z : Sz m x.w x.h x.d x.c x.t) (hm : m ≤ 64) : BlkOk g x (hdr (g % 256) x) true :=
  ⟨by rw [hdr_len]; decide, hdr_bytes Z hm (Int.emod_nonneg _ (by decide)) (by have := Int.emod_lt_of_pos g (show (0 : Int) < 256 by decide); omega), by
    rw [List.take_of_length_le (Nat.le_of_eq hdr_len), if_pos rfl]; exact dec_hdr Z hm⟩
theorem pure__law_block (K : Frag) (vs : List V) (H : Hp) (Q : VK) (E : XK) (h : sp__law_block K vs H Q E) : t__law_block K E (ends Q) (start N__law_block vs) H := by
  obtain ⟨b, dg, s, k, g, m, x, G, M, ns, rfl, F, B, hs, Z, hm, q⟩ := h
  unfold t__law_block
  walk_at "go"
  refine ⟨s, m, x.w, x.h, x.d, x.c, x.t, rfl, F.gs _ _ hs, Z, hm, fun H1 f S1 nf hf => ?_⟩
  have F1 := F.grow S1
  have B1 := B.step (Step.grow (G := G) (M := M) S1)
  have hf1 := (hf.same (grow_r F)).same F1.gs
  have gg1 : Same G (grow G H H1) := grow_l
  generalize grow G H H1 = G1 at *
  walk_at "go"
  refine ⟨g % 256, f, x, rfl, hf1, fun H2 p S2 np hp => ?_⟩
  have F2 := F1.grow S2
  have B2 := B1.step (Step.grow (G := G1) (M := M) S2)
  have gg2 : Same G1 (grow G1 H1 H2) := grow_l
  have hp2 : grow G1 H1 H2 p = some (.lst ((hdr (g % 256) x).map V.int)) := grow_r F1 _ _ (by rw [dif_at np]; exact hp)
  generalize grow G1 H1 H2 = G2 at *
  walk_at "go"
  refine draw_ok F2 B2 (by decide) fun r H3 r0 r1 F3 B3 K3 Z3 => ?_
  walk_at "go"
  refine i_iteD (fun c => ?_) fun c => ?_
  · walk_at "go"
    intro l nl
    have F4 := F3.newG (o := .lst [.int 0]) nl
    have S4 := Step.newG (o := .lst [.int 0]) F3 nl
    have hl4 : upd H3 l (.lst [.int 0]) l = some (.lst [.int 0]) := upd_same
    have B4 := B3.step S4
    walk_at "go"
    intro u nu
    have F5 := F4.newG (o := .lst ((List.replicate (32 : Int).toNat (0 : Int)).map V.int)) nu
    have S5 := Step.newG (o := .lst ((List.replicate (32 : Int).toNat (0 : Int)).map V.int)) F4 nu
    have B5 := B4.step S5
    walk_at "go"
    intro y ny
    have F6 := F5.newG (o := .lst [.ref u, .bl false]) ny
    have S6 := Step.newG (o := .lst [.ref u, .bl false]) F5 ny
    have B6 := B5.step S6
    refine q _ _ y u _ false _ F6 B6 (((gg1.trans gg2).trans S4.gg).trans (S5.gg.trans S6.gg)) upd_same (S6.gg _ _ upd_same) (blk_zero g x)
  · walk_at "go"
    refine i_iteD (fun c => ?_) fun c => ?_
    · walk_at "go"
      refine draw_ok F3 B3 (by decide) fun r2 H4 r20 r21 F4 B4 K4 Z4 => ?_
      have hp4 := F4.gs _ _ hp2
      walk_at "go"
      intro a na
      rw [cutV_to (by omega), ← List.map_take]
      have F5 := F4.newG (o := .lst (((hdr (g % 256) x).take (1 + r2).toNat).map V.int)) na
      have S5 := Step.newG (o := .lst (((hdr (g % 256) x).take (1 + r2).toNat).map V.int)) F4 na
      have B5 := B4.step S5
      have ha5 : upd G2 a (.lst (((hdr (g % 256) x).take (1 + r2).toNat).map V.int)) a = _ := upd_same
      generalize upd G2 a (.lst (((hdr (g % 256) x).take (1 + r2).toNat).map V.int)) = G5 at *
      generalize upd H4 a (.lst (((hdr (g % 256) x).take (1 + r2).toNat).map V.int)) = H5 at *
      walk_at "go"
      intro l nl
      have F6 := F5.newG (o := .lst [.int 0]) nl
      have S6 := Step.newG (o := .lst [.int 0]) F5 nl
      have B6 := B5.step S6
      have hl6 : upd H5 l (.lst [.int 0]) l = some (.lst [.int 0]) := upd_same
      walk_at "go"
      intro u nu
      have F7 := F6.newG (o := .lst ((List.replicate (32 : Int).toNat (0 : Int)).map V.int)) nu
      have S7 := Step.newG (o := .lst ((List.replicate (32 : Int).toNat (0 : Int)).map V.int)) F6 nu
      have B7 := B6.step S7
      have lt : ((hdr (g % 256) x).take (1 + r2).toNat).length ≤ 32 := by rw [List.length_take, hdr_len]; omega
      refine i_cat (F7.gs _ _ (S7.gg _ _ (S6.gg _ _ ha5))) upd_same (by rw [sizeLine_eq, List.length_map, List.length_map, List.length_replicate]; show _ + 32 ≤ _; omega) fun w nw => ?_
      rw [← List.map_append]
      have F8 := F7.newG (o := .lst (((hdr (g % 256) x).take (1 + r2).toNat ++ List.replicate (32 : Int).toNat 0).map V.int)) nw
      have S8 := Step.newG (o := .lst (((hdr (g % 256) x).take (1 + r2).toNat ++ List.replicate (32 : Int).toNat 0).map V.int)) F7 nw
      have B8 := B7.step S8
      walk_at "go"
      intro y ny
      have F9 := F8.newG (o := .lst [.ref w, .bl false]) ny
      have S9 := Step.newG (o := .lst [.ref w, .bl false]) F8 ny
      have B9 := B8.step S9
      exact q _ _ y w _ false _ F9 B9 (((gg1.trans gg2).trans S5.gg).trans ((S6.gg.trans S7.gg).trans (S8.gg.trans S9.gg))) upd_same (S9.gg _ _ upd_same) (blk_cut Z hm r20 r21)
    · walk_at "go"
      intro y ny
      have F4 := F3.newG (o := .lst [.ref p, .bl true]) ny
      have S4 := Step.newG (o := .lst [.ref p, .bl true]) F3 ny
      have B4 := B3.step S4
      exact q _ _ y p _ true _ F4 B4 ((gg1.trans gg2).trans S4.gg) upd_same (S4.gg _ _ hp2) (blk_all Z hm)

--NEED fm disk
def sp_Disk__check_at (K : Frag) : Sp := fun vs H Q _ => ∃ (d : Addr) (a : Int) (G M : Hp) (x : Dk), vs = [.ref d, .int a] ∧ Same M H ∧ DiskAt K G M d x ∧ 0 ≤ a ∧ a < x.bs.length ∧ Q .non H
abbrev N_Disk__check_at : List Str := ["self", "at"]
def t_Disk__check_at (K : Frag) (E : XK) : TS :=
  tIfS (tNot (tTest (tChain cLe cLt (tC (.int 0)) (tVar 1) (tCB (rLen K) (tCons (tF (He.ga K "Disk") "_blocks" (tVar 0)) (tNil)))))) (tRaiseO (He.ga K "OutOfRange") (sp_OutOfRange_init K) (wE E) (tCons (tC (.str "at")) (tNil))) (tNext)

theorem ar_Disk__check_at {K : Frag} : Ar 2 (sp_Disk__check_at K) := fun _ _ _ _ ⟨_, _, _, _, _, e, _⟩ => by rw [e]; rfl
theorem pure_Disk__check_at (K : Frag) (vs : List V) (H : Hp) (Q : VK) (E : XK) (h : sp_Disk__check_at K vs H Q E) : t_Disk__check_at K E (ends Q) (start N_Disk__check_at vs) H := by
  obtain ⟨d, a, G, M, x, rfl, ms, ⟨dx, bl, pl, tn, bads, pads, D⟩, h0, h1, q⟩ := h
  obtain ⟨hd, hb, hp⟩ := D.see ms
  obtain ⟨l1, l2, l3, l4, l5⟩ := D.looks
  have lb := D.blen
  unfold t_Disk__check_at
  walk_at "go"
  exact q

def sp_Disk__cut (K : Frag) : Sp := fun _ _ _ _ => False


--NEED fm disk
def sp_Disk__spend (K : Frag) : Sp := fun vs H Q _ => ∃ (d : Addr) (G M : Hp) (x : Dk), vs = [.ref d] ∧ Same M H ∧ DiskAt K G M d x ∧ x.left = none ∧ Q .non H
abbrev N_Disk__spend : List Str := ["self"]
def t_Disk__spend (K : Frag) (E : XK) : TS :=
  tSeq (tIfS (tTest (tOp cIsN (tF (He.ga K "Disk") "_left" (tVar 0)) (tC .non))) (tRetN) (tNext)) (tSeq (tIfS (tTest (tOp (rEqD K) (tF (He.ga K "Disk") "_left" (tVar 0)) (tC (.int 0)))) (tSeq (tDrop (tMe (He.ga K "Disk") "_cut" (sp_Disk__cut K) EF (tVar 0) (tCons (tF (He.ga K "Disk") "_torn" (tVar 0)) (tNil)))) (tRaiseP (He.ga K "PowerCut") (wE E))) (tNext)) (sF (He.ga K "Disk") "_left" (tVar 0) (tOp bSub (tF (He.ga K "Disk") "_left" (tVar 0)) (tC (.int 1)))))

theorem ar_Disk__spend {K : Frag} : Ar 1 (sp_Disk__spend K) := fun _ _ _ _ ⟨_, _, _, _, e, _⟩ => by rw [e]; rfl
theorem pure_Disk__spend (K : Frag) (vs : List V) (H : Hp) (Q : VK) (E : XK) (h : sp_Disk__spend K vs H Q E) : t_Disk__spend K E (ends Q) (start N_Disk__spend vs) H := by
  obtain ⟨d, G, M, x, rfl, ms, ⟨dx, bl, pl, tn, bads, pads, D⟩, hl, q⟩ := h
  obtain ⟨hd, hb, hp⟩ := D.see ms
  obtain ⟨l1, l2, l3, l4, l5⟩ := D.looks
  rw [hl] at hd l4
  unfold t_Disk__spend
  walk_at "go"
  exact q

def sp__is_block (K : Frag) : Sp := fun vs H Q _ => ∃ (a : Addr) (ns : List Int), vs = [.ref a] ∧ H a = some (.lst (ns.map V.int)) ∧ ns.length = 32 ∧ (∀ x ∈ ns, 0 ≤ x ∧ x ≤ 255) ∧ Q (.bl true) H
abbrev N__is_block : List Str := ["block", "byte"]
def t__is_block (K : Frag) (E : XK) : TS :=
  tSeq (tIfS (tTest (tOp rNe (tCB (rLen K) (tCons (tVar 0) (tNil))) (tC (.int 32)))) (tRet (tC (.bl false))) (tNext)) (tSeq (tFor (iList K (tVar 0)) (gName 1) (tIfS (tNot (tTest (tChain cLe cLe (tC (.int 0)) (tVar 1) (tC (.int 255))))) (tRet (tC (.bl false))) (tNext))) (tRet (tC (.bl true))))

theorem ar__is_block {K : Frag} : Ar 1 (sp__is_block K) := fun _ _ _ _ ⟨_, _, e, _⟩ => by rw [e]; rfl
theorem pure__is_block (K : Frag) (vs : List V) (H : Hp) (Q : VK) (E : XK) (h : sp__is_block K vs H Q E) : t__is_block K E (ends Q) (start N__is_block vs) H := by
  obtain ⟨a, ns, rfl, ha, hl, hb, q⟩ := h
  unfold t__is_block
  walk_at "go"
  refine f_ints (ns := ns) (fun i σ H' => (∃ v, σ = [some (.ref a), v]) ∧ H' = H) ⟨⟨none, rfl⟩, rfl⟩ (fun i σ H' _ ⟨_, e⟩ => by rw [e]; exact SqL.of ha) ?_ ?_
  · rintro i z σ H' hz ⟨⟨v, rfl⟩, rfl⟩
    have := hb z (List.mem_of_getElem? hz)
    walk_at "go"
    exact ⟨⟨_, rfl⟩, rfl⟩
  · rintro σ H' ⟨⟨v, rfl⟩, rfl⟩
    walk_at "go"
    exact q

--NEED fm disk
def sp_Disk_write (K : Frag) : Sp := fun vs H Q _ => ∃ (d b : Addr) (a : Int) (G M : Hp) (x : Dk) (ns : List Int), vs = [.ref d, .int a, .ref b] ∧ Fm G M H ∧ DiskAt K G M d x ∧ x.left = none ∧ 0 ≤ a ∧ a < x.bs.length ∧ x.pd.length < 100000 ∧
  H b = some (.lst (ns.map V.int)) ∧ ns.length = 32 ∧ (∀ x ∈ ns, 0 ≤ x ∧ x ≤ 255) ∧ ∀ G' M' H', Fm G' M' H' → Step G M H G' M' H' → DiskAt K G' M' d (x.wrote a ns) → Q .non H'
abbrev N_Disk_write : List Str := ["self", "at", "block"]
def t_Disk_write (K : Frag) (E : XK) : TS :=
  tSeq (tDrop (tMe (He.ga K "Disk") "_check_at" (sp_Disk__check_at K) (WE (wE E)) (tVar 0) (tCons (tVar 1) (tNil)))) (tSeq (tIfS (tNot (tB (tCallS (sp__is_block K) EF (tCons (tVar 2) (tNil))))) (tRaiseO (He.ga K "OutOfRange") (sp_OutOfRange_init K) (wE E) (tCons (tC (.str "block")) (tNil))) (tNext)) (tSeq (tDrop (tMe (He.ga K "Disk") "_spend" (sp_Disk__spend K) (WE (wE E)) (tVar 0) tNil)) (tDrop (tBM K "list" rAppend (tF (He.ga K "Disk") "_pending" (tVar 0)) (tCons (tTup (tCons (tVar 1) (tCons (tCB (kList K) (tCons (tVar 2) (tNil))) (tNil)))) (tNil))))))

theorem ar_Disk_write {K : Frag} : Ar 3 (sp_Disk_write K) := fun _ _ _ _ ⟨_, _, _, _, _, _, _, e, _⟩ => by rw [e]; rfl
theorem pure_Disk_write (K : Frag) (vs : List V) (H : Hp) (Q : VK) (E : XK) (h : sp_Disk_write K vs H Q E) : t_Disk_write K E (ends Q) (start N_Disk_write vs) H := by
  obtain ⟨d, b, a, G, M, x, ns, rfl, F, DD, hl, h0, h1, hp, hb, nl, nb, q⟩ := h
  obtain ⟨dx, bl, pl, tn, bads, pads, D⟩ := id DD
  obtain ⟨hd, hbl, hpl⟩ := D.see F.ms
  obtain ⟨l1, l2, l3, l4, l5⟩ := D.looks
  obtain ⟨m1, m2, m3, m4, m5, m6, m7, m8, _⟩ := D.meths
  unfold t_Disk_write
  walk_at "go"
  refine ⟨d, a, G, M, x, rfl, F.ms, DD, h0, h1, ?_⟩
  walk_at "go"
  refine ⟨b, ns, rfl, hb, nl, nb, ?_⟩
  walk_at "go"
  refine ⟨d, G, M, x, rfl, F.ms, DD, hl, ?_⟩
  walk_at "go"
  intro r hr
  walk_at "go"
  intro t ht
  have F1 := F.newG (o := .lst (ns.map V.int)) hr
  have F2 := F1.newG (o := .tup [.int a, .ref r]) ht
  have hpl2 := F2.ms _ _ D.fp
  have hsz : (pads.map V.ref).length < sizeLine := line_big (by rw [List.length_map, D.ps.len]; omega)
  walk_at "go"
  · exact hsz
  have S1 := Step.newG (o := .lst (ns.map V.int)) F hr
  have S2 := Step.newG (o := .tup [.int a, .ref r]) F1 ht
  have hrt : r ≠ t := ne_of_none (H := upd H r (.lst (ns.map V.int))) upd_same ht
  have D2 := D.more (S1.gg.trans S2.gg)
  refine q _ _ _ (F2.put D.fp) (Step.trans F1 S1 (Step.trans F2 S2 (Step.put D.fp))) ⟨dx, bl, pl, tn, bads, pads ++ [t], ?_, ?_, ?_, D2.ft, D.db, D.dp, D.bp, D2.bs, D2.ps.append (.cons ⟨r, upd_same, ?_⟩ .nil)⟩
  · rw [upd_ne D.dp]; exact D.fd
  · rw [upd_ne D.bp]; exact D.fb
  · rw [upd_same, List.map_append]; rfl
  · show upd _ t _ r = _
    rw [upd_ne hrt, upd_same]

--NEED rows pic frame fm disk hdr
--FACTS xm_OutOfRange_OutOfRange
def sp_decode_header (K : Frag) : Sp := fun vs H Q _ => ∃ (p : Addr) (ns : List Int), vs = [.ref p] ∧ H p = some (.lst (ns.map V.int)) ∧ ns.length = 32 ∧ ∀ H' v, Same H H' → HdrAt K (dif H H') v (decOf ns) → Q v H'
abbrev N_decode_header : List Str := ["block"]
def t_decode_header (K : Frag) (E : XK) : TS :=
  tSeq (tIfS (tOr (tTest (tOp rNe (tOp (rIxL K) (tVar 0) (tC (.int 0))) (tC (.int 72)))) (tTest (tOp rNe (tOp (rIxL K) (tVar 0) (tC (.int 31))) (tC (.int 72))))) (tRet (tC .non)) (tNext)) (tTryOnly K (He.ga K "OutOfRange") (fun W => tRet (tTup (tCons (tOp (rIxL K) (tVar 0) (tC (.int 1))) (tCons (tMk (He.ga K "Frame") (sp_Frame_init K) (WE W) (tCons (tOp (rIxL K) (tVar 0) (tC (.int 2))) (tCons (tOp (rIxL K) (tVar 0) (tC (.int 3))) (tCons (tOp (rIxL K) (tVar 0) (tC (.int 4))) (tCons (tOp (rIxL K) (tVar 0) (tC (.int 5))) (tCons (tOp (rIxL K) (tVar 0) (tC (.int 6))) (tNil))))))) (tNil))))) (fun a cls d => tRet (tC .non)) (wE E))

theorem ar_decode_header {K : Frag} : Ar 1 (sp_decode_header K) := fun _ _ _ _ ⟨_, _, e, _⟩ => by rw [e]; rfl
theorem pure_decode_header (K : Frag) (hxm : PySem.W.exmOne K (.ref (He.ga K "OutOfRange")) (.ref (He.ga K "OutOfRange")) = some true) (vs : List V) (H : Hp) (Q : VK) (E : XK) (h : sp_decode_header K vs H Q E) : t_decode_header K E (ends Q) (start N_decode_header vs) H := by
  obtain ⟨p, ns, rfl, hp, hl, q⟩ := h
  unfold t_decode_header
  walk_at "go"
  refine i_iteN (fun c => ?_) fun c0 => ?_
  · walk_at "go"
    exact q H _ (Same.refl H) (by rw [dec_first c]; rfl)
  walk_at "go"
  refine i_iteN (fun c => ?_) fun c1 => ?_
  · walk_at "go"
    exact q H _ (Same.refl H) (by rw [dec_last c]; rfl)
  have hd : decOf ns = match frameErr (ns.getD 2 0) (ns.getD 3 0) (ns.getD 4 0) (ns.getD 5 0) (ns.getD 6 0) with
      | some _ => none
      | none => some (ns.getD 1 0, ⟨ns.getD 2 0, ns.getD 3 0, ns.getD 4 0, ns.getD 5 0, ns.getD 6 0⟩) := by
    unfold decOf
    rw [if_neg (fun z => z.elim (fun z => z c0) fun z => z c1)]
  walk_at "go"
  intro x dx nx ndx nex
  have S1 : Same H (upd (upd H dx (.own x)) x (.ins (He.ga K "Frame") dx [])) := same_new (same_upd ndx) (by rw [upd_ne (Ne.symm nex)]; exact nx)
  refine ⟨x, dx, ns.getD 2 0, ns.getD 3 0, ns.getD 4 0, ns.getD 5 0, ns.getD 6 0, rfl, upd_same, ⟨fun s e => ?_, fun e => ⟨rfl, ?_⟩⟩⟩
  · intro dd ndd
    refine w_only hxm fun ea nea => ?_
    walk_at "go"
    refine q _ _ (same_new S1 ndd) ?_
    rw [hd, e]
    rfl
  · rw [e] at hd
    rw [upd_upd]
    have S2 : Same H (upd (upd H dx (.own x)) x (.ins (He.ga K "Frame") dx (fsFrame (ns.getD 2 0) (ns.getD 3 0) (ns.getD 4 0) (ns.getD 5 0) (ns.getD 6 0)))) := same_new (same_upd ndx) (by rw [upd_ne (Ne.symm nex)]; exact nx)
    have hx : upd (upd H dx (.own x)) x (.ins (He.ga K "Frame") dx (fsFrame (ns.getD 2 0) (ns.getD 3 0) (ns.getD 4 0) (ns.getD 5 0) (ns.getD 6 0))) x = _ := upd_same
    generalize upd (upd H dx (.own x)) x (.ins (He.ga K "Frame") dx (fsFrame (ns.getD 2 0) (ns.getD 3 0) (ns.getD 4 0) (ns.getD 5 0) (ns.getD 6 0))) = H2 at *
    walk_at "go"
    intro t nt
    refine q _ _ (same_new S2 nt) ?_
    rw [hd]
    refine ⟨t, x, rfl, ?_, dx, ?_⟩
    · rw [dif_at (S2.free nt), upd_same]; rfl
    · rw [dif_at nx, upd_ne (ne_of_none hx nt)]; exact hx

--NEED fm disk
def sp_Disk_read (K : Frag) : Sp := fun vs H Q _ => ∃ (d : Addr) (a : Int) (G M : Hp) (x : Dk), vs = [.ref d, .int a] ∧ Fm G M H ∧ DiskAt K G M d x ∧ 0 ≤ a ∧ a < x.bs.length ∧ ∀ p, H p = none → Q (.ref p) (upd H p (.lst ((x.seen a).map V.int)))
abbrev N_Disk_read : List Str := ["self", "at", "found", "place", "block"]
def t_Disk_read (K : Frag) (E : XK) : TS :=
  tSeq (tDrop (tMe (He.ga K "Disk") "_check_at" (sp_Disk__check_at K) (WE (wE E)) (tVar 0) (tCons (tVar 1) (tNil)))) (tSeq (tAsg (tOp (rIxL K) (tF (He.ga K "Disk") "_blocks" (tVar 0)) (tVar 1)) (gName 2)) (tSeq (tFor (iList K (tF (He.ga K "Disk") "_pending" (tVar 0))) (gTup K 2 (gCons (gName 3) (gCons (gName 4) (gNil)))) (tIfS (tTest (tOp rEq (tVar 3) (tVar 1))) (tAsg (tVar 4) (gName 2)) (tNext))) (tRet (tCB (kList K) (tCons (tVar 2) (tNil))))))

theorem ar_Disk_read {K : Frag} : Ar 2 (sp_Disk_read K) := fun _ _ _ _ ⟨_, _, _, _, _, e, _⟩ => by rw [e]; rfl
theorem pure_Disk_read (K : Frag) (vs : List V) (H : Hp) (Q : VK) (E : XK) (h : sp_Disk_read K vs H Q E) : t_Disk_read K E (ends Q) (start N_Disk_read vs) H := by
  obtain ⟨d, a, G, M, x, rfl, F, DD, h0, h1, q⟩ := h
  obtain ⟨dx, bl, pl, tn, bads, pads, D⟩ := id DD
  obtain ⟨hd, hbl, hpl⟩ := D.see F.ms
  obtain ⟨l1, l2, l3, l4, l5⟩ := D.looks
  obtain ⟨m1, m2, m3, m4, m5, m6, m7, m8, _⟩ := D.meths
  obtain ⟨b0, hb0, hr0⟩ := D.bs.at (i := a.toNat) (by omega) []
  unfold t_Disk_read
  walk_at "go"
  refine ⟨d, a, G, M, x, rfl, F.ms, DD, h0, h1, ?_⟩
  walk_at "go"
  refine i_ixL hbl (atI_map_ref h0 hb0) ?_
  walk_at "go"
  refine f_list (xs := pads.map V.ref) (fun i σ H' => (∃ f u v, σ = [some (.ref d), some (.int a), some (.ref f), u, v] ∧ H f = some (.lst ((((x.pd.take i).foldl (fun f p => if p.1 = a then p.2 else f) (x.bs.getD a.toNat [])) : List Int).map V.int))) ∧ H' = H)
    ⟨⟨b0, none, none, rfl, F.gs _ _ hr0⟩, rfl⟩ (fun i σ H' _ ⟨_, e⟩ => by rw [e]; exact SqL.of hpl) ?_ ?_
  · rintro i z σ H' hz ⟨⟨f, u, v, rfl, hf⟩, rfl⟩
    rw [List.getElem?_map] at hz
    cases e : pads[i]? with
    | none => rw [e] at hz; cases hz
    | some c =>
      rw [e] at hz; cases hz
      obtain ⟨y, hy, b, hc, hb⟩ := D.ps.get e
      have hc' := F.gs _ _ hc
      have tk : x.pd.take (i + 1) = x.pd.take i ++ [y] := by rw [List.take_add_one, hy]; rfl
      walk_at "go"
      refine i_iteD (fun c => ?_) fun c => ?_
      · walk_at "go"
        refine ⟨⟨b, _, _, rfl, ?_⟩, rfl⟩
        rw [tk, List.foldl_append, List.foldl_cons, List.foldl_nil, if_pos c]
        exact F.gs _ _ hb
      · walk_at "go"
        refine ⟨⟨f, _, _, rfl, ?_⟩, rfl⟩
        rw [tk, List.foldl_append, List.foldl_cons, List.foldl_nil, if_neg c]
        exact hf
  · rintro σ H' ⟨⟨f, u, v, rfl, hf⟩, rfl⟩
    rw [List.take_of_length_le (by rw [List.length_map, D.ps.len]; omega)] at hf
    walk_at "go"
    intro p hp
    exact q p hp

--NEED rows pic frame fm disk hdr
def sp_newest_header (K : Frag) : Sp := fun vs H Q _ => ∃ (d : Addr) (G M : Hp) (x : Dk), vs = [.ref d] ∧ Fm G M H ∧ DiskAt K G M d x ∧ x.Ok ∧ ∀ H' v, Same H H' → HdrAt K (dif H H') v x.newest → Q v H'
abbrev N_newest_header : List Str := ["disk", "one", "other"]
def t_newest_header (K : Frag) (E : XK) : TS :=
  tSeq (tAsg (tCallS (sp_decode_header K) EF (tCons (tMe (He.ga K "Disk") "read" (sp_Disk_read K) (WE (wE E)) (tVar 0) (tCons (tC (.int 0)) (tNil))) (tNil))) (gName 1)) (tSeq (tAsg (tCallS (sp_decode_header K) EF (tCons (tMe (He.ga K "Disk") "read" (sp_Disk_read K) (WE (wE E)) (tVar 0) (tCons (tC (.int 1)) (tNil))) (tNil))) (gName 2)) (tSeq (tIfS (tTest (tOp cIsN (tVar 1) (tC .non))) (tRet (tVar 2)) (tNext)) (tSeq (tIfS (tAnd (tTest (tOp cIsntN (tVar 2) (tC .non))) (tTest (tOp rEq (tOp (rIxT K) (tVar 2) (tC (.int 0))) (tOp bAnd (tOp bAdd (tOp (rIxT K) (tVar 1) (tC (.int 0))) (tC (.int 1))) (tC (.int 255)))))) (tRet (tVar 2)) (tNext)) (tRet (tVar 1)))))

theorem ar_newest_header {K : Frag} : Ar 1 (sp_newest_header K) := fun _ _ _ _ ⟨_, _, _, _, e, _⟩ => by rw [e]; rfl
theorem pure_newest_header (K : Frag) (vs : List V) (H : Hp) (Q : VK) (E : XK) (h : sp_newest_header K vs H Q E) : t_newest_header K E (ends Q) (start N_newest_header vs) H := by
  obtain ⟨d, G, M, x, rfl, F, DD, O, q⟩ := h
  obtain ⟨dx, bl, pl, tn, bads, pads, D⟩ := id DD
  obtain ⟨hd, _, _⟩ := D.see F.ms
  obtain ⟨m1, m2, m3, _⟩ := D.meths
  have b1 := O.b1
  unfold t_newest_header
  walk_at "go"
  refine ⟨d, 0, G, M, x, rfl, F, DD, by decide, by omega, fun p np => ?_⟩
  have S0 : Same H _ := same_upd (o := .lst ((x.seen 0).map V.int)) np
  have hp0 : upd H p (.lst ((x.seen 0).map V.int)) p = _ := upd_same
  generalize upd H p (.lst ((x.seen 0).map V.int)) = H0 at *
  walk_at "go"
  refine ⟨p, x.seen 0, rfl, hp0, seen_len O (by decide) (by omega), fun H1 v1 S1 h1 => ?_⟩
  have S01 := S0.trans S1
  have F1 := F.grow S01
  have hd1 := S01 _ _ hd
  walk_at "go"
  refine ⟨d, 1, _, M, x, rfl, F1, DD.more grow_l, by decide, by omega, fun r nr => ?_⟩
  have S2 : Same H1 _ := same_upd (o := .lst ((x.seen 1).map V.int)) nr
  have hr0 : upd H1 r (.lst ((x.seen 1).map V.int)) r = _ := upd_same
  generalize upd H1 r (.lst ((x.seen 1).map V.int)) = H2 at *
  walk_at "go"
  refine ⟨r, x.seen 1, rfl, hr0, seen_len O (by decide) (by omega), fun H3 v3 S3 h3 => ?_⟩
  have S13 := S2.trans S3
  have S03 := S01.trans S13
  have h1' := h1.same ((dif_from S0).trans (dif_mono S13))
  have h3' := h3.same (dif_from (S01.trans S2))
  have hn : x.newest = newestOf (decOf (x.seen 0)) (decOf (x.seen 1)) := rfl
  walk_at "go"
  cases e0 : decOf (x.seen 0) with
  | none =>
    rw [e0] at h1' hn
    cases h1'
    walk_at "go"
    exact q H3 v3 S03 (by rw [hn]; exact h3')
  | some o =>
    obtain ⟨g, fr⟩ := o
    rw [e0] at h1' hn
    obtain ⟨t, f, rfl, ht, hf⟩ := id h1'
    have ht3 := dif_same _ _ ht
    walk_at "go"
    cases e1 : decOf (x.seen 1) with
    | none =>
      rw [e1] at h3' hn
      cases h3'
      walk_at "go"
      exact q H3 _ S03 (by rw [hn]; exact h1')
    | some o2 =>
      obtain ⟨g2, fr2⟩ := o2
      rw [e1] at h3' hn
      obtain ⟨t2, f2, rfl, ht2, hf2⟩ := id h3'
      have ht23 := dif_same _ _ ht2
      walk_at "go"
      rw [bitAnd_m8]
      refine i_iteD (fun c => ?_) fun c => ?_
      · walk_at "go"
        exact q H3 _ S03 (by rw [hn]; unfold newestOf; dsimp only; rw [if_pos c]; exact h3')
      · walk_at "go"
        exact q H3 _ S03 (by rw [hn]; unfold newestOf; dsimp only; rw [if_neg c]; exact h1')

def sp__law_cell (K : Frag) : Sp := fun vs H Q _ => ∃ (a : Addr) (k : Int) (ns : List Int), vs = [.ref a, .int k] ∧ SqL K H a (ns.map V.int) ∧ 0 ≤ k ∧ ∀ i, Q (.int i) H
abbrev N__law_cell : List Str := ["_law_script", "_law_k"]
def t__law_cell (K : Frag) (E : XK) : TS :=
  tSeq (tIfS (tTest (tOp cLt (tVar 1) (tCB (rLen K) (tCons (tVar 0) (tNil))))) (tRet (tOp (rIxL K) (tVar 0) (tVar 1))) (tNext)) (tRet (tC (.int 0)))

theorem ar__law_cell {K : Frag} : Ar 2 (sp__law_cell K) := fun _ _ _ _ ⟨_, _, _, e, _⟩ => by rw [e]; rfl
theorem pure__law_cell (K : Frag) (vs : List V) (H : Hp) (Q : VK) (E : XK) (h : sp__law_cell K vs H Q E) : t__law_cell K E (ends Q) (start N__law_cell vs) H := by
  obtain ⟨a, k, ns, rfl, hs, hk, q⟩ := h
  unfold t__law_cell
  walk_at "go"
  refine i_lenQ hs ?_
  walk_at "go"
  refine i_iteD (fun c => ?_) fun _ => ?_
  · walk_at "go"
    refine i_ixLq hs (atI_in hk c (.int 0)) ?_
    obtain ⟨n, rfl⟩ : ∃ n : Nat, k = n := ⟨k.toNat, by omega⟩
    rw [List.length_map] at c
    have hn : n < ns.length := by omega
    rw [show ((n : Int)).toNat = n from rfl, List.getD_eq_getElem?_getD, List.getElem?_map, List.getElem?_eq_getElem hn]
    exact q _
  · walk_at "go"
    exact q 0

def sp__law_digits (K : Frag) : Sp := fun vs H Q _ => ∃ (a : Addr) (f l : Int) (ns : List Int), vs = [.ref a, .int f, .int l] ∧ SqL K H a (ns.map V.int) ∧ 0 ≤ f ∧ f ≤ 10000 ∧ -10000 ≤ l ∧ l ≤ 10000 ∧
  ∀ H' p (ds : List Int), Same H H' → H p = none → H' p = some (.lst (ds.map V.int)) → ds.length ≤ 1000000 → Q (.ref p) H'
abbrev N__law_digits : List Str := ["_law_script", "_law_first", "_law_last", "_law_digits_here", "_law_k", "_law_cell_here", "_law_turn", "_law_seed"]
def t__law_digits (K : Frag) (E : XK) : TS :=
  tSeq (tAsg (tLst (tNil)) (gName 3)) (tSeq (tFor (iRng2 (tCons (tVar 1) (tCons (tVar 2) (tNil)))) (gName 4) (tSeq (tAsg (tCallS (sp__law_cell K) EF (tCons (tVar 0) (tCons (tVar 4) (tNil)))) (gName 5)) (tSeq (tIfS (tTest (tOp cLt (tVar 5) (tC (.int 0)))) (tAsg (tOp bSub (tC (.int 1)) (tOp bMul (tC (.int 2)) (tVar 5))) (gName 5)) (tNext)) (tIfS (tTest (tOp cGe (tVar 5) (tC (.int 1000000000000000000)))) (tFor (iRng1 (tCons (tC (.int 60)) (tNil))) (gName 6) (tIfS (tTest (tOp cGt (tVar 5) (tC (.int 0)))) (tSeq (tDrop (tBM K "list" rAppend (tVar 3) (tCons (tOp bMod (tCB kInt (tCons (tVar 5) (tNil))) (tC (.int 1000))) (tNil)))) (tAsg (tOp bDiv (tVar 5) (tC (.int 1000))) (gName 5))) (tNext))) (tSeq (tAsg (tOp bMod (tCB kInt (tCons (tOp bAdd (tOp bAdd (tOp bMul (tVar 5) (tC (.int 40692))) (tOp bMul (tVar 4) (tC (.int 52774)))) (tC (.int 17))) (tNil))) (tC (.int 2147483399))) (gName 7)) (tFor (iRng1 (tCons (tC (.int 12)) (tNil))) (gName 6) (tSeq (tAsg (tOp bMod (tCB kInt (tCons (tOp bAdd (tOp bAdd (tOp bMul (tVar 7) (tC (.int 40014))) (tOp bMul (tC (.int 5)) (tVar 6))) (tC (.int 3))) (tNil))) (tC (.int 2147483563))) (gName 7)) (tDrop (tBM K "list" rAppend (tVar 3) (tCons (tOp bMod (tCB kInt (tCons (tOp bDiv (tVar 7) (tC (.int 1009))) (tNil))) (tC (.int 1000))) (tNil))))))))))) (tRet (tVar 3)))

theorem ar__law_digits {K : Frag} : Ar 3 (sp__law_digits K) := fun _ _ _ _ ⟨_, _, _, _, e, _⟩ => by rw [e]; rfl
theorem pure__law_digits (K : Frag) (vs : List V) (H : Hp) (Q : VK) (E : XK) (h : sp__law_digits K vs H Q E) : t__law_digits K E (ends Q) (start N__law_digits vs) H := by
  obtain ⟨a, f, l, ns, rfl, hS, f0, f1, l0, l1, q⟩ := h
  unfold t__law_digits
  walk_at "go"
  intro p np
  walk_at "go"
  refine f_range (fun i σ H' => ∃ v4 v5 v6 v7, σ = [some (.ref a), some (.int f), some (.int l), some (.ref p), v4, v5, v6, v7] ∧ Same H H' ∧ ∃ ds : List Int, H' p = some (.lst (ds.map V.int)) ∧ ds.length ≤ 60 * i)
    ⟨none, none, none, none, rfl, same_upd np, [], upd_same, by simp⟩ ?_ ?_
  · rintro i σ H1 hi ⟨v4, v5, v6, v7, rfl, S1, ds, hp, hl⟩
    have hi2 : i ≤ 10000 := by omega
    walk_at "go"
    refine ⟨a, f + i, ns, rfl, S1.seq hS, by omega, fun c => ?_⟩
    walk_at "gos"
    all_goals first
      | refine f_range (n := (60 : Int).toNat) (fun j σ H' => ∃ u5 u6, σ = [some (.ref a), some (.int f), some (.int l), some (.ref p), some (.int (f + i)), some (.int u5), u6, v7] ∧ Same H H' ∧ ∃ ds : List Int, H' p = some (.lst (ds.map V.int)) ∧ ds.length ≤ 60 * i + j)
          ⟨_, _, rfl, S1, ds, hp, by omega⟩ ?_ ?_
        · rintro j σ H2 hj ⟨u5, u6, rfl, S2, es, he, le⟩
          have hj2 : j < 60 := hj
          walk_at "gos"
          · exact ⟨_, _, rfl, same_mut S2 np, es ++ [u5 % 1000], by rw [upd_same, List.map_append]; rfl, by rw [List.length_append]; show es.length + 1 ≤ _; omega⟩
          · exact ⟨_, _, rfl, S2, es, he, by omega⟩
        · rintro σ H2 ⟨u5, u6, rfl, S2, es, he, le⟩
          have le2 : es.length ≤ 60 * i + 60 := le
          walk_at "go"
          exact ⟨_, _, _, _, rfl, S2, es, he, by omega⟩
      | refine f_range (n := (12 : Int).toNat) (fun j σ H' => ∃ u6 u7 x5, σ = [some (.ref a), some (.int f), some (.int l), some (.ref p), some (.int (f + i)), x5, u6, some (.int u7)] ∧ Same H H' ∧ ∃ ds : List Int, H' p = some (.lst (ds.map V.int)) ∧ ds.length ≤ 60 * i + j)
          ⟨_, _, _, rfl, S1, ds, hp, by omega⟩ ?_ ?_
        · rintro j σ H2 hj ⟨u6, u7, x5, rfl, S2, es, he, le⟩
          have hj2 : j < 12 := hj
          walk_at "go"
          exact ⟨_, _, _, rfl, same_mut S2 np, es ++ [_], by rw [upd_same, List.map_append]; rfl, by rw [List.length_append]; show es.length + 1 ≤ _; omega⟩
        · rintro σ H2 ⟨u6, u7, x5, rfl, S2, es, he, le⟩
          have le2 : es.length ≤ 60 * i + 12 := le
          walk_at "go"
          exact ⟨_, _, _, _, rfl, S2, es, he, by omega⟩
  · rintro σ H1 ⟨v4, v5, v6, v7, rfl, S1, ds, hp, hl⟩
    walk_at "go"
    exact q H1 p ds S1 np hp (by omega)

--NEED rows pic fm box
def sp__law_shape (K : Frag) : Sp := fun vs H Q _ => ∃ (b dg : Addr) (k m pl sd : Int) (G M : Hp) (ns : List Int), vs = [.ref b, .int m, .int pl, .int sd] ∧ Fm G M H ∧ Bx G M H b dg ns k ∧ 1 ≤ m ∧ m ≤ 32 ∧ 1 ≤ pl ∧ pl ≤ 8 ∧ 1 ≤ sd ∧ sd ≤ 16 ∧
  ∀ H' p w h d c t k', Fm G M H' → Bx G M H' b dg ns k' → (∀ a o, a ≠ b → H a = some o → H' a = some o) → H p = none → H' p = some (.lst [.int w, .int h, .int d, .int c, .int t]) → Sz m w h d c t → d ≤ pl → t ≤ sd → Q (.ref p) H'
abbrev N__law_shape : List Str := ["_law_box", "_law_most", "_law_planes", "_law_side", "_law_width", "_law_height", "_law_depth", "_law_channels"]
def t__law_shape (K : Frag) (E : XK) : TS :=
  tSeq (tAsg (tOp bAdd (tC (.int 1)) (tCallS (sp__law_draw K) EF (tCons (tVar 0) (tCons (tVar 1) (tNil))))) (gName 4)) (tSeq (tAsg (tOp bAdd (tC (.int 1)) (tCallS (sp__law_draw K) EF (tCons (tVar 0) (tCons (tVar 1) (tNil))))) (gName 5)) (tSeq (tAsg (tOp bAdd (tC (.int 1)) (tCallS (sp__law_draw K) EF (tCons (tVar 0) (tCons (tVar 2) (tNil))))) (gName 6)) (tSeq (tAsg (tOp bAdd (tC (.int 1)) (tOp bMul (tC (.int 2)) (tCB kInt (tCons (tOp rEq (tCallS (sp__law_draw K) EF (tCons (tVar 0) (tCons (tC (.int 3)) (tNil)))) (tC (.int 0))) (tNil))))) (gName 7)) (tRet (tLst (tCons (tVar 4) (tCons (tVar 5) (tCons (tVar 6) (tCons (tVar 7) (tCons (tOp bAdd (tC (.int 1)) (tCallS (sp__law_draw K) EF (tCons (tVar 0) (tCons (tVar 3) (tNil))))) (tNil)))))))))))

theorem ar__law_shape {K : Frag} : Ar 4 (sp__law_shape K) := fun _ _ _ _ ⟨_, _, _, _, _, _, _, _, _, e, _⟩ => by rw [e]; rfl
theorem pure__law_shape (K : Frag) (vs : List V) (H : Hp) (Q : VK) (E : XK) (h : sp__law_shape K vs H Q E) : t__law_shape K E (ends Q) (start N__law_shape vs) H := by
  obtain ⟨b, dg, k, m, pl, sd, G, M, ns, rfl, F, B, m1, m2, p1, p2, s1, s2, q⟩ := h
  unfold t__law_shape
  walk_at "go"
  refine draw_ok F B (by omega) fun w H1 w0 w1 F1 B1 K1 Z1 => ?_
  walk_at "go"
  refine draw_ok F1 B1 (by omega) fun h H2 h0 h1 F2 B2 K2 Z2 => ?_
  walk_at "go"
  refine draw_ok F2 B2 (by omega) fun d H3 d0 d1 F3 B3 K3 Z3 => ?_
  walk_at "go"
  refine draw_ok F3 B3 (by omega) fun c H4 c0 c1 F4 B4 K4 Z4 => ?_
  walk_at "go"
  refine draw_ok F4 B4 (by omega) fun t H5 t0 t1 F5 B5 K5 Z5 => ?_
  have hc : 2 * (if decide (c = 0) = true then 1 else 0 : Int) = 0 ∨ 2 * (if decide (c = 0) = true then 1 else 0 : Int) = 2 := by
    by_cases e : c = 0
    · right; rw [if_pos (decide_eq_true e)]; rfl
    · left; rw [if_neg (by simpa using e)]; rfl
  generalize 2 * (if decide (c = 0) = true then 1 else 0 : Int) = c2 at *
  walk_at "go"
  intro p np
  have S := same_upd (o := .lst [.int (1 + w), .int (1 + h), .int (1 + d), .int (1 + c2), .int (1 + t)]) np
  refine q _ p (1 + w) (1 + h) (1 + d) (1 + c2) (1 + t) _ ⟨F5.gs.trans S, F5.ms.trans S, F5.dj⟩ ⟨B5.g, B5.m, S _ _ B5.h, B5.k0, B5.d⟩ (fun a o n e => S _ _ (K5 a o n (K4 a o n (K3 a o n (K2 a o n (K1 a o n e)))))) (Z1 _ (Z2 _ (Z3 _ (Z4 _ (Z5 _ np))))) upd_same ?_ (by omega) (by omega)
  have wh : (1 + w) * (1 + h) ≤ 32 * 32 := Int.mul_le_mul (by omega) (by omega) (by omega) (by omega)
  exact ⟨by omega, by omega, by omega, by omega, by omega, by omega, by omega, by omega, by omega, by
    rcases hc with e | e <;> rw [e] <;> omega⟩

--NEED fm disk
def sp_Disk_flush (K : Frag) : Sp := fun vs H Q _ => ∃ (d : Addr) (G M : Hp) (x : Dk), vs = [.ref d] ∧ Fm G M H ∧ DiskAt K G M d x ∧ x.left = none ∧ x.Ok ∧ ∀ G' M' H', Fm G' M' H' → Step G M H G' M' H' → DiskAt K G' M' d x.flushed → Q .non H'
abbrev N_Disk_flush : List Str := ["self", "at", "block"]
def t_Disk_flush (K : Frag) (E : XK) : TS :=
  tSeq (tDrop (tMe (He.ga K "Disk") "_spend" (sp_Disk__spend K) (WE (wE E)) (tVar 0) tNil)) (tSeq (tFor (iList K (tF (He.ga K "Disk") "_pending" (tVar 0))) (gTup K 2 (gCons (gName 1) (gCons (gName 2) (gNil)))) (tAsg (tVar 2) (gSub (tF (He.ga K "Disk") "_blocks" (tVar 0)) (tVar 1) rSetL))) (sF (He.ga K "Disk") "_pending" (tVar 0) (tLst (tNil))))

theorem ar_Disk_flush {K : Frag} : Ar 1 (sp_Disk_flush K) := fun _ _ _ _ ⟨_, _, _, _, e, _⟩ => by rw [e]; rfl
theorem pure_Disk_flush (K : Frag) (vs : List V) (H : Hp) (Q : VK) (E : XK) (h : sp_Disk_flush K vs H Q E) : t_Disk_flush K E (ends Q) (start N_Disk_flush vs) H := by
  obtain ⟨d, G, M, x, rfl, F, DD, hl, O, q⟩ := h
  obtain ⟨dx, bl, pl, tn, bads, pads, D⟩ := id DD
  obtain ⟨hd, hbl, hpl⟩ := D.see F.ms
  obtain ⟨l1, l2, l3, l4, l5⟩ := D.looks
  obtain ⟨m1, m2, m3, m4, m5, m6, m7, m8, _⟩ := D.meths
  have db := D.db
  have dp := D.dp
  have bp := D.bp
  unfold t_Disk_flush
  walk_at "go"
  refine ⟨d, G, M, x, rfl, F.ms, DD, hl, ?_⟩
  walk_at "go"
  refine f_list (xs := pads.map V.ref) (fun i σ H' => (∃ u v, σ = [some (.ref d), u, v]) ∧ ∃ cs M', Fm G M' H' ∧ Step G M H G M' H' ∧ M' d = M d ∧ M' pl = M pl ∧ M' bl = some (.lst (cs.map V.ref)) ∧ Lst2 (BlkAt G) cs (flushBs x.bs (x.pd.take i)))
    ⟨⟨none, none, rfl⟩, bads, M, F, Step.refl, rfl, rfl, D.fb, D.bs⟩ (fun i σ H' _ ⟨_, cs, M', F', _, _, e, _⟩ => SqL.of (F'.ms _ _ (e.trans D.fp))) ?_ ?_
  · rintro i z σ H' hz ⟨⟨u, v, rfl⟩, cs, M', F', S', e1, e2, e3, L⟩
    rw [List.getElem?_map] at hz
    cases e : pads[i]? with
    | none => rw [e] at hz; cases hz
    | some c =>
      rw [e] at hz; cases hz
      obtain ⟨y, hy, b, hc, hb⟩ := D.ps.get e
      have hc' := F'.gs _ _ hc
      have tk : x.pd.take (i + 1) = x.pd.take i ++ [y] := by rw [List.take_add_one, hy]; rfl
      have hd' := F'.ms _ _ (e1.trans D.fd)
      have hb' := F'.ms _ _ e3
      obtain ⟨o1, o2, o3⟩ := O.pd y (List.mem_of_getElem? hy)
      walk_at "go"
      refine i_setL hb' (ixN_nat o1 (by rw [List.length_map, L.len, flushBs_len]; exact o2)) ?_
      refine ⟨⟨_, _, rfl⟩, cs.set y.1.toNat b, upd M' bl (.lst ((cs.set y.1.toNat b).map V.ref)), ?_, ?_, ?_, ?_, ?_, ?_⟩
      · rw [show (cs.map V.ref).set y.1.toNat (V.ref b) = (cs.set y.1.toNat b).map V.ref from List.map_set.symm]
        exact F'.put e3
      · rw [show (cs.map V.ref).set y.1.toNat (V.ref b) = (cs.set y.1.toNat b).map V.ref from List.map_set.symm]
        exact Step.trans F' S' (Step.put e3)
      · rw [upd_ne db]; exact e1
      · rw [upd_ne (Ne.symm bp)]; exact e2
      · exact upd_same
      · rw [tk]
        unfold flushBs
        rw [List.foldl_append, List.foldl_cons, List.foldl_nil]
        exact L.set hb _
  · rintro σ H' ⟨⟨u, v, rfl⟩, cs, M', F', S', e1, e2, e3, L⟩
    rw [List.take_of_length_le (by rw [List.length_map, D.ps.len]; omega)] at L
    have hd' := F'.ms _ _ (e1.trans D.fd)
    walk_at "go"
    intro p hp
    have ndp : d ≠ p := ne_of_none hd' hp
    have F1 := F'.newM (o := .lst []) hp
    have S1 := Step.newM (G := G) (M := M') (o := .lst []) hp
    have hd2 : upd M' p (.lst []) d = _ := (upd_ne ndp).trans (e1.trans D.fd)
    have hd3 := F1.ms _ _ hd2
    have hlen : (fsDisk bl pl tn x.cuts (optV x.left)).length < 1000 := fsDisk_len
    walk_at "go"
    rw [fsDisk_putP]
    have nbp : bl ≠ p := ne_of_none (F'.ms _ _ e3) hp
    refine q _ _ _ (F1.put hd2) (Step.trans F1 (Step.trans F' S' S1) (Step.put hd2)) ⟨dx, bl, p, tn, cs, [], upd_same, ?_, ?_, D.ft, db, ndp, nbp, L, .nil⟩
    · rw [upd_ne (Ne.symm db), upd_ne nbp]; exact e3
    · rw [upd_ne (Ne.symm ndp), upd_same]; rfl

/-! == of nested data -/
theorem eqv_all_map {α : Type} [DecidableEq α] {f : α → PyData} (h : ∀ a b, PyData.eqv (f a) (f b) = decide (a = b)) : ∀ xs ys : List α, PyData.eqvAll (xs.map f) (ys.map f) = decide (xs = ys)
  | [], [] => rfl
  | [], _ :: _ => rfl
  | _ :: _, [] => rfl
  | x :: xs, y :: ys => by
    show (PyData.eqv (f x) (f y) && PyData.eqvAll (xs.map f) (ys.map f)) = _
    rw [h, eqv_all_map h xs ys]
    by_cases e : x = y <;> by_cases e2 : xs = ys <;> simp [e, e2]
def dN (ns : List Int) : PyData := .list (ns.map .int)
def dR (rows : List (List Int)) : PyData := .list (rows.map dN)
theorem eqv_dN (a b : List Int) : PyData.eqv (dN a) (dN b) = decide (a = b) := eqv_all_map (f := PyData.int) (fun i j => by
  show (i == j) = _
  by_cases e : i = j <;> simp [e]) a b
theorem eqv_dR (a b : List (List Int)) : PyData.eqv (dR a) (dR b) = decide (a = b) := eqv_all_map (f := dN) eqv_dN a b
theorem shaped_of {d : PyData} (h : d.canLay0 = true) (hd : d.depth ≤ 64) : SeqAt.shaped d = true := by unfold SeqAt.shaped; rw [h, decide_eq_true hd]; rfl
theorem lay_all_map {α : Type} {f : α → PyData} : ∀ xs : List α, (∀ a ∈ xs, (f a).canLay0 = true) → PyData.canLayAll0 (xs.map f) = true
  | [], _ => rfl
  | x :: xs, h => by
    show ((f x).canLay0 && PyData.canLayAll0 (xs.map f)) = true
    rw [h x List.mem_cons_self, lay_all_map xs fun a ha => h a (List.mem_cons_of_mem _ ha)]; rfl
theorem depth_all_map {α : Type} {f : α → PyData} {n : Nat} : ∀ xs : List α, (∀ a ∈ xs, (f a).depth ≤ n) → PyData.depthAll (xs.map f) ≤ n
  | [], _ => Nat.zero_le _
  | x :: xs, h => by
    show max (f x).depth (PyData.depthAll (xs.map f)) ≤ n
    exact Nat.max_le.mpr ⟨h x List.mem_cons_self, depth_all_map xs fun a ha => h a (List.mem_cons_of_mem _ ha)⟩
theorem dN_lay (ns : List Int) : (dN ns).canLay0 = true := lay_all_map ns fun _ _ => rfl
theorem dN_depth (ns : List Int) : (dN ns).depth ≤ 1 := Nat.succ_le_succ (depth_all_map ns fun _ _ => Nat.le_refl _)
theorem dR_lay (rows : List (List Int)) : (dR rows).canLay0 = true := lay_all_map rows fun a _ => dN_lay a
theorem dR_depth (rows : List (List Int)) : (dR rows).depth ≤ 2 := Nat.succ_le_succ (depth_all_map rows fun a _ => dN_depth a)
theorem dp_ints {K : Frag} {H : Hp} : ∀ ns : List Int, DpAll K H (ns.map V.int) (ns.map .int)
  | [] => .nil
  | n :: ns => .cons (.int n) (dp_ints ns)
theorem dp_N {K : Frag} {H : Hp} {p : Addr} {ns : List Int} (h : H p = some (.lst (ns.map V.int))) : Dp K H (.ref p) (dN ns) := .lst (SqL.of h) (dp_ints ns)
theorem dp_rows {K : Frag} {H : Hp} : ∀ {ads : List Addr} {rows : List (List Int)}, ads.length = rows.length → (∀ (i : Nat) (a : Addr) (r : List Int), ads[i]? = some a → rows[i]? = some r → H a = some (.lst (r.map V.int))) → DpAll K H (ads.map V.ref) (rows.map dN)
  | [], [], _, _ => .nil
  | [], _ :: _, h, _ => nomatch h
  | _ :: _, [], h, _ => nomatch h
  | a :: ads, r :: rows, h, k => .cons (dp_N (k 0 a r rfl rfl)) (dp_rows (Nat.succ.inj h) fun i a r h1 h2 => k (i + 1) a r h1 h2)
theorem dp_R {K : Frag} {H : Hp} {p : Addr} {ads : List Addr} {rows : List (List Int)} (R : Rows H p ads rows) : Dp K H (.ref p) (dR rows) := .lst (SqL.of R.top) (dp_rows R.len R.row)
section
variable {K : Frag} {H : Hp} {Q : VK} {p q : Addr} {x y : V}
theorem i_eqD {d e : PyData} {b : Bool} (hd : Dp K H x d) (he : Dp K H y e) (sd : SeqAt.shaped d = true) (se : SeqAt.shaped e = true) (hb : PyData.eqv d e = b) (z : Q (.bl b) H) : rEqD K x y H Q := ⟨d, e, hd, he, sd, se, by rw [hb]; exact z⟩
theorem i_neD {d e : PyData} {b : Bool} (hd : Dp K H x d) (he : Dp K H y e) (sd : SeqAt.shaped d = true) (se : SeqAt.shaped e = true) (hb : PyData.eqv d e = b) (z : Q (.bl (!b)) H) : rNeD K x y H Q := ⟨d, e, hd, he, sd, se, by rw [hb]; exact z⟩
theorem shaped_N (ns : List Int) : SeqAt.shaped (dN ns) = true := shaped_of (dN_lay ns) (Nat.le_trans (dN_depth ns) (by decide))
theorem shaped_R (rows : List (List Int)) : SeqAt.shaped (dR rows) = true := shaped_of (dR_lay rows) (Nat.le_trans (dR_depth rows) (by decide))
theorem i_eqN {a b : List Int} (h1 : H p = some (.lst (a.map V.int))) (h2 : H q = some (.lst (b.map V.int))) (z : Q (.bl (decide (a = b))) H) : rEqD K (.ref p) (.ref q) H Q := i_eqD (dp_N h1) (dp_N h2) (shaped_N a) (shaped_N b) (eqv_dN a b) z
theorem i_neN {a b : List Int} (h1 : H p = some (.lst (a.map V.int))) (h2 : H q = some (.lst (b.map V.int))) (z : Q (.bl (!decide (a = b))) H) : rNeD K (.ref p) (.ref q) H Q := i_neD (dp_N h1) (dp_N h2) (shaped_N a) (shaped_N b) (eqv_dN a b) z
theorem i_eqR {ds es : List Addr} {a b : List (List Int)} (h1 : Rows H p ds a) (h2 : Rows H q es b) (z : Q (.bl (decide (a = b))) H) : rEqD K (.ref p) (.ref q) H Q := i_eqD (dp_R h1) (dp_R h2) (shaped_R a) (shaped_R b) (eqv_dR a b) z
theorem i_neR {ds es : List Addr} {a b : List (List Int)} (h1 : Rows H p ds a) (h2 : Rows H q es b) (z : Q (.bl (!decide (a = b))) H) : rNeD K (.ref p) (.ref q) H Q := i_neD (dp_R h1) (dp_R h2) (shaped_R a) (shaped_R b) (eqv_dR a b) z
end

--NEED rows pic deq frame fm
--FACTS c_Frame ins_Frame kit_Frame_Frame
def sp__law_same (K : Frag) : Sp := fun vs H Q _ => ∃ (f s : Addr) (x y : Fr), vs = [.ref f, .ref s] ∧ FrameAt K H f x ∧ H s = some (.lst [.int y.w, .int y.h, .int y.d, .int y.c, .int y.t]) ∧ ∀ H', Same H H' → Q (.bl (decide ([x.w, x.h, x.d, x.c, x.t] = [y.w, y.h, y.d, y.c, y.t]))) H'
abbrev N__law_same : List Str := ["_law_frame_here", "_law_shape_here"]
def t__law_same (K : Frag) (E : XK) : TS :=
  tSeq (tIfS (tNot (tB (tCB (rIsi K) (tCons (tVar 0) (tCons (tC (.ref (He.ga K "Frame"))) (tNil)))))) (tRet (tC (.bl false))) (tNext)) (tRet (tOp (rEqD K) (tLst (tCons (tF (He.ga K "Frame") "width" (tVar 0)) (tCons (tF (He.ga K "Frame") "height" (tVar 0)) (tCons (tF (He.ga K "Frame") "depth" (tVar 0)) (tCons (tF (He.ga K "Frame") "channels" (tVar 0)) (tCons (tF (He.ga K "Frame") "tile" (tVar 0)) (tNil))))))) (tVar 1)))

theorem ar__law_same {K : Frag} : Ar 2 (sp__law_same K) := fun _ _ _ _ ⟨_, _, _, _, e, _⟩ => by rw [e]; rfl
theorem pure__law_same (K : Frag) (hc : Cls K (He.ga K "Frame")) (hi : InsC K (He.ga K "Frame")) (hkit : PySem.W.kitOne K (.ref (He.ga K "Frame")) (.ref (He.ga K "Frame")) = some true)
    (vs : List V) (H : Hp) (Q : VK) (E : XK) (h : sp__law_same K vs H Q E) : t__law_same K E (ends Q) (start N__law_same vs) H := by
  obtain ⟨f, s, ⟨w, h, d, c, t⟩, ⟨w2, h2, d2, c2, t2⟩, rfl, ⟨dx, hf⟩, hs, q⟩ := h
  have l1 : (fsFrame w h d c t).lookup ("width" : Str) = some (.int w) := fsFrame_width
  have l2 : (fsFrame w h d c t).lookup ("height" : Str) = some (.int h) := fsFrame_height
  have l3 : (fsFrame w h d c t).lookup ("depth" : Str) = some (.int d) := fsFrame_depth
  have l4 : (fsFrame w h d c t).lookup ("channels" : Str) = some (.int c) := fsFrame_channels
  have l5 : (fsFrame w h d c t).lookup ("tile" : Str) = some (.int t) := fsFrame_tile
  unfold t__law_same
  walk_at "go"
  refine isi_ins hf hc hi hkit ?_
  walk_at "go"
  intro p np
  have S := same_upd (o := .lst [.int w, .int h, .int d, .int c, .int t]) np
  walk_at "go"
  exact i_eqN (a := [w, h, d, c, t]) (b := [w2, h2, d2, c2, t2]) upd_same (S _ _ hs) (q _ S)

--NEED fm disk
def sp_Disk_size (K : Frag) : Sp := fun vs H Q _ => ∃ (d : Addr) (G M : Hp) (x : Dk), vs = [.ref d] ∧ Same M H ∧ DiskAt K G M d x ∧ Q (.int x.bs.length) H
abbrev N_Disk_size : List Str := ["self"]
def t_Disk_size (K : Frag) (E : XK) : TS :=
  tRet (tCB (rLen K) (tCons (tF (He.ga K "Disk") "_blocks" (tVar 0)) (tNil)))

theorem ar_Disk_size {K : Frag} : Ar 1 (sp_Disk_size K) := fun _ _ _ _ ⟨_, _, _, _, e, _⟩ => by rw [e]; rfl
theorem pure_Disk_size (K : Frag) (vs : List V) (H : Hp) (Q : VK) (E : XK) (h : sp_Disk_size K vs H Q E) : t_Disk_size K E (ends Q) (start N_Disk_size vs) H := by
  obtain ⟨d, G, M, x, rfl, ms, ⟨dx, bl, pl, tn, bads, pads, D⟩, q⟩ := h
  obtain ⟨hd, hb, hp⟩ := D.see ms
  obtain ⟨l1, l2, l3, l4, l5⟩ := D.looks
  have lb := D.blen
  unfold t_Disk_size
  walk_at "go"
  rw [lb]
  exact q

--NEED fm disk
def sp_area_size (K : Frag) : Sp := fun vs H Q _ => ∃ (d : Addr) (G M : Hp) (x : Dk), vs = [.ref d] ∧ Same M H ∧ DiskAt K G M d x ∧ Q (.int (((x.bs.length : Int) - 2) / 2)) H
abbrev N_area_size : List Str := ["disk"]
def t_area_size (K : Frag) (E : XK) : TS :=
  tRet (tOp bDiv (tOp bSub (tMe (He.ga K "Disk") "size" (sp_Disk_size K) EF (tVar 0) tNil) (tC (.int 2))) (tC (.int 2)))

theorem ar_area_size {K : Frag} : Ar 1 (sp_area_size K) := fun _ _ _ _ ⟨_, _, _, _, e, _⟩ => by rw [e]; rfl
theorem pure_area_size (K : Frag) (vs : List V) (H : Hp) (Q : VK) (E : XK) (h : sp_area_size K vs H Q E) : t_area_size K E (ends Q) (start N_area_size vs) H := by
  obtain ⟨d, G, M, x, rfl, ms, DD, q⟩ := h
  obtain ⟨dx, bl, pl, tn, bads, pads, D⟩ := id DD
  obtain ⟨hd, hbl, hpl⟩ := D.see ms
  obtain ⟨m1, _⟩ := D.meths
  unfold t_area_size
  walk_at "go"
  refine ⟨d, G, M, x, rfl, ms, DD, ?_⟩
  walk_at "go"
  exact q

--NEED fm disk
def sp_area_start (K : Frag) : Sp := fun vs H Q _ => ∃ (d : Addr) (a : Int) (G M : Hp) (x : Dk), vs = [.ref d, .int a] ∧ Same M H ∧ DiskAt K G M d x ∧ (a = 0 ∨ a = 1) ∧ Q (.int (2 + a * (((x.bs.length : Int) - 2) / 2))) H
abbrev N_area_start : List Str := ["disk", "area"]
def t_area_start (K : Frag) (E : XK) : TS :=
  tRet (tOp bAdd (tC (.int 2)) (tOp bMul (tVar 1) (tCallS (sp_area_size K) EF (tCons (tVar 0) (tNil)))))

theorem ar_area_start {K : Frag} : Ar 2 (sp_area_start K) := fun _ _ _ _ ⟨_, _, _, _, _, e, _⟩ => by rw [e]; rfl
theorem pure_area_start (K : Frag) (vs : List V) (H : Hp) (Q : VK) (E : XK) (h : sp_area_start K vs H Q E) : t_area_start K E (ends Q) (start N_area_start vs) H := by
  obtain ⟨d, a, G, M, x, rfl, ms, DD, h0, q⟩ := h
  unfold t_area_start
  walk_at "go"
  refine ⟨d, G, M, x, rfl, ms, DD, ?_⟩
  walk_at "go"
  exact q

/-! keepers and what has arrived -/
def fsArr (f D : Addr) : List (Str × V) := putF "_texts" (.ref D) (putF "frame" (.ref f) [])
def fsKeep (d f a : Addr) (g u c : Int) : List (Str × V) := putF "_cuts" (.int c) (putF "_used" (.int u) (putF "_arrived" (.ref a) (putF "_generation" (.int g) (putF "_disk" (.ref d) (putF "frame" (.ref f) [])))))
theorem fsArr_frame {f D : Addr} : (fsArr f D).lookup ("frame" : Str) = some (.ref f) := by kernel_rfl
theorem fsArr_texts {f D : Addr} : (fsArr f D).lookup ("_texts" : Str) = some (.ref D) := by kernel_rfl
theorem fsKeep_frame {d f a : Addr} {g u c : Int} : (fsKeep d f a g u c).lookup ("frame" : Str) = some (.ref f) := by kernel_rfl
theorem upd_comm {H : Hp} {a b : Addr} {o u : HO} (n : a ≠ b) : upd (upd H a o) b u = upd (upd H b u) a o := by
  funext x
  by_cases h1 : x = a
  · subst h1; rw [upd_ne n, upd_same, upd_same]
  · by_cases h2 : x = b
    · subst h2; rw [upd_same, upd_ne h1, upd_same]
    · rw [upd_ne h2, upd_ne h1, upd_ne h1, upd_ne h2]

--NEED fm keep
def sp_Arrived_init (K : Frag) : Sp := fun vs H Q _ => ∃ (a f dx : Addr), vs = [.ref a, .ref f] ∧ H a = some (.ins (He.ga K "Arrived") dx []) ∧ ∀ D, H D = none → Q .non (upd (upd H D (.dT [])) a (.ins (He.ga K "Arrived") dx (fsArr f D)))
abbrev N_Arrived_init : List Str := ["self", "frame"]
def t_Arrived_init (K : Frag) (E : XK) : TS :=
  tSeq (sF (He.ga K "Arrived") "frame" (tVar 0) (tVar 1)) (sF (He.ga K "Arrived") "_texts" (tVar 0) (tDNewT))

theorem ar_Arrived_init {K : Frag} : Ar 2 (sp_Arrived_init K) := fun _ _ _ _ ⟨_, _, _, e, _⟩ => by rw [e]; rfl
theorem pure_Arrived_init (K : Frag) (vs : List V) (H : Hp) (Q : VK) (E : XK) (h : sp_Arrived_init K vs H Q E) : t_Arrived_init K E (ends Q) (start N_Arrived_init vs) H := by
  obtain ⟨a, f, dx, rfl, ha, q⟩ := h
  unfold t_Arrived_init
  walk_at "go"
  intro D nD
  have ne : a ≠ D := fun e => by rw [← e, upd_same] at nD; cases nD
  rw [upd_ne (Ne.symm ne)] at nD
  walk_at "go"
  rw [upd_comm ne, upd_upd]
  exact q D nD

--NEED fm disk
def clearDk (x : Dk) (f : Int) : Nat → Dk
  | 0 => x
  | n + 1 => (clearDk x f n).wrote (f + n) (List.replicate 32 0)
theorem clearDk_bs (x : Dk) (f : Int) (n : Nat) : (clearDk x f n).bs = x.bs := by
  induction n with
  | zero => rfl
  | succ n ih => exact ih
theorem clearDk_left (x : Dk) (f : Int) (n : Nat) : (clearDk x f n).left = x.left := by
  induction n with
  | zero => rfl
  | succ n ih => exact ih
theorem clearDk_pd (x : Dk) (f : Int) (n : Nat) : (clearDk x f n).pd.length = x.pd.length + n := by
  induction n with
  | zero => rfl
  | succ n ih =>
    show ((clearDk x f n).pd ++ [_]).length = _
    rw [List.length_append, ih]; rfl
theorem clearDk_ok {x : Dk} {f : Int} {n : Nat} (O : x.Ok) (h0 : 0 ≤ f) (h1 : f + n ≤ x.bs.length) : (clearDk x f n).Ok := by
  induction n with
  | zero => exact O
  | succ n ih => exact (ih (by omega)).wrote (by omega) (by rw [clearDk_bs]; omega) rfl
theorem clearDk_seen (x : Dk) (f : Int) (n : Nat) (b : Int) : (clearDk x f n).seen b = if f ≤ b ∧ b < f + n then List.replicate 32 0 else x.seen b := by
  induction n with
  | zero => rw [if_neg (by omega)]; rfl
  | succ n ih =>
    show ((clearDk x f n).wrote (f + n) (List.replicate 32 0)).seen b = _
    rw [seen_wrote, ih]
    by_cases e : f + (n : Int) = b
    · rw [if_pos e, if_pos (by omega)]
    · rw [if_neg e]
      by_cases c : f ≤ b ∧ b < f + n
      · rw [if_pos c, if_pos (by omega)]
      · rw [if_neg c, if_neg (by omega)]
def sp__clear (K : Frag) : Sp := fun vs H Q _ => ∃ (d : Addr) (f c : Int) (G M : Hp) (x : Dk), vs = [.ref d, .int f, .int c] ∧ Fm G M H ∧ DiskAt K G M d x ∧ x.left = none ∧ x.Ok ∧ 0 ≤ f ∧ 0 ≤ c ∧ f + c ≤ x.bs.length ∧ x.pd.length < 10000 ∧
  ∀ G' M' H', Fm G' M' H' → Step G M H G' M' H' → DiskAt K G' M' d (clearDk x f c.toNat) → Q .non H'
abbrev N__clear : List Str := ["disk", "first", "count", "at"]
def t__clear (K : Frag) (E : XK) : TS :=
  tFor (iRng2 (tCons (tVar 1) (tCons (tOp bAdd (tVar 1) (tVar 2)) (tNil)))) (gName 3) (tDrop (tMe (He.ga K "Disk") "write" (sp_Disk_write K) (WE (wE E)) (tVar 0) (tCons (tVar 3) (tCons (tOp rRep (tLst (tCons (tC (.int 0)) (tNil))) (tC (.int 32))) (tNil)))))

theorem ar__clear {K : Frag} : Ar 3 (sp__clear K) := fun _ _ _ _ ⟨_, _, _, _, _, _, e, _⟩ => by rw [e]; rfl
theorem pure__clear (K : Frag) (vs : List V) (H : Hp) (Q : VK) (E : XK) (h : sp__clear K vs H Q E) : t__clear K E (ends Q) (start N__clear vs) H := by
  obtain ⟨d, f, c, G, M, x, rfl, F, DD, hl, O, f0, c0, hfc, hp, q⟩ := h
  have b2 := O.b2
  unfold t__clear
  walk_at "go"
  rw [show (f + c - f).toNat = c.toNat from by congr 1; omega]
  refine f_range (fun i σ H' => (∃ v, σ = [some (.ref d), some (.int f), some (.int c), v]) ∧ ∃ G' M', Fm G' M' H' ∧ Step G M H G' M' H' ∧ DiskAt K G' M' d (clearDk x f i))
    ⟨⟨none, rfl⟩, G, M, F, Step.refl, DD⟩ ?_ ?_
  · rintro i σ H' hi ⟨⟨v, rfl⟩, G', M', F', S', D'⟩
    have hi' : (i : Int) < c := by omega
    obtain ⟨dx, bl, pl, tn, hd⟩ := D'.see F'.ms
    obtain ⟨_, _, _, _, _, _, DM⟩ := id D'
    obtain ⟨m1, m2, m3, m4, m5, m6, m7, m8, _⟩ := DM.meths
    have hd' := F'.ms _ _ DM.fd
    walk_at "go"
    intro l nl
    have hl1 : (upd H' l (.lst [.int 0])) l = some (.lst [.int 0]) := upd_same
    walk_at "go"
    intro p np
    have F1 := F'.newG (o := .lst [.int 0]) nl
    have F2 := F1.newG (o := .lst ((List.replicate 32 (0 : Int)).map V.int)) np
    have S1 := Step.newG (o := .lst [.int 0]) F' nl
    have S2 := Step.newG (o := .lst ((List.replicate 32 (0 : Int)).map V.int)) F1 np
    refine ⟨d, p, f + i, _, _, clearDk x f i, List.replicate 32 0, rfl, F2, D'.more (S1.gg.trans S2.gg), by rw [clearDk_left]; exact hl, by omega, by rw [clearDk_bs]; omega, by rw [clearDk_pd]; omega, upd_same, rfl, fun z hz => by
      rw [List.eq_of_mem_replicate hz]; decide, fun G3 M3 H3 F3 S3 D3 => ?_⟩
    exact ⟨⟨_, rfl⟩, G3, M3, F3, Step.trans F' S' (Step.trans F1 S1 (Step.trans F2 S2 S3)), D3⟩
  · rintro σ H' ⟨⟨v, rfl⟩, G', M', F', S', D'⟩
    exact q _ _ _ F' S' D'

--NEED fm disk
def sp_Disk_cut_count (K : Frag) : Sp := fun vs H Q _ => ∃ (d : Addr) (G M : Hp) (x : Dk), vs = [.ref d] ∧ Same M H ∧ DiskAt K G M d x ∧ Q (.int x.cuts) H
abbrev N_Disk_cut_count : List Str := ["self"]
def t_Disk_cut_count (K : Frag) (E : XK) : TS :=
  tRet (tF (He.ga K "Disk") "_cuts" (tVar 0))

theorem ar_Disk_cut_count {K : Frag} : Ar 1 (sp_Disk_cut_count K) := fun _ _ _ _ ⟨_, _, _, _, e, _⟩ => by rw [e]; rfl
theorem pure_Disk_cut_count (K : Frag) (vs : List V) (H : Hp) (Q : VK) (E : XK) (h : sp_Disk_cut_count K vs H Q E) : t_Disk_cut_count K E (ends Q) (start N_Disk_cut_count vs) H := by
  obtain ⟨d, G, M, x, rfl, ms, ⟨dx, bl, pl, tn, bads, pads, D⟩, q⟩ := h
  obtain ⟨hd, hb, hp⟩ := D.see ms
  obtain ⟨l1, l2, l3, l4, l5⟩ := D.looks
  unfold t_Disk_cut_count
  walk_at "go"
  exact q

--NEED fm disk keep
def sp_Keeper_init (K : Frag) : Sp := fun vs H Q _ => ∃ (k d f a dx : Addr) (g u : Int) (G M : Hp) (x : Dk), vs = [.ref k, .ref d, .ref f, .int g, .ref a, .int u] ∧ H k = some (.ins (He.ga K "Keeper") dx []) ∧ Same M H ∧ M k = none ∧ DiskAt K G M d x ∧
  Q .non (upd H k (.ins (He.ga K "Keeper") dx (fsKeep d f a g u x.cuts)))
abbrev N_Keeper_init : List Str := ["self", "disk", "frame", "generation", "arrived", "used"]
def t_Keeper_init (K : Frag) (E : XK) : TS :=
  tSeq (sF (He.ga K "Keeper") "frame" (tVar 0) (tVar 2)) (tSeq (sF (He.ga K "Keeper") "_disk" (tVar 0) (tVar 1)) (tSeq (sF (He.ga K "Keeper") "_generation" (tVar 0) (tVar 3)) (tSeq (sF (He.ga K "Keeper") "_arrived" (tVar 0) (tVar 4)) (tSeq (sF (He.ga K "Keeper") "_used" (tVar 0) (tVar 5)) (sF (He.ga K "Keeper") "_cuts" (tVar 0) (tMe (He.ga K "Disk") "cut_count" (sp_Disk_cut_count K) EF (tVar 1) tNil))))))

theorem ar_Keeper_init {K : Frag} : Ar 6 (sp_Keeper_init K) := fun _ _ _ _ ⟨_, _, _, _, _, _, _, _, _, _, e, _⟩ => by rw [e]; rfl
theorem pure_Keeper_init (K : Frag) (vs : List V) (H : Hp) (Q : VK) (E : XK) (h : sp_Keeper_init K vs H Q E) : t_Keeper_init K E (ends Q) (start N_Keeper_init vs) H := by
  obtain ⟨k, d, f, a, dx, g, u, G, M, x, rfl, hk, ms, mk, DD, q⟩ := h
  obtain ⟨dy, bl, pl, tn, bads, pads, D⟩ := id DD
  obtain ⟨hd, hb, hp⟩ := D.see ms
  obtain ⟨m1, m2, m3, m4, m5, m6, m7, m8, _⟩ := D.meths
  have ne : d ≠ k := ne_of_none D.fd mk
  unfold t_Keeper_init
  walk_at "go"
  rw [upd_upd, upd_upd, upd_upd, upd_upd]
  refine ⟨d, G, M, x, rfl, same_mut ms mk, DD, ?_⟩
  walk_at "go"
  rw [upd_upd]
  exact q

def sp_unpack (K : Frag) : Sp := fun _ _ _ _ => False


def sp_decode_record (K : Frag) : Sp := fun vs H Q _ => ∃ (p : Addr) (ns : List Int), vs = [.ref p] ∧ H p = some (.lst (ns.map V.int)) ∧ ns.length = 32 ∧ ns.getD 0 0 ≠ 75 ∧ Q .non H
abbrev N_decode_record : List Str := ["block", "digits"]
def t_decode_record (K : Frag) (E : XK) : TS :=
  tSeq (tIfS (tOr (tTest (tOp rNe (tOp (rIxL K) (tVar 0) (tC (.int 0))) (tC (.int 75)))) (tOr (tTest (tOp rNe (tOp (rIxL K) (tVar 0) (tC (.int 31))) (tC (.int 75)))) (tNot (tTest (tChain cLe cLe (tC (.int 1)) (tOp (rIxL K) (tVar 0) (tC (.int 5))) (tC (.int 160))))))) (tRet (tC .non)) (tNext)) (tSeq (tAsg (tCallS (sp_unpack K) EF (tCons (tSl (rSlL K) (tVar 0) (tPart (tC (.int 6))) (tPart (tOp bAdd (tC (.int 6)) (tC (.int 20))))) (tCons (tOp (rIxL K) (tVar 0) (tC (.int 5))) (tNil)))) (gName 1)) (tRet (tTup (tCons (tOp bAdd (tOp bMul (tOp (rIxL K) (tVar 0) (tC (.int 1))) (tC (.int 256))) (tOp (rIxL K) (tVar 0) (tC (.int 2)))) (tCons (tOp bAdd (tOp bMul (tOp (rIxL K) (tVar 0) (tC (.int 3))) (tC (.int 256))) (tOp (rIxL K) (tVar 0) (tC (.int 4)))) (tCons (tVar 1) (tNil)))))))

theorem ar_decode_record {K : Frag} : Ar 1 (sp_decode_record K) := fun _ _ _ _ ⟨_, _, e, _⟩ => by rw [e]; rfl
theorem pure_decode_record (K : Frag) (vs : List V) (H : Hp) (Q : VK) (E : XK) (h : sp_decode_record K vs H Q E) : t_decode_record K E (ends Q) (start N_decode_record vs) H := by
  obtain ⟨p, ns, rfl, hp, hl, c, q⟩ := h
  have c' : ¬ ns.getD (0 : Int).toNat 0 = 75 := c
  unfold t_decode_record
  walk_at "go"
  exact q

def sp_Frame_packets (K : Frag) : Sp := fun _ _ _ _ => False


def sp_Arrived_accept (K : Frag) : Sp := fun _ _ _ _ => False


def sp_key_at (K : Frag) : Sp := fun _ _ _ _ => False


def sp__accepted (K : Frag) : Sp := fun vs H Q _ => ∃ (a p : Addr) (ns : List Int), vs = [.ref a, .ref p] ∧ H p = some (.lst (ns.map V.int)) ∧ ns.length = 32 ∧ ns.getD 0 0 ≠ 75 ∧ Q (.bl false) H
abbrev N__accepted : List Str := ["arrived", "block", "record", "number", "start", "digits"]
def t__accepted (K : Frag) (E : XK) : TS :=
  tSeq (tAsg (tCallS (sp_decode_record K) EF (tCons (tVar 1) (tNil))) (gName 2)) (tSeq (tIfS (tTest (tOp cIsN (tVar 2) (tC .non))) (tRet (tC (.bl false))) (tNext)) (tSeq (tAsg (tVar 2) (gTup K 3 (gCons (gName 3) (gCons (gName 4) (gCons (gName 5) (gNil)))))) (tSeq (tIfS (tTest (tOp cGe (tVar 3) (tMe (He.ga K "Frame") "packets" (sp_Frame_packets K) EF (tF (He.ga K "Arrived") "frame" (tVar 0)) tNil))) (tRet (tC (.bl false))) (tNext)) (tSeq (tTryOnly K (He.ga K "PictureError") (fun W => tDrop (tMe (He.ga K "Arrived") "accept" (sp_Arrived_accept K) (WE W) (tVar 0) (tCons (tCallS (sp_key_at K) EF (tCons (tF (He.ga K "Arrived") "frame" (tVar 0)) (tCons (tVar 3) (tNil)))) (tCons (tVar 4) (tCons (tVar 5) (tNil)))))) (fun a cls d => tRet (tC (.bl false))) (wE E)) (tRet (tC (.bl true)))))))

theorem ar__accepted {K : Frag} : Ar 2 (sp__accepted K) := fun _ _ _ _ ⟨_, _, _, e, _⟩ => by rw [e]; rfl
theorem pure__accepted (K : Frag) (vs : List V) (H : Hp) (Q : VK) (E : XK) (h : sp__accepted K vs H Q E) : t__accepted K E (ends Q) (start N__accepted vs) H := by
  obtain ⟨a, p, ns, rfl, hp, hl, c, q⟩ := h
  unfold t__accepted
  walk_at "go"
  refine ⟨p, ns, rfl, hp, hl, c, ?_⟩
  walk_at "go"
  exact q

--NEED rows pic frame fm disk hdr keep
def sp_open_keeper (K : Frag) : Sp := fun vs H Q E => ∃ (d : Addr) (G M : Hp) (x : Dk), vs = [.ref d] ∧ Fm G M H ∧ DiskAt K G M d x ∧ x.Ok ∧ x.left = none ∧ x.pd.length < 1000 ∧ (∀ b : Int, 2 ≤ b → b < x.bs.length → (x.seen b).getD 0 0 ≠ 75) ∧
  (x.newest = none → ∀ H', Same H H' → E (.ref (He.ga K "NotKept")) none H') ∧
  (∀ g fr, x.newest = some (g, fr) → ∀ H' G' k dx f a u c, Same G G' → Same G' H' → H' k = some (.ins (He.ga K "Keeper") dx (fsKeep d f a g u c)) → FrameAt K G' f fr → Q (.ref k) H')
abbrev N_open_keeper : List Str := ["disk", "header", "generation", "frame", "first", "arrived", "used"]
def t_open_keeper (K : Frag) (E : XK) : TS :=
  tSeq (tAsg (tCallS (sp_newest_header K) (WE (wE E)) (tCons (tVar 0) (tNil))) (gName 1)) (tSeq (tIfS (tTest (tOp cIsN (tVar 1) (tC .non))) (tRaiseP (He.ga K "NotKept") (wE E)) (tNext)) (tSeq (tAsg (tVar 1) (gTup K 2 (gCons (gName 2) (gCons (gName 3) (gNil))))) (tSeq (tAsg (tCallS (sp_area_start K) EF (tCons (tVar 0) (tCons (tOp bAnd (tVar 2) (tC (.int 1))) (tNil)))) (gName 4)) (tSeq (tAsg (tMk (He.ga K "Arrived") (sp_Arrived_init K) EF (tCons (tVar 3) (tNil))) (gName 5)) (tSeq (tAsg (tC (.int 0)) (gName 6)) (tSeq (tWhile (tAnd (tTest (tOp cLt (tVar 6) (tCallS (sp_area_size K) EF (tCons (tVar 0) (tNil))))) (tB (tCallS (sp__accepted K) EF (tCons (tVar 5) (tCons (tMe (He.ga K "Disk") "read" (sp_Disk_read K) (WE (wE E)) (tVar 0) (tCons (tOp bAdd (tVar 4) (tVar 6)) (tNil))) (tNil)))))) (tAsg (tOp bAdd (tVar 6) (tC (.int 1))) (gName 6))) (tSeq (tDrop (tCallS (sp__clear K) (WE (wE E)) (tCons (tVar 0) (tCons (tOp bAdd (tVar 4) (tVar 6)) (tCons (tOp bSub (tCallS (sp_area_size K) EF (tCons (tVar 0) (tNil))) (tVar 6)) (tNil)))))) (tSeq (tDrop (tMe (He.ga K "Disk") "flush" (sp_Disk_flush K) (WE (wE E)) (tVar 0) tNil)) (tRet (tMk (He.ga K "Keeper") (sp_Keeper_init K) EF (tCons (tVar 0) (tCons (tVar 3) (tCons (tVar 2) (tCons (tVar 5) (tCons (tVar 6) (tNil))))))))))))))))

theorem ar_open_keeper {K : Frag} : Ar 1 (sp_open_keeper K) := fun _ _ _ _ ⟨_, _, _, _, e, _⟩ => by rw [e]; rfl
theorem pure_open_keeper (K : Frag) (vs : List V) (H : Hp) (Q : VK) (E : XK) (h : sp_open_keeper K vs H Q E) : t_open_keeper K E (ends Q) (start N_open_keeper vs) H := by
  obtain ⟨d, G, M, x, rfl, F, DD, O, hl, hp, hz, qn, qs⟩ := h
  have b1 := O.b1
  have b2 := O.b2
  unfold t_open_keeper
  walk_at "go"
  refine ⟨d, G, M, x, rfl, F, DD, O, fun H1 v S1 hv => ?_⟩
  cases en : x.newest with
  | none =>
    rw [en] at hv
    cases hv
    walk_at "go"
    exact i_raiseP (qn en H1 S1)
  | some o =>
    obtain ⟨g, fr⟩ := o
    rw [en] at hv
    have hv' := hv.same (grow_r (H' := H1) F)
    have F1 := F.grow S1
    have D1 : DiskAt K (grow G H H1) M d x := DD.more grow_l
    have gg1 : Same G (grow G H H1) := grow_l
    generalize grow G H H1 = G1 at *
    clear hv S1
    obtain ⟨t, f, rfl, ht, hf⟩ := hv'
    have ht1 := F1.gs _ _ ht
    walk_at "go"
    rw [bitAnd_m1]
    have ga : g % 2 = 0 ∨ g % 2 = 1 := by omega
    refine ⟨d, g % 2, G1, M, x, rfl, F1.ms, D1, ga, ?_⟩
    generalize hA : ((x.bs.length : Int) - 2) / 2 = A at *
    have A1 : 1 ≤ A := by omega
    have A2 : 2 + 2 * A ≤ x.bs.length := by omega
    have st : 0 ≤ g % 2 * A ∧ g % 2 * A ≤ A := by rcases ga with e | e <;> rw [e] <;> omega
    generalize g % 2 * A = s at *
    walk_at "go"
    intro ax adx nax nadx nex
    have F2 := F1.newG (o := .own ax) nadx
    have S2 := Step.newG (o := .own ax) F1 nadx
    have nax2 : upd H1 adx (.own ax) ax = none := by rw [upd_ne (Ne.symm nex)]; exact nax
    refine ⟨ax, f, adx, rfl, upd_same, fun D nD => ⟨rfl, ?_⟩⟩
    have nD2 : upd H1 adx (.own ax) D = none := by
      by_cases e : D = ax
      · rw [e]; exact nax2
      · rw [upd_ne e] at nD; exact nD
    have neD : D ≠ ax := fun e => by rw [e, upd_same] at nD; cases nD
    rw [upd_comm (Ne.symm neD), upd_upd]
    have F3 := F2.newG (o := .dT []) nD2
    have nax3 : upd (upd H1 adx (.own ax)) D (.dT []) ax = none := by rw [upd_ne (Ne.symm neD)]; exact nax2
    have F4 := F3.newG (o := .ins (He.ga K "Arrived") adx (fsArr f D)) nax3
    have gg4 := gg1.trans ((S2.gg.trans (Step.newG (o := .dT []) F2 nD2).gg).trans (Step.newG (o := .ins (He.ga K "Arrived") adx (fsArr f D)) F3 nax3).gg)
    have g14 := (S2.gg.trans (Step.newG (o := .dT []) F2 nD2).gg).trans (Step.newG (o := .ins (He.ga K "Arrived") adx (fsArr f D)) F3 nax3).gg
    have D4 := D1.more g14
    have hf4 := hf.same g14
    generalize upd (upd (upd G1 adx (.own ax)) D (.dT [])) ax (.ins (He.ga K "Arrived") adx (fsArr f D)) = G4 at *
    generalize upd (upd (upd H1 adx (.own ax)) D (.dT [])) ax (.ins (He.ga K "Arrived") adx (fsArr f D)) = H4 at *
    walk_at "go"
    refine i_joinN (fun σ H' => σ = [some (.ref d), some (.ref t), some (.int g), some (.ref f), some (.int (2 + s)), some (.ref ax), some (.int 0)] ∧ ∃ G5, Fm G5 M H' ∧ Same G4 G5) (fun R hR => ?_) ?_
    · refine ⟨fun _ σ H' => σ = [some (.ref d), some (.ref t), some (.int g), some (.ref f), some (.int (2 + s)), some (.ref ax), some (.int 0)] ∧ H' = H4, ⟨0, rfl, rfl⟩, ?_⟩
      rintro m σ H' ⟨rfl, rfl⟩
      walk_at "go"
      refine ⟨d, G4, M, x, rfl, F4.ms, D4, ?_⟩
      rw [hA]
      walk_at "go"
      obtain ⟨ddx, dbl, dpl, dtn, hd⟩ := D4.see F4.ms
      obtain ⟨_, _, _, _, _, _, DM⟩ := id D4
      obtain ⟨m1, m2, m3, m4, m5, m6, m7, m8, _⟩ := DM.meths
      have hd' := F4.ms _ _ DM.fd
      walk_at "go"
      refine ⟨d, 2 + s + 0, G4, M, x, rfl, F4, D4, by omega, by omega, fun p np => ?_⟩
      walk_at "go"
      refine ⟨ax, p, x.seen (2 + s + 0), rfl, upd_same, seen_len O (by omega) (by omega), hz _ (by omega) (by omega), ?_⟩
      walk_at "go"
      exact hR _ _ ⟨rfl, _, F4.newG np, (Step.newG F4 np).gg⟩
    · rintro σ H5 ⟨rfl, G5, F5, gg5⟩
      have D5 := D4.more gg5
      walk_at "go"
      refine ⟨d, G5, M, x, rfl, F5.ms, D5, ?_⟩
      rw [hA]
      walk_at "go"
      refine ⟨d, 2 + s + 0, A - 0, G5, M, x, rfl, F5, D5, hl, O, by omega, by omega, by omega, by omega, fun G6 M6 H6 F6 S6 D6 => ?_⟩
      obtain ⟨ddx, dbl, dpl, dtn, _, _, DM⟩ := id D6
      obtain ⟨m1, m2, m3, m4, m5, m6, m7, m8, _⟩ := DM.meths
      have hd' := F6.ms _ _ DM.fd
      walk_at "go"
      refine ⟨d, G6, M6, _, rfl, F6, D6, by rw [clearDk_left]; exact hl, clearDk_ok O (by omega) (by omega), fun G7 M7 H7 F7 S7 D7 => ?_⟩
      walk_at "go"
      intro kx kdx nkx nkdx nex2
      have nkx2 : upd H7 kdx (.own kx) kx = none := by rw [upd_ne (Ne.symm nex2)]; exact nkx
      refine ⟨kx, d, f, ax, kdx, g, 0, G7, M7, _, rfl, upd_same, (F7.ms.trans (same_upd nkdx)).trans (same_upd nkx2), F7.ms.free nkx, D7, rfl, ?_⟩
      rw [upd_upd]
      refine qs g fr en _ G7 kx kdx f ax 0 _ (((gg4.trans gg5).trans S6.gg).trans S7.gg) ((F7.gs.trans (same_upd nkdx)).trans (same_upd nkx2)) upd_same (((hf4.same gg5).same S6.gg).same S7.gg)

--NEED rows pic frame fm disk hdr keep
--FACTS xm_NotKept_NotKept kit_NotKept_OutOfRange
def sp__law_open (K : Frag) : Sp := fun vs H Q _ => ∃ (d : Addr) (G M : Hp) (x : Dk), vs = [.ref d] ∧ Fm G M H ∧ DiskAt K G M d x ∧ x.Ok ∧ x.left = none ∧ x.pd.length < 1000 ∧ (∀ b : Int, 2 ≤ b → b < x.bs.length → (x.seen b).getD 0 0 ≠ 75) ∧
  (x.newest = none → ∀ H', Same H H' → Q .non H') ∧ (∀ g fr, x.newest = some (g, fr) → ∀ H' f, Same G H' → FrameAt K H' f fr → Q (.ref f) H')
abbrev N__law_open : List Str := ["_law_disk", "e"]
def t__law_open (K : Frag) (E : XK) : TS :=
  tTryAs K (He.ga K "NotKept") 1 (fun W => tRet (tF (He.ga K "Keeper") "frame" (tCallS (sp_open_keeper K) (WE W) (tCons (tVar 0) (tNil))))) (fun a cls d => tSeq (tIfS (tB (tCB (rIsX K (He.ga K "NotKept") a cls d) (tCons (tVar 1) (tCons (tC (.ref (He.ga K "OutOfRange"))) (tNil))))) (tRet (tC (.str "other"))) (tNext)) (tRet (tC .non))) (wE E)

theorem ar__law_open {K : Frag} : Ar 1 (sp__law_open K) := fun _ _ _ _ ⟨_, _, _, _, e, _⟩ => by rw [e]; rfl
theorem pure__law_open (K : Frag) (hxm : PySem.W.exmOne K (.ref (He.ga K "NotKept")) (.ref (He.ga K "NotKept")) = some true) (hkit : PySem.W.kitOne K (.ref (He.ga K "NotKept")) (.ref (He.ga K "OutOfRange")) = some false)
    (vs : List V) (H : Hp) (Q : VK) (E : XK) (h : sp__law_open K vs H Q E) : t__law_open K E (ends Q) (start N__law_open vs) H := by
  obtain ⟨d, G, M, x, rfl, F, DD, O, hl, hp, hz, qn, qs⟩ := h
  unfold t__law_open
  walk_at "go"
  refine ⟨d, G, M, x, rfl, F, DD, O, hl, hp, hz, fun e H1 S1 => ?_, fun g fr e H1 G1 k dx f a u c S1 S2 hk hf => ?_⟩
  · refine w_as hxm fun ea nea => ?_
    walk_at "go"
    refine ⟨_, _, false, rfl, rfl, fun _ e => (by cases e), .own _, hkit, ?_⟩
    walk_at "go"
    exact qn e H1 S1
  · have l1 : (fsKeep d f a g u c).lookup ("frame" : Str) = some (.ref f) := fsKeep_frame
    walk_at "go"
    exact qs g fr e H1 f (S1.trans S2) (hf.same S2)

/-! isinstance -/
theorem isi_int {K : Frag} {H : Hp} {i : Int} {Q : VK} (q : Q (.bl true) H) : rIsi K [.int i, .ty "int"] H Q := i_isi (.ty "int") (.base (.int i)) (kit_ty (by decide +kernel)) q
theorem isi_intb {K : Frag} {H : Hp} {i : Int} {Q : VK} (q : Q (.bl false) H) : rIsi K [.int i, .ty "bool"] H Q := i_isi (.ty "bool") (.base (.int i)) (kit_ty (by decide +kernel)) q
theorem isi_list {K : Frag} {H : Hp} {p : Addr} {xs : List V} {Q : VK} (h : H p = some (.lst xs)) (q : Q (.bl true) H) : rIsi K [.ref p, .ty "list"] H Q := i_isi (.ty "list") (.base (.lst h)) (kit_ty (by decide +kernel)) q

--NEED isi
def sp__law_is_integer (K : Frag) : Sp := fun vs H Q _ => ∃ i : Int, vs = [.int i] ∧ Q (.bl true) H
abbrev N__law_is_integer : List Str := ["_law_actual"]
def t__law_is_integer (K : Frag) (E : XK) : TS :=
  tRet (tAndV (tCB (rIsi K) (tCons (tVar 0) (tCons (tC (.ty "int")) (tNil)))) (tNotV (tCB (rIsi K) (tCons (tVar 0) (tCons (tC (.ty "bool")) (tNil))))))

theorem ar__law_is_integer {K : Frag} : Ar 1 (sp__law_is_integer K) := fun _ _ _ _ ⟨_, e, _⟩ => by rw [e]; rfl
theorem pure__law_is_integer (K : Frag) (vs : List V) (H : Hp) (Q : VK) (E : XK) (h : sp__law_is_integer K vs H Q E) : t__law_is_integer K E (ends Q) (start N__law_is_integer vs) H := by
  obtain ⟨i, rfl, q⟩ := h
  unfold t__law_is_integer
  walk_at "go"
  refine isi_int ?_
  walk_at "go"
  refine isi_intb ?_
  walk_at "go"
  exact q

theorem i_neDI {K : Frag} {H : Hp} {Q : VK} {i j : Int} (z : Q (.bl (!decide (i = j))) H) : rNeD K (.int i) (.int j) H Q := i_neD (.int i) (.int j) rfl rfl (show (i == j) = decide (i = j) by by_cases e : i = j <;> simp [e]) z

--NEED rows pic deq frame fm disk hdr keep box neDI
def sp_law (K : Frag) : Sp := fun vs H Q _ => ∃ (a : Addr) (ns : List Int), vs = [.ref a] ∧ SqL K H a (ns.map V.int) ∧ ∀ H', Q (.bl true) H'
abbrev N_law : List Str := ["_law_script", "_law_box", "_law_size", "_law_disk", "_law_generation", "_law_other", "_law_shapes", "_law_first", "_law_second", "_law_due", "_law_area", "_law_told"]
def t_law (K : Frag) (E : XK) : TS :=
  tSeq (tAsg (tLst (tCons (tCallS (sp__law_digits K) EF (tCons (tVar 0) (tCons (tC (.int 0)) (tCons (tC (.int 63)) (tNil))))) (tCons (tC (.int 0)) (tNil)))) (gName 1)) (tSeq (tAsg (tOp bAdd (tC (.int 4)) (tCallS (sp__law_draw K) EF (tCons (tVar 1) (tCons (tC (.int 6)) (tNil))))) (gName 2)) (tSeq (tAsg (tMk (He.ga K "Disk") (sp_Disk_init K) EF (tCons (tVar 2) (tNil))) (gName 3)) (tSeq (tIfS (tOr (tTest (tOp cIsntN (tCallS (sp_newest_header K) EF (tCons (tVar 3) (tNil))) (tC .non))) (tTest (tOp cIsntN (tCallS (sp__law_open K) EF (tCons (tVar 3) (tNil))) (tC .non)))) (tRet (tC (.bl false))) (tNext)) (tSeq (tAsg (tOp bMod (tCB kInt (tCons (tCallS (sp__law_draw K) EF (tCons (tVar 1) (tCons (tC (.int 1000)) (tNil)))) (tNil))) (tC (.int 256))) (gName 4)) (tSeq (tIfS (tTest (tOp rEq (tCallS (sp__law_draw K) EF (tCons (tVar 1) (tCons (tC (.int 4)) (tNil)))) (tC (.int 0)))) (tAsg (tC (.int 255)) (gName 4)) (tNext)) (tSeq (tAsg (tOp bMod (tCB kInt (tCons (tOp bAdd (tVar 4) (tOp (rIxL K) (tLst (tCons (tC (.int 1)) (tCons (tC (.int 255)) (tCons (tC (.int 0)) (tCons (tCallS (sp__law_draw K) EF (tCons (tVar 1) (tCons (tC (.int 256)) (tNil)))) (tNil)))))) (tCallS (sp__law_draw K) EF (tCons (tVar 1) (tCons (tC (.int 4)) (tNil)))))) (tNil))) (tC (.int 256))) (gName 5)) (tSeq (tAsg (tLst (tCons (tCallS (sp__law_shape K) EF (tCons (tVar 1) (tCons (tC (.int 9)) (tCons (tC (.int 8)) (tCons (tC (.int 16)) (tNil)))))) (tCons (tCallS (sp__law_shape K) EF (tCons (tVar 1) (tCons (tC (.int 9)) (tCons (tC (.int 8)) (tCons (tC (.int 16)) (tNil)))))) (tNil)))) (gName 6)) (tSeq (tAsg (tCallS (sp__law_block K) EF (tCons (tVar 1) (tCons (tOp (rIxL K) (tVar 6) (tC (.int 0))) (tCons (tVar 4) (tNil))))) (gName 7)) (tSeq (tAsg (tCallS (sp__law_block K) EF (tCons (tVar 1) (tCons (tOp (rIxL K) (tVar 6) (tC (.int 1))) (tCons (tVar 5) (tNil))))) (gName 8)) (tSeq (tDrop (tMe (He.ga K "Disk") "write" (sp_Disk_write K) EF (tVar 3) (tCons (tC (.int 0)) (tCons (tSl (rSlL K) (tOp (rIxL K) (tVar 7) (tC (.int 0))) (tNoPart) (tPart (tC (.int 32)))) (tNil))))) (tSeq (tDrop (tMe (He.ga K "Disk") "write" (sp_Disk_write K) EF (tVar 3) (tCons (tC (.int 1)) (tCons (tSl (rSlL K) (tOp (rIxL K) (tVar 8) (tC (.int 0))) (tNoPart) (tPart (tC (.int 32)))) (tNil))))) (tSeq (tIfS (tTest (tOp rEq (tCallS (sp__law_draw K) EF (tCons (tVar 1) (tCons (tC (.int 2)) (tNil)))) (tC (.int 0)))) (tDrop (tMe (He.ga K "Disk") "flush" (sp_Disk_flush K) EF (tVar 3) tNil)) (tNext)) (tSeq (tAsg (tC .non) (gName 9)) (tSeq (tIfS (tTru K (tOp (rIxL K) (tVar 7) (tC (.int 1)))) (tAsg (tLst (tCons (tVar 4) (tCons (tOp (rIxL K) (tVar 6) (tC (.int 0))) (tNil)))) (gName 9)) (tNext)) (tSeq (tIfS (tAnd (tTru K (tOp (rIxL K) (tVar 8) (tC (.int 1)))) (tOr (tNot (tTru K (tOp (rIxL K) (tVar 7) (tC (.int 1))))) (tTest (tOp rEq (tVar 5) (tOp bMod (tCB kInt (tCons (tOp bAdd (tVar 4) (tC (.int 1))) (tNil))) (tC (.int 256))))))) (tAsg (tLst (tCons (tVar 5) (tCons (tOp (rIxL K) (tVar 6) (tC (.int 1))) (tNil)))) (gName 9)) (tNext)) (tSeq (tAsg (tOp bDiv (tOp bSub (tVar 2) (tC (.int 2))) (tC (.int 2))) (gName 10)) (tSeq (tIfS (tOr (tTest (tOp rNe (tCallS (sp_area_size K) EF (tCons (tVar 3) (tNil))) (tVar 10))) (tOr (tTest (tOp rNe (tCallS (sp_area_start K) EF (tCons (tVar 3) (tCons (tC (.int 0)) (tNil)))) (tC (.int 2)))) (tTest (tOp rNe (tCallS (sp_area_start K) EF (tCons (tVar 3) (tCons (tC (.int 1)) (tNil)))) (tOp bAdd (tC (.int 2)) (tVar 10)))))) (tRet (tC (.bl false))) (tNext)) (tSeq (tAsg (tCallS (sp_newest_header K) EF (tCons (tVar 3) (tNil))) (gName 11)) (tSeq (tIfS (tTest (tOp cIsN (tVar 9) (tC .non))) (tRet (tAndV (tOp cIsN (tVar 11) (tC .non)) (tOp cIsN (tCallS (sp__law_open K) EF (tCons (tVar 3) (tNil))) (tC .non)))) (tNext)) (tSeq (tIfS (tOr (tNot (tB (tCB (rIsi K) (tCons (tVar 11) (tCons (tC (.ty "tuple")) (tNil)))))) (tOr (tTest (tOp rNe (tCB (rLen K) (tCons (tVar 11) (tNil))) (tC (.int 2)))) (tOr (tNot (tB (tCallS (sp__law_is_integer K) EF (tCons (tOp (rIxT K) (tVar 11) (tC (.int 0))) (tNil))))) (tTest (tOp (rNeD K) (tOp (rIxT K) (tVar 11) (tC (.int 0))) (tOp (rIxL K) (tVar 9) (tC (.int 0)))))))) (tRet (tC (.bl false))) (tNext)) (tRet (tAndV (tCallS (sp__law_same K) EF (tCons (tOp (rIxT K) (tVar 11) (tC (.int 1))) (tCons (tOp (rIxL K) (tVar 9) (tC (.int 1))) (tNil)))) (tCallS (sp__law_same K) EF (tCons (tCallS (sp__law_open K) EF (tCons (tVar 3) (tNil))) (tCons (tOp (rIxL K) (tVar 9) (tC (.int 1))) (tNil))))))))))))))))))))))))))

theorem ar_law {K : Frag} : Ar 1 (sp_law K) := fun _ _ _ _ ⟨_, _, e, _⟩ => by rw [e]; rfl
def DueAt (G : Hp) (v : V) : Option (Int × Fr) → Prop
  | none => v = .non
  | some (g, x) => ∃ u s, v = .ref u ∧ G u = some (.lst [.int g, .ref s]) ∧ G s = some (.lst [.int x.w, .int x.h, .int x.d, .int x.c, .int x.t])
theorem DueAt.same {G G' : Hp} {v : V} {o : Option (Int × Fr)} (h : DueAt G v o) (s : Same G G') : DueAt G' v o := by
  cases o with
  | none => exact h
  | some p =>
    obtain ⟨u, t, e, h1, h2⟩ := h
    exact ⟨u, t, e, s _ _ h1, s _ _ h2⟩
/-- the disk of the law: blocks 0 and 1 are read as told, the others are zero -/
structure LDk (x : Dk) (n : Int) (o1 o2 : Option (Int × Fr)) : Prop where
  ok : x.Ok
  left : x.left = none
  pd : x.pd.length < 100
  len : (x.bs.length : Int) = n
  z : ∀ b : Int, 2 ≤ b → b < n → (x.seen b).getD 0 0 ≠ 75
  d0 : decOf (x.seen 0) = o1
  d1 : decOf (x.seen 1) = o2
theorem LDk.zz {x : Dk} {n : Int} {o1 o2 : Option (Int × Fr)} (L : LDk x n o1 o2) : ∀ b : Int, 2 ≤ b → b < x.bs.length → (x.seen b).getD 0 0 ≠ 75 := fun b h1 h2 => L.z b h1 (by rw [← L.len]; exact h2)
theorem LDk.new {x : Dk} {n : Int} {o1 o2 : Option (Int × Fr)} (L : LDk x n o1 o2) : x.newest = newestOf o1 o2 := by
  unfold Dk.newest
  rw [L.d0, L.d1]
theorem LDk.flushed {x : Dk} {n : Int} {o1 o2 : Option (Int × Fr)} (L : LDk x n o1 o2) : LDk x.flushed n o1 o2 := by
  refine ⟨L.ok.flushed, L.left, by show 0 < 100; decide, ?_, fun b h1 h2 => ?_, ?_, ?_⟩
  · show ((flushBs x.bs x.pd).length : Int) = n
    rw [flushBs_len]; exact L.len
  · rw [seen_flushed x L.ok b (by omega)]; exact L.z b h1 h2
  · rw [seen_flushed x L.ok 0 (by decide)]; exact L.d0
  · rw [seen_flushed x L.ok 1 (by decide)]; exact L.d1
theorem LDk.init {n : Int} (h1 : 4 ≤ n) (h2 : n ≤ 400) : LDk ⟨List.replicate n.toNat (List.replicate 32 0), [], 0, none, []⟩ n none none := by
  have hs : ∀ b : Int, 0 ≤ b → b < n → Dk.seen ⟨List.replicate n.toNat (List.replicate 32 0), [], 0, none, []⟩ b = List.replicate 32 0 := fun b h0 hb => by
    show (List.replicate n.toNat (List.replicate 32 (0 : Int))).getD b.toNat [] = _
    rw [List.getD_eq_getElem?_getD, List.getElem?_replicate, if_pos (by omega)]; rfl
  refine ⟨⟨?_, ?_, fun r hr => ?_, fun p hp => nomatch hp⟩, rfl, by show 0 < 100; decide, ?_, fun b h1 h2 => ?_, ?_, ?_⟩
  · show 4 ≤ (List.replicate n.toNat (List.replicate 32 (0 : Int))).length
    rw [List.length_replicate]; omega
  · show (List.replicate n.toNat (List.replicate 32 (0 : Int))).length ≤ 400
    rw [List.length_replicate]; omega
  · rw [List.eq_of_mem_replicate hr]; rfl
  · show ((List.replicate n.toNat (List.replicate 32 (0 : Int))).length : Int) = n
    rw [List.length_replicate]; omega
  · rw [hs b (by omega) h2]; decide
  · rw [hs 0 (by decide) (by omega)]; exact dec_first (by decide)
  · rw [hs 1 (by decide) (by omega)]; exact dec_first (by decide)
theorem pure_law (K : Frag) (vs : List V) (H : Hp) (Q : VK) (E : XK) (h : sp_law K vs H Q E) : t_law K E (ends Q) (start N_law vs) H := by
  obtain ⟨a, ns, rfl, hS, q⟩ := h
  unfold t_law
  walk_at "go"
  refine ⟨a, 0, 63, ns, rfl, hS, by decide, by decide, by decide, by decide, fun H1 dg ds S1 nd hd hl => ?_⟩
  walk_at "go"
  intro b nb
  have bdg : b ≠ dg := fun e => by rw [e, hd] at nb; cases nb
  have F : Fm (upd (fun _ => none) dg (.lst (ds.map V.int))) (fun _ => none) (upd H1 b (.lst [.ref dg, .int 0])) := by
    refine ⟨fun y o e => ?_, fun y o e => (nomatch e), fun _ _ _ => rfl⟩
    by_cases h : y = dg
    · subst h; rw [upd_same] at e; rw [upd_ne (Ne.symm bdg), hd]; exact e
    · rw [upd_ne h] at e; cases e
  have B : Bx (upd (fun _ => none) dg (.lst (ds.map V.int))) (fun _ => none) (upd H1 b (.lst [.ref dg, .int 0])) b dg ds 0 := ⟨by rw [upd_ne bdg], rfl, upd_same, by decide, upd_same⟩
  clear S1 hd nb
  generalize upd H1 b (.lst [.ref dg, .int 0]) = H2 at *
  walk_at "go"
  refine draw_ok F B (by decide) fun s H3 s0 s1 F3 B3 K3 Z3 => ?_
  walk_at "go"
  intro x dx nx ndx nex
  have bH := B3.h
  have dH := F3.gs _ _ B3.d
  have bx := ne_of_none bH nx
  have bdx := ne_of_none bH ndx
  have dgx := ne_of_none dH nx
  have dgdx := ne_of_none dH ndx
  refine ⟨x, dx, 4 + s, rfl, upd_same, by omega, by omega, fun H4 G4 M4 F4 D4 k4 g4 m4 => ⟨rfl, ?_⟩⟩
  have hb0 : upd (upd H3 dx (.own x)) x (.ins (He.ga K "Disk") dx []) b = _ := (upd_ne bx).trans ((upd_ne bdx).trans bH)
  have hd0 : upd (upd H3 dx (.own x)) x (.ins (He.ga K "Disk") dx []) dg = _ := (upd_ne dgx).trans ((upd_ne dgdx).trans dH)
  have hb4 := k4 _ _ bx hb0
  have hd4 := k4 _ _ dgx hd0
  have no : ∀ y o, upd (upd H3 dx (.own x)) x (.ins (He.ga K "Disk") dx []) y = some o → y ≠ x → M4 y = none := fun y o e n => by
    cases z : M4 y with
    | none => rfl
    | some u =>
      rcases m4 _ _ z with h | h
      · exact absurd h n
      · rw [e] at h; cases h
  have gb : G4 b = none := by
    cases z : G4 b with
    | none => rfl
    | some u => rw [g4 _ _ z] at hb0; cases hb0
  have F5 := F4.add hd4 (no _ _ hd0 dgx)
  have B5 : Bx (upd G4 dg (.lst (ds.map V.int))) M4 H4 b dg ds (0 + 1) := ⟨by rw [upd_ne bdg]; exact gb, no _ _ hb0 bx, hb4, by decide, upd_same⟩
  have D5 := D4.more (F4.addS hd4)
  have L5 := LDk.init (n := 4 + s) (by omega) (by omega)
  have P5 : (⟨List.replicate (4 + s).toNat (List.replicate 32 0), [], 0, none, []⟩ : Dk).pd.length = 0 := rfl
  clear F4 D4 k4 g4 m4 no gb hb4 hd4 hb0 hd0
  generalize (⟨List.replicate (4 + s).toNat (List.replicate 32 0), [], 0, none, []⟩ : Dk) = x5 at *
  generalize upd G4 dg (.lst (ds.map V.int)) = G5 at *
  walk_at "go"
  refine ⟨x, G5, M4, x5, rfl, F5, D5, L5.ok, fun H6 v S6 hv => ?_⟩
  rw [L5.new] at hv
  cases hv
  have F6 := F5.grow S6
  have B6 := B5.step (Step.grow (G := G5) (M := M4) S6)
  have D6 : DiskAt K (grow G5 H4 H6) M4 x x5 := D5.more grow_l
  generalize grow G5 H4 H6 = G6 at *
  walk_at "go"
  refine ⟨x, G6, M4, x5, rfl, F6, D6, L5.ok, L5.left, by have := L5.pd; omega, L5.zz, fun _ H7 S7 => ?_, fun g fr e => (by rw [L5.new] at e; cases e)⟩
  have F7 := F6.grow S7
  have B7 := B6.step (Step.grow (G := G6) (M := M4) S7)
  have D7 : DiskAt K (grow G6 H6 H7) M4 x x5 := D6.more grow_l
  generalize grow G6 H6 H7 = G7 at *
  walk_at "go"
  refine draw_ok F7 B7 (by decide) fun g0 H8 g00 g01 F8 B8 K8 Z8 => ?_
  walk_at "go"
  refine draw_ok F8 B8 (by decide) fun c0 H9 c00 c01 F9 B9 K9 Z9 => ?_
  walk_at "go"
  refine i_ifJ (fun σ H' => H' = H9 ∧ ∃ g : Int, 0 ≤ g ∧ g < 256 ∧ σ = [some (.ref a), some (.ref b), some (.int (4 + s)), some (.ref x), some (.int g), none, none, none, none, none, none, none]) (fun _ R hR => ?_) (fun _ R hR => ?_) ?_
  · walk_at "go"
    exact hR _ _ ⟨rfl, 255, by decide, by decide, rfl⟩
  · walk_at "go"
    exact hR _ _ ⟨rfl, g0 % 256, Int.emod_nonneg _ (by decide), Int.emod_lt_of_pos _ (by decide), rfl⟩
  rintro σ H' ⟨rfl, g, g1, g2, rfl⟩
  walk_at "go"
  refine draw_ok F9 B9 (by decide) fun r H10 r0 r1 F10 B10 K10 Z10 => ?_
  walk_at "go"
  intro l nl
  have F11 := F10.newG (o := .lst [.int 1, .int 255, .int 0, .int r]) nl
  have S11 := Step.newG (o := .lst [.int 1, .int 255, .int 0, .int r]) F10 nl
  have B11 := B10.step S11
  have D11 := D7.more S11.gg
  have hl11 : upd G7 l (.lst [.int 1, .int 255, .int 0, .int r]) l = _ := upd_same
  generalize upd G7 l (.lst [.int 1, .int 255, .int 0, .int r]) = G11 at *
  generalize upd H10 l (.lst [.int 1, .int 255, .int 0, .int r]) = H11 at *
  walk_at "go"
  refine draw_ok F11 B11 (by decide) fun r2 H12 r20 r21 F12 B12 K12 Z12 => ?_
  refine i_ixIn [1, 255, 0, r] (F12.gs _ _ hl11) rfl r20 (by show r2 < 4; exact r21) fun z hz => ?_
  walk_at "go"
  have og1 := Int.emod_nonneg (g + z) (show (256 : Int) ≠ 0 by decide)
  have og2 := Int.emod_lt_of_pos (g + z) (show (0 : Int) < 256 by decide)
  generalize (g + z) % 256 = og at *
  refine ⟨b, dg, _, 9, 8, 16, G11, M4, ds, rfl, F12, B12, by decide, by decide, by decide, by decide, by decide, by decide, fun H13 sa wa ha da ca ta k13 F13 B13 K13 nsa hsa Za _ _ => ?_⟩
  have bsa : b ≠ sa := ne_of_none B12.h nsa
  have F14 := F13.add hsa (F12.ms.free nsa)
  have B14 := B13.add F13 hsa bsa
  have D14 := D11.more (F13.addS hsa)
  have gsa : upd G11 sa (.lst [.int wa, .int ha, .int da, .int ca, .int ta]) sa = _ := upd_same
  generalize upd G11 sa (.lst [.int wa, .int ha, .int da, .int ca, .int ta]) = G14 at *
  walk_at "go"
  refine ⟨b, dg, _, 9, 8, 16, G14, M4, ds, rfl, F14, B14, by decide, by decide, by decide, by decide, by decide, by decide, fun H15 sb wb hb db cb tb k15 F15 B15 K15 nsb hsb Zb _ _ => ?_⟩
  have bsb : b ≠ sb := ne_of_none B14.h nsb
  have F16 := F15.add hsb (F14.ms.free nsb)
  have B16 := B15.add F15 hsb bsb
  have D16 := D14.more (F15.addS hsb)
  have gsa16 := F15.addS hsb _ _ gsa
  have gsb : upd G14 sb (.lst [.int wb, .int hb, .int db, .int cb, .int tb]) sb = _ := upd_same
  generalize upd G14 sb (.lst [.int wb, .int hb, .int db, .int cb, .int tb]) = G16 at *
  walk_at "go"
  intro sh nsh
  have F17 := F16.newG (o := .lst [.ref sa, .ref sb]) nsh
  have S17 := Step.newG (o := .lst [.ref sa, .ref sb]) F16 nsh
  have B17 := B16.step S17
  have D17 := D16.more S17.gg
  have gsa17 := S17.gg _ _ gsa16
  have gsb17 := S17.gg _ _ gsb
  have gsh : upd G16 sh (.lst [.ref sa, .ref sb]) sh = _ := upd_same
  generalize upd G16 sh (.lst [.ref sa, .ref sb]) = G17 at *
  generalize upd H15 sh (.lst [.ref sa, .ref sb]) = H17 at *
  have hsh17 := F17.gs _ _ gsh
  walk_at "go"
  refine ⟨b, dg, sa, _, g, 9, ⟨wa, ha, da, ca, ta⟩, G17, M4, ds, rfl, F17, B17, gsa17, Za, by decide, fun H18 G18 p1 q1 blk1 f1 k18 F18 B18 gg18 gp1 gq1 O1 => ?_⟩
  have hsh18 := F18.gs _ _ (gg18 _ _ gsh)
  walk_at "go"
  refine ⟨b, dg, sb, _, og, 9, ⟨wb, hb, db, cb, tb⟩, G18, M4, ds, rfl, F18, B18, gg18 _ _ gsb17, Zb, by decide, fun H19 G19 p2 q2 blk2 f2 k19 F19 B19 gg19 gp2 gq2 O2 => ?_⟩
  have D19 := D17.more (gg18.trans gg19)
  have gp1' := gg19 _ _ gp1
  have gq1' := gg19 _ _ gq1
  have gsh19 := gg19 _ _ (gg18 _ _ gsh)
  have gsa19 := gg19 _ _ (gg18 _ _ gsa17)
  have gsb19 := gg19 _ _ (gg18 _ _ gsb17)
  clear D17 D16 D14 D11 D7 D6 D5 gp1 gq1 gsh gsa17 gsb17
  obtain ⟨ddx, dbl, dpl, dtn, _, _, DM⟩ := id D19
  obtain ⟨m1, m2, m3, m4, m5, m6, m7, m8, _⟩ := DM.meths
  have hd19 := F19.ms _ _ DM.fd
  have hp1 := F19.gs _ _ gp1'
  have hq1 := F19.gs _ _ gq1'
  walk_at "go"
  intro u nu
  rw [cutV_to (by decide), ← List.map_take]
  have F20 := F19.newG (o := .lst ((blk1.take (32 : Int).toNat).map V.int)) nu
  have S20 := Step.newG (o := .lst ((blk1.take (32 : Int).toNat).map V.int)) F19 nu
  have B20 := B19.step S20
  walk_at "go"
  refine ⟨x, u, 0, _, M4, x5, blk1.take (32 : Int).toNat, rfl, F20, D19.more S20.gg, L5.left, by decide, by have := L5.len; omega, by have := L5.pd; omega, upd_same, by rw [List.length_take]; have := O1.len.1; exact Nat.min_eq_left this, fun y hy => O1.byt y (List.mem_of_mem_take hy), fun G21 M21 H21 F21 S21 D21 => ?_⟩
  have B21 := B20.step S21
  have gg21 := S20.gg.trans S21.gg
  obtain ⟨ddx2, dbl2, dpl2, dtn2, _, _, DM2⟩ := id D21
  obtain ⟨n1, n2, n3, n4, n5, n6, n7, n8, _⟩ := DM2.meths
  have hd21 := F21.ms _ _ DM2.fd
  have hp2 := F21.gs _ _ (gg21 _ _ gp2)
  have hq2 := F21.gs _ _ (gg21 _ _ gq2)
  walk_at "go"
  intro u2 nu2
  rw [cutV_to (by decide), ← List.map_take]
  have F22 := F21.newG (o := .lst ((blk2.take (32 : Int).toNat).map V.int)) nu2
  have S22 := Step.newG (o := .lst ((blk2.take (32 : Int).toNat).map V.int)) F21 nu2
  have B22 := B21.step S22
  have l1 : (blk1.take (32 : Int).toNat).length = 32 := by rw [List.length_take]; have := O1.len.1; exact Nat.min_eq_left this
  have l2 : (blk2.take (32 : Int).toNat).length = 32 := by rw [List.length_take]; have := O2.len.1; exact Nat.min_eq_left this
  walk_at "go"
  refine ⟨x, u2, 1, _, M21, x5.wrote 0 (blk1.take (32 : Int).toNat), blk2.take (32 : Int).toNat, rfl, F22, D21.more S22.gg, L5.left, by decide, by show (1 : Int) < x5.bs.length; have := L5.len; omega, by
    show (x5.pd ++ [_]).length < _
    rw [List.length_append]; have := L5.pd; show _ + 1 < _; omega, upd_same, l2, fun y hy => O2.byt y (List.mem_of_mem_take hy), fun G23 M23 H23 F23 S23 D23 => ?_⟩
  have B23 := B22.step S23
  have gg23 := gg21.trans (S22.gg.trans S23.gg)
  have L23 : LDk ((x5.wrote 0 (blk1.take (32 : Int).toNat)).wrote 1 (blk2.take (32 : Int).toNat)) (4 + s) (if f1 = true then some (g, ⟨wa, ha, da, ca, ta⟩) else none) (if f2 = true then some (og, ⟨wb, hb, db, cb, tb⟩) else none) := by
    have i1 := L5.len
    refine ⟨(L5.ok.wrote (by decide) (by omega) l1).wrote (by decide) (by show (1 : Int) < x5.bs.length; omega) l2, L5.left, ?_, L5.len, fun y y1 y2 => ?_, ?_, ?_⟩
    · show ((x5.pd ++ [_]) ++ [_]).length < 100
      rw [List.length_append, List.length_append, P5]; show 0 + 1 + 1 < 100; decide
    · rw [seen_wrote, if_neg (by omega), seen_wrote, if_neg (by omega)]
      exact L5.z y y1 y2
    · rw [seen_wrote, if_neg (by decide), seen_wrote, if_pos rfl]
      have := O1.dec
      rw [Int.emod_eq_of_lt g1 g2] at this
      exact this
    · rw [seen_wrote, if_pos rfl]
      have := O2.dec
      rw [Int.emod_eq_of_lt og1 og2] at this
      exact this
  have gp1_ := gg23 _ _ gp1'
  have gp2_ := gg23 _ _ gp2
  have gsh_ := gg23 _ _ gsh19
  have gsa_ := gg23 _ _ gsa19
  have gsb_ := gg23 _ _ gsb19
  generalize (x5.wrote 0 (blk1.take (32 : Int).toNat)).wrote 1 (blk2.take (32 : Int).toNat) = x23 at *
  obtain ⟨ddx3, dbl3, dpl3, dtn3, _, _, DM3⟩ := id D23
  obtain ⟨o1, o2, o3, o4, o5, o6, o7, o8, _⟩ := DM3.meths
  clear hd21 hd19 hp1 hp2 hq1 hq2 DM DM2
  walk_at "go"
  refine draw_ok F23 B23 (by decide) fun r3 H24 r30 r31 F24 B24 K24 Z24 => ?_
  have hd24 := F24.ms _ _ DM3.fd
  walk_at "go"
  refine i_ifJ (fun σ H' => σ = [some (.ref a), some (.ref b), some (.int (4 + s)), some (.ref x), some (.int g), some (.int og), some (.ref sh), some (.ref p1), some (.ref p2), none, none, none] ∧ ∃ G M x', Fm G M H' ∧ DiskAt K G M x x' ∧ Same G23 G ∧
      LDk x' (4 + s) (if f1 = true then some (g, ⟨wa, ha, da, ca, ta⟩) else none) (if f2 = true then some (og, ⟨wb, hb, db, cb, tb⟩) else none)) (fun _ R hR => ?_) (fun _ R hR => ?_) ?_
  · walk_at "go"
    refine ⟨x, G23, M23, x23, rfl, F24, D23, L23.left, L23.ok, fun G25 M25 H25 F25 S25 D25 => ?_⟩
    exact hR _ _ ⟨rfl, G25, M25, _, F25, D25, S25.gg, L23.flushed⟩
  · walk_at "go"
    exact hR _ _ ⟨rfl, G23, M23, x23, F24, D23, Same.refl _, L23⟩
  clear DM3 hd24 L23 F24 B24 K24 F23 S23 D23 B23 L5 F22 S22 B22 F21 S21 D21 B21 F20 S20 B20 D19 F19 B19
  rintro σ H' ⟨rfl, G, M, x', F, D, gg, L⟩
  have gp1 := gg _ _ gp1_
  have gp2 := gg _ _ gp2_
  have gsh := gg _ _ gsh_
  have gsa := gg _ _ gsa_
  have gsb := gg _ _ gsb_
  have hp1 := F.gs _ _ gp1
  have hsh := F.gs _ _ gsh
  refine i_seq ?_
  refine i_asg ?_
  refine i_c ?_
  refine i_name ?_
  refine i_join (fun σ H' => ∃ v G' , σ = [some (.ref a), some (.ref b), some (.int (4 + s)), some (.ref x), some (.int g), some (.int og), some (.ref sh), some (.ref p1), some (.ref p2), some v, none, none] ∧ Fm G' M H' ∧ Same G G' ∧
      DueAt G' v (if f1 = true then some (g, ⟨wa, ha, da, ca, ta⟩) else none)) (fun R hR => ?_) ?_
  · walk_at "go"
    refine i_tru ?_
    walk_at "go"
    refine tru_bl ?_
    cases f1 with
    | true =>
      walk_at "go"
      intro u nu
      exact hR _ _ ⟨_, _, rfl, F.newG nu, (Step.newG F nu).gg, u, sa, rfl, upd_same, (Step.newG F nu).gg _ _ gsa⟩
    | false =>
      walk_at "go"
      exact hR _ _ ⟨_, _, rfl, F, Same.refl _, rfl⟩
  rintro σ H2 ⟨v, G2, rfl, F2, gg2, due1⟩
  have hp1 := F2.gs _ _ (gg2 _ _ gp1)
  have hp2 := F2.gs _ _ (gg2 _ _ gp2)
  have hsh := F2.gs _ _ (gg2 _ _ gsh)
  refine i_join (fun σ H' => ∃ v G' , σ = [some (.ref a), some (.ref b), some (.int (4 + s)), some (.ref x), some (.int g), some (.int og), some (.ref sh), some (.ref p1), some (.ref p2), some v, none, none] ∧ Fm G' M H' ∧ Same G G' ∧
      DueAt G' v x'.newest) (fun R hR => ?_) ?_
  · walk_at "go"
    refine i_tru ?_
    walk_at "go"
    refine tru_bl ?_
    rw [L.new] at hR
    cases f2 with
    | false =>
      walk_at "go"
      refine hR _ _ ⟨_, _, rfl, F2, gg2, ?_⟩
      cases f1 <;> exact due1
    | true =>
      walk_at "go"
      refine i_tru ?_
      walk_at "go"
      refine tru_bl ?_
      have new : R [some (.ref a), some (.ref b), some (.int (4 + s)), some (.ref x), some (.int g), some (.int og), some (.ref sh), some (.ref p1), some (.ref p2), some v, none, none] H2 → True := fun _ => trivial
      cases f1 with
      | false =>
        walk_at "go"
        intro u nu
        exact hR _ _ ⟨_, _, rfl, F2.newG nu, gg2.trans (Step.newG F2 nu).gg, u, sb, rfl, upd_same, (Step.newG F2 nu).gg _ _ (gg2 _ _ gsb)⟩
      | true =>
        walk_at "go"
        refine i_iteD (fun c => ?_) fun c => ?_
        · walk_at "go"
          intro u nu
          refine hR _ _ ⟨_, _, rfl, F2.newG nu, gg2.trans (Step.newG F2 nu).gg, ?_⟩
          have e : newestOf (if true = true then some (g, (⟨wa, ha, da, ca, ta⟩ : Fr)) else none) (if true = true then some (og, ⟨wb, hb, db, cb, tb⟩) else none) = some (og, ⟨wb, hb, db, cb, tb⟩) := by
            show (if og = (g + 1) % 256 then _ else _) = _
            rw [if_pos c]
          rw [e]
          exact ⟨u, sb, rfl, upd_same, (Step.newG F2 nu).gg _ _ (gg2 _ _ gsb)⟩
        · walk_at "go"
          refine hR _ _ ⟨_, _, rfl, F2, gg2, ?_⟩
          have e : newestOf (if true = true then some (g, (⟨wa, ha, da, ca, ta⟩ : Fr)) else none) (if true = true then some (og, ⟨wb, hb, db, cb, tb⟩) else none) = some (g, ⟨wa, ha, da, ca, ta⟩) := by
            show (if og = (g + 1) % 256 then _ else _) = _
            rw [if_neg c]
          rw [e]
          exact due1
  clear due1 F2 hp1 hp2 hsh
  rintro σ H3 ⟨v, G3, rfl, F3, gg3, due⟩
  have D3 := D.more gg3
  have len := L.len
  walk_at "go"
  refine ⟨x, G3, M, x', rfl, F3.ms, D3, ?_⟩
  walk_at "go"
  refine ⟨x, 0, G3, M, x', rfl, F3.ms, D3, .inl rfl, ?_⟩
  walk_at "go"
  refine ⟨x, 1, G3, M, x', rfl, F3.ms, D3, .inr rfl, ?_⟩
  walk_at "go"
  refine ⟨x, G3, M, x', rfl, F3, D3, L.ok, fun H4 w S4 hw => ?_⟩
  have hw' := hw.same (grow_r F3)
  have F4 := F3.grow S4
  have D4 : DiskAt K (grow G3 H3 H4) M x x' := D3.more grow_l
  have due4 : DueAt (grow G3 H3 H4) v x'.newest := due.same grow_l
  clear hw S4 due
  generalize grow G3 H3 H4 = G4 at *
  cases en : x'.newest with
  | none =>
    rw [en] at hw' due4
    cases hw'
    cases due4
    walk_at "go"
    refine ⟨x, G4, M, x', rfl, F4, D4, L.ok, L.left, by have := L.pd; omega, L.zz, fun _ H5 S5 => ?_, fun g fr e => (by rw [en] at e; cases e)⟩
    walk_at "go"
    rw [decide_eq_true rfl]
    exact q _
  | some o =>
    obtain ⟨gn, fr⟩ := o
    rw [en] at hw' due4
    obtain ⟨t, f, rfl, ht, hf⟩ := hw'
    obtain ⟨uu, su, rfl, hu, hsu⟩ := due4
    have ht4 := F4.gs _ _ ht
    have hu4 := F4.gs _ _ hu
    have hsu4 := F4.gs _ _ hsu
    walk_at "go"
    refine isi_tup ht4 ?_
    walk_at "go"
    refine i_iteNf rfl ?_
    walk_at "go"
    refine ⟨gn, rfl, ?_⟩
    walk_at "go"
    refine i_neDI ?_
    walk_at "go"
    refine ⟨f, su, fr, fr, rfl, hf.same F4.gs, hsu4, fun H5 S5 => ?_⟩
    rw [decide_eq_true rfl]
    have F5 := F4.grow S5
    have D5 : DiskAt K (grow G4 H4 H5) M x x' := D4.more grow_l
    have hsu5 : grow G4 H4 H5 su = _ := grow_l _ _ hsu
    have hu5 := F5.gs _ _ (grow_l _ _ hu)
    walk_at "go"
    refine ⟨x, _, M, x', rfl, F5, D5, L.ok, L.left, by have := L.pd; omega, L.zz, fun e => (by rw [en] at e; cases e), fun g2 fr2 e H6 f2 S6 hf2 => ?_⟩
    rw [en] at e
    cases e
    have hu6 := S6 _ _ (grow_l _ _ hu)
    walk_at "go"
    refine ⟨f2, su, fr, fr, rfl, hf2, S6 _ _ hsu5, fun H7 S7 => ?_⟩
    rw [decide_eq_true rfl]
    exact q _

def top (i : Nat) : Stmt := PySem.Challenge.pw_packetpicture_k80_current_header.main.body.getD i (.Pass ⟨0, 0, 0, 0⟩)
abbrev s_OutOfRange_init : Stmt := inClass (top 3) 0
def d_OutOfRange_init : He.DefD := ⟨("OutOfRange", some "__init__"), "__init__", "OutOfRange.__init__", defArgs s_OutOfRange_init, defBody s_OutOfRange_init, defScope s_OutOfRange_init, [], []⟩

abbrev s_Disk_init : Stmt := inClass (top 54) 0
def d_Disk_init : He.DefD := ⟨("Disk", some "__init__"), "__init__", "Disk.__init__", defArgs s_Disk_init, defBody s_Disk_init, defScope s_Disk_init, [], []⟩

abbrev s_encode_header : Stmt := top 47
def d_encode_header : He.DefD := ⟨("encode_header", none), "encode_header", "encode_header", defArgs s_encode_header, defBody s_encode_header, defScope s_encode_header, [], []⟩

abbrev s__law_draw : Stmt := top 66
def d__law_draw : He.DefD := ⟨("_law_draw", none), "_law_draw", "_law_draw", defArgs s__law_draw, defBody s__law_draw, defScope s__law_draw, [], []⟩

abbrev s_check_shape : Stmt := top 27
def d_check_shape : He.DefD := ⟨("check_shape", none), "check_shape", "check_shape", defArgs s_check_shape, defBody s_check_shape, defScope s_check_shape, [], []⟩

abbrev s_check_size : Stmt := top 28
def d_check_size : He.DefD := ⟨("check_size", none), "check_size", "check_size", defArgs s_check_size, defBody s_check_size, defScope s_check_size, [], []⟩

abbrev s_Frame_init : Stmt := inClass (top 29) 0
def d_Frame_init : He.DefD := ⟨("Frame", some "__init__"), "__init__", "Frame.__init__", defArgs s_Frame_init, defBody s_Frame_init, defScope s_Frame_init, [], []⟩

abbrev s__law_frame : Stmt := top 69
def d__law_frame : He.DefD := ⟨("_law_frame", none), "_law_frame", "_law_frame", defArgs s__law_frame, defBody s__law_frame, defScope s__law_frame, [], []⟩

abbrev s__law_block : Stmt := top 70
def d__law_block : He.DefD := ⟨("_law_block", none), "_law_block", "_law_block", defArgs s__law_block, defBody s__law_block, defScope s__law_block, [], []⟩

abbrev s_Disk__check_at : Stmt := inClass (top 54) 2
def d_Disk__check_at : He.DefD := ⟨("Disk", some "_check_at"), "_check_at", "Disk._check_at", defArgs s_Disk__check_at, defBody s_Disk__check_at, defScope s_Disk__check_at, [], []⟩

abbrev s_Disk__cut : Stmt := inClass (top 54) 4
def d_Disk__cut : He.DefD := ⟨("Disk", some "_cut"), "_cut", "Disk._cut", defArgs s_Disk__cut, defBody s_Disk__cut, defScope s_Disk__cut, [], []⟩

abbrev s_Disk__spend : Stmt := inClass (top 54) 5
def d_Disk__spend : He.DefD := ⟨("Disk", some "_spend"), "_spend", "Disk._spend", defArgs s_Disk__spend, defBody s_Disk__spend, defScope s_Disk__spend, [], []⟩

abbrev s__is_block : Stmt := top 53
def d__is_block : He.DefD := ⟨("_is_block", none), "_is_block", "_is_block", defArgs s__is_block, defBody s__is_block, defScope s__is_block, [], []⟩

abbrev s_Disk_write : Stmt := inClass (top 54) 6
def d_Disk_write : He.DefD := ⟨("Disk", some "write"), "write", "Disk.write", defArgs s_Disk_write, defBody s_Disk_write, defScope s_Disk_write, [], []⟩

abbrev s_decode_header : Stmt := top 48
def d_decode_header : He.DefD := ⟨("decode_header", none), "decode_header", "decode_header", defArgs s_decode_header, defBody s_decode_header, defScope s_decode_header, [], []⟩

abbrev s_Disk_read : Stmt := inClass (top 54) 3
def d_Disk_read : He.DefD := ⟨("Disk", some "read"), "read", "Disk.read", defArgs s_Disk_read, defBody s_Disk_read, defScope s_Disk_read, [], []⟩

abbrev s_newest_header : Stmt := top 59
def d_newest_header : He.DefD := ⟨("newest_header", none), "newest_header", "newest_header", defArgs s_newest_header, defBody s_newest_header, defScope s_newest_header, [], []⟩

abbrev s__law_cell : Stmt := top 64
def d__law_cell : He.DefD := ⟨("_law_cell", none), "_law_cell", "_law_cell", defArgs s__law_cell, defBody s__law_cell, defScope s__law_cell, [], []⟩

abbrev s__law_digits : Stmt := top 65
def d__law_digits : He.DefD := ⟨("_law_digits", none), "_law_digits", "_law_digits", defArgs s__law_digits, defBody s__law_digits, defScope s__law_digits, [], []⟩

abbrev s__law_shape : Stmt := top 68
def d__law_shape : He.DefD := ⟨("_law_shape", none), "_law_shape", "_law_shape", defArgs s__law_shape, defBody s__law_shape, defScope s__law_shape, [], []⟩

abbrev s_Disk_flush : Stmt := inClass (top 54) 7
def d_Disk_flush : He.DefD := ⟨("Disk", some "flush"), "flush", "Disk.flush", defArgs s_Disk_flush, defBody s_Disk_flush, defScope s_Disk_flush, [], []⟩

abbrev s__law_same : Stmt := top 72
def d__law_same : He.DefD := ⟨("_law_same", none), "_law_same", "_law_same", defArgs s__law_same, defBody s__law_same, defScope s__law_same, [], []⟩

abbrev s_Disk_size : Stmt := inClass (top 54) 1
def d_Disk_size : He.DefD := ⟨("Disk", some "size"), "size", "Disk.size", defArgs s_Disk_size, defBody s_Disk_size, defScope s_Disk_size, [], []⟩

abbrev s_area_size : Stmt := top 56
def d_area_size : He.DefD := ⟨("area_size", none), "area_size", "area_size", defArgs s_area_size, defBody s_area_size, defScope s_area_size, [], []⟩

abbrev s_area_start : Stmt := top 57
def d_area_start : He.DefD := ⟨("area_start", none), "area_start", "area_start", defArgs s_area_start, defBody s_area_start, defScope s_area_start, [], []⟩

abbrev s_Arrived_init : Stmt := inClass (top 38) 0
def d_Arrived_init : He.DefD := ⟨("Arrived", some "__init__"), "__init__", "Arrived.__init__", defArgs s_Arrived_init, defBody s_Arrived_init, defScope s_Arrived_init, [], []⟩

abbrev s__clear : Stmt := top 58
def d__clear : He.DefD := ⟨("_clear", none), "_clear", "_clear", defArgs s__clear, defBody s__clear, defScope s__clear, [], []⟩

abbrev s_Disk_cut_count : Stmt := inClass (top 54) 9
def d_Disk_cut_count : He.DefD := ⟨("Disk", some "cut_count"), "cut_count", "Disk.cut_count", defArgs s_Disk_cut_count, defBody s_Disk_cut_count, defScope s_Disk_cut_count, [], []⟩

abbrev s_Keeper_init : Stmt := inClass (top 62) 0
def d_Keeper_init : He.DefD := ⟨("Keeper", some "__init__"), "__init__", "Keeper.__init__", defArgs s_Keeper_init, defBody s_Keeper_init, defScope s_Keeper_init, [], []⟩

abbrev s_unpack : Stmt := top 40
def d_unpack : He.DefD := ⟨("unpack", none), "unpack", "unpack", defArgs s_unpack, defBody s_unpack, defScope s_unpack, [], []⟩

abbrev s_decode_record : Stmt := top 46
def d_decode_record : He.DefD := ⟨("decode_record", none), "decode_record", "decode_record", defArgs s_decode_record, defBody s_decode_record, defScope s_decode_record, [], []⟩

abbrev s_Frame_packets : Stmt := inClass (top 29) 5
def d_Frame_packets : He.DefD := ⟨("Frame", some "packets"), "packets", "Frame.packets", defArgs s_Frame_packets, defBody s_Frame_packets, defScope s_Frame_packets, [], []⟩

abbrev s_Arrived_accept : Stmt := inClass (top 38) 2
def d_Arrived_accept : He.DefD := ⟨("Arrived", some "accept"), "accept", "Arrived.accept", defArgs s_Arrived_accept, defBody s_Arrived_accept, defScope s_Arrived_accept, [], []⟩

abbrev s_key_at : Stmt := top 33
def d_key_at : He.DefD := ⟨("key_at", none), "key_at", "key_at", defArgs s_key_at, defBody s_key_at, defScope s_key_at, [], []⟩

abbrev s__accepted : Stmt := top 60
def d__accepted : He.DefD := ⟨("_accepted", none), "_accepted", "_accepted", defArgs s__accepted, defBody s__accepted, defScope s__accepted, [], []⟩

abbrev s_open_keeper : Stmt := top 61
def d_open_keeper : He.DefD := ⟨("open_keeper", none), "open_keeper", "open_keeper", defArgs s_open_keeper, defBody s_open_keeper, defScope s_open_keeper, [], []⟩

abbrev s__law_open : Stmt := top 71
def d__law_open : He.DefD := ⟨("_law_open", none), "_law_open", "_law_open", defArgs s__law_open, defBody s__law_open, defScope s__law_open, [], []⟩

abbrev s__law_is_integer : Stmt := top 67
def d__law_is_integer : He.DefD := ⟨("_law_is_integer", none), "_law_is_integer", "_law_is_integer", defArgs s__law_is_integer, defBody s__law_is_integer, defScope s__law_is_integer, [], []⟩

abbrev s_law : Stmt := top 73
def d_law : He.DefD := ⟨("law", none), "law", "law", defArgs s_law, defBody s_law, defScope s_law, [], []⟩

def fn : List He.DefD := ([d_OutOfRange_init, d_Disk_init, d_encode_header, d__law_draw, d_check_shape, d_check_size, d_Frame_init, d__law_frame, d__law_block, d_Disk__check_at, d_Disk__cut, d_Disk__spend, d__is_block, d_Disk_write, d_decode_header, d_Disk_read, d_newest_header, d__law_cell, d__law_digits, d__law_shape, d_Disk_flush, d__law_same, d_Disk_size, d_area_size, d_area_start, d_Arrived_init, d__clear, d_Disk_cut_count, d_Keeper_init, d_unpack] : List He.DefD) ++ ([d_decode_record, d_Frame_packets, d_Arrived_accept, d_key_at, d__accepted, d_open_keeper, d__law_open, d__law_is_integer, d_law] : List He.DefD)
def fa0 : List (Frag → Bool) := [
  fun K => (He.Fa.cls "Arrived").ok K,
  fun K => (He.Fa.cls "Disk").ok K,
  fun K => (He.Fa.cls "Frame").ok K,
  fun K => (He.Fa.cls "Keeper").ok K,
  fun K => (He.Fa.exc "NotKept").ok K,
  fun K => (He.Fa.exc "PowerCut").ok K,
  fun K => (He.Fa.glo "Arrived").ok K,
  fun K => (He.Fa.glo "Disk").ok K,
  fun K => (He.Fa.glo "Frame").ok K,
  fun K => (He.Fa.glo "Keeper").ok K,
  fun K => (He.Fa.glo "NotKept").ok K,
  fun K => (He.Fa.glo "OutOfRange").ok K,
  fun K => (He.Fa.glo "PictureError").ok K,
  fun K => (He.Fa.glo "PowerCut").ok K,
  fun K => (He.Fa.glo "_accepted").ok K,
  fun K => (He.Fa.glo "_clear").ok K,
  fun K => (He.Fa.glo "_is_block").ok K,
  fun K => (He.Fa.glo "_law_block").ok K,
  fun K => (He.Fa.glo "_law_cell").ok K,
  fun K => (He.Fa.glo "_law_digits").ok K,
  fun K => (He.Fa.glo "_law_draw").ok K,
  fun K => (He.Fa.glo "_law_frame").ok K,
  fun K => (He.Fa.glo "_law_is_integer").ok K,
  fun K => (He.Fa.glo "_law_open").ok K,
  fun K => (He.Fa.glo "_law_same").ok K,
  fun K => (He.Fa.glo "_law_shape").ok K,
  fun K => (He.Fa.glo "area_size").ok K,
  fun K => (He.Fa.glo "area_start").ok K,
  fun K => (He.Fa.glo "check_shape").ok K,
  fun K => (He.Fa.glo "check_size").ok K]
def fa1 : List (Frag → Bool) := [
  fun K => (He.Fa.glo "decode_header").ok K,
  fun K => (He.Fa.glo "decode_record").ok K,
  fun K => (He.Fa.glo "encode_header").ok K,
  fun K => (He.Fa.glo "key_at").ok K,
  fun K => (He.Fa.glo "law").ok K,
  fun K => (He.Fa.glo "newest_header").ok K,
  fun K => (He.Fa.glo "open_keeper").ok K,
  fun K => (He.Fa.glo "unpack").ok K,
  fun K => (He.Fa.int "BLOCK" (32)).ok K,
  fun K => (He.Fa.int "BLOCKS_LEAST" (4)).ok K,
  fun K => (He.Fa.int "BLOCKS_MOST" (400)).ok K,
  fun K => (He.Fa.int "DEPTH_MOST" (8)).ok K,
  fun K => (He.Fa.int "HEADER_MARK" (72)).ok K,
  fun K => (He.Fa.int "RECORD_BYTES" (20)).ok K,
  fun K => (He.Fa.int "RECORD_MARK" (75)).ok K,
  fun K => (He.Fa.int "RECORD_MOST" (160)).ok K,
  fun K => (He.Fa.int "SIDE_MOST" (64)).ok K,
  fun K => (He.Fa.int "TILE_MOST" (16)).ok K,
  fun K => (He.Fa.int "VALUES_MOST" (3072)).ok K,
  fun K => insB K (He.ga K "Frame"),
  fun K => (He.Fa.mkr "Arrived").ok K,
  fun K => (He.Fa.mkr "Disk").ok K,
  fun K => (He.Fa.mkr "Frame").ok K,
  fun K => (He.Fa.mkr "Keeper").ok K,
  fun K => decide (PySem.W.kitOne K (.ref (He.ga K "Frame")) (.ref (He.ga K "Frame")) = some true),
  fun K => decide (PySem.W.kitOne K (.ref (He.ga K "NotKept")) (.ref (He.ga K "OutOfRange")) = some false),
  fun K => (He.Fa.meth "Arrived" "accept").ok K,
  fun K => (He.Fa.meth "Disk" "_check_at").ok K,
  fun K => (He.Fa.meth "Disk" "_cut").ok K,
  fun K => (He.Fa.meth "Disk" "_spend").ok K]
def fa2 : List (Frag → Bool) := [
  fun K => (He.Fa.meth "Disk" "cut_count").ok K,
  fun K => (He.Fa.meth "Disk" "flush").ok K,
  fun K => (He.Fa.meth "Disk" "read").ok K,
  fun K => (He.Fa.meth "Disk" "size").ok K,
  fun K => (He.Fa.meth "Disk" "write").ok K,
  fun K => (He.Fa.meth "Frame" "packets").ok K,
  fun K => (He.Fa.noat "Arrived" "_texts").ok K,
  fun K => (He.Fa.noat "Arrived" "frame").ok K,
  fun K => (He.Fa.noat "Disk" "_blocks").ok K,
  fun K => (He.Fa.noat "Disk" "_cuts").ok K,
  fun K => (He.Fa.noat "Disk" "_left").ok K,
  fun K => (He.Fa.noat "Disk" "_pending").ok K,
  fun K => (He.Fa.noat "Disk" "_torn").ok K,
  fun K => (He.Fa.noat "Frame" "channels").ok K,
  fun K => (He.Fa.noat "Frame" "depth").ok K,
  fun K => (He.Fa.noat "Frame" "height").ok K,
  fun K => (He.Fa.noat "Frame" "tile").ok K,
  fun K => (He.Fa.noat "Frame" "width").ok K,
  fun K => (He.Fa.noat "Keeper" "_arrived").ok K,
  fun K => (He.Fa.noat "Keeper" "_cuts").ok K,
  fun K => (He.Fa.noat "Keeper" "_disk").ok K,
  fun K => (He.Fa.noat "Keeper" "_generation").ok K,
  fun K => (He.Fa.noat "Keeper" "_used").ok K,
  fun K => (He.Fa.noat "Keeper" "frame").ok K,
  fun K => (He.Fa.noat "OutOfRange" "name").ok K,
  fun K => oexB K (He.ga K "OutOfRange"),
  fun K => excCB K (He.ga K "NotKept"),
  fun K => oexI K (He.ga K "OutOfRange") (He.fAd K ("OutOfRange", some "__init__")),
  fun K => (He.Fa.exm "NotKept" "NotKept" true).ok K,
  fun K => (He.Fa.exm "OutOfRange" "OutOfRange" true).ok K]
def fa3 : List (Frag → Bool) := [
  fun K => (He.Fa.free "bool").ok K,
  fun K => (He.Fa.free "int").ok K,
  fun K => (He.Fa.free "isinstance").ok K,
  fun K => (He.Fa.free "len").ok K,
  fun K => (He.Fa.free "list").ok K,
  fun K => (He.Fa.free "range").ok K,
  fun K => (He.Fa.free "tuple").ok K]
def fa : List (Frag → Bool) := fa0 ++ fa1 ++ fa2 ++ fa3
structure Top (K : Frag) (mg : Str → Option Value) : Prop where
  ex : ∃ h : Heap, K.In h ∧ h.Ns mainGlobals mg
  says : SaysP (fun K => fa.all fun f => f K) fn K
theorem Top.fact {K : Frag} {mg : Str → Option Value} (T : Top K mg) {g : List (Frag → Bool)} (hg : ∀ f, f ∈ g → f ∈ fa) (i : Nat) {f : Frag → Bool} (h : g[i]? = some f := by rfl) : f K = true := List.all_eq_true.mp T.says.facts f (hg f (List.mem_of_getElem? h))
theorem in_fa0 : ∀ f, f ∈ fa0 → f ∈ fa := fun f h => by unfold fa; simp only [List.mem_append]; simp only [h, true_or, or_true]
theorem in_fa1 : ∀ f, f ∈ fa1 → f ∈ fa := fun f h => by unfold fa; simp only [List.mem_append]; simp only [h, true_or, or_true]
theorem in_fa2 : ∀ f, f ∈ fa2 → f ∈ fa := fun f h => by unfold fa; simp only [List.mem_append]; simp only [h, true_or, or_true]
theorem in_fa3 : ∀ f, f ∈ fa3 → f ∈ fa := fun f h => by unfold fa; simp only [List.mem_append]; simp only [h, true_or, or_true]
section
variable {K : Frag} {mg : Str → Option Value}
theorem c_Arrived (T : Top K mg) : Cls K (He.ga K "Arrived") := He.cls_ok (T.fact in_fa0 0)
theorem c_Disk (T : Top K mg) : Cls K (He.ga K "Disk") := He.cls_ok (T.fact in_fa0 1)
theorem c_Frame (T : Top K mg) : Cls K (He.ga K "Frame") := He.cls_ok (T.fact in_fa0 2)
theorem c_Keeper (T : Top K mg) : Cls K (He.ga K "Keeper") := He.cls_ok (T.fact in_fa0 3)
theorem e_NotKept (T : Top K mg) : ExcF K (He.ga K "NotKept") := He.exc_ok (T.fact in_fa0 4)
theorem e_PowerCut (T : Top K mg) : ExcF K (He.ga K "PowerCut") := He.exc_ok (T.fact in_fa0 5)
theorem g_Arrived (T : Top K mg) : mg "Arrived" = some (.ref (He.ga K "Arrived")) := let ⟨_, X, G⟩ := T.ex; He.glo_ok X G (T.fact in_fa0 6)
theorem g_Disk (T : Top K mg) : mg "Disk" = some (.ref (He.ga K "Disk")) := let ⟨_, X, G⟩ := T.ex; He.glo_ok X G (T.fact in_fa0 7)
theorem g_Frame (T : Top K mg) : mg "Frame" = some (.ref (He.ga K "Frame")) := let ⟨_, X, G⟩ := T.ex; He.glo_ok X G (T.fact in_fa0 8)
theorem g_Keeper (T : Top K mg) : mg "Keeper" = some (.ref (He.ga K "Keeper")) := let ⟨_, X, G⟩ := T.ex; He.glo_ok X G (T.fact in_fa0 9)
theorem g_NotKept (T : Top K mg) : mg "NotKept" = some (.ref (He.ga K "NotKept")) := let ⟨_, X, G⟩ := T.ex; He.glo_ok X G (T.fact in_fa0 10)
theorem g_OutOfRange (T : Top K mg) : mg "OutOfRange" = some (.ref (He.ga K "OutOfRange")) := let ⟨_, X, G⟩ := T.ex; He.glo_ok X G (T.fact in_fa0 11)
theorem g_PictureError (T : Top K mg) : mg "PictureError" = some (.ref (He.ga K "PictureError")) := let ⟨_, X, G⟩ := T.ex; He.glo_ok X G (T.fact in_fa0 12)
theorem g_PowerCut (T : Top K mg) : mg "PowerCut" = some (.ref (He.ga K "PowerCut")) := let ⟨_, X, G⟩ := T.ex; He.glo_ok X G (T.fact in_fa0 13)
theorem g__accepted (T : Top K mg) : mg "_accepted" = some (.ref (He.ga K "_accepted")) := let ⟨_, X, G⟩ := T.ex; He.glo_ok X G (T.fact in_fa0 14)
theorem g__clear (T : Top K mg) : mg "_clear" = some (.ref (He.ga K "_clear")) := let ⟨_, X, G⟩ := T.ex; He.glo_ok X G (T.fact in_fa0 15)
theorem g__is_block (T : Top K mg) : mg "_is_block" = some (.ref (He.ga K "_is_block")) := let ⟨_, X, G⟩ := T.ex; He.glo_ok X G (T.fact in_fa0 16)
theorem g__law_block (T : Top K mg) : mg "_law_block" = some (.ref (He.ga K "_law_block")) := let ⟨_, X, G⟩ := T.ex; He.glo_ok X G (T.fact in_fa0 17)
theorem g__law_cell (T : Top K mg) : mg "_law_cell" = some (.ref (He.ga K "_law_cell")) := let ⟨_, X, G⟩ := T.ex; He.glo_ok X G (T.fact in_fa0 18)
theorem g__law_digits (T : Top K mg) : mg "_law_digits" = some (.ref (He.ga K "_law_digits")) := let ⟨_, X, G⟩ := T.ex; He.glo_ok X G (T.fact in_fa0 19)
theorem g__law_draw (T : Top K mg) : mg "_law_draw" = some (.ref (He.ga K "_law_draw")) := let ⟨_, X, G⟩ := T.ex; He.glo_ok X G (T.fact in_fa0 20)
theorem g__law_frame (T : Top K mg) : mg "_law_frame" = some (.ref (He.ga K "_law_frame")) := let ⟨_, X, G⟩ := T.ex; He.glo_ok X G (T.fact in_fa0 21)
theorem g__law_is_integer (T : Top K mg) : mg "_law_is_integer" = some (.ref (He.ga K "_law_is_integer")) := let ⟨_, X, G⟩ := T.ex; He.glo_ok X G (T.fact in_fa0 22)
theorem g__law_open (T : Top K mg) : mg "_law_open" = some (.ref (He.ga K "_law_open")) := let ⟨_, X, G⟩ := T.ex; He.glo_ok X G (T.fact in_fa0 23)
theorem g__law_same (T : Top K mg) : mg "_law_same" = some (.ref (He.ga K "_law_same")) := let ⟨_, X, G⟩ := T.ex; He.glo_ok X G (T.fact in_fa0 24)
theorem g__law_shape (T : Top K mg) : mg "_law_shape" = some (.ref (He.ga K "_law_shape")) := let ⟨_, X, G⟩ := T.ex; He.glo_ok X G (T.fact in_fa0 25)
theorem g_area_size (T : Top K mg) : mg "area_size" = some (.ref (He.ga K "area_size")) := let ⟨_, X, G⟩ := T.ex; He.glo_ok X G (T.fact in_fa0 26)
theorem g_area_start (T : Top K mg) : mg "area_start" = some (.ref (He.ga K "area_start")) := let ⟨_, X, G⟩ := T.ex; He.glo_ok X G (T.fact in_fa0 27)
theorem g_check_shape (T : Top K mg) : mg "check_shape" = some (.ref (He.ga K "check_shape")) := let ⟨_, X, G⟩ := T.ex; He.glo_ok X G (T.fact in_fa0 28)
theorem g_check_size (T : Top K mg) : mg "check_size" = some (.ref (He.ga K "check_size")) := let ⟨_, X, G⟩ := T.ex; He.glo_ok X G (T.fact in_fa0 29)
theorem g_decode_header (T : Top K mg) : mg "decode_header" = some (.ref (He.ga K "decode_header")) := let ⟨_, X, G⟩ := T.ex; He.glo_ok X G (T.fact in_fa1 0)
theorem g_decode_record (T : Top K mg) : mg "decode_record" = some (.ref (He.ga K "decode_record")) := let ⟨_, X, G⟩ := T.ex; He.glo_ok X G (T.fact in_fa1 1)
theorem g_encode_header (T : Top K mg) : mg "encode_header" = some (.ref (He.ga K "encode_header")) := let ⟨_, X, G⟩ := T.ex; He.glo_ok X G (T.fact in_fa1 2)
theorem g_key_at (T : Top K mg) : mg "key_at" = some (.ref (He.ga K "key_at")) := let ⟨_, X, G⟩ := T.ex; He.glo_ok X G (T.fact in_fa1 3)
theorem g_law (T : Top K mg) : mg "law" = some (.ref (He.ga K "law")) := let ⟨_, X, G⟩ := T.ex; He.glo_ok X G (T.fact in_fa1 4)
theorem g_newest_header (T : Top K mg) : mg "newest_header" = some (.ref (He.ga K "newest_header")) := let ⟨_, X, G⟩ := T.ex; He.glo_ok X G (T.fact in_fa1 5)
theorem g_open_keeper (T : Top K mg) : mg "open_keeper" = some (.ref (He.ga K "open_keeper")) := let ⟨_, X, G⟩ := T.ex; He.glo_ok X G (T.fact in_fa1 6)
theorem g_unpack (T : Top K mg) : mg "unpack" = some (.ref (He.ga K "unpack")) := let ⟨_, X, G⟩ := T.ex; He.glo_ok X G (T.fact in_fa1 7)
theorem i_BLOCK (T : Top K mg) : ∃ t, mg "BLOCK" = some (.int (32) t) := let ⟨_, X, G⟩ := T.ex; He.int_ok X G (T.fact in_fa1 8)
theorem i_BLOCKS_LEAST (T : Top K mg) : ∃ t, mg "BLOCKS_LEAST" = some (.int (4) t) := let ⟨_, X, G⟩ := T.ex; He.int_ok X G (T.fact in_fa1 9)
theorem i_BLOCKS_MOST (T : Top K mg) : ∃ t, mg "BLOCKS_MOST" = some (.int (400) t) := let ⟨_, X, G⟩ := T.ex; He.int_ok X G (T.fact in_fa1 10)
theorem i_DEPTH_MOST (T : Top K mg) : ∃ t, mg "DEPTH_MOST" = some (.int (8) t) := let ⟨_, X, G⟩ := T.ex; He.int_ok X G (T.fact in_fa1 11)
theorem i_HEADER_MARK (T : Top K mg) : ∃ t, mg "HEADER_MARK" = some (.int (72) t) := let ⟨_, X, G⟩ := T.ex; He.int_ok X G (T.fact in_fa1 12)
theorem i_RECORD_BYTES (T : Top K mg) : ∃ t, mg "RECORD_BYTES" = some (.int (20) t) := let ⟨_, X, G⟩ := T.ex; He.int_ok X G (T.fact in_fa1 13)
theorem i_RECORD_MARK (T : Top K mg) : ∃ t, mg "RECORD_MARK" = some (.int (75) t) := let ⟨_, X, G⟩ := T.ex; He.int_ok X G (T.fact in_fa1 14)
theorem i_RECORD_MOST (T : Top K mg) : ∃ t, mg "RECORD_MOST" = some (.int (160) t) := let ⟨_, X, G⟩ := T.ex; He.int_ok X G (T.fact in_fa1 15)
theorem i_SIDE_MOST (T : Top K mg) : ∃ t, mg "SIDE_MOST" = some (.int (64) t) := let ⟨_, X, G⟩ := T.ex; He.int_ok X G (T.fact in_fa1 16)
theorem i_TILE_MOST (T : Top K mg) : ∃ t, mg "TILE_MOST" = some (.int (16) t) := let ⟨_, X, G⟩ := T.ex; He.int_ok X G (T.fact in_fa1 17)
theorem i_VALUES_MOST (T : Top K mg) : ∃ t, mg "VALUES_MOST" = some (.int (3072) t) := let ⟨_, X, G⟩ := T.ex; He.int_ok X G (T.fact in_fa1 18)
theorem ins_Frame (T : Top K mg) : InsC K (He.ga K "Frame") := insB_ok (T.fact in_fa1 19)
theorem k_Arrived (T : Top K mg) : Mk K (He.ga K "Arrived") (He.fAd K ("Arrived", some "__init__")) := He.mkr_ok (T.fact in_fa1 20)
theorem k_Disk (T : Top K mg) : Mk K (He.ga K "Disk") (He.fAd K ("Disk", some "__init__")) := He.mkr_ok (T.fact in_fa1 21)
theorem k_Frame (T : Top K mg) : Mk K (He.ga K "Frame") (He.fAd K ("Frame", some "__init__")) := He.mkr_ok (T.fact in_fa1 22)
theorem k_Keeper (T : Top K mg) : Mk K (He.ga K "Keeper") (He.fAd K ("Keeper", some "__init__")) := He.mkr_ok (T.fact in_fa1 23)
theorem kit_Frame_Frame (T : Top K mg) : PySem.W.kitOne K (.ref (He.ga K "Frame")) (.ref (He.ga K "Frame")) = some true := of_decide_eq_true (T.fact in_fa1 24)
theorem kit_NotKept_OutOfRange (T : Top K mg) : PySem.W.kitOne K (.ref (He.ga K "NotKept")) (.ref (He.ga K "OutOfRange")) = some false := of_decide_eq_true (T.fact in_fa1 25)
theorem m_Arrived_accept (T : Top K mg) : Meth K (He.ga K "Arrived") "accept" (He.fAd K ("Arrived", some "accept")) := He.meth_ok (T.fact in_fa1 26)
theorem m_Disk__check_at (T : Top K mg) : Meth K (He.ga K "Disk") "_check_at" (He.fAd K ("Disk", some "_check_at")) := He.meth_ok (T.fact in_fa1 27)
theorem m_Disk__cut (T : Top K mg) : Meth K (He.ga K "Disk") "_cut" (He.fAd K ("Disk", some "_cut")) := He.meth_ok (T.fact in_fa1 28)
theorem m_Disk__spend (T : Top K mg) : Meth K (He.ga K "Disk") "_spend" (He.fAd K ("Disk", some "_spend")) := He.meth_ok (T.fact in_fa1 29)
theorem m_Disk_cut_count (T : Top K mg) : Meth K (He.ga K "Disk") "cut_count" (He.fAd K ("Disk", some "cut_count")) := He.meth_ok (T.fact in_fa2 0)
theorem m_Disk_flush (T : Top K mg) : Meth K (He.ga K "Disk") "flush" (He.fAd K ("Disk", some "flush")) := He.meth_ok (T.fact in_fa2 1)
theorem m_Disk_read (T : Top K mg) : Meth K (He.ga K "Disk") "read" (He.fAd K ("Disk", some "read")) := He.meth_ok (T.fact in_fa2 2)
theorem m_Disk_size (T : Top K mg) : Meth K (He.ga K "Disk") "size" (He.fAd K ("Disk", some "size")) := He.meth_ok (T.fact in_fa2 3)
theorem m_Disk_write (T : Top K mg) : Meth K (He.ga K "Disk") "write" (He.fAd K ("Disk", some "write")) := He.meth_ok (T.fact in_fa2 4)
theorem m_Frame_packets (T : Top K mg) : Meth K (He.ga K "Frame") "packets" (He.fAd K ("Frame", some "packets")) := He.meth_ok (T.fact in_fa2 5)
theorem n_Arrived__texts (T : Top K mg) : NoAttr K (He.ga K "Arrived") "_texts" := He.noat_ok (T.fact in_fa2 6)
theorem n_Arrived_frame (T : Top K mg) : NoAttr K (He.ga K "Arrived") "frame" := He.noat_ok (T.fact in_fa2 7)
theorem n_Disk__blocks (T : Top K mg) : NoAttr K (He.ga K "Disk") "_blocks" := He.noat_ok (T.fact in_fa2 8)
theorem n_Disk__cuts (T : Top K mg) : NoAttr K (He.ga K "Disk") "_cuts" := He.noat_ok (T.fact in_fa2 9)
theorem n_Disk__left (T : Top K mg) : NoAttr K (He.ga K "Disk") "_left" := He.noat_ok (T.fact in_fa2 10)
theorem n_Disk__pending (T : Top K mg) : NoAttr K (He.ga K "Disk") "_pending" := He.noat_ok (T.fact in_fa2 11)
theorem n_Disk__torn (T : Top K mg) : NoAttr K (He.ga K "Disk") "_torn" := He.noat_ok (T.fact in_fa2 12)
theorem n_Frame_channels (T : Top K mg) : NoAttr K (He.ga K "Frame") "channels" := He.noat_ok (T.fact in_fa2 13)
theorem n_Frame_depth (T : Top K mg) : NoAttr K (He.ga K "Frame") "depth" := He.noat_ok (T.fact in_fa2 14)
theorem n_Frame_height (T : Top K mg) : NoAttr K (He.ga K "Frame") "height" := He.noat_ok (T.fact in_fa2 15)
theorem n_Frame_tile (T : Top K mg) : NoAttr K (He.ga K "Frame") "tile" := He.noat_ok (T.fact in_fa2 16)
theorem n_Frame_width (T : Top K mg) : NoAttr K (He.ga K "Frame") "width" := He.noat_ok (T.fact in_fa2 17)
theorem n_Keeper__arrived (T : Top K mg) : NoAttr K (He.ga K "Keeper") "_arrived" := He.noat_ok (T.fact in_fa2 18)
theorem n_Keeper__cuts (T : Top K mg) : NoAttr K (He.ga K "Keeper") "_cuts" := He.noat_ok (T.fact in_fa2 19)
theorem n_Keeper__disk (T : Top K mg) : NoAttr K (He.ga K "Keeper") "_disk" := He.noat_ok (T.fact in_fa2 20)
theorem n_Keeper__generation (T : Top K mg) : NoAttr K (He.ga K "Keeper") "_generation" := He.noat_ok (T.fact in_fa2 21)
theorem n_Keeper__used (T : Top K mg) : NoAttr K (He.ga K "Keeper") "_used" := He.noat_ok (T.fact in_fa2 22)
theorem n_Keeper_frame (T : Top K mg) : NoAttr K (He.ga K "Keeper") "frame" := He.noat_ok (T.fact in_fa2 23)
theorem n_OutOfRange_name (T : Top K mg) : NoAttr K (He.ga K "OutOfRange") "name" := He.noat_ok (T.fact in_fa2 24)
theorem x_OutOfRange (T : Top K mg) : OexC K (He.ga K "OutOfRange") := oexB_ok (T.fact in_fa2 25)
theorem xd_NotKept (T : Top K mg) : ExcC K (He.ga K "NotKept") := excCB_ok (T.fact in_fa2 26)
theorem xi_OutOfRange (T : Top K mg) : OexI K (He.ga K "OutOfRange") (He.fAd K ("OutOfRange", some "__init__")) := oexI_ok (T.fact in_fa2 27)
theorem xm_NotKept_NotKept (T : Top K mg) : PySem.W.exmOne K (.ref (He.ga K "NotKept")) (.ref (He.ga K "NotKept")) = some true := He.exm_ok (T.fact in_fa2 28)
theorem xm_OutOfRange_OutOfRange (T : Top K mg) : PySem.W.exmOne K (.ref (He.ga K "OutOfRange")) (.ref (He.ga K "OutOfRange")) = some true := He.exm_ok (T.fact in_fa2 29)
theorem z_bool (T : Top K mg) : mg "bool" = none := let ⟨_, X, G⟩ := T.ex; He.free_ok X G (T.fact in_fa3 0)
theorem z_int (T : Top K mg) : mg "int" = none := let ⟨_, X, G⟩ := T.ex; He.free_ok X G (T.fact in_fa3 1)
theorem z_isinstance (T : Top K mg) : mg "isinstance" = none := let ⟨_, X, G⟩ := T.ex; He.free_ok X G (T.fact in_fa3 2)
theorem z_len (T : Top K mg) : mg "len" = none := let ⟨_, X, G⟩ := T.ex; He.free_ok X G (T.fact in_fa3 3)
theorem z_list (T : Top K mg) : mg "list" = none := let ⟨_, X, G⟩ := T.ex; He.free_ok X G (T.fact in_fa3 4)
theorem z_range (T : Top K mg) : mg "range" = none := let ⟨_, X, G⟩ := T.ex; He.free_ok X G (T.fact in_fa3 5)
theorem z_tuple (T : Top K mg) : mg "tuple" = none := let ⟨_, X, G⟩ := T.ex; He.free_ok X G (T.fact in_fa3 6)
end
theorem sc_OutOfRange_init : FnScope N_OutOfRange_init ["self", "name"] (defScope s_OutOfRange_init) := ⟨rfl, rfl, rfl, by decide +kernel, rfl, by decide +kernel, by decide +kernel⟩
theorem ok_OutOfRange_init {P : Program} {w : World} {K : Frag} {mg : Str → Option Value} {base : Heap} (T : Top K mg) : DefOk P w K mg base 1 (He.fAd K ("OutOfRange", some "__init__")) ["self", "name"] (sp_OutOfRange_init K) :=
  def_ok (d := d_OutOfRange_init) (tt := t_OutOfRange_init K) (T.says.def_ 0) rfl sc_OutOfRange_init ar_OutOfRange_init (fun _ _ _ _ _ _ us hl => match us, hl with | [_, _], _ => rfl) (pure_OutOfRange_init K (x_OutOfRange T) (n_OutOfRange_name T)) fun cdv A outer s H E hr => by
    have sc := sc_OutOfRange_init
    have tk : Takes (cxOf (L2.CX P w) P w K mg base N_OutOfRange_init (d_OutOfRange_init).qual (d_OutOfRange_init).scope (He.fAd K (d_OutOfRange_init).at_) cdv A outer s H E) (wE E) := takes_of rfl rfl rfl rfl
    have own := passes_of (X := cxOf (L2.CX P w) P w K mg base N_OutOfRange_init (d_OutOfRange_init).qual (d_OutOfRange_init).scope (He.fAd K (d_OutOfRange_init).at_) cdv A outer s H E) rfl
    exact pss_one (ps_ost (pv 0) (pv 1))

theorem sc_Disk_init : FnScope N_Disk_init ["self", "blocks"] (defScope s_Disk_init) := ⟨rfl, rfl, rfl, by decide +kernel, rfl, by decide +kernel, by decide +kernel⟩
theorem ok_Disk_init {P : Program} {w : World} {K : Frag} {mg : Str → Option Value} {base : Heap} (T : Top K mg) : DefOk P w K mg base 3 (He.fAd K ("Disk", some "__init__")) ["self", "blocks"] (sp_Disk_init K) :=
  def_ok (d := d_Disk_init) (tt := t_Disk_init K) (T.says.def_ 1) rfl sc_Disk_init ar_Disk_init (fun _ _ _ _ _ _ us hl => match us, hl with | [_, _], _ => rfl) (pure_Disk_init K) fun cdv A outer s H E hr => by
    have sc := sc_Disk_init
    have tk : Takes (cxOf (L2.CX P w) P w K mg base N_Disk_init (d_Disk_init).qual (d_Disk_init).scope (He.fAd K (d_Disk_init).at_) cdv A outer s H E) (wE E) := takes_of rfl rfl rfl rfl
    have own := passes_of (X := cxOf (L2.CX P w) P w K mg base N_Disk_init (d_Disk_init).qual (d_Disk_init).scope (He.fAd K (d_Disk_init).at_) cdv A outer s H E) rfl
    exact pss_cons (ps_if (pt_not (pt_chain op_le op_le (pe_gi rfl (i_BLOCKS_LEAST T)) (pv 1) (pe_gi rfl (i_BLOCKS_MOST T)))) (pss_one (ps_raiseO rfl tk (x_OutOfRange T) (xi_OutOfRange T) (ok_OutOfRange_init T) hr rfl rfl (g_OutOfRange T) (pa_cons (pe_str) (pa_nil)))) (pss_nil))
      (pss_cons (ps_f (pv 0) (pe_lc (own := [("_", 2)]) (g := gName 2) (tt := tYes) rfl sc.nd (pi_range1 rfl (z_range T) (pa_cons (pv 1) (pa_nil))) (blkOk_by (N := N_Disk_init) (sc := defScope s_Disk_init) (by decide +kernel)) (fun _ _ _ _ _ => pg_name (i := 2) sc.nd rfl (Or.inl rfl)) (fun _ _ _ _ _ => pts_nil) (fun _ _ _ _ _ => pe_op op_rep (pe_lst (pa_cons (pe_int) (pa_nil))) (pe_gi rfl (i_BLOCK T)))) (c_Disk T) (n_Disk__blocks T))
      (pss_cons (ps_f (pv 0) (pe_lst (pa_nil)) (c_Disk T) (n_Disk__pending T))
      (pss_cons (ps_f (pv 0) (pe_int) (c_Disk T) (n_Disk__cuts T))
      (pss_cons (ps_f (pv 0) (pe_non) (c_Disk T) (n_Disk__left T))
      (pss_one (ps_f (pv 0) (pe_lst (pa_nil)) (c_Disk T) (n_Disk__torn T)))))))

theorem sc_encode_header : FnScope N_encode_header ["generation", "frame"] (defScope s_encode_header) := ⟨rfl, rfl, rfl, by decide +kernel, rfl, by decide +kernel, by decide +kernel⟩
theorem ok_encode_header {P : Program} {w : World} {K : Frag} {mg : Str → Option Value} {base : Heap} (T : Top K mg) : DefOk P w K mg base 1 (He.fAd K ("encode_header", none)) ["generation", "frame"] (sp_encode_header K) :=
  def_ok (d := d_encode_header) (tt := t_encode_header K) (T.says.def_ 2) rfl sc_encode_header ar_encode_header (fun _ _ _ _ _ _ us hl => match us, hl with | [_, _], _ => rfl) (pure_encode_header K) fun cdv A outer s H E hr => by
    have sc := sc_encode_header
    have tk : Takes (cxOf (L2.CX P w) P w K mg base N_encode_header (d_encode_header).qual (d_encode_header).scope (He.fAd K (d_encode_header).at_) cdv A outer s H E) (wE E) := takes_of rfl rfl rfl rfl
    have own := passes_of (X := cxOf (L2.CX P w) P w K mg base N_encode_header (d_encode_header).qual (d_encode_header).scope (He.fAd K (d_encode_header).at_) cdv A outer s H E) rfl
    exact pss_cons (ps_set (i := 2) sc.nd rfl (Or.inl rfl) (pe_lst (pa_cons (pe_gi rfl (i_HEADER_MARK T)) (pa_cons (pv 0) (pa_cons (pe_f (pv 1) (c_Frame T) (n_Frame_width T)) (pa_cons (pe_f (pv 1) (c_Frame T) (n_Frame_height T)) (pa_cons (pe_f (pv 1) (c_Frame T) (n_Frame_depth T)) (pa_cons (pe_f (pv 1) (c_Frame T) (n_Frame_channels T)) (pa_cons (pe_f (pv 1) (c_Frame T) (n_Frame_tile T)) (pa_nil))))))))))
      (pss_one (ps_ret (pe_op op_cat (pe_op op_cat (pv 2) (pe_op op_rep (pe_lst (pa_cons (pe_int) (pa_nil))) (pe_int))) (pe_lst (pa_cons (pe_gi rfl (i_HEADER_MARK T)) (pa_nil))))))

theorem sc__law_draw : FnScope N__law_draw ["_law_box", "_law_many"] (defScope s__law_draw) := ⟨rfl, rfl, rfl, by decide +kernel, rfl, by decide +kernel, by decide +kernel⟩
theorem ok__law_draw {P : Program} {w : World} {K : Frag} {mg : Str → Option Value} {base : Heap} (T : Top K mg) : DefOk P w K mg base 1 (He.fAd K ("_law_draw", none)) ["_law_box", "_law_many"] (sp__law_draw K) :=
  def_ok (d := d__law_draw) (tt := t__law_draw K) (T.says.def_ 3) rfl sc__law_draw ar__law_draw (fun _ _ _ _ _ _ us hl => match us, hl with | [_, _], _ => rfl) (pure__law_draw K) fun cdv A outer s H E hr => by
    have sc := sc__law_draw
    have tk : Takes (cxOf (L2.CX P w) P w K mg base N__law_draw (d__law_draw).qual (d__law_draw).scope (He.fAd K (d__law_draw).at_) cdv A outer s H E) (wE E) := takes_of rfl rfl rfl rfl
    have own := passes_of (X := cxOf (L2.CX P w) P w K mg base N__law_draw (d__law_draw).qual (d__law_draw).scope (He.fAd K (d__law_draw).at_) cdv A outer s H E) rfl
    exact pss_cons (ps_set (i := 2) sc.nd rfl (Or.inl rfl) (pe_ix ix_list (pv 0) (pe_int) (fun _ _ => rfl)))
      (pss_cons (ps_asg (pe_op op_add (pv 2) (pe_int)) (pg_sub (pv 0) (pe_int) set_list))
      (pss_cons (ps_if (pt_cmpR op_lt (pv 2) (pe_callB call_len rfl (z_len T) (by decide +kernel) (pa_cons (pe_ix ix_list (pv 0) (pe_int) (fun _ _ => rfl)) (pa_nil))) (nomark _)) (pss_one (ps_ret (pe_op op_mod (pe_callTy call_int1 rfl (z_int T) (by decide +kernel) (pa_cons (pe_ix ix_list (pe_ix ix_list (pv 0) (pe_int) (fun _ _ => rfl)) (pv 2) (fun _ _ => rfl)) (pa_nil))) (pv 1)))) (pss_nil))
      (pss_one (ps_ret (pe_op op_mod (pe_callTy call_int1 rfl (z_int T) (by decide +kernel) (pa_cons (pe_op op_add (pe_op op_mul (pv 2) (pe_int)) (pe_int)) (pa_nil))) (pv 1))))))

theorem sc_check_shape : FnScope N_check_shape ["width", "height", "depth", "channels"] (defScope s_check_shape) := ⟨rfl, rfl, rfl, by decide +kernel, rfl, by decide +kernel, by decide +kernel⟩
theorem ok_check_shape {P : Program} {w : World} {K : Frag} {mg : Str → Option Value} {base : Heap} (T : Top K mg) : DefOk P w K mg base 3 (He.fAd K ("check_shape", none)) ["width", "height", "depth", "channels"] (sp_check_shape K) :=
  def_ok (d := d_check_shape) (tt := t_check_shape K) (T.says.def_ 4) rfl sc_check_shape ar_check_shape (fun _ _ _ _ _ _ us hl => match us, hl with | [_, _, _, _], _ => rfl) (pure_check_shape K) fun cdv A outer s H E hr => by
    have sc := sc_check_shape
    have tk : Takes (cxOf (L2.CX P w) P w K mg base N_check_shape (d_check_shape).qual (d_check_shape).scope (He.fAd K (d_check_shape).at_) cdv A outer s H E) (wE E) := takes_of rfl rfl rfl rfl
    have own := passes_of (X := cxOf (L2.CX P w) P w K mg base N_check_shape (d_check_shape).qual (d_check_shape).scope (He.fAd K (d_check_shape).at_) cdv A outer s H E) rfl
    exact pss_cons (ps_if (pt_not (pt_chain op_le op_le (pe_int) (pv 0) (pe_gi rfl (i_SIDE_MOST T)))) (pss_one (ps_raiseO rfl tk (x_OutOfRange T) (xi_OutOfRange T) (ok_OutOfRange_init T) hr rfl rfl (g_OutOfRange T) (pa_cons (pe_str) (pa_nil)))) (pss_nil))
      (pss_cons (ps_if (pt_not (pt_chain op_le op_le (pe_int) (pv 1) (pe_gi rfl (i_SIDE_MOST T)))) (pss_one (ps_raiseO rfl tk (x_OutOfRange T) (xi_OutOfRange T) (ok_OutOfRange_init T) hr rfl rfl (g_OutOfRange T) (pa_cons (pe_str) (pa_nil)))) (pss_nil))
      (pss_cons (ps_if (pt_not (pt_chain op_le op_le (pe_int) (pv 2) (pe_gi rfl (i_DEPTH_MOST T)))) (pss_one (ps_raiseO rfl tk (x_OutOfRange T) (xi_OutOfRange T) (ok_OutOfRange_init T) hr rfl rfl (g_OutOfRange T) (pa_cons (pe_str) (pa_nil)))) (pss_nil))
      (pss_one (ps_if (PW.pt (pw_and (pt_cmpR op_ne (pv 3) (pe_int) (nomark _)) (pw_and1 (pt_cmpR op_ne (pv 3) (pe_int) (nomark _))))) (pss_one (ps_raiseO rfl tk (x_OutOfRange T) (xi_OutOfRange T) (ok_OutOfRange_init T) hr rfl rfl (g_OutOfRange T) (pa_cons (pe_str) (pa_nil)))) (pss_nil)))))

theorem sc_check_size : FnScope N_check_size ["width", "height", "channels"] (defScope s_check_size) := ⟨rfl, rfl, rfl, by decide +kernel, rfl, by decide +kernel, by decide +kernel⟩
theorem ok_check_size {P : Program} {w : World} {K : Frag} {mg : Str → Option Value} {base : Heap} (T : Top K mg) : DefOk P w K mg base 3 (He.fAd K ("check_size", none)) ["width", "height", "channels"] (sp_check_size K) :=
  def_ok (d := d_check_size) (tt := t_check_size K) (T.says.def_ 5) rfl sc_check_size ar_check_size (fun _ _ _ _ _ _ us hl => match us, hl with | [_, _, _], _ => rfl) (pure_check_size K) fun cdv A outer s H E hr => by
    have sc := sc_check_size
    have tk : Takes (cxOf (L2.CX P w) P w K mg base N_check_size (d_check_size).qual (d_check_size).scope (He.fAd K (d_check_size).at_) cdv A outer s H E) (wE E) := takes_of rfl rfl rfl rfl
    have own := passes_of (X := cxOf (L2.CX P w) P w K mg base N_check_size (d_check_size).qual (d_check_size).scope (He.fAd K (d_check_size).at_) cdv A outer s H E) rfl
    exact pss_one (ps_if (pt_cmpR op_gt (pe_op op_mul (pe_op op_mul (pv 0) (pv 1)) (pv 2)) (pe_gi rfl (i_VALUES_MOST T)) (nomark _)) (pss_one (ps_raiseO rfl tk (x_OutOfRange T) (xi_OutOfRange T) (ok_OutOfRange_init T) hr rfl rfl (g_OutOfRange T) (pa_cons (pe_str) (pa_nil)))) (pss_nil))

theorem sc_Frame_init : FnScope N_Frame_init ["self", "width", "height", "depth", "channels", "tile"] (defScope s_Frame_init) := ⟨rfl, rfl, rfl, by decide +kernel, rfl, by decide +kernel, by decide +kernel⟩
theorem ok_Frame_init {P : Program} {w : World} {K : Frag} {mg : Str → Option Value} {base : Heap} (T : Top K mg) : DefOk P w K mg base 4 (He.fAd K ("Frame", some "__init__")) ["self", "width", "height", "depth", "channels", "tile"] (sp_Frame_init K) :=
  def_ok (d := d_Frame_init) (tt := t_Frame_init K) (T.says.def_ 6) rfl sc_Frame_init ar_Frame_init (fun _ _ _ _ _ _ us hl => match us, hl with | [_, _, _, _, _, _], _ => rfl) (pure_Frame_init K) fun cdv A outer s H E hr => by
    have sc := sc_Frame_init
    have tk : Takes (cxOf (L2.CX P w) P w K mg base N_Frame_init (d_Frame_init).qual (d_Frame_init).scope (He.fAd K (d_Frame_init).at_) cdv A outer s H E) (wE E) := takes_of rfl rfl rfl rfl
    have own := passes_of (X := cxOf (L2.CX P w) P w K mg base N_Frame_init (d_Frame_init).qual (d_Frame_init).scope (He.fAd K (d_Frame_init).at_) cdv A outer s H E) rfl
    exact pss_cons (ps_expr (pe_fn (ok_check_shape T) hr rfl rfl (g_check_shape T) (passW tk) (pa_cons (pv 1) (pa_cons (pv 2) (pa_cons (pv 3) (pa_cons (pv 4) (pa_nil)))))))
      (pss_cons (ps_if (pt_not (pt_chain op_le op_le (pe_int) (pv 5) (pe_gi rfl (i_TILE_MOST T)))) (pss_one (ps_raiseO rfl tk (x_OutOfRange T) (xi_OutOfRange T) (ok_OutOfRange_init T) hr rfl rfl (g_OutOfRange T) (pa_cons (pe_str) (pa_nil)))) (pss_nil))
      (pss_cons (ps_expr (pe_fn (ok_check_size T) hr rfl rfl (g_check_size T) (passW tk) (pa_cons (pv 1) (pa_cons (pv 2) (pa_cons (pv 4) (pa_nil))))))
      (pss_cons (ps_f (pv 0) (pv 1) (c_Frame T) (n_Frame_width T))
      (pss_cons (ps_f (pv 0) (pv 2) (c_Frame T) (n_Frame_height T))
      (pss_cons (ps_f (pv 0) (pv 3) (c_Frame T) (n_Frame_depth T))
      (pss_cons (ps_f (pv 0) (pv 4) (c_Frame T) (n_Frame_channels T))
      (pss_one (ps_f (pv 0) (pv 5) (c_Frame T) (n_Frame_tile T)))))))))

theorem sc__law_frame : FnScope N__law_frame ["_law_shape_here"] (defScope s__law_frame) := ⟨rfl, rfl, rfl, by decide +kernel, rfl, by decide +kernel, by decide +kernel⟩
theorem ok__law_frame {P : Program} {w : World} {K : Frag} {mg : Str → Option Value} {base : Heap} (T : Top K mg) : DefOk P w K mg base 6 (He.fAd K ("_law_frame", none)) ["_law_shape_here"] (sp__law_frame K) :=
  def_ok (d := d__law_frame) (tt := t__law_frame K) (T.says.def_ 7) rfl sc__law_frame ar__law_frame (fun _ _ _ _ _ _ us hl => match us, hl with | [_], _ => rfl) (pure__law_frame K) fun cdv A outer s H E hr => by
    have sc := sc__law_frame
    have tk : Takes (cxOf (L2.CX P w) P w K mg base N__law_frame (d__law_frame).qual (d__law_frame).scope (He.fAd K (d__law_frame).at_) cdv A outer s H E) (wE E) := takes_of rfl rfl rfl rfl
    have own := passes_of (X := cxOf (L2.CX P w) P w K mg base N__law_frame (d__law_frame).qual (d__law_frame).scope (He.fAd K (d__law_frame).at_) cdv A outer s H E) rfl
    exact pss_one (ps_ret (pe_mk (k_Frame T) (ok_Frame_init T) hr rfl rfl (g_Frame T) (passW tk) (pa_cons (pe_ix ix_list (pv 0) (pe_int) (fun _ _ => rfl)) (pa_cons (pe_ix ix_list (pv 0) (pe_int) (fun _ _ => rfl)) (pa_cons (pe_ix ix_list (pv 0) (pe_int) (fun _ _ => rfl)) (pa_cons (pe_ix ix_list (pv 0) (pe_int) (fun _ _ => rfl)) (pa_cons (pe_ix ix_list (pv 0) (pe_int) (fun _ _ => rfl)) (pa_nil))))))))

theorem sc__law_block : FnScope N__law_block ["_law_box", "_law_shape_here", "_law_generation"] (defScope s__law_block) := ⟨rfl, rfl, rfl, by decide +kernel, rfl, by decide +kernel, by decide +kernel⟩
theorem ok__law_block {P : Program} {w : World} {K : Frag} {mg : Str → Option Value} {base : Heap} (T : Top K mg) : DefOk P w K mg base 7 (He.fAd K ("_law_block", none)) ["_law_box", "_law_shape_here", "_law_generation"] (sp__law_block K) :=
  def_ok (d := d__law_block) (tt := t__law_block K) (T.says.def_ 8) rfl sc__law_block ar__law_block (fun _ _ _ _ _ _ us hl => match us, hl with | [_, _, _], _ => rfl) (pure__law_block K) fun cdv A outer s H E hr => by
    have sc := sc__law_block
    have tk : Takes (cxOf (L2.CX P w) P w K mg base N__law_block (d__law_block).qual (d__law_block).scope (He.fAd K (d__law_block).at_) cdv A outer s H E) (wE E) := takes_of rfl rfl rfl rfl
    have own := passes_of (X := cxOf (L2.CX P w) P w K mg base N__law_block (d__law_block).qual (d__law_block).scope (He.fAd K (d__law_block).at_) cdv A outer s H E) rfl
    exact pss_cons (ps_set (i := 3) sc.nd rfl (Or.inl rfl) (pe_fn (ok_encode_header T) hr rfl rfl (g_encode_header T) passF (pa_cons (pe_op op_mod (pe_callTy call_int1 rfl (z_int T) (by decide +kernel) (pa_cons (pv 2) (pa_nil))) (pe_int)) (pa_cons (pe_fn (ok__law_frame T) hr rfl rfl (g__law_frame T) (passW tk) (pa_cons (pv 1) (pa_nil))) (pa_nil)))))
      (pss_cons (ps_set (i := 4) sc.nd rfl (Or.inl rfl) (pe_fn (ok__law_draw T) hr rfl rfl (g__law_draw T) passF (pa_cons (pv 0) (pa_cons (pe_int) (pa_nil)))))
      (pss_cons (ps_if (pt_cmpR op_eq (pv 4) (pe_int) (nomark _)) (pss_one (ps_ret (pe_lst (pa_cons (pe_op op_rep (pe_lst (pa_cons (pe_int) (pa_nil))) (pe_int)) (pa_cons (pe_bl) (pa_nil)))))) (pss_nil))
      (pss_cons (ps_if (pt_cmpR op_eq (pv 4) (pe_int) (nomark _)) (pss_one (ps_ret (pe_lst (pa_cons (pe_op op_cat (pe_slice sl_list (pv 3) (po_none) (po_some (pe_op op_add (pe_int) (pe_fn (ok__law_draw T) hr rfl rfl (g__law_draw T) passF (pa_cons (pv 0) (pa_cons (pe_int) (pa_nil))))))) (pe_op op_rep (pe_lst (pa_cons (pe_int) (pa_nil))) (pe_int))) (pa_cons (pe_bl) (pa_nil)))))) (pss_nil))
      (pss_one (ps_ret (pe_lst (pa_cons (pv 3) (pa_cons (pe_bl) (pa_nil)))))))))

theorem sc_Disk__check_at : FnScope N_Disk__check_at ["self", "at"] (defScope s_Disk__check_at) := ⟨rfl, rfl, rfl, by decide +kernel, rfl, by decide +kernel, by decide +kernel⟩
theorem ok_Disk__check_at {P : Program} {w : World} {K : Frag} {mg : Str → Option Value} {base : Heap} (T : Top K mg) : DefOk P w K mg base 3 (He.fAd K ("Disk", some "_check_at")) ["self", "at"] (sp_Disk__check_at K) :=
  def_ok (d := d_Disk__check_at) (tt := t_Disk__check_at K) (T.says.def_ 9) rfl sc_Disk__check_at ar_Disk__check_at (fun _ _ _ _ _ _ us hl => match us, hl with | [_, _], _ => rfl) (pure_Disk__check_at K) fun cdv A outer s H E hr => by
    have sc := sc_Disk__check_at
    have tk : Takes (cxOf (L2.CX P w) P w K mg base N_Disk__check_at (d_Disk__check_at).qual (d_Disk__check_at).scope (He.fAd K (d_Disk__check_at).at_) cdv A outer s H E) (wE E) := takes_of rfl rfl rfl rfl
    have own := passes_of (X := cxOf (L2.CX P w) P w K mg base N_Disk__check_at (d_Disk__check_at).qual (d_Disk__check_at).scope (He.fAd K (d_Disk__check_at).at_) cdv A outer s H E) rfl
    exact pss_one (ps_if (pt_not (pt_chain op_le op_lt (pe_int) (pv 1) (pe_callB call_len rfl (z_len T) (by decide +kernel) (pa_cons (pe_f (pv 0) (c_Disk T) (n_Disk__blocks T)) (pa_nil))))) (pss_one (ps_raiseO rfl tk (x_OutOfRange T) (xi_OutOfRange T) (ok_OutOfRange_init T) hr rfl rfl (g_OutOfRange T) (pa_cons (pe_str) (pa_nil)))) (pss_nil))

theorem ok_Disk__cut {P : Program} {w : World} {K : Frag} {mg : Str → Option Value} {base : Heap} (T : Top K mg) : DefOk P w K mg base 1 (He.fAd K ("Disk", some "_cut")) ["self", "torn"] (sp_Disk__cut K) :=
  dead_ok (d := d_Disk__cut) (T.says.def_ 10) rfl (fun _ _ _ _ _ _ us hl => match us, hl with | [_, _], _ => rfl)

theorem sc_Disk__spend : FnScope N_Disk__spend ["self"] (defScope s_Disk__spend) := ⟨rfl, rfl, rfl, by decide +kernel, rfl, by decide +kernel, by decide +kernel⟩
theorem ok_Disk__spend {P : Program} {w : World} {K : Frag} {mg : Str → Option Value} {base : Heap} (T : Top K mg) : DefOk P w K mg base 3 (He.fAd K ("Disk", some "_spend")) ["self"] (sp_Disk__spend K) :=
  def_ok (d := d_Disk__spend) (tt := t_Disk__spend K) (T.says.def_ 11) rfl sc_Disk__spend ar_Disk__spend (fun _ _ _ _ _ _ us hl => match us, hl with | [_], _ => rfl) (pure_Disk__spend K) fun cdv A outer s H E hr => by
    have sc := sc_Disk__spend
    have tk : Takes (cxOf (L2.CX P w) P w K mg base N_Disk__spend (d_Disk__spend).qual (d_Disk__spend).scope (He.fAd K (d_Disk__spend).at_) cdv A outer s H E) (wE E) := takes_of rfl rfl rfl rfl
    have own := passes_of (X := cxOf (L2.CX P w) P w K mg base N_Disk__spend (d_Disk__spend).qual (d_Disk__spend).scope (He.fAd K (d_Disk__spend).at_) cdv A outer s H E) rfl
    exact pss_cons (ps_if (pt_cmpR op_isN (pe_f (pv 0) (c_Disk T) (n_Disk__left T)) (pe_non) (nomark _)) (pss_one (ps_retN)) (pss_nil))
      (pss_cons (ps_if (pt_cmpR (op_eqD hr.units) (pe_f (pv 0) (c_Disk T) (n_Disk__left T)) (pe_int) (nomark _)) (pss_cons (ps_expr (pe_mt (pv 0) (c_Disk T) (m_Disk__cut T) (ok_Disk__cut T) hr rfl passF (pa_cons (pe_f (pv 0) (c_Disk T) (n_Disk__torn T)) (pa_nil))))
      (pss_one (ps_raiseP rfl tk (e_PowerCut T) rfl (g_PowerCut T)))) (pss_nil))
      (pss_one (ps_f (pv 0) (pe_op op_sub (pe_f (pv 0) (c_Disk T) (n_Disk__left T)) (pe_int)) (c_Disk T) (n_Disk__left T))))

theorem sc__is_block : FnScope N__is_block ["block"] (defScope s__is_block) := ⟨rfl, rfl, rfl, by decide +kernel, rfl, by decide +kernel, by decide +kernel⟩
theorem ok__is_block {P : Program} {w : World} {K : Frag} {mg : Str → Option Value} {base : Heap} (T : Top K mg) : DefOk P w K mg base 1 (He.fAd K ("_is_block", none)) ["block"] (sp__is_block K) :=
  def_ok (d := d__is_block) (tt := t__is_block K) (T.says.def_ 12) rfl sc__is_block ar__is_block (fun _ _ _ _ _ _ us hl => match us, hl with | [_], _ => rfl) (pure__is_block K) fun cdv A outer s H E hr => by
    have sc := sc__is_block
    have tk : Takes (cxOf (L2.CX P w) P w K mg base N__is_block (d__is_block).qual (d__is_block).scope (He.fAd K (d__is_block).at_) cdv A outer s H E) (wE E) := takes_of rfl rfl rfl rfl
    have own := passes_of (X := cxOf (L2.CX P w) P w K mg base N__is_block (d__is_block).qual (d__is_block).scope (He.fAd K (d__is_block).at_) cdv A outer s H E) rfl
    exact pss_cons (ps_if (pt_cmpR op_ne (pe_callB call_len rfl (z_len T) (by decide +kernel) (pa_cons (pv 0) (pa_nil))) (pe_gi rfl (i_BLOCK T)) (nomark _)) (pss_one (ps_ret (pe_bl))) (pss_nil))
      (pss_cons (ps_for own rfl (pi_list (pv 0)) (pg_name (i := 1) sc.nd rfl (Or.inl rfl))
      (pss_one (ps_if (pt_not (pt_chain op_le op_le (pe_int) (pv 1) (pe_int))) (pss_one (ps_ret (pe_bl))) (pss_nil))))
      (pss_one (ps_ret (pe_bl))))

theorem sc_Disk_write : FnScope N_Disk_write ["self", "at", "block"] (defScope s_Disk_write) := ⟨rfl, rfl, rfl, by decide +kernel, rfl, by decide +kernel, by decide +kernel⟩
theorem ok_Disk_write {P : Program} {w : World} {K : Frag} {mg : Str → Option Value} {base : Heap} (T : Top K mg) : DefOk P w K mg base 4 (He.fAd K ("Disk", some "write")) ["self", "at", "block"] (sp_Disk_write K) :=
  def_ok (d := d_Disk_write) (tt := t_Disk_write K) (T.says.def_ 13) rfl sc_Disk_write ar_Disk_write (fun _ _ _ _ _ _ us hl => match us, hl with | [_, _, _], _ => rfl) (pure_Disk_write K) fun cdv A outer s H E hr => by
    have sc := sc_Disk_write
    have tk : Takes (cxOf (L2.CX P w) P w K mg base N_Disk_write (d_Disk_write).qual (d_Disk_write).scope (He.fAd K (d_Disk_write).at_) cdv A outer s H E) (wE E) := takes_of rfl rfl rfl rfl
    have own := passes_of (X := cxOf (L2.CX P w) P w K mg base N_Disk_write (d_Disk_write).qual (d_Disk_write).scope (He.fAd K (d_Disk_write).at_) cdv A outer s H E) rfl
    exact pss_cons (ps_expr (pe_mt (pv 0) (c_Disk T) (m_Disk__check_at T) (ok_Disk__check_at T) hr rfl (passW tk) (pa_cons (pv 1) (pa_nil))))
      (pss_cons (ps_if (pt_not (pt_val (pe_fn (ok__is_block T) hr rfl rfl (g__is_block T) passF (pa_cons (pv 2) (pa_nil))))) (pss_one (ps_raiseO rfl tk (x_OutOfRange T) (xi_OutOfRange T) (ok_OutOfRange_init T) hr rfl rfl (g_OutOfRange T) (pa_cons (pe_str) (pa_nil)))) (pss_nil))
      (pss_cons (ps_expr (pe_mt0 (pv 0) (c_Disk T) (m_Disk__spend T) (ok_Disk__spend T) hr rfl (passW tk)))
      (pss_one (ps_expr (pe_bm PySem.F.plainAttrs_list PySem.F.slot_list_append PySem.F.type_list_append mt_append (pe_f (pv 0) (c_Disk T) (n_Disk__pending T)) (pa_cons (pe_tup (pa_cons (pv 1) (pa_cons (pe_callTy call_list_of rfl (z_list T) (by decide +kernel) (pa_cons (pv 2) (pa_nil))) (pa_nil)))) (pa_nil)))))))

theorem sc_decode_header : FnScope N_decode_header ["block"] (defScope s_decode_header) := ⟨rfl, rfl, rfl, by decide +kernel, rfl, by decide +kernel, by decide +kernel⟩
theorem ok_decode_header {P : Program} {w : World} {K : Frag} {mg : Str → Option Value} {base : Heap} (T : Top K mg) : DefOk P w K mg base 6 (He.fAd K ("decode_header", none)) ["block"] (sp_decode_header K) :=
  def_ok (d := d_decode_header) (tt := t_decode_header K) (T.says.def_ 14) rfl sc_decode_header ar_decode_header (fun _ _ _ _ _ _ us hl => match us, hl with | [_], _ => rfl) (pure_decode_header K (xm_OutOfRange_OutOfRange T)) fun cdv A outer s H E hr => by
    have sc := sc_decode_header
    have tk : Takes (cxOf (L2.CX P w) P w K mg base N_decode_header (d_decode_header).qual (d_decode_header).scope (He.fAd K (d_decode_header).at_) cdv A outer s H E) (wE E) := takes_of rfl rfl rfl rfl
    have own := passes_of (X := cxOf (L2.CX P w) P w K mg base N_decode_header (d_decode_header).qual (d_decode_header).scope (He.fAd K (d_decode_header).at_) cdv A outer s H E) rfl
    exact pss_cons (ps_if (PW.pt (pw_or (pt_cmpR op_ne (pe_ix ix_list (pv 0) (pe_int) (fun _ _ => rfl)) (pe_gi rfl (i_HEADER_MARK T)) (nomark _)) (pw_or1 (pt_cmpR op_ne (pe_ix ix_list (pv 0) (pe_int) (fun _ _ => rfl)) (pe_gi rfl (i_HEADER_MARK T)) (nomark _))))) (pss_one (ps_ret (pe_non))) (pss_nil))
      (pss_one (ps_try_only (tb := fun W => tRet (tTup (tCons (tOp (rIxL K) (tVar 0) (tC (.int 1))) (tCons (tMk (He.ga K "Frame") (sp_Frame_init K) (WE W) (tCons (tOp (rIxL K) (tVar 0) (tC (.int 2))) (tCons (tOp (rIxL K) (tVar 0) (tC (.int 3))) (tCons (tOp (rIxL K) (tVar 0) (tC (.int 4))) (tCons (tOp (rIxL K) (tVar 0) (tC (.int 5))) (tCons (tOp (rIxL K) (tVar 0) (tC (.int 6))) (tNil))))))) (tNil))))) (ts := fun a cls d => tRet (tC .non)) rfl rfl ⟨rfl, by decide, Or.inl (g_OutOfRange T)⟩ tk
      (fun W pn xe tk po => pss_one (ps_ret (pe_tup (pa_cons (pe_ix ix_list (pv 0) (pe_int) (fun _ _ => rfl)) (pa_cons (pe_mk (k_Frame T) (ok_Frame_init T) hr rfl rfl (g_Frame T) (passW tk) (pa_cons (pe_ix ix_list (pv 0) (pe_int) (fun _ _ => rfl)) (pa_cons (pe_ix ix_list (pv 0) (pe_int) (fun _ _ => rfl)) (pa_cons (pe_ix ix_list (pv 0) (pe_int) (fun _ _ => rfl)) (pa_cons (pe_ix ix_list (pv 0) (pe_int) (fun _ _ => rfl)) (pa_cons (pe_ix ix_list (pv 0) (pe_int) (fun _ _ => rfl)) (pa_nil))))))) (pa_nil))))))
      (fun a oe cls d pn hz hf => pss_one (ps_ret (pe_non)))))

theorem sc_Disk_read : FnScope N_Disk_read ["self", "at"] (defScope s_Disk_read) := ⟨rfl, rfl, rfl, by decide +kernel, rfl, by decide +kernel, by decide +kernel⟩
theorem ok_Disk_read {P : Program} {w : World} {K : Frag} {mg : Str → Option Value} {base : Heap} (T : Top K mg) : DefOk P w K mg base 4 (He.fAd K ("Disk", some "read")) ["self", "at"] (sp_Disk_read K) :=
  def_ok (d := d_Disk_read) (tt := t_Disk_read K) (T.says.def_ 15) rfl sc_Disk_read ar_Disk_read (fun _ _ _ _ _ _ us hl => match us, hl with | [_, _], _ => rfl) (pure_Disk_read K) fun cdv A outer s H E hr => by
    have sc := sc_Disk_read
    have tk : Takes (cxOf (L2.CX P w) P w K mg base N_Disk_read (d_Disk_read).qual (d_Disk_read).scope (He.fAd K (d_Disk_read).at_) cdv A outer s H E) (wE E) := takes_of rfl rfl rfl rfl
    have own := passes_of (X := cxOf (L2.CX P w) P w K mg base N_Disk_read (d_Disk_read).qual (d_Disk_read).scope (He.fAd K (d_Disk_read).at_) cdv A outer s H E) rfl
    exact pss_cons (ps_expr (pe_mt (pv 0) (c_Disk T) (m_Disk__check_at T) (ok_Disk__check_at T) hr rfl (passW tk) (pa_cons (pv 1) (pa_nil))))
      (pss_cons (ps_set (i := 2) sc.nd rfl (Or.inl rfl) (pe_ix ix_list (pe_f (pv 0) (c_Disk T) (n_Disk__blocks T)) (pv 1) (fun _ _ => rfl)))
      (pss_cons (ps_for own rfl (pi_list (pe_f (pv 0) (c_Disk T) (n_Disk__pending T))) (pg_tup rfl (pgs_cons (pg_name (i := 3) sc.nd rfl (Or.inl rfl)) (pgs_cons (pg_name (i := 4) sc.nd rfl (Or.inl rfl)) (pgs_nil))))
      (pss_one (ps_if (pt_cmpR op_eq (pv 3) (pv 1) (nomark _)) (pss_one (ps_set (i := 2) sc.nd rfl (Or.inl rfl) (pv 4))) (pss_nil))))
      (pss_one (ps_ret (pe_callTy call_list_of rfl (z_list T) (by decide +kernel) (pa_cons (pv 2) (pa_nil)))))))

theorem sc_newest_header : FnScope N_newest_header ["disk"] (defScope s_newest_header) := ⟨rfl, rfl, rfl, by decide +kernel, rfl, by decide +kernel, by decide +kernel⟩
theorem ok_newest_header {P : Program} {w : World} {K : Frag} {mg : Str → Option Value} {base : Heap} (T : Top K mg) : DefOk P w K mg base 7 (He.fAd K ("newest_header", none)) ["disk"] (sp_newest_header K) :=
  def_ok (d := d_newest_header) (tt := t_newest_header K) (T.says.def_ 16) rfl sc_newest_header ar_newest_header (fun _ _ _ _ _ _ us hl => match us, hl with | [_], _ => rfl) (pure_newest_header K) fun cdv A outer s H E hr => by
    have sc := sc_newest_header
    have tk : Takes (cxOf (L2.CX P w) P w K mg base N_newest_header (d_newest_header).qual (d_newest_header).scope (He.fAd K (d_newest_header).at_) cdv A outer s H E) (wE E) := takes_of rfl rfl rfl rfl
    have own := passes_of (X := cxOf (L2.CX P w) P w K mg base N_newest_header (d_newest_header).qual (d_newest_header).scope (He.fAd K (d_newest_header).at_) cdv A outer s H E) rfl
    exact pss_cons (ps_set (i := 1) sc.nd rfl (Or.inl rfl) (pe_fn (ok_decode_header T) hr rfl rfl (g_decode_header T) passF (pa_cons (pe_mt (pv 0) (c_Disk T) (m_Disk_read T) (ok_Disk_read T) hr rfl (passW tk) (pa_cons (pe_int) (pa_nil))) (pa_nil))))
      (pss_cons (ps_set (i := 2) sc.nd rfl (Or.inl rfl) (pe_fn (ok_decode_header T) hr rfl rfl (g_decode_header T) passF (pa_cons (pe_mt (pv 0) (c_Disk T) (m_Disk_read T) (ok_Disk_read T) hr rfl (passW tk) (pa_cons (pe_int) (pa_nil))) (pa_nil))))
      (pss_cons (ps_if (pt_cmpR op_isN (pv 1) (pe_non) (nomark _)) (pss_one (ps_ret (pv 2))) (pss_nil))
      (pss_cons (ps_if (PW.pt (pw_and (pt_cmpR op_notN (pv 2) (pe_non) (nomark _)) (pw_and1 (pt_cmpR op_eq (pe_ix ix_tup (pv 2) (pe_int) (fun _ _ => rfl)) (pe_op op_and (pe_op op_add (pe_ix ix_tup (pv 1) (pe_int) (fun _ _ => rfl)) (pe_int)) (pe_int)) (nomark _))))) (pss_one (ps_ret (pv 2))) (pss_nil))
      (pss_one (ps_ret (pv 1))))))

theorem sc__law_cell : FnScope N__law_cell ["_law_script", "_law_k"] (defScope s__law_cell) := ⟨rfl, rfl, rfl, by decide +kernel, rfl, by decide +kernel, by decide +kernel⟩
theorem ok__law_cell {P : Program} {w : World} {K : Frag} {mg : Str → Option Value} {base : Heap} (T : Top K mg) : DefOk P w K mg base 1 (He.fAd K ("_law_cell", none)) ["_law_script", "_law_k"] (sp__law_cell K) :=
  def_ok (d := d__law_cell) (tt := t__law_cell K) (T.says.def_ 17) rfl sc__law_cell ar__law_cell (fun _ _ _ _ _ _ us hl => match us, hl with | [_, _], _ => rfl) (pure__law_cell K) fun cdv A outer s H E hr => by
    have sc := sc__law_cell
    have tk : Takes (cxOf (L2.CX P w) P w K mg base N__law_cell (d__law_cell).qual (d__law_cell).scope (He.fAd K (d__law_cell).at_) cdv A outer s H E) (wE E) := takes_of rfl rfl rfl rfl
    have own := passes_of (X := cxOf (L2.CX P w) P w K mg base N__law_cell (d__law_cell).qual (d__law_cell).scope (He.fAd K (d__law_cell).at_) cdv A outer s H E) rfl
    exact pss_cons (ps_if (pt_cmpR op_lt (pv 1) (pe_callB call_len rfl (z_len T) (by decide +kernel) (pa_cons (pv 0) (pa_nil))) (nomark _)) (pss_one (ps_ret (pe_ix ix_list (pv 0) (pv 1) (fun _ _ => rfl)))) (pss_nil))
      (pss_one (ps_ret (pe_int)))

theorem sc__law_digits : FnScope N__law_digits ["_law_script", "_law_first", "_law_last"] (defScope s__law_digits) := ⟨rfl, rfl, rfl, by decide +kernel, rfl, by decide +kernel, by decide +kernel⟩
theorem ok__law_digits {P : Program} {w : World} {K : Frag} {mg : Str → Option Value} {base : Heap} (T : Top K mg) : DefOk P w K mg base 2 (He.fAd K ("_law_digits", none)) ["_law_script", "_law_first", "_law_last"] (sp__law_digits K) :=
  def_ok (d := d__law_digits) (tt := t__law_digits K) (T.says.def_ 18) rfl sc__law_digits ar__law_digits (fun _ _ _ _ _ _ us hl => match us, hl with | [_, _, _], _ => rfl) (pure__law_digits K) fun cdv A outer s H E hr => by
    have sc := sc__law_digits
    have tk : Takes (cxOf (L2.CX P w) P w K mg base N__law_digits (d__law_digits).qual (d__law_digits).scope (He.fAd K (d__law_digits).at_) cdv A outer s H E) (wE E) := takes_of rfl rfl rfl rfl
    have own := passes_of (X := cxOf (L2.CX P w) P w K mg base N__law_digits (d__law_digits).qual (d__law_digits).scope (He.fAd K (d__law_digits).at_) cdv A outer s H E) rfl
    exact pss_cons (ps_set (i := 3) sc.nd rfl (Or.inl rfl) (pe_lst (pa_nil)))
      (pss_cons (ps_for own rfl (pi_range2 rfl (z_range T) (pa_cons (pv 1) (pa_cons (pv 2) (pa_nil)))) (pg_name (i := 4) sc.nd rfl (Or.inl rfl))
      (pss_cons (ps_set (i := 5) sc.nd rfl (Or.inl rfl) (pe_fn (ok__law_cell T) hr rfl rfl (g__law_cell T) passF (pa_cons (pv 0) (pa_cons (pv 4) (pa_nil)))))
      (pss_cons (ps_if (pt_cmpR op_lt (pv 5) (pe_int) (nomark _)) (pss_one (ps_set (i := 5) sc.nd rfl (Or.inl rfl) (pe_op op_sub (pe_int) (pe_op op_mul (pe_int) (pv 5))))) (pss_nil))
      (pss_one (ps_if (pt_cmpR op_ge (pv 5) (pe_int) (nomark _)) (pss_one (ps_for own rfl (pi_range1 rfl (z_range T) (pa_cons (pe_int) (pa_nil))) (pg_name (i := 6) sc.nd rfl (Or.inl rfl))
      (pss_one (ps_if (pt_cmpR op_gt (pv 5) (pe_int) (nomark _)) (pss_cons (ps_expr (pe_bm PySem.F.plainAttrs_list PySem.F.slot_list_append PySem.F.type_list_append mt_append (pv 3) (pa_cons (pe_op op_mod (pe_callTy call_int1 rfl (z_int T) (by decide +kernel) (pa_cons (pv 5) (pa_nil))) (pe_int)) (pa_nil))))
      (pss_one (ps_set (i := 5) sc.nd rfl (Or.inl rfl) (pe_op op_fdiv (pv 5) (pe_int))))) (pss_nil))))) (pss_cons (ps_set (i := 7) sc.nd rfl (Or.inl rfl) (pe_op op_mod (pe_callTy call_int1 rfl (z_int T) (by decide +kernel) (pa_cons (pe_op op_add (pe_op op_add (pe_op op_mul (pv 5) (pe_int)) (pe_op op_mul (pv 4) (pe_int))) (pe_int)) (pa_nil))) (pe_int)))
      (pss_one (ps_for own rfl (pi_range1 rfl (z_range T) (pa_cons (pe_int) (pa_nil))) (pg_name (i := 6) sc.nd rfl (Or.inl rfl))
      (pss_cons (ps_set (i := 7) sc.nd rfl (Or.inl rfl) (pe_op op_mod (pe_callTy call_int1 rfl (z_int T) (by decide +kernel) (pa_cons (pe_op op_add (pe_op op_add (pe_op op_mul (pv 7) (pe_int)) (pe_op op_mul (pe_int) (pv 6))) (pe_int)) (pa_nil))) (pe_int)))
      (pss_one (ps_expr (pe_bm PySem.F.plainAttrs_list PySem.F.slot_list_append PySem.F.type_list_append mt_append (pv 3) (pa_cons (pe_op op_mod (pe_callTy call_int1 rfl (z_int T) (by decide +kernel) (pa_cons (pe_op op_fdiv (pv 7) (pe_int)) (pa_nil))) (pe_int)) (pa_nil))))))))))))))
      (pss_one (ps_ret (pv 3))))

theorem sc__law_shape : FnScope N__law_shape ["_law_box", "_law_most", "_law_planes", "_law_side"] (defScope s__law_shape) := ⟨rfl, rfl, rfl, by decide +kernel, rfl, by decide +kernel, by decide +kernel⟩
theorem ok__law_shape {P : Program} {w : World} {K : Frag} {mg : Str → Option Value} {base : Heap} (T : Top K mg) : DefOk P w K mg base 2 (He.fAd K ("_law_shape", none)) ["_law_box", "_law_most", "_law_planes", "_law_side"] (sp__law_shape K) :=
  def_ok (d := d__law_shape) (tt := t__law_shape K) (T.says.def_ 19) rfl sc__law_shape ar__law_shape (fun _ _ _ _ _ _ us hl => match us, hl with | [_, _, _, _], _ => rfl) (pure__law_shape K) fun cdv A outer s H E hr => by
    have sc := sc__law_shape
    have tk : Takes (cxOf (L2.CX P w) P w K mg base N__law_shape (d__law_shape).qual (d__law_shape).scope (He.fAd K (d__law_shape).at_) cdv A outer s H E) (wE E) := takes_of rfl rfl rfl rfl
    have own := passes_of (X := cxOf (L2.CX P w) P w K mg base N__law_shape (d__law_shape).qual (d__law_shape).scope (He.fAd K (d__law_shape).at_) cdv A outer s H E) rfl
    exact pss_cons (ps_set (i := 4) sc.nd rfl (Or.inl rfl) (pe_op op_add (pe_int) (pe_fn (ok__law_draw T) hr rfl rfl (g__law_draw T) passF (pa_cons (pv 0) (pa_cons (pv 1) (pa_nil))))))
      (pss_cons (ps_set (i := 5) sc.nd rfl (Or.inl rfl) (pe_op op_add (pe_int) (pe_fn (ok__law_draw T) hr rfl rfl (g__law_draw T) passF (pa_cons (pv 0) (pa_cons (pv 1) (pa_nil))))))
      (pss_cons (ps_set (i := 6) sc.nd rfl (Or.inl rfl) (pe_op op_add (pe_int) (pe_fn (ok__law_draw T) hr rfl rfl (g__law_draw T) passF (pa_cons (pv 0) (pa_cons (pv 2) (pa_nil))))))
      (pss_cons (ps_set (i := 7) sc.nd rfl (Or.inl rfl) (pe_op op_add (pe_int) (pe_op op_mul (pe_int) (pe_callTy call_int1 rfl (z_int T) (by decide +kernel) (pa_cons (pe_cmpR op_eq (pe_fn (ok__law_draw T) hr rfl rfl (g__law_draw T) passF (pa_cons (pv 0) (pa_cons (pe_int) (pa_nil)))) (pe_int) (nomark _)) (pa_nil))))))
      (pss_one (ps_ret (pe_lst (pa_cons (pv 4) (pa_cons (pv 5) (pa_cons (pv 6) (pa_cons (pv 7) (pa_cons (pe_op op_add (pe_int) (pe_fn (ok__law_draw T) hr rfl rfl (g__law_draw T) passF (pa_cons (pv 0) (pa_cons (pv 3) (pa_nil))))) (pa_nil))))))))))))

theorem sc_Disk_flush : FnScope N_Disk_flush ["self"] (defScope s_Disk_flush) := ⟨rfl, rfl, rfl, by decide +kernel, rfl, by decide +kernel, by decide +kernel⟩
theorem ok_Disk_flush {P : Program} {w : World} {K : Frag} {mg : Str → Option Value} {base : Heap} (T : Top K mg) : DefOk P w K mg base 4 (He.fAd K ("Disk", some "flush")) ["self"] (sp_Disk_flush K) :=
  def_ok (d := d_Disk_flush) (tt := t_Disk_flush K) (T.says.def_ 20) rfl sc_Disk_flush ar_Disk_flush (fun _ _ _ _ _ _ us hl => match us, hl with | [_], _ => rfl) (pure_Disk_flush K) fun cdv A outer s H E hr => by
    have sc := sc_Disk_flush
    have tk : Takes (cxOf (L2.CX P w) P w K mg base N_Disk_flush (d_Disk_flush).qual (d_Disk_flush).scope (He.fAd K (d_Disk_flush).at_) cdv A outer s H E) (wE E) := takes_of rfl rfl rfl rfl
    have own := passes_of (X := cxOf (L2.CX P w) P w K mg base N_Disk_flush (d_Disk_flush).qual (d_Disk_flush).scope (He.fAd K (d_Disk_flush).at_) cdv A outer s H E) rfl
    exact pss_cons (ps_expr (pe_mt0 (pv 0) (c_Disk T) (m_Disk__spend T) (ok_Disk__spend T) hr rfl (passW tk)))
      (pss_cons (ps_for own rfl (pi_list (pe_f (pv 0) (c_Disk T) (n_Disk__pending T))) (pg_tup rfl (pgs_cons (pg_name (i := 1) sc.nd rfl (Or.inl rfl)) (pgs_cons (pg_name (i := 2) sc.nd rfl (Or.inl rfl)) (pgs_nil))))
      (pss_one (ps_asg (pv 2) (pg_sub (pe_f (pv 0) (c_Disk T) (n_Disk__blocks T)) (pv 1) set_list))))
      (pss_one (ps_f (pv 0) (pe_lst (pa_nil)) (c_Disk T) (n_Disk__pending T))))

theorem sc__law_same : FnScope N__law_same ["_law_frame_here", "_law_shape_here"] (defScope s__law_same) := ⟨rfl, rfl, rfl, by decide +kernel, rfl, by decide +kernel, by decide +kernel⟩
theorem ok__law_same {P : Program} {w : World} {K : Frag} {mg : Str → Option Value} {base : Heap} (T : Top K mg) : DefOk P w K mg base 1 (He.fAd K ("_law_same", none)) ["_law_frame_here", "_law_shape_here"] (sp__law_same K) :=
  def_ok (d := d__law_same) (tt := t__law_same K) (T.says.def_ 21) rfl sc__law_same ar__law_same (fun _ _ _ _ _ _ us hl => match us, hl with | [_, _], _ => rfl) (pure__law_same K (c_Frame T) (ins_Frame T) (kit_Frame_Frame T)) fun cdv A outer s H E hr => by
    have sc := sc__law_same
    have tk : Takes (cxOf (L2.CX P w) P w K mg base N__law_same (d__law_same).qual (d__law_same).scope (He.fAd K (d__law_same).at_) cdv A outer s H E) (wE E) := takes_of rfl rfl rfl rfl
    have own := passes_of (X := cxOf (L2.CX P w) P w K mg base N__law_same (d__law_same).qual (d__law_same).scope (He.fAd K (d__law_same).at_) cdv A outer s H E) rfl
    exact pss_cons (ps_if (pt_not (pt_val (pe_callB call_isi rfl (z_isinstance T) (by decide +kernel) (pa_cons (pv 0) (pa_cons (pe_ga rfl (g_Frame T)) (pa_nil)))))) (pss_one (ps_ret (pe_bl))) (pss_nil))
      (pss_one (ps_ret (pe_cmpR (op_eqD hr.units) (pe_lst (pa_cons (pe_f (pv 0) (c_Frame T) (n_Frame_width T)) (pa_cons (pe_f (pv 0) (c_Frame T) (n_Frame_height T)) (pa_cons (pe_f (pv 0) (c_Frame T) (n_Frame_depth T)) (pa_cons (pe_f (pv 0) (c_Frame T) (n_Frame_channels T)) (pa_cons (pe_f (pv 0) (c_Frame T) (n_Frame_tile T)) (pa_nil))))))) (pv 1) (nomark _))))

theorem sc_Disk_size : FnScope N_Disk_size ["self"] (defScope s_Disk_size) := ⟨rfl, rfl, rfl, by decide +kernel, rfl, by decide +kernel, by decide +kernel⟩
theorem ok_Disk_size {P : Program} {w : World} {K : Frag} {mg : Str → Option Value} {base : Heap} (T : Top K mg) : DefOk P w K mg base 1 (He.fAd K ("Disk", some "size")) ["self"] (sp_Disk_size K) :=
  def_ok (d := d_Disk_size) (tt := t_Disk_size K) (T.says.def_ 22) rfl sc_Disk_size ar_Disk_size (fun _ _ _ _ _ _ us hl => match us, hl with | [_], _ => rfl) (pure_Disk_size K) fun cdv A outer s H E hr => by
    have sc := sc_Disk_size
    have tk : Takes (cxOf (L2.CX P w) P w K mg base N_Disk_size (d_Disk_size).qual (d_Disk_size).scope (He.fAd K (d_Disk_size).at_) cdv A outer s H E) (wE E) := takes_of rfl rfl rfl rfl
    have own := passes_of (X := cxOf (L2.CX P w) P w K mg base N_Disk_size (d_Disk_size).qual (d_Disk_size).scope (He.fAd K (d_Disk_size).at_) cdv A outer s H E) rfl
    exact pss_one (ps_ret (pe_callB call_len rfl (z_len T) (by decide +kernel) (pa_cons (pe_f (pv 0) (c_Disk T) (n_Disk__blocks T)) (pa_nil))))

theorem sc_area_size : FnScope N_area_size ["disk"] (defScope s_area_size) := ⟨rfl, rfl, rfl, by decide +kernel, rfl, by decide +kernel, by decide +kernel⟩
theorem ok_area_size {P : Program} {w : World} {K : Frag} {mg : Str → Option Value} {base : Heap} (T : Top K mg) : DefOk P w K mg base 2 (He.fAd K ("area_size", none)) ["disk"] (sp_area_size K) :=
  def_ok (d := d_area_size) (tt := t_area_size K) (T.says.def_ 23) rfl sc_area_size ar_area_size (fun _ _ _ _ _ _ us hl => match us, hl with | [_], _ => rfl) (pure_area_size K) fun cdv A outer s H E hr => by
    have sc := sc_area_size
    have tk : Takes (cxOf (L2.CX P w) P w K mg base N_area_size (d_area_size).qual (d_area_size).scope (He.fAd K (d_area_size).at_) cdv A outer s H E) (wE E) := takes_of rfl rfl rfl rfl
    have own := passes_of (X := cxOf (L2.CX P w) P w K mg base N_area_size (d_area_size).qual (d_area_size).scope (He.fAd K (d_area_size).at_) cdv A outer s H E) rfl
    exact pss_one (ps_ret (pe_op op_fdiv (pe_op op_sub (pe_mt0 (pv 0) (c_Disk T) (m_Disk_size T) (ok_Disk_size T) hr rfl passF) (pe_int)) (pe_int)))

theorem sc_area_start : FnScope N_area_start ["disk", "area"] (defScope s_area_start) := ⟨rfl, rfl, rfl, by decide +kernel, rfl, by decide +kernel, by decide +kernel⟩
theorem ok_area_start {P : Program} {w : World} {K : Frag} {mg : Str → Option Value} {base : Heap} (T : Top K mg) : DefOk P w K mg base 3 (He.fAd K ("area_start", none)) ["disk", "area"] (sp_area_start K) :=
  def_ok (d := d_area_start) (tt := t_area_start K) (T.says.def_ 24) rfl sc_area_start ar_area_start (fun _ _ _ _ _ _ us hl => match us, hl with | [_, _], _ => rfl) (pure_area_start K) fun cdv A outer s H E hr => by
    have sc := sc_area_start
    have tk : Takes (cxOf (L2.CX P w) P w K mg base N_area_start (d_area_start).qual (d_area_start).scope (He.fAd K (d_area_start).at_) cdv A outer s H E) (wE E) := takes_of rfl rfl rfl rfl
    have own := passes_of (X := cxOf (L2.CX P w) P w K mg base N_area_start (d_area_start).qual (d_area_start).scope (He.fAd K (d_area_start).at_) cdv A outer s H E) rfl
    exact pss_one (ps_ret (pe_op op_add (pe_int) (pe_op op_mul (pv 1) (pe_fn (ok_area_size T) hr rfl rfl (g_area_size T) passF (pa_cons (pv 0) (pa_nil))))))

theorem sc_Arrived_init : FnScope N_Arrived_init ["self", "frame"] (defScope s_Arrived_init) := ⟨rfl, rfl, rfl, by decide +kernel, rfl, by decide +kernel, by decide +kernel⟩
theorem ok_Arrived_init {P : Program} {w : World} {K : Frag} {mg : Str → Option Value} {base : Heap} (T : Top K mg) : DefOk P w K mg base 1 (He.fAd K ("Arrived", some "__init__")) ["self", "frame"] (sp_Arrived_init K) :=
  def_ok (d := d_Arrived_init) (tt := t_Arrived_init K) (T.says.def_ 25) rfl sc_Arrived_init ar_Arrived_init (fun _ _ _ _ _ _ us hl => match us, hl with | [_, _], _ => rfl) (pure_Arrived_init K) fun cdv A outer s H E hr => by
    have sc := sc_Arrived_init
    have tk : Takes (cxOf (L2.CX P w) P w K mg base N_Arrived_init (d_Arrived_init).qual (d_Arrived_init).scope (He.fAd K (d_Arrived_init).at_) cdv A outer s H E) (wE E) := takes_of rfl rfl rfl rfl
    have own := passes_of (X := cxOf (L2.CX P w) P w K mg base N_Arrived_init (d_Arrived_init).qual (d_Arrived_init).scope (He.fAd K (d_Arrived_init).at_) cdv A outer s H E) rfl
    exact pss_cons (ps_f (pv 0) (pv 1) (c_Arrived T) (n_Arrived_frame T))
      (pss_one (ps_f (pv 0) (pe_dnewT) (c_Arrived T) (n_Arrived__texts T)))

theorem sc__clear : FnScope N__clear ["disk", "first", "count"] (defScope s__clear) := ⟨rfl, rfl, rfl, by decide +kernel, rfl, by decide +kernel, by decide +kernel⟩
theorem ok__clear {P : Program} {w : World} {K : Frag} {mg : Str → Option Value} {base : Heap} (T : Top K mg) : DefOk P w K mg base 5 (He.fAd K ("_clear", none)) ["disk", "first", "count"] (sp__clear K) :=
  def_ok (d := d__clear) (tt := t__clear K) (T.says.def_ 26) rfl sc__clear ar__clear (fun _ _ _ _ _ _ us hl => match us, hl with | [_, _, _], _ => rfl) (pure__clear K) fun cdv A outer s H E hr => by
    have sc := sc__clear
    have tk : Takes (cxOf (L2.CX P w) P w K mg base N__clear (d__clear).qual (d__clear).scope (He.fAd K (d__clear).at_) cdv A outer s H E) (wE E) := takes_of rfl rfl rfl rfl
    have own := passes_of (X := cxOf (L2.CX P w) P w K mg base N__clear (d__clear).qual (d__clear).scope (He.fAd K (d__clear).at_) cdv A outer s H E) rfl
    exact pss_one (ps_for own rfl (pi_range2 rfl (z_range T) (pa_cons (pv 1) (pa_cons (pe_op op_add (pv 1) (pv 2)) (pa_nil)))) (pg_name (i := 3) sc.nd rfl (Or.inl rfl))
      (pss_one (ps_expr (pe_mt (pv 0) (c_Disk T) (m_Disk_write T) (ok_Disk_write T) hr rfl (passW tk) (pa_cons (pv 3) (pa_cons (pe_op op_rep (pe_lst (pa_cons (pe_int) (pa_nil))) (pe_gi rfl (i_BLOCK T))) (pa_nil)))))))

theorem sc_Disk_cut_count : FnScope N_Disk_cut_count ["self"] (defScope s_Disk_cut_count) := ⟨rfl, rfl, rfl, by decide +kernel, rfl, by decide +kernel, by decide +kernel⟩
theorem ok_Disk_cut_count {P : Program} {w : World} {K : Frag} {mg : Str → Option Value} {base : Heap} (T : Top K mg) : DefOk P w K mg base 1 (He.fAd K ("Disk", some "cut_count")) ["self"] (sp_Disk_cut_count K) :=
  def_ok (d := d_Disk_cut_count) (tt := t_Disk_cut_count K) (T.says.def_ 27) rfl sc_Disk_cut_count ar_Disk_cut_count (fun _ _ _ _ _ _ us hl => match us, hl with | [_], _ => rfl) (pure_Disk_cut_count K) fun cdv A outer s H E hr => by
    have sc := sc_Disk_cut_count
    have tk : Takes (cxOf (L2.CX P w) P w K mg base N_Disk_cut_count (d_Disk_cut_count).qual (d_Disk_cut_count).scope (He.fAd K (d_Disk_cut_count).at_) cdv A outer s H E) (wE E) := takes_of rfl rfl rfl rfl
    have own := passes_of (X := cxOf (L2.CX P w) P w K mg base N_Disk_cut_count (d_Disk_cut_count).qual (d_Disk_cut_count).scope (He.fAd K (d_Disk_cut_count).at_) cdv A outer s H E) rfl
    exact pss_one (ps_ret (pe_f (pv 0) (c_Disk T) (n_Disk__cuts T)))

theorem sc_Keeper_init : FnScope N_Keeper_init ["self", "disk", "frame", "generation", "arrived", "used"] (defScope s_Keeper_init) := ⟨rfl, rfl, rfl, by decide +kernel, rfl, by decide +kernel, by decide +kernel⟩
theorem ok_Keeper_init {P : Program} {w : World} {K : Frag} {mg : Str → Option Value} {base : Heap} (T : Top K mg) : DefOk P w K mg base 2 (He.fAd K ("Keeper", some "__init__")) ["self", "disk", "frame", "generation", "arrived", "used"] (sp_Keeper_init K) :=
  def_ok (d := d_Keeper_init) (tt := t_Keeper_init K) (T.says.def_ 28) rfl sc_Keeper_init ar_Keeper_init (fun _ _ _ _ _ _ us hl => match us, hl with | [_, _, _, _, _, _], _ => rfl) (pure_Keeper_init K) fun cdv A outer s H E hr => by
    have sc := sc_Keeper_init
    have tk : Takes (cxOf (L2.CX P w) P w K mg base N_Keeper_init (d_Keeper_init).qual (d_Keeper_init).scope (He.fAd K (d_Keeper_init).at_) cdv A outer s H E) (wE E) := takes_of rfl rfl rfl rfl
    have own := passes_of (X := cxOf (L2.CX P w) P w K mg base N_Keeper_init (d_Keeper_init).qual (d_Keeper_init).scope (He.fAd K (d_Keeper_init).at_) cdv A outer s H E) rfl
    exact pss_cons (ps_f (pv 0) (pv 2) (c_Keeper T) (n_Keeper_frame T))
      (pss_cons (ps_f (pv 0) (pv 1) (c_Keeper T) (n_Keeper__disk T))
      (pss_cons (ps_f (pv 0) (pv 3) (c_Keeper T) (n_Keeper__generation T))
      (pss_cons (ps_f (pv 0) (pv 4) (c_Keeper T) (n_Keeper__arrived T))
      (pss_cons (ps_f (pv 0) (pv 5) (c_Keeper T) (n_Keeper__used T))
      (pss_one (ps_f (pv 0) (pe_mt0 (pv 1) (c_Disk T) (m_Disk_cut_count T) (ok_Disk_cut_count T) hr rfl passF) (c_Keeper T) (n_Keeper__cuts T)))))))

theorem ok_unpack {P : Program} {w : World} {K : Frag} {mg : Str → Option Value} {base : Heap} (T : Top K mg) : DefOk P w K mg base 1 (He.fAd K ("unpack", none)) ["row", "count"] (sp_unpack K) :=
  dead_ok (d := d_unpack) (T.says.def_ 29) rfl (fun _ _ _ _ _ _ us hl => match us, hl with | [_, _], _ => rfl)

theorem sc_decode_record : FnScope N_decode_record ["block"] (defScope s_decode_record) := ⟨rfl, rfl, rfl, by decide +kernel, rfl, by decide +kernel, by decide +kernel⟩
theorem ok_decode_record {P : Program} {w : World} {K : Frag} {mg : Str → Option Value} {base : Heap} (T : Top K mg) : DefOk P w K mg base 2 (He.fAd K ("decode_record", none)) ["block"] (sp_decode_record K) :=
  def_ok (d := d_decode_record) (tt := t_decode_record K) (T.says.def_ 30) rfl sc_decode_record ar_decode_record (fun _ _ _ _ _ _ us hl => match us, hl with | [_], _ => rfl) (pure_decode_record K) fun cdv A outer s H E hr => by
    have sc := sc_decode_record
    have tk : Takes (cxOf (L2.CX P w) P w K mg base N_decode_record (d_decode_record).qual (d_decode_record).scope (He.fAd K (d_decode_record).at_) cdv A outer s H E) (wE E) := takes_of rfl rfl rfl rfl
    have own := passes_of (X := cxOf (L2.CX P w) P w K mg base N_decode_record (d_decode_record).qual (d_decode_record).scope (He.fAd K (d_decode_record).at_) cdv A outer s H E) rfl
    exact pss_cons (ps_if (PW.pt (pw_or (pt_cmpR op_ne (pe_ix ix_list (pv 0) (pe_int) (fun _ _ => rfl)) (pe_gi rfl (i_RECORD_MARK T)) (nomark _)) (pw_or (pt_cmpR op_ne (pe_ix ix_list (pv 0) (pe_int) (fun _ _ => rfl)) (pe_gi rfl (i_RECORD_MARK T)) (nomark _)) (pw_or1 (pt_not (pt_chain op_le op_le (pe_int) (pe_ix ix_list (pv 0) (pe_int) (fun _ _ => rfl)) (pe_gi rfl (i_RECORD_MOST T)))))))) (pss_one (ps_ret (pe_non))) (pss_nil))
      (pss_cons (ps_set (i := 1) sc.nd rfl (Or.inl rfl) (pe_fn (ok_unpack T) hr rfl rfl (g_unpack T) passF (pa_cons (pe_slice sl_list (pv 0) (po_some (pe_int)) (po_some (pe_op op_add (pe_int) (pe_gi rfl (i_RECORD_BYTES T))))) (pa_cons (pe_ix ix_list (pv 0) (pe_int) (fun _ _ => rfl)) (pa_nil)))))
      (pss_one (ps_ret (pe_tup (pa_cons (pe_op op_add (pe_op op_mul (pe_ix ix_list (pv 0) (pe_int) (fun _ _ => rfl)) (pe_int)) (pe_ix ix_list (pv 0) (pe_int) (fun _ _ => rfl))) (pa_cons (pe_op op_add (pe_op op_mul (pe_ix ix_list (pv 0) (pe_int) (fun _ _ => rfl)) (pe_int)) (pe_ix ix_list (pv 0) (pe_int) (fun _ _ => rfl))) (pa_cons (pv 1) (pa_nil))))))))

theorem ok_Frame_packets {P : Program} {w : World} {K : Frag} {mg : Str → Option Value} {base : Heap} (T : Top K mg) : DefOk P w K mg base 1 (He.fAd K ("Frame", some "packets")) ["self"] (sp_Frame_packets K) :=
  dead_ok (d := d_Frame_packets) (T.says.def_ 31) rfl (fun _ _ _ _ _ _ us hl => match us, hl with | [_], _ => rfl)

theorem ok_Arrived_accept {P : Program} {w : World} {K : Frag} {mg : Str → Option Value} {base : Heap} (T : Top K mg) : DefOk P w K mg base 1 (He.fAd K ("Arrived", some "accept")) ["self", "key", "start", "bits"] (sp_Arrived_accept K) :=
  dead_ok (d := d_Arrived_accept) (T.says.def_ 32) rfl (fun _ _ _ _ _ _ us hl => match us, hl with | [_, _, _, _], _ => rfl)

theorem ok_key_at {P : Program} {w : World} {K : Frag} {mg : Str → Option Value} {base : Heap} (T : Top K mg) : DefOk P w K mg base 1 (He.fAd K ("key_at", none)) ["frame", "number"] (sp_key_at K) :=
  dead_ok (d := d_key_at) (T.says.def_ 33) rfl (fun _ _ _ _ _ _ us hl => match us, hl with | [_, _], _ => rfl)

theorem sc__accepted : FnScope N__accepted ["arrived", "block"] (defScope s__accepted) := ⟨rfl, rfl, rfl, by decide +kernel, rfl, by decide +kernel, by decide +kernel⟩
theorem ok__accepted {P : Program} {w : World} {K : Frag} {mg : Str → Option Value} {base : Heap} (T : Top K mg) : DefOk P w K mg base 3 (He.fAd K ("_accepted", none)) ["arrived", "block"] (sp__accepted K) :=
  def_ok (d := d__accepted) (tt := t__accepted K) (T.says.def_ 34) rfl sc__accepted ar__accepted (fun _ _ _ _ _ _ us hl => match us, hl with | [_, _], _ => rfl) (pure__accepted K) fun cdv A outer s H E hr => by
    have sc := sc__accepted
    have tk : Takes (cxOf (L2.CX P w) P w K mg base N__accepted (d__accepted).qual (d__accepted).scope (He.fAd K (d__accepted).at_) cdv A outer s H E) (wE E) := takes_of rfl rfl rfl rfl
    have own := passes_of (X := cxOf (L2.CX P w) P w K mg base N__accepted (d__accepted).qual (d__accepted).scope (He.fAd K (d__accepted).at_) cdv A outer s H E) rfl
    exact pss_cons (ps_set (i := 2) sc.nd rfl (Or.inl rfl) (pe_fn (ok_decode_record T) hr rfl rfl (g_decode_record T) passF (pa_cons (pv 1) (pa_nil))))
      (pss_cons (ps_if (pt_cmpR op_isN (pv 2) (pe_non) (nomark _)) (pss_one (ps_ret (pe_bl))) (pss_nil))
      (pss_cons (ps_asg (pv 2) (pg_tup rfl (pgs_cons (pg_name (i := 3) sc.nd rfl (Or.inl rfl)) (pgs_cons (pg_name (i := 4) sc.nd rfl (Or.inl rfl)) (pgs_cons (pg_name (i := 5) sc.nd rfl (Or.inl rfl)) (pgs_nil))))))
      (pss_cons (ps_if (pt_cmpR op_ge (pv 3) (pe_mt0 (pe_f (pv 0) (c_Arrived T) (n_Arrived_frame T)) (c_Frame T) (m_Frame_packets T) (ok_Frame_packets T) hr rfl passF) (nomark _)) (pss_one (ps_ret (pe_bl))) (pss_nil))
      (pss_cons (ps_try_only (tb := fun W => tDrop (tMe (He.ga K "Arrived") "accept" (sp_Arrived_accept K) (WE W) (tVar 0) (tCons (tCallS (sp_key_at K) EF (tCons (tF (He.ga K "Arrived") "frame" (tVar 0)) (tCons (tVar 3) (tNil)))) (tCons (tVar 4) (tCons (tVar 5) (tNil)))))) (ts := fun a cls d => tRet (tC (.bl false))) rfl rfl ⟨rfl, by decide, Or.inl (g_PictureError T)⟩ tk
      (fun W pn xe tk po => pss_one (ps_expr (pe_mt (pv 0) (c_Arrived T) (m_Arrived_accept T) (ok_Arrived_accept T) hr rfl (passW tk) (pa_cons (pe_fn (ok_key_at T) hr rfl rfl (g_key_at T) passF (pa_cons (pe_f (pv 0) (c_Arrived T) (n_Arrived_frame T)) (pa_cons (pv 3) (pa_nil)))) (pa_cons (pv 4) (pa_cons (pv 5) (pa_nil)))))))
      (fun a oe cls d pn hz hf => pss_one (ps_ret (pe_bl))))
      (pss_one (ps_ret (pe_bl)))))))

theorem sc_open_keeper : FnScope N_open_keeper ["disk"] (defScope s_open_keeper) := ⟨rfl, rfl, rfl, by decide +kernel, rfl, by decide +kernel, by decide +kernel⟩
theorem ok_open_keeper {P : Program} {w : World} {K : Frag} {mg : Str → Option Value} {base : Heap} (T : Top K mg) : DefOk P w K mg base 8 (He.fAd K ("open_keeper", none)) ["disk"] (sp_open_keeper K) :=
  def_ok (d := d_open_keeper) (tt := t_open_keeper K) (T.says.def_ 35) rfl sc_open_keeper ar_open_keeper (fun _ _ _ _ _ _ us hl => match us, hl with | [_], _ => rfl) (pure_open_keeper K) fun cdv A outer s H E hr => by
    have sc := sc_open_keeper
    have tk : Takes (cxOf (L2.CX P w) P w K mg base N_open_keeper (d_open_keeper).qual (d_open_keeper).scope (He.fAd K (d_open_keeper).at_) cdv A outer s H E) (wE E) := takes_of rfl rfl rfl rfl
    have own := passes_of (X := cxOf (L2.CX P w) P w K mg base N_open_keeper (d_open_keeper).qual (d_open_keeper).scope (He.fAd K (d_open_keeper).at_) cdv A outer s H E) rfl
    exact pss_cons (ps_set (i := 1) sc.nd rfl (Or.inl rfl) (pe_fn (ok_newest_header T) hr rfl rfl (g_newest_header T) (passW tk) (pa_cons (pv 0) (pa_nil))))
      (pss_cons (ps_if (pt_cmpR op_isN (pv 1) (pe_non) (nomark _)) (pss_one (ps_raiseP rfl tk (e_NotKept T) rfl (g_NotKept T))) (pss_nil))
      (pss_cons (ps_asg (pv 1) (pg_tup rfl (pgs_cons (pg_name (i := 2) sc.nd rfl (Or.inl rfl)) (pgs_cons (pg_name (i := 3) sc.nd rfl (Or.inl rfl)) (pgs_nil)))))
      (pss_cons (ps_set (i := 4) sc.nd rfl (Or.inl rfl) (pe_fn (ok_area_start T) hr rfl rfl (g_area_start T) passF (pa_cons (pv 0) (pa_cons (pe_op op_and (pv 2) (pe_int)) (pa_nil)))))
      (pss_cons (ps_set (i := 5) sc.nd rfl (Or.inl rfl) (pe_mk (k_Arrived T) (ok_Arrived_init T) hr rfl rfl (g_Arrived T) passF (pa_cons (pv 3) (pa_nil))))
      (pss_cons (ps_set (i := 6) sc.nd rfl (Or.inl rfl) (pe_int))
      (pss_cons (ps_while own (PW.pt (pw_and (pt_cmpR op_lt (pv 6) (pe_fn (ok_area_size T) hr rfl rfl (g_area_size T) passF (pa_cons (pv 0) (pa_nil))) (nomark _)) (pw_and1 (pt_val (pe_fn (ok__accepted T) hr rfl rfl (g__accepted T) passF (pa_cons (pv 5) (pa_cons (pe_mt (pv 0) (c_Disk T) (m_Disk_read T) (ok_Disk_read T) hr rfl (passW tk) (pa_cons (pe_op op_add (pv 4) (pv 6)) (pa_nil))) (pa_nil)))))))) (pss_one (ps_set (i := 6) sc.nd rfl (Or.inl rfl) (pe_op op_add (pv 6) (pe_int)))))
      (pss_cons (ps_expr (pe_fn (ok__clear T) hr rfl rfl (g__clear T) (passW tk) (pa_cons (pv 0) (pa_cons (pe_op op_add (pv 4) (pv 6)) (pa_cons (pe_op op_sub (pe_fn (ok_area_size T) hr rfl rfl (g_area_size T) passF (pa_cons (pv 0) (pa_nil))) (pv 6)) (pa_nil))))))
      (pss_cons (ps_expr (pe_mt0 (pv 0) (c_Disk T) (m_Disk_flush T) (ok_Disk_flush T) hr rfl (passW tk)))
      (pss_one (ps_ret (pe_mk (k_Keeper T) (ok_Keeper_init T) hr rfl rfl (g_Keeper T) passF (pa_cons (pv 0) (pa_cons (pv 3) (pa_cons (pv 2) (pa_cons (pv 5) (pa_cons (pv 6) (pa_nil)))))))))))))))))

theorem sc__law_open : FnScope N__law_open ["_law_disk"] (defScope s__law_open) := ⟨rfl, rfl, rfl, by decide +kernel, rfl, by decide +kernel, by decide +kernel⟩
theorem ok__law_open {P : Program} {w : World} {K : Frag} {mg : Str → Option Value} {base : Heap} (T : Top K mg) : DefOk P w K mg base 9 (He.fAd K ("_law_open", none)) ["_law_disk"] (sp__law_open K) :=
  def_ok (d := d__law_open) (tt := t__law_open K) (T.says.def_ 36) rfl sc__law_open ar__law_open (fun _ _ _ _ _ _ us hl => match us, hl with | [_], _ => rfl) (pure__law_open K (xm_NotKept_NotKept T) (kit_NotKept_OutOfRange T)) fun cdv A outer s H E hr => by
    have sc := sc__law_open
    have tk : Takes (cxOf (L2.CX P w) P w K mg base N__law_open (d__law_open).qual (d__law_open).scope (He.fAd K (d__law_open).at_) cdv A outer s H E) (wE E) := takes_of rfl rfl rfl rfl
    have own := passes_of (X := cxOf (L2.CX P w) P w K mg base N__law_open (d__law_open).qual (d__law_open).scope (He.fAd K (d__law_open).at_) cdv A outer s H E) rfl
    exact pss_one (ps_try_as (i := 1) (tb := fun W => tRet (tF (He.ga K "Keeper") "frame" (tCallS (sp_open_keeper K) (WE W) (tCons (tVar 0) (tNil))))) (ts := fun a cls d => tSeq (tIfS (tB (tCB (rIsX K (He.ga K "NotKept") a cls d) (tCons (tVar 1) (tCons (tC (.ref (He.ga K "OutOfRange"))) (tNil))))) (tRet (tC (.str "other"))) (tNext)) (tRet (tC .non))) rfl rfl sc.nd rfl rfl ⟨rfl, by decide, Or.inl (g_NotKept T)⟩ tk
      (fun W pn xe tk po => pss_one (ps_ret (pe_f (pe_fn (ok_open_keeper T) hr rfl rfl (g_open_keeper T) (passW tk) (pa_cons (pv 0) (pa_nil))) (c_Keeper T) (n_Keeper_frame T))))
      (fun a oe cls d pn hz hf => pss_cons (ps_if (pt_val (pe_callB (call_isX (xd_NotKept T) hz hf) rfl (z_isinstance T) (by decide +kernel) (pa_cons (pv 1) (pa_cons (pe_ga rfl (g_OutOfRange T)) (pa_nil))))) (pss_one (ps_ret (pe_str))) (pss_nil))
      (pss_one (ps_ret (pe_non)))))

theorem sc__law_is_integer : FnScope N__law_is_integer ["_law_actual"] (defScope s__law_is_integer) := ⟨rfl, rfl, rfl, by decide +kernel, rfl, by decide +kernel, by decide +kernel⟩
theorem ok__law_is_integer {P : Program} {w : World} {K : Frag} {mg : Str → Option Value} {base : Heap} (T : Top K mg) : DefOk P w K mg base 1 (He.fAd K ("_law_is_integer", none)) ["_law_actual"] (sp__law_is_integer K) :=
  def_ok (d := d__law_is_integer) (tt := t__law_is_integer K) (T.says.def_ 37) rfl sc__law_is_integer ar__law_is_integer (fun _ _ _ _ _ _ us hl => match us, hl with | [_], _ => rfl) (pure__law_is_integer K) fun cdv A outer s H E hr => by
    have sc := sc__law_is_integer
    have tk : Takes (cxOf (L2.CX P w) P w K mg base N__law_is_integer (d__law_is_integer).qual (d__law_is_integer).scope (He.fAd K (d__law_is_integer).at_) cdv A outer s H E) (wE E) := takes_of rfl rfl rfl rfl
    have own := passes_of (X := cxOf (L2.CX P w) P w K mg base N__law_is_integer (d__law_is_integer).qual (d__law_is_integer).scope (He.fAd K (d__law_is_integer).at_) cdv A outer s H E) rfl
    exact pss_one (ps_ret (pe_and (pe_callB call_isi rfl (z_isinstance T) (by decide +kernel) (pa_cons (pv 0) (pa_cons (pe_bltn rfl (z_int T) (by decide +kernel) rfl) (pa_nil)))) (pe_one (pe_not (pe_callB call_isi rfl (z_isinstance T) (by decide +kernel) (pa_cons (pv 0) (pa_cons (pe_bltn rfl (z_bool T) (by decide +kernel) rfl) (pa_nil))))))))

theorem sc_law : FnScope N_law ["_law_script"] (defScope s_law) := ⟨rfl, rfl, rfl, by decide +kernel, rfl, by decide +kernel, by decide +kernel⟩
theorem ok_law {P : Program} {w : World} {K : Frag} {mg : Str → Option Value} (T : Top K mg) : FnLaw P w K mg 10 (He.fAd K ("law", none)) "_law_script" (sp_law K) :=
  law_ok (d := d_law) (tt := t_law K) (T.says.def_ 38) rfl sc_law ar_law (fun _ _ _ _ _ _ us hl => match us, hl with | [_], _ => rfl) (pure_law K) fun base cdv A outer s H E hr => by
    have sc := sc_law
    exact pss_cons (ps_set (i := 1) sc.nd rfl (Or.inl rfl) (pe_lst (pa_cons (pe_fn (ok__law_digits T) hr rfl rfl (g__law_digits T) passF (pa_cons (pv 0) (pa_cons (pe_int) (pa_cons (pe_int) (pa_nil))))) (pa_cons (pe_int) (pa_nil)))))
      (pss_cons (ps_set (i := 2) sc.nd rfl (Or.inl rfl) (pe_op op_add (pe_int) (pe_fn (ok__law_draw T) hr rfl rfl (g__law_draw T) passF (pa_cons (pv 1) (pa_cons (pe_int) (pa_nil))))))
      (pss_cons (ps_set (i := 3) sc.nd rfl (Or.inl rfl) (pe_mk (k_Disk T) (ok_Disk_init T) hr rfl rfl (g_Disk T) passF (pa_cons (pv 2) (pa_nil))))
      (pss_cons (ps_if (PW.pt (pw_or (pt_cmpR op_notN (pe_fn (ok_newest_header T) hr rfl rfl (g_newest_header T) passF (pa_cons (pv 3) (pa_nil))) (pe_non) (nomark _)) (pw_or1 (pt_cmpR op_notN (pe_fn (ok__law_open T) hr rfl rfl (g__law_open T) passF (pa_cons (pv 3) (pa_nil))) (pe_non) (nomark _))))) (pss_one (ps_ret (pe_bl))) (pss_nil))
      (pss_cons (ps_set (i := 4) sc.nd rfl (Or.inl rfl) (pe_op op_mod (pe_callTy call_int1 rfl (z_int T) (by decide +kernel) (pa_cons (pe_fn (ok__law_draw T) hr rfl rfl (g__law_draw T) passF (pa_cons (pv 1) (pa_cons (pe_int) (pa_nil)))) (pa_nil))) (pe_int)))
      (pss_cons (ps_if (pt_cmpR op_eq (pe_fn (ok__law_draw T) hr rfl rfl (g__law_draw T) passF (pa_cons (pv 1) (pa_cons (pe_int) (pa_nil)))) (pe_int) (nomark _)) (pss_one (ps_set (i := 4) sc.nd rfl (Or.inl rfl) (pe_int))) (pss_nil))
      (pss_cons (ps_set (i := 5) sc.nd rfl (Or.inl rfl) (pe_op op_mod (pe_callTy call_int1 rfl (z_int T) (by decide +kernel) (pa_cons (pe_op op_add (pv 4) (pe_ix ix_list (pe_lst (pa_cons (pe_int) (pa_cons (pe_int) (pa_cons (pe_int) (pa_cons (pe_fn (ok__law_draw T) hr rfl rfl (g__law_draw T) passF (pa_cons (pv 1) (pa_cons (pe_int) (pa_nil)))) (pa_nil)))))) (pe_fn (ok__law_draw T) hr rfl rfl (g__law_draw T) passF (pa_cons (pv 1) (pa_cons (pe_int) (pa_nil)))) (fun _ _ => rfl))) (pa_nil))) (pe_int)))
      (pss_cons (ps_set (i := 6) sc.nd rfl (Or.inl rfl) (pe_lst (pa_cons (pe_fn (ok__law_shape T) hr rfl rfl (g__law_shape T) passF (pa_cons (pv 1) (pa_cons (pe_int) (pa_cons (pe_int) (pa_cons (pe_int) (pa_nil)))))) (pa_cons (pe_fn (ok__law_shape T) hr rfl rfl (g__law_shape T) passF (pa_cons (pv 1) (pa_cons (pe_int) (pa_cons (pe_int) (pa_cons (pe_int) (pa_nil)))))) (pa_nil)))))
      (pss_cons (ps_set (i := 7) sc.nd rfl (Or.inl rfl) (pe_fn (ok__law_block T) hr rfl rfl (g__law_block T) passF (pa_cons (pv 1) (pa_cons (pe_ix ix_list (pv 6) (pe_int) (fun _ _ => rfl)) (pa_cons (pv 4) (pa_nil))))))
      (pss_cons (ps_set (i := 8) sc.nd rfl (Or.inl rfl) (pe_fn (ok__law_block T) hr rfl rfl (g__law_block T) passF (pa_cons (pv 1) (pa_cons (pe_ix ix_list (pv 6) (pe_int) (fun _ _ => rfl)) (pa_cons (pv 5) (pa_nil))))))
      (pss_cons (ps_expr (pe_mt (pv 3) (c_Disk T) (m_Disk_write T) (ok_Disk_write T) hr rfl passF (pa_cons (pe_int) (pa_cons (pe_slice sl_list (pe_ix ix_list (pv 7) (pe_int) (fun _ _ => rfl)) (po_none) (po_some (pe_int))) (pa_nil)))))
      (pss_cons (ps_expr (pe_mt (pv 3) (c_Disk T) (m_Disk_write T) (ok_Disk_write T) hr rfl passF (pa_cons (pe_int) (pa_cons (pe_slice sl_list (pe_ix ix_list (pv 8) (pe_int) (fun _ _ => rfl)) (po_none) (po_some (pe_int))) (pa_nil)))))
      (pss_cons (ps_if (pt_cmpR op_eq (pe_fn (ok__law_draw T) hr rfl rfl (g__law_draw T) passF (pa_cons (pv 1) (pa_cons (pe_int) (pa_nil)))) (pe_int) (nomark _)) (pss_one (ps_expr (pe_mt0 (pv 3) (c_Disk T) (m_Disk_flush T) (ok_Disk_flush T) hr rfl passF))) (pss_nil))
      (pss_cons (ps_set (i := 9) sc.nd rfl (Or.inl rfl) (pe_non))
      (pss_cons (ps_if (pt_truth (pe_ix ix_list (pv 7) (pe_int) (fun _ _ => rfl)) (fun _ => rfl)) (pss_one (ps_set (i := 9) sc.nd rfl (Or.inl rfl) (pe_lst (pa_cons (pv 4) (pa_cons (pe_ix ix_list (pv 6) (pe_int) (fun _ _ => rfl)) (pa_nil)))))) (pss_nil))
      (pss_cons (ps_if (PW.pt (pw_and (pt_truth (pe_ix ix_list (pv 8) (pe_int) (fun _ _ => rfl)) (fun _ => rfl)) (pw_and1 (PW.pt (pw_or (pt_not (pt_truth (pe_ix ix_list (pv 7) (pe_int) (fun _ _ => rfl)) (fun _ => rfl))) (pw_or1 (pt_cmpR op_eq (pv 5) (pe_op op_mod (pe_callTy call_int1 rfl (z_int T) (by decide +kernel) (pa_cons (pe_op op_add (pv 4) (pe_int)) (pa_nil))) (pe_int)) (nomark _)))))))) (pss_one (ps_set (i := 9) sc.nd rfl (Or.inl rfl) (pe_lst (pa_cons (pv 5) (pa_cons (pe_ix ix_list (pv 6) (pe_int) (fun _ _ => rfl)) (pa_nil)))))) (pss_nil))
      (pss_cons (ps_set (i := 10) sc.nd rfl (Or.inl rfl) (pe_op op_fdiv (pe_op op_sub (pv 2) (pe_int)) (pe_int)))
      (pss_cons (ps_if (PW.pt (pw_or (pt_cmpR op_ne (pe_fn (ok_area_size T) hr rfl rfl (g_area_size T) passF (pa_cons (pv 3) (pa_nil))) (pv 10) (nomark _)) (pw_or (pt_cmpR op_ne (pe_fn (ok_area_start T) hr rfl rfl (g_area_start T) passF (pa_cons (pv 3) (pa_cons (pe_int) (pa_nil)))) (pe_int) (nomark _)) (pw_or1 (pt_cmpR op_ne (pe_fn (ok_area_start T) hr rfl rfl (g_area_start T) passF (pa_cons (pv 3) (pa_cons (pe_int) (pa_nil)))) (pe_op op_add (pe_int) (pv 10)) (nomark _)))))) (pss_one (ps_ret (pe_bl))) (pss_nil))
      (pss_cons (ps_set (i := 11) sc.nd rfl (Or.inl rfl) (pe_fn (ok_newest_header T) hr rfl rfl (g_newest_header T) passF (pa_cons (pv 3) (pa_nil))))
      (pss_cons (ps_if (pt_cmpR op_isN (pv 9) (pe_non) (nomark _)) (pss_one (ps_ret (pe_and (pe_cmpR op_isN (pv 11) (pe_non) (nomark _)) (pe_one (pe_cmpR op_isN (pe_fn (ok__law_open T) hr rfl rfl (g__law_open T) passF (pa_cons (pv 3) (pa_nil))) (pe_non) (nomark _)))))) (pss_nil))
      (pss_cons (ps_if (PW.pt (pw_or (pt_not (pt_val (pe_callB call_isi rfl (z_isinstance T) (by decide +kernel) (pa_cons (pv 11) (pa_cons (pe_bltn rfl (z_tuple T) (by decide +kernel) rfl) (pa_nil)))))) (pw_or (pt_cmpR op_ne (pe_callB call_len rfl (z_len T) (by decide +kernel) (pa_cons (pv 11) (pa_nil))) (pe_int) (nomark _)) (pw_or (pt_not (pt_val (pe_fn (ok__law_is_integer T) hr rfl rfl (g__law_is_integer T) passF (pa_cons (pe_ix ix_tup (pv 11) (pe_int) (fun _ _ => rfl)) (pa_nil))))) (pw_or1 (pt_cmpR (op_neD hr.units) (pe_ix ix_tup (pv 11) (pe_int) (fun _ _ => rfl)) (pe_ix ix_list (pv 9) (pe_int) (fun _ _ => rfl)) (nomark _))))))) (pss_one (ps_ret (pe_bl))) (pss_nil))
      (pss_one (ps_ret (pe_and (pe_fn (ok__law_same T) hr rfl rfl (g__law_same T) passF (pa_cons (pe_ix ix_tup (pv 11) (pe_int) (fun _ _ => rfl)) (pa_cons (pe_ix ix_list (pv 9) (pe_int) (fun _ _ => rfl)) (pa_nil)))) (pe_one (pe_fn (ok__law_same T) hr rfl rfl (g__law_same T) passF (pa_cons (pe_fn (ok__law_open T) hr rfl rfl (g__law_open T) passF (pa_cons (pv 3) (pa_nil))) (pa_cons (pe_ix ix_list (pv 9) (pe_int) (fun _ _ => rfl)) (pa_nil))))))))))))))))))))))))))))

end PB
namespace PB
open PySem PySem.Spec PyProof.Rows L2
abbrev RR : PySem.W.OpenRow := PySem.W.OpenLaw.row PySem.Challenge.rw_packetpicture_k80_current_header
abbrev faK (K : Frag) : Bool := fa.all fun f => f K
abbrev hk : PySem.W.Hook := hookP 5 faK fn
def ob (s : PySem.W.SharedT) : He.AlD := obsPG 5 faK fn (HandSHeadRun.getT s)
theorem ob_eq (s : PySem.W.SharedT) : ob s = hk.obs s.abs := obsPG_eq (HandSHeadRun.getT_eq s)
def names : List PySem.Str := (["_wall", "PictureError", "OutOfRange", "BitsAhead", "Contradiction", "NoSuchPacket", "NotKept", "PowerCut", "context", "shares", "interval", "digits_value"] : List PySem.Str) ++ (["digits_text", "_code", "opens", "last_with_zero", "first_with_one", "_next_bit", "find_prefix", "SIDE_MOST", "VALUES_MOST", "DEPTH_MOST", "TILE_MOST", "check_shape"] : List PySem.Str) ++ (["check_size", "Frame", "tile_corner", "tile_size", "all_keys", "key_at", "check_key", "START_MOST", "DIGITS_MOST", "Arrived", "unpack", "RECORD_MOST"] : List PySem.Str) ++ (["RECORD_MARK", "HEADER_MARK", "RECORD_BYTES", "decode_record", "encode_header", "decode_header", "BLOCK", "BLOCKS_LEAST", "BLOCKS_MOST", "_is_block", "Disk", "area_size"] : List PySem.Str) ++ (["area_start", "_clear", "newest_header", "_accepted", "open_keeper", "Keeper", "_law_cell", "_law_digits", "_law_draw", "_law_is_integer", "_law_shape", "_law_frame"] : List PySem.Str) ++ (["_law_block", "_law_open", "_law_same"] : List PySem.Str)
set_option maxHeartbeats 0 in
theorem run (w : World) : HandSHeadRun.RunEq RR (PySem.W.view RR.prog [73]) hk ob 8000 names w := by
  intro os
  kernel_rfl
end PB
open PySem PySem.W PySem.Calls PyProof.Rows
set_option maxHeartbeats 0 in
theorem PySem.Challenge.cw_packetpicture_k80_current_header_holds : PySem.Challenge.rw_packetpicture_k80_current_header.Holds := by
  w_on; o_law
  refine HandSHeadRun.head_any (r := OpenLaw.row PySem.Challenge.rw_packetpicture_k80_current_header) (q := view (OpenLaw.row PySem.Challenge.rw_packetpicture_k80_current_header).prog [73]) (H := PB.hk) (ob := PB.ob) (M := 8000) (loose := PB.names) (d := HandSHeadRun.topDef (OpenLaw.row PySem.Challenge.rw_packetpicture_k80_current_header).prog 73) (kwd := []) PB.ob_eq
    (by kernel_rfl) (fun s => by kernel_rfl) PB.run (by kernel_rfl) (by kernel_rfl) (by kernel_rfl) (by rfl) (by first | assumption | decide +kernel) (by decide +kernel) ⟨rfl, rfl, rfl, rfl, rfl, by decide +kernel⟩ ?hw ?hc
  case hw => w_witness2
  case hc =>
    refine L2.walk_ofE (l := PySem.Challenge.rw_packetpicture_k80_current_header) (n := 63) (k := 10) (x := "_law_script") (CX := L2.CX0) rfl (by decide) (by kernel_rfl) ⟨rfl, by decide, by decide⟩ ?F (fun _ _ _ _ z => z)
    intro w mg fa h Y G hmg0
    obtain ⟨K, KX, c⟩ := Y
    have hmg : mg ("law" : PySem.Str) = some (.ref fa) := by
      have e : (HandSHeadRun.topDef (OpenLaw.row PySem.Challenge.rw_packetpicture_k80_current_header).prog 73).name = ("law" : PySem.Str) := by kernel_rfl
      rw [← e]
      exact hmg0
    have T : PB.Top K mg := ⟨⟨h, KX, G⟩, c⟩
    have efa : fa = He.fAd K ("law", none) := by
      have z := hmg.symm.trans (PB.g_law T)
      exact Value.ref.inj (Option.some.inj z)
    have fn : ∃ fd : FuncData, (∀ (s : Shared) (v : Value), BindsTo s fd ⟨[v], []⟩ [("_law_script", v)]) ∧ ∀ base : Heap, K.In base → base.Ns mainGlobals mg → L2.FnOk (PySem.Challenge.rw_packetpicture_k80_current_header).prog w K mg base L2.CX0 10 fa fd ["_law_script"] (PB.sp_law K) := by
      subst efa
      obtain ⟨fd, h1, h2⟩ := PB.ok_law (P := (PySem.Challenge.rw_packetpicture_k80_current_header).prog) (w := w) T
      exact ⟨fd, h1, fun base _ _ => h2 base⟩
    obtain ⟨fd, hb, hF⟩ := fn
    exact ⟨K, fd, PB.sp_law K, KX, hb, fun H a ns hl _ hS => ⟨a, ns, rfl, hS, fun _ => rfl⟩, hF⟩

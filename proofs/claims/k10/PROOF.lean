import PyProof.Rows.All
import Wide.All
import OpenK.AllK
import Wide.FinOn
import HandS.ForMost
import HandS.ForExc
import HandS.Evl
import HandS.Steps
import HandS.Star
import HandS.Property
import HandS.ClsMeth
import HandS.Defaults
import HandS.MakeKw
import HandS.MakeKwOnly
import HandS.Wide
import HandS.Flow
import HandS.IsInst
import KE.KDictCopyH
import HandS.Style
import HandS.TupAny
import HandS.TupMul
import HandS.NoneIn
import HandS.TupSets
import HandS.RevTup
import HandS.More
import HandS.Comp
import KE.GoesEnum
import KE.GoesMore
import HandS.Deep
import PyProof.WalksMore
import PyProof.Rows.SumAny
import HandS.List
import HandS.HeadHook1
import HandS.HeadHook2
import HandS.HeadHook3
import HandS.HeadEnd
import HandS.Codes
import HandS.ExcInit
import HandS.ExcField
import HandS.ExcIs
import HandS.ExcOwn
import HandS.TryOnly
import HandS.TryMany
import HandS.Lambda
import KE.KExcIs
import HandS.SetFor
import KE.KDflt
import OpenK.KOps
import OpenK.KMeth
import KE.KOpsOwn
import KE.KCallOwn
import HandS.EndOwn
import HandS.GenBody
import HandS.GenYield
import HandS.GenCall
import HandS.GenList
import HandS.ExcValue
import HandS.SuiteRaise
import PyProof.Rows.TupIter
import KE.KExcRaise
import HandS.ExcCtx
import PySem.Challenge.RW_warmswitch_k10_whole_hidden_thresholds
set_option Elab.async false
set_option linter.all false
set_option maxRecDepth 100000
set_option maxHeartbeats 4000000
section
/-! ## 1. The ghost heap: G holds what never changes again, mu what may still change, H is the heap as it is -/
namespace Wm
open PySem PySem.Spec PyProof.Rows L2 StX
abbrev Ex := Evl.Ex
abbrev Mu := List (Addr × HO)
structure Hold (G : Hp) (mu : Mu) (H : Hp) : Prop where
  ex : Ex G H
  at_ : ∀ q ∈ mu, H q.1 = some q.2
  out : ∀ q ∈ mu, G q.1 = none
  nd : (mu.map (·.1)).Nodup
section
variable {G G' G1 G2 H H' H1 : Hp} {mu : Mu} {a p q : Addr} {o o' u : HO} {i : Nat}
theorem Ex.refl (H : Hp) : Ex H H := Evl.Ex.refl H
theorem Ex.trans (a : Ex G G1) (b : Ex G1 G2) : Ex G G2 := Evl.Ex.trans a b
theorem Ex.new (h : H p = none) : Ex H (upd H p o) := Evl.Ex.new h
theorem Hold.rd (h : Hold G mu H) (e : G a = some o) : H a = some o := h.ex a o e
theorem Hold.get (h : Hold G mu H) (e : mu[i]? = some (a, o)) : H a = some o := h.at_ _ (List.mem_of_getElem? e)
theorem Hold.g_none (h : Hold G mu H) (e : H p = none) : G p = none := Evl.fresh_back h.ex e
theorem Hold.mu_ne (h : Hold G mu H) (e : H p = none) : p ∉ mu.map (·.1) := fun z => by
  obtain ⟨q, hq, rfl⟩ := List.mem_map.mp z
  have := h.at_ q hq
  rw [e] at this
  cases this
theorem Hold.grow (h : Hold G mu H) (e : Ex H H') : Hold G mu H' := ⟨h.ex.trans e, fun q hq => e _ _ (h.at_ q hq), h.out, h.nd⟩
theorem Hold.newg (h : Hold G mu H) (e : H p = none) : Hold G mu (upd H p o) := h.grow (Ex.new e)
theorem Hold.new (h : Hold G mu H) (e : H p = none) : Hold (upd G p o) mu (upd H p o) := by
  have ne := h.mu_ne e
  refine ⟨fun b u hb => ?_, fun q hq => ?_, fun q hq => ?_, h.nd⟩
  · by_cases hp : b = p
    · subst hp; rw [upd_same] at hb ⊢; exact hb
    · rw [upd_ne hp] at hb ⊢; exact h.ex _ _ hb
  · have : q.1 ≠ p := fun z => ne (z ▸ List.mem_map_of_mem hq)
    rw [upd_ne this]; exact h.at_ q hq
  · have : q.1 ≠ p := fun z => ne (z ▸ List.mem_map_of_mem hq)
    rw [upd_ne this]; exact h.out q hq
theorem Hold.newm (h : Hold G mu H) (e : H p = none) : Hold G ((p, o) :: mu) (upd H p o) := by
  have ne := h.mu_ne e
  refine ⟨h.ex.trans (Ex.new e), fun q hq => ?_, fun q hq => ?_, ?_⟩
  · rcases List.mem_cons.mp hq with rfl | hq
    · exact upd_same
    · have : q.1 ≠ p := fun z => ne (z ▸ List.mem_map_of_mem hq)
      rw [upd_ne this]; exact h.at_ q hq
  · rcases List.mem_cons.mp hq with rfl | hq
    · exact h.g_none e
    · exact h.out q hq
  · rw [List.map_cons, List.nodup_cons]; exact ⟨ne, h.nd⟩
theorem nodup_fst {mu : Mu} (nd : (mu.map (·.1)).Nodup) {i j : Nat} {x y : Addr × HO} (hi : mu[i]? = some x) (hj : mu[j]? = some y) (e : x.1 = y.1) : i = j := by
  have h1 : (mu.map (·.1))[i]? = some x.1 := by rw [List.getElem?_map, hi] <;> rfl
  have h2 : (mu.map (·.1))[j]? = some x.1 := by rw [List.getElem?_map, hj, e] <;> rfl
  obtain ⟨l1, e1⟩ := List.getElem?_eq_some_iff.mp h1
  obtain ⟨l2, e2⟩ := List.getElem?_eq_some_iff.mp h2
  exact (List.getElem_inj nd).mp (e1.trans e2.symm)
theorem Hold.set (h : Hold G mu H) (e : mu[i]? = some (a, o)) : Hold G (mu.set i (a, o')) (upd H a o') := by
  have ga : G a = none := h.out _ (List.mem_of_getElem? e)
  have key : ∀ q ∈ mu.set i (a, o'), q = (a, o') ∨ (q ∈ mu ∧ q.1 ≠ a) := fun q hq => by
    obtain ⟨j, hj⟩ := List.mem_iff_getElem?.mp hq
    by_cases hij : i = j
    · subst hij
      rw [List.getElem?_set_self (List.getElem?_eq_some_iff.mp e).1] at hj
      cases hj; exact .inl rfl
    · rw [List.getElem?_set_ne hij] at hj
      exact .inr ⟨List.mem_of_getElem? hj, fun z => hij (nodup_fst h.nd e hj z.symm)⟩
  refine ⟨h.ex.mut ga, fun q hq => ?_, fun q hq => ?_, ?_⟩
  · rcases key q hq with rfl | ⟨hm, ne⟩
    · exact upd_same
    · rw [upd_ne ne]; exact h.at_ q hm
  · rcases key q hq with rfl | ⟨hm, ne⟩
    · exact ga
    · exact h.out q hm
  · have : (mu.set i (a, o')).map (·.1) = mu.map (·.1) := by
      rw [List.map_set]
      apply List.ext_getElem?
      intro j
      by_cases hij : i = j
      · subst hij
        rw [List.getElem?_set_self (by rw [List.length_map]; exact (List.getElem?_eq_some_iff.mp e).1), List.getElem?_map, e] <;> rfl
      · rw [List.getElem?_set_ne hij]
    rw [this]; exact h.nd
theorem Hold.drop {q : Addr × HO} (h : Hold G (q :: mu) H) : Hold G mu H := ⟨h.ex, fun x hx => h.at_ x (List.mem_cons_of_mem _ hx), fun x hx => h.out x (List.mem_cons_of_mem _ hx), (List.nodup_cons.mp (by simpa using h.nd)).2⟩
theorem Hold.frz (h : Hold G ((p, o) :: mu) H) : Hold (upd G p o) mu H := by
  have nd : p ∉ mu.map (·.1) := (List.nodup_cons.mp (by simpa using h.nd)).1
  refine ⟨fun b u hb => ?_, fun q hq => h.at_ q (List.mem_cons_of_mem _ hq), fun q hq => ?_, h.drop.nd⟩
  · by_cases hp : b = p
    · subst hp; rw [upd_same] at hb; cases hb; exact h.at_ _ List.mem_cons_self
    · rw [upd_ne hp] at hb; exact h.ex _ _ hb
  · have : q.1 ≠ p := fun z => nd (z ▸ List.mem_map_of_mem hq)
    rw [upd_ne this]; exact h.out q (List.mem_cons_of_mem _ hq)
theorem Hold.frz_ex (h : Hold G ((p, o) :: mu) H) : Ex G (upd G p o) := Ex.new (h.out _ List.mem_cons_self)
theorem _root_.L2.SqT.up {K : PySem.W.Frag} {xs : List V} (e : Ex G G') (h : SqT K G a xs) : SqT K G' a xs := Evl.ex_t e h
theorem _root_.L2.SqL.up {K : PySem.W.Frag} {xs : List V} (e : Ex G G') (h : SqL K G a xs) : SqL K G' a xs := Evl.ex_l e h
theorem Hold.tup {K : PySem.W.Frag} {xs : List V} (h : Hold G mu H) (t : SqT K G a xs) : SqT K H a xs := SqT.up h.ex t
theorem Hold.lst {K : PySem.W.Frag} {xs : List V} (h : Hold G mu H) (t : SqL K G a xs) : SqL K H a xs := SqL.up h.ex t
theorem SqT.of_ {K : PySem.W.Frag} {xs : List V} (e : G a = some (.tup xs)) : SqT K G a xs := Evl.st_of e
theorem SqL.of_ {K : PySem.W.Frag} {xs : List V} (e : G a = some (.lst xs)) : SqL K G a xs := Evl.sq_of e
end

/-! ## 2. Rules for readings, one step each -/
section
variable {K : PySem.W.Frag} {σ : L2.St} {H : Hp} {Q : VK} {QT : Bool → Hp → Prop} {QA : List V → Hp → Prop} {D : Ends} {i : Nat} {v : V} {ta tb tc te : TE} {tt tu : TT} {tr : TA} {t u z : TS} {r r' : R2}
theorem r_var (h : σ[i]? = some (some v)) (k : Q v H) : tVar i σ H Q := ⟨v, h, k⟩
theorem r_c (k : Q v H) : tC v σ H Q := k
theorem r_op (k : ta σ H fun x H1 => tb σ H1 fun y H2 => r x y H2 Q) : tOp r ta tb σ H Q := k
theorem r_un {ru : V → Hp → VK → Prop} (k : ta σ H fun x H1 => ru x H1 Q) : tUn ru ta σ H Q := k
theorem r_I0 {g : Int → Int → V} {a b : Int} (k : Q (g a b) H) : rI0 g (.int a) (.int b) H Q := ⟨a, b, rfl, rfl, k⟩
theorem r_I {C : Int → Int → Prop} {g : Int → Int → V} {a b : Int} (c : C a b) (k : Q (g a b) H) : rI C g (.int a) (.int b) H Q := ⟨a, b, rfl, rfl, c, k⟩
theorem r_U {g : Int → V} {a : Int} (k : Q (g a) H) : rU g (.int a) H Q := ⟨a, rfl, k⟩
theorem r_nil (k : QA [] H) : tNil σ H QA := k
theorem r_cons (k : te σ H fun x H1 => tr σ H1 fun xs H2 => QA (x :: xs) H2) : tCons te tr σ H QA := k
theorem r_test (k : te σ H fun x H1 => ∃ b, x = .bl b ∧ QT b H1) : tTest te σ H QT := k
theorem r_B (k : te σ H fun x H1 => ∃ b, x = .bl b ∧ QT b H1) : tB te σ H QT := k
theorem r_bl {P : Bool → Prop} {b : Bool} (k : P b) : ∃ c, V.bl b = .bl c ∧ P c := ⟨b, rfl, k⟩
theorem r_eq {x y : V} (h : scal x y = true) (k : Q (.bl (decide (x = y))) H) : rEq x y H Q := ⟨h, k⟩
theorem r_eqI {a b : Int} (k : Q (.bl (decide (a = b))) H) : rEq (.int a) (.int b) H Q := ⟨rfl, by rw [show decide (V.int a = V.int b) = decide (a = b) by simp]; exact k⟩
theorem r_neI {a b : Int} (k : Q (.bl (!decide (a = b))) H) : rNe (.int a) (.int b) H Q := ⟨rfl, by rw [show decide (V.int a = V.int b) = decide (a = b) by simp]; exact k⟩
theorem r_eqB {a b : Bool} (k : Q (.bl (a == b)) H) : rEq (.bl a) (.bl b) H Q := ⟨rfl, by rw [dec_bl]; exact k⟩
theorem r_neB {a b : Bool} (k : Q (.bl (a != b)) H) : rNe (.bl a) (.bl b) H Q := ⟨rfl, by rw [dec_bl]; exact k⟩
theorem r_chain (k : ta σ H fun x H1 => tb σ H1 fun y H2 => r x y H2 fun z H3 => ∃ k, z = .bl k ∧ (if k = true then tc σ H3 fun w' H4 => r' y w' H4 Q else Q (.bl false) H3)) : tChain r r' ta tb tc σ H Q := k
theorem r_and (k : tt σ H fun c H1 => if c = true then tu σ H1 QT else QT false H1) : tAnd tt tu σ H QT := k
theorem r_or (k : tt σ H fun c H1 => if c = true then QT true H1 else tu σ H1 QT) : tOr tt tu σ H QT := k
theorem r_not (k : tt σ H fun c H1 => QT (!c) H1) : tNot tt σ H QT := k
theorem r_andV (k : ta σ H fun x H1 => ∃ c, x = .bl c ∧ if c = true then tb σ H1 Q else Q (.bl false) H1) : tAndV ta tb σ H Q := k
theorem r_notV (k : ta σ H fun x H1 => ∃ c, x = .bl c ∧ Q (.bl (!c)) H1) : tNotV ta σ H Q := k
theorem r_if (k : tt σ H fun c H1 => if c = true then ta σ H1 Q else tb σ H1 Q) : tIf tt ta tb σ H Q := k
theorem r_iteT {A B : Prop} (k : A) : if true = true then A else B := by rw [if_pos rfl]; exact k
theorem r_iteF {A B : Prop} (k : B) : if false = true then A else B := by rw [if_neg Bool.false_ne_true]; exact k
theorem r_ite {A B : Prop} {b : Bool} (h1 : b = true → A) (h2 : b = false → B) : if b = true then A else B := by
  cases b
  · exact r_iteF (h2 rfl)
  · exact r_iteT (h1 rfl)
/-- statements -/
theorem r_seq (k : t { D with nx := u D } σ H) : tSeq t u D σ H := k
theorem r_asg {g : TG} (k : te σ H fun x H1 => g x σ H1 D.nx) : tAsg te g D σ H := k
theorem r_gname {R : L2.St → Hp → Prop} (k : R (σ.set i (some v)) H) : gName i v σ H R := k
theorem r_ret (k : te σ H D.rt) : tRet te D σ H := k
theorem r_next (k : D.nx σ H) : tNext D σ H := k
theorem r_drop (k : te σ H fun _ H1 => D.nx σ H1) : tDrop te D σ H := k
theorem r_ifS (k : tt σ H fun b H1 => if b = true then t D σ H1 else u D σ H1) : tIfS tt t u D σ H := k
theorem r_aug {x : V} {ti : TIp} (h : σ[i]? = some (some x)) (k : te σ H fun y H1 => ti x y H1 fun z H2 => D.nx (σ.set i (some z)) H2) : tAug i te ti D σ H := ⟨x, h, k⟩
theorem r_ipI {f : Int → Int → Int} {a b : Int} (k : Q (.int (f a b)) H) : ipI f (.int a) (.int b) H Q := ⟨a, b, rfl, rfl, k⟩
theorem r_two {P : V → V → Prop} {x y : V} (k : P x y) : ∃ v w, [x, y] = [v, w] ∧ P v w := ⟨x, y, rfl, k⟩
/-- a test whose answer is told: nothing is made on the way -/
theorem ifA {b : Bool} (h : Ans tt σ H b) (h1 : b = true → t D σ H) (h2 : b = false → u D σ H) : tIfS tt t u D σ H := by
  refine h _ ?_
  exact r_ite h1 h2
theorem ans_or2 {b1 b2 : Bool} (h1 : Ans tt σ H b1) (h2 : Ans tu σ H b2) : Ans (tOr tt tu) σ H (b1 || b2) := by
  cases b1 with
  | true => exact ans_or1 h1
  | false => exact ans_or h1 h2
theorem ans_lt {a b : Int} (ha : Val ta σ H (.int a)) (hb : Val tb σ H (.int b)) : Ans (tTest (tOp (rI0 fun i j => .bl (decide (i < j))) ta tb)) σ H (decide (a < b)) := ans_cmp ha hb fun _ q => r_I0 q
theorem ans_gtI {a b : Int} (ha : Val ta σ H (.int a)) (hb : Val tb σ H (.int b)) : Ans (tTest (tOp (rI0 fun i j => .bl (decide (j < i))) ta tb)) σ H (decide (b < a)) := ans_cmp ha hb fun _ q => r_I0 q
end
end Wm
/-! ## 3. Rules over the held heap -/
namespace Wm
open PySem PySem.Spec PyProof.Rows L2 StX
/-- an attribute read off a value -/
def rFld (K : PySem.W.Frag) (f : Str) : V → Hp → VK → Prop := fun x H1 Q => ∃ a C dx fs v, x = .ref a ∧ H1 a = some (.ins C dx fs) ∧ Cls K C ∧ NoAttr K C f ∧ fs.lookup f = some v ∧ Q v H1
section
variable {K : PySem.W.Frag} {G H : Hp} {mu : Mu} {σ : L2.St} {Q : VK} {D : Ends} {C dx p : Addr} {fs : List (Str × V)} {f m : Str} {v w : V} {i j : Nat} {o : HO} {ta tv te : TE} {tr : TA} {xs : List V} {E : XK} {sp : Sp}
theorem r_fld (k : ta σ H (fun x H1 => rFld K f x H1 Q)) : tFld K ta f σ H Q := k
/-- o.f = e: the value, then the object -/
def rSetF (K : PySem.W.Frag) (f : Str) (y x : V) (H2 : Hp) (R : Hp → Prop) : Prop := ∃ a C dx fs, x = .ref a ∧ H2 a = some (.ins C dx fs) ∧ Cls K C ∧ NoAttr K C f ∧ fs.length < 1000 ∧ R (upd H2 a (.ins C dx (putF f y fs)))
theorem r_setF (k : tv σ H fun y H1 => ta σ H1 fun x H2 => rSetF K f y x H2 (fun H3 => D.nx σ H3)) : sFld K ta tv f D σ H := k
theorem setF_m {R : Hp → Prop} (hh : Hold G mu H) (i : Nat) (e : mu[i]? = some (p, .ins C dx fs)) (c : Cls K C) (n : NoAttr K C f) (l : fs.length < 1000)
    (k : ∀ H', Hold G (mu.set i (p, .ins C dx (putF f v fs))) H' → R H') : rSetF K f v (.ref p) H R := ⟨p, C, dx, fs, rfl, hh.get e, c, n, l, k _ (hh.set e)⟩
/-- displays: a new object -/
def rLst (xs : List V) (H1 : Hp) (Q : VK) : Prop := xs.length ≤ sizeLine ∧ ∀ p, H1 p = none → Q (.ref p) (upd H1 p (.lst xs))
def rTup (xs : List V) (H1 : Hp) (Q : VK) : Prop := xs.length ≤ sizeLine ∧ ∀ p, H1 p = none → Q (.ref p) (upd H1 p (.tup xs))
theorem r_tup (k : tr σ H fun xs H1 => rTup xs H1 Q) : tTup tr σ H Q := k
theorem r_lst (k : tr σ H fun xs H1 => rLst xs H1 Q) : tLst tr σ H Q := k
theorem tup_G (hP : xs.length ≤ sizeLine) (hh : Hold G mu H) (k : ∀ p G' H', Ex G G' → G' p = some (.tup xs) → Hold G' mu H' → Q (.ref p) H') : rTup xs H Q :=
  ⟨hP, fun p hp => k p _ _ (Ex.new (hh.g_none hp)) upd_same (hh.new hp)⟩
theorem lst_G (hP : xs.length ≤ sizeLine) (hh : Hold G mu H) (k : ∀ p G' H', Ex G G' → G' p = some (.lst xs) → Hold G' mu H' → Q (.ref p) H') : rLst xs H Q :=
  ⟨hP, fun p hp => k p _ _ (Ex.new (hh.g_none hp)) upd_same (hh.new hp)⟩
theorem lst_m (hP : xs.length ≤ sizeLine) (hh : Hold G mu H) (k : ∀ p H', Hold G ((p, .lst xs) :: mu) H' → Q (.ref p) H') : rLst xs H Q :=
  ⟨hP, fun p hp => k p _ (hh.newm hp)⟩
theorem lst_x (hP : xs.length ≤ sizeLine) (hh : Hold G mu H) (k : ∀ p H', H' p = some (.lst xs) → Hold G mu H' → Q (.ref p) H') : rLst xs H Q :=
  ⟨hP, fun p hp => k p _ upd_same (hh.newg hp)⟩
theorem new1_G (hh : Hold G mu H) (k : ∀ p G' H', Ex G G' → G' p = some o → Hold G' mu H' → Q (.ref p) H') : ∀ p, H p = none → Q (.ref p) (upd H p o) :=
  fun p hp => k p _ _ (Ex.new (hh.g_none hp)) upd_same (hh.new hp)
end
/-! ## 4. Calls by positional promises -/
def NoE (CX : CXT) : Prop := ∀ X : Cx, Passes CX X E0
structure CalR (P : Program) (w : World) (K : PySem.W.Frag) (mg : Str → Option Value) (base : Heap) (CX : CXT) (k : Nat) (x : Str) (sp : Sp) : Prop where
  ex : ∃ f, FnR P w K mg base CX k f sp ∧ mg x = some (.ref f) ∧ PySem.W.keepIn K (.ref f) = true
structure MetR (P : Program) (w : World) (K : PySem.W.Frag) (mg : Str → Option Value) (base : Heap) (CX : CXT) (k : Nat) (C : Addr) (m : Str) (sp : Sp) : Prop where
  ex : ∃ f, FnR P w K mg base CX k f sp ∧ Cls K C ∧ Meth K C m f
structure MakR (P : Program) (w : World) (K : PySem.W.Frag) (mg : Str → Option Value) (base : Heap) (CX : CXT) (k : Nat) (x : Str) (C : Addr) (sp : Sp) : Prop where
  ex : ∃ f, FnR P w K mg base CX k f sp ∧ Mk K C f ∧ mg x = some (.ref C)
structure PrpR (P : Program) (w : World) (K : PySem.W.Frag) (mg : Str → Option Value) (base : Heap) (CX : CXT) (k : Nat) (C : Addr) (f : Str) (sp : Sp) : Prop where
  ex : ∃ (p g : Addr) (fd : FuncData) (ps : List Str), FnOk P w K mg base CX k g fd ps sp ∧ Cls K C ∧ PropOf K C f p g ∧ Binds K fd ps []
def tCal (sp : Sp) (E : XK) (t : TA) : TE := fun σ H Q => t σ H fun vs H1 => sp vs H1 Q E
def rMtd (C : Addr) (m : Str) (sp : Sp) (E : XK) (t : TA) (σ : L2.St) : V → Hp → VK → Prop := fun x H1 Q => ∃ a dx fs, x = .ref a ∧ H1 a = some (.ins C dx fs) ∧ fs.lookup m = none ∧ t σ H1 fun vs H2 => sp (x :: vs) H2 Q E
def tMtd (C : Addr) (m : Str) (sp : Sp) (E : XK) (ta : TE) (t : TA) : TE := fun σ H Q => ta σ H fun x H1 => rMtd C m sp E t σ x H1 Q
def tMak (C : Addr) (sp : Sp) (E : XK) (t : TA) : TE := fun σ H Q => t σ H fun vs H1 => ∀ x dx, H1 x = none → H1 dx = none → dx ≠ x → sp (V.ref x :: vs) (upd (upd H1 dx (.own x)) x (.ins C dx [])) (fun v H2 => v = .non ∧ Q (.ref x) H2) E
def rPrp (C : Addr) (sp : Sp) (E : XK) : V → Hp → VK → Prop := fun x H1 Q => ∃ a dx fs, x = .ref a ∧ H1 a = some (.ins C dx fs) ∧ sp [.ref a] H1 Q E
def tPrp (C : Addr) (sp : Sp) (E : XK) (ta : TE) : TE := fun σ H Q => ta σ H fun x H1 => rPrp C sp E x H1 Q
section
variable {X : Cx} {CX : CXT} {k j : Nat} {C : Addr} {sp : Sp} {E : XK} {x m f : Str} {p pos apos : Pos} {e o : Expr} {es : List Expr} {ta : TE} {t : TA}
theorem pe_cR (c : CalR X.prog X.w X.K X.mg X.base CX k x sp) (hr : Room j X.A) (hk : k ≤ j) (hx : Passes CX X E) (hg : Gl X x) (ha : PA X (e :: es) t)
    (hd : (x == ("__debug__" : Str)) = false := by decide) (he : starEach (e :: es) X.env = (false, eval e X.env) :: starEach es X.env := by rfl) (hpl : (backTo pos (starEach es X.env)).any (·.1) = false := by rfl) :
    PE X (.Call (.Name x p) (e :: es) [] pos) (tCal sp E t) := by
  obtain ⟨f, F, hm, kp⟩ := c.ex
  refine ⟨fun pins s σ H Q I h => ?_⟩
  refine wpAny_Call_Name_kw (ld_glob I hg hm ?_ hd)
  refine PySem.W.callWith_K (h₀ := X.base) I.ok.mod.kin kp (thn (ha.run pos pins s σ H _ I h) fun us s1 ⟨vs, H1, I1, r, q⟩ => ⟨I1.kIn, ?_⟩) he hpl
  exact wpAny_call (run_fnR F (hr.mono hk) hx I1 r q)
theorem pe_mtR {pl : Sem Bool} (c : MetR X.prog X.w X.K X.mg X.base CX k C m sp) (hr : Room j X.A) (hk : k ≤ j) (hx : Passes CX X E) (he : PE X o ta) (ha : PA X (e :: es) t)
    (hst : starEach (e :: es) X.env = (false, eval e X.env) :: starEach es X.env := by rfl) (hpl : (backTo pos (starEach es X.env)).any (·.1) = false := by rfl)
    (ht : eval (.Call (.Attribute o m apos) (e :: es) [] pos) X.env = (do
      let ov ← eval o X.env
      standAt apos.atName
      let (f, first) ← holding [ov] (getMethod ov m pl)
      callWith pos f first (backTo pos (starEach (e :: es) X.env)) (backToKw pos (keywordEach [] X.env))) := by rfl) :
    PE X (.Call (.Attribute o m apos) (e :: es) [] pos) (tMtd C m sp E ta t) := by
  obtain ⟨f, F, hc, hm⟩ := c.ex
  exact pe_methR (pl := pl) he hc hm F (hr.mono hk) hx ha hst hpl ht
theorem pe_mt0R {pl : Sem Bool} (c : MetR X.prog X.w X.K X.mg X.base CX k C m sp) (hr : Room j X.A) (hk : k ≤ j) (hx : Passes CX X E) (he : PE X o ta)
    (ht : eval (.Call (.Attribute o m apos) [] [] pos) X.env = (do
      let ov ← eval o X.env
      standAt apos.atName
      let (f, first) ← holding [ov] (getMethod ov m pl)
      callWith pos f first (backTo pos (starEach [] X.env)) (backToKw pos (keywordEach [] X.env))) := by rfl) :
    PE X (.Call (.Attribute o m apos) [] [] pos) (tMtd C m sp E ta tNil) := by
  obtain ⟨f, F, hc, hm⟩ := c.ex
  refine ⟨fun pins s σ H Q I h => ?_⟩
  refine PySem.W.methodCall_KW (pl := pl) (thn (he.run pins s σ H _ I h) fun u s1 ⟨x, H1, I1, rx, a, dx, fs, ex, ea, l, q⟩ => ?_) ht
  subst ex
  obtain rfl : u = Value.ref a := rx
  refine getmeth_ok I1 ea hc hm l ?_
  exact PySem.W.callWith_K0 (first := [.ref a]) I1.kIn hm.kp (wpAny_call (run_fnR (us := [.ref a]) (vs := [.ref a]) F (hr.mono hk) hx I1 (.cons rfl .nil) q))
theorem pe_mkR (c : MakR X.prog X.w X.K X.mg X.base CX k x C sp) (hr : Room j X.A) (hk : k + 1 ≤ j) (hx : Passes CX X E) (hg : Gl X x) (ha : PA X (e :: es) t) (hdb : (x == ("__debug__" : Str)) = false := by decide)
    (he : starEach (e :: es) X.env = (false, eval e X.env) :: starEach es X.env := by rfl) (hpl : (backTo pos (starEach es X.env)).any (·.1) = false := by rfl) : PE X (.Call (.Name x p) (e :: es) [] pos) (tMak C sp E t) := by
  obtain ⟨f, F, M, hm⟩ := c.ex
  exact pe_makeR M F (hr.mono hk) hg hm hx ha hdb he hpl
/-- C(*y) -/
def tMakS (K : PySem.W.Frag) (C : Addr) (sp : Sp) (E : XK) (te : TE) : TE := fun σ H Q => te σ H fun y H1 => ∃ a xs, y = V.ref a ∧ (SqT K H1 a xs ∨ SqL K H1 a xs) ∧ ∀ x dx, H1 x = none → H1 dx = none → dx ≠ x → sp (V.ref x :: xs) (upd (upd H1 dx (.own x)) x (.ins C dx [])) (fun v H2 => v = .non ∧ Q (.ref x) H2) E
theorem pe_prR (c : PrpR X.prog X.w X.K X.mg X.base CX k C f sp) (hr : Room j X.A) (hk : k + 1 ≤ j) (hx : Passes CX X.nox E) (he : PE X e ta) (hab : attributeBase e f X.env (eval e X.env) = eval e X.env := by rfl) :
    PE X (.Attribute e f pos) (tPrp C sp E ta) := by
  obtain ⟨p, g, fd, ps, F, hc, hp, hb⟩ := c.ex
  exact pe_prop he hc hp F (hr.mono hk) hb .nil hx hab
end
section
variable {P : Program} {w : World} {K : PySem.W.Frag} {mg : Str → Option Value} {base : Heap} {CX : CXT}
theorem FnOk.R {f : Addr} {fd : FuncData} {ps : List Str} {k : Nat} {sp : Sp} (F : FnOk P w K mg base CX k f fd ps sp) (b : Binds K fd ps []) : FnR P w K mg base CX k f sp := by
  have h := F.raw b .nil
  exact h.imp fun vs H Q E q => by rw [List.append_nil]; exact q
end
section
variable {K : PySem.W.Frag} {G H : Hp} {mu : Mu} {σ : L2.St} {Q : VK} {C p : Addr} {m : Str} {ta te : TE} {tr : TA} {E : XK} {sp : Sp} {vs xs : List V}
theorem r_call (k : tr σ H fun vs H1 => sp vs H1 Q E) : tCal sp E tr σ H Q := k
theorem r_mtd (k : ta σ H fun x H1 => rMtd C m sp E tr σ x H1 Q) : tMtd C m sp E ta tr σ H Q := k
theorem r_prp (k : ta σ H fun x H1 => rPrp C sp E x H1 Q) : tPrp C sp E ta σ H Q := k
def rMak (C : Addr) (sp : Sp) (E : XK) (vs : List V) (H1 : Hp) (Q : VK) : Prop := ∀ x dx, H1 x = none → H1 dx = none → dx ≠ x → sp (V.ref x :: vs) (upd (upd H1 dx (.own x)) x (.ins C dx [])) (fun v H2 => v = .non ∧ Q (.ref x) H2) E
theorem r_mak (k : tr σ H fun vs H1 => rMak C sp E vs H1 Q) : tMak C sp E tr σ H Q := k
/-- the new instance is held apart -/
theorem make_m (hh : Hold G mu H) (k : ∀ x dx H', Hold G ((x, .ins C dx []) :: mu) H' → sp (.ref x :: vs) H' (fun v H2 => v = .non ∧ Q (.ref x) H2) E) : rMak C sp E vs H Q := fun x dx hx hd hne => by
  refine k x dx _ ((hh.newg (o := .own x) hd).newm ?_)
  rw [upd_ne (Ne.symm hne)]
  exact hx
end
end Wm
/-! ## 5. Names for the readings of built-ins; more rules -/
namespace Wm
open PySem PySem.Spec PyProof.Rows L2 StX
/-- the classes' addresses -/
structure Ads where
  P : Program
  w : World
  cWeather : Addr := 0
  cHeater : Addr := 0
  cRoom : Addr := 0
  cRun : Addr := 0
  cHistory : Addr := 0
  cThresholdObserver : Addr := 0
  cSetting : Addr := 0
  cHourSetting : Addr := 0
  cRestSetting : Addr := 0
  cPrices : Addr := 0
  cMoment : Addr := 0
  cLiveRoom : Addr := 0
  cAttempt : Addr := 0
  cWarmthError : Addr := 0
  cInvalidWeather : Addr := 0
  cInvalidHeater : Addr := 0
  cInvalidNumber : Addr := 0
  cOtherWeather : Addr := 0
  cContradiction : Addr := 0
  cInvalidSetting : Addr := 0
  cInvalidPrices : Addr := 0
  cInvalidOperation : Addr := 0
  cInvalidReport : Addr := 0
  /-- the table of the law's own code objects -/
  tLaw : Addr := 0
/-- the built-in names stand -/
structure Blt (mg : Str → Option Value) : Prop where
  n_len : mg "len" = none
  n_int : mg "int" = none
  n_min : mg "min" = none
  n_max : mg "max" = none
  n_sum : mg "sum" = none
  n_range : mg "range" = none
  n_enumerate : mg "enumerate" = none
  n_isinstance : mg "isinstance" = none
  n_list : mg "list" = none
  n_tuple : mg "tuple" = none
  n_sorted : mg "sorted" = none
  n_abs : mg "abs" = none
  n_str : mg "str" = none
  n_dict : mg "dict" = none
  n_bool : mg "bool" = none
  n_ValueError : mg "ValueError" = none
abbrev rLen (K : PySem.W.Frag) : List V → Hp → VK → Prop := fun xs H Q => ∃ x n, xs = [x] ∧ LenV K x H n ∧ Q (.int n) H
abbrev rMin2 : List V → Hp → VK → Prop := fun xs H Q => ∃ i j, xs = [.int i, .int j] ∧ Q (.int (if j < i then j else i)) H
abbrev rMax2 : List V → Hp → VK → Prop := fun xs H Q => ∃ i j, xs = [.int i, .int j] ∧ Q (.int (if j > i then j else i)) H
abbrev rInt : List V → Hp → VK → Prop := fun xs H Q => (∃ i, xs = [.int i] ∧ Q (.int i) H) ∨ ∃ k, xs = [.bl k] ∧ Q (.int (if k then 1 else 0)) H
abbrev rAbs : List V → Hp → VK → Prop := fun xs H Q => ∃ i, xs = [.int i] ∧ Q (.int (if i < 0 then -i else i)) H
abbrev rListOf (K : PySem.W.Frag) : List V → Hp → VK → Prop := fun xs H Q => ∃ p ys, xs = [.ref p] ∧ (SqL K H p ys ∨ SqT K H p ys) ∧ ∀ l, H l = none → Q (.ref l) (upd H l (.lst ys))
abbrev rTupOf (K : PySem.W.Frag) : List V → Hp → VK → Prop := fun xs H Q => ∃ p ys, xs = [.ref p] ∧ ((SqL K H p ys ∧ ∀ l, H l = none → Q (.ref l) (upd H l (.tup ys))) ∨ (SqT K H p ys ∧ Q (.ref p) H))
abbrev rCatS : R2 := fun x y H Q => ∃ i j, x = .str i ∧ y = .str j ∧ i.length + j.length ≤ sizeLine ∧ Q (.str (i ++ j)) H
section
variable {G G' H H' : Hp} {mu : Mu} {a p : Addr} {o : HO} {x y q : Addr × HO}
theorem Hold.perm {mu' : Mu} (h : Hold G mu H) (e : mu.Perm mu') : Hold G mu' H :=
  ⟨h.ex, fun z hz => h.at_ z (e.mem_iff.mpr hz), fun z hz => h.out z (e.mem_iff.mpr hz), (e.map _).nodup_iff.mp h.nd⟩
theorem perm_in2 {α : Type} {x y q : α} {l : List α} : (q :: x :: y :: l).Perm (x :: y :: q :: l) := ((List.Perm.swap x q _).trans (List.Perm.cons x (List.Perm.swap y q l)))
theorem Hold.newm2 (h : Hold G (x :: y :: mu) H) (e : H p = none) : Hold G (x :: y :: (p, o) :: mu) (upd H p o) := (h.newm e).perm perm_in2
theorem Hold.drop2 (h : Hold G (x :: y :: q :: mu) H) : Hold G (x :: y :: mu) H := (h.perm perm_in2.symm).drop
end
section
variable {K : PySem.W.Frag} {G H : Hp} {mu : Mu} {σ : L2.St} {Q : VK} {D : Ends} {p l : Addr} {xs ys vs : List V} {v w : V} {i j : Int} {n : Nat} {o : HO} {ta tb te : TE} {tr : TA} {x y : Addr × HO} {r : List V → Hp → VK → Prop}
theorem r_nx {u : L2.St → Hp → Prop} {rt : VK} {bk ct : L2.St → Hp → Prop} (k : u σ H) : Ends.nx ⟨u, rt, bk, ct⟩ σ H := k
theorem r_rt {u : L2.St → Hp → Prop} {rt : VK} {bk ct : L2.St → Hp → Prop} (k : rt v H) : Ends.rt ⟨u, rt, bk, ct⟩ v H := k
theorem r_cb (k : tr σ H fun vs H1 => r vs H1 Q) : tCB r tr σ H Q := k
theorem rix_h (e : H p = some (.lst xs)) (ha : atI xs i = some v) (k : Q v H) : rIx K (.ref p) (.int i) H Q := .inl ⟨p, xs, i, v, rfl, rfl, SqL.of e, ha, k⟩
theorem len_l (hh : Hold G mu H) (e : SqL K G p xs) (k : Q (.int (xs.length : Nat)) H) : rLen K [.ref p] H Q := ⟨.ref p, xs.length, rfl, .inl ⟨xs, hh.lst e, rfl⟩, k⟩
theorem int_i (k : Q (.int i) H) : rInt [.int i] H Q := .inl ⟨i, rfl, k⟩
theorem int_b {b : Bool} (k : Q (.int (if b then 1 else 0)) H) : rInt [.bl b] H Q := .inr ⟨b, rfl, k⟩
theorem min2 (k : Q (.int (if j < i then j else i)) H) : rMin2 [.int i, .int j] H Q := ⟨i, j, rfl, k⟩
theorem max2 (k : Q (.int (if j > i then j else i)) H) : rMax2 [.int i, .int j] H Q := ⟨i, j, rfl, k⟩
theorem abs1 (k : Q (.int (if i < 0 then -i else i)) H) : rAbs [.int i] H Q := ⟨i, rfl, k⟩
/-- xs + ys, a new list that is dropped behind: it stands in the ghost heap -/
theorem cat_x (hh : Hold G mu H) (h1 : H p = some (.lst xs)) (h2 : H l = some (.lst ys)) (hz : xs.length + ys.length ≤ sizeLine) (k : ∀ q H', H' q = some (.lst (xs ++ ys)) → Hold G mu H' → Q (.ref q) H') : rCat (.ref p) (.ref l) H Q :=
  ⟨p, l, xs, ys, rfl, rfl, h1, h2, hz, fun q hq => k q _ upd_same (hh.newg hq)⟩
theorem cat_G (hh : Hold G mu H) (h1 : H p = some (.lst xs)) (h2 : H l = some (.lst ys)) (hz : xs.length + ys.length ≤ sizeLine) (k : ∀ q G' H', Ex G G' → G' q = some (.lst (xs ++ ys)) → Hold G' mu H' → Q (.ref q) H') : rCat (.ref p) (.ref l) H Q :=
  ⟨p, l, xs, ys, rfl, rfl, h1, h2, hz, fun q hq => k q _ _ (Ex.new (hh.g_none hq)) upd_same (hh.new hq)⟩
theorem app_m (hh : Hold G mu H) (n : Nat) (e : mu[n]? = some (l, .lst xs)) (hz : xs.length < sizeLine) (k : ∀ H', Hold G (mu.set n (l, .lst (xs ++ [v]))) H' → Q .non H') : rAppend (.ref l) [v] H Q :=
  ⟨l, xs, v, rfl, rfl, hh.get e, hz, k _ (hh.set e)⟩
theorem r_app {T : String} (k : ta σ H fun x H1 => tyV K T x H1 ∧ tr σ H1 fun vs H2 => rAppend x vs H2 Q) : tBM K T rAppend ta tr σ H Q := k
/-- xs[i] = v -/
theorem r_sub {ti : TE} {ts : TSet} {R : L2.St → Hp → Prop} (k : ta σ H fun o H1 => ti σ H1 fun z H2 => ts o z v H2 fun H3 => R σ H3) : gSub ta ti ts v σ H R := k
theorem setL_m {R : Hp → Prop} {j : Nat} (hh : Hold G mu H) (n : Nat) (e : mu[n]? = some (l, .lst xs)) (hj : ixN xs.length i = some j) (k : ∀ H', Hold G (mu.set n (l, .lst (xs.set j v))) H' → R H') : rSetL (.ref l) (.int i) v H R :=
  ⟨l, xs, i, j, rfl, rfl, hh.get e, hj, k _ (hh.set e)⟩
theorem r_gcons {t : TG} {u : TGs} {R : L2.St → Hp → Prop} (k : t v σ H fun σ' H' => u vs σ' H' R) : gCons t u (v :: vs) σ H R := ⟨v, vs, rfl, k⟩
theorem r_gnil {R : L2.St → Hp → Prop} (k : R σ H) : gNil [] σ H R := ⟨rfl, k⟩
theorem r_sl {rr : V → Option Int → Option Int → Hp → VK → Prop} {tl th : TO} (k : te σ H fun x H1 => tl σ H1 fun l H2 => th σ H2 fun u H3 => rr x l u H3 Q) : tSl rr te tl th σ H Q := k
theorem r_nopart {QO : Option Int → Hp → Prop} (k : QO none H) : tNoPart σ H QO := k
theorem r_part {QO : Option Int → Hp → Prop} (k : te σ H fun x H1 => ∃ i, x = .int i ∧ QO (some i) H1) : tPart te σ H QO := k
theorem r_xi {P : Int → Prop} (k : P i) : ∃ j, V.int i = .int j ∧ P j := ⟨i, rfl, k⟩
end
theorem atI_of {α : Type} {xs : List α} {i : Int} {v : α} (h0 : 0 ≤ i) (h : xs[i.toNat]? = some v) : atI xs i = some v := by
  have hl := (List.getElem?_eq_some_iff.mp h).1
  unfold atI ixN
  rw [if_pos h0, if_pos (by omega)]
  exact h
theorem ixN_of {n : Nat} {i : Int} (h0 : 0 ≤ i) (h : i < n) : ixN n i = some i.toNat := by
  unfold ixN
  rw [if_pos h0, if_pos h]
theorem sz {n : Nat} (h : n ≤ 1000000) : n ≤ sizeLine := Nat.le_trans h (by decide)
theorem szl {n : Nat} (h : n < 1000000) : n < sizeLine := Nat.lt_of_lt_of_le h (by decide)
theorem cmulL {i j : Int} (h : -(2 ^ 64) < i ∧ i < 2 ^ 64) : CMul i j := .inl h
theorem cmulR {i j : Int} (h : -(2 ^ 64) < j ∧ j < 2 ^ 64) : CMul i j := .inr h
end Wm
namespace Wm
open PySem PySem.Spec PyProof.Rows L2 StX
theorem cdiv {i j : Int} (h0 : 0 < j) (h1 : j < 2 ^ 64) : CDivW i j := ⟨h0, by have := PySem.Flt.log2_lt_of (k := 64) (by decide) (show j.natAbs < 2 ^ 64 by omega); omega⟩
theorem cpow18 : CPow 10 18 := ⟨by decide, by decide, by decide⟩
/-- an item of a list of ints -/
theorem ints_at {ns : List Int} {i : Nat} {z : Int} (h : ns[i]? = some z) : (ns.map V.int)[i]? = some (V.int z) := by rw [List.getElem?_map, h] <;> rfl
theorem ints_of {ns : List Int} {i : Nat} {y : V} (h : (ns.map V.int)[i]? = some y) : ∃ z, ns[i]? = some z ∧ y = V.int z := by
  rw [List.getElem?_map] at h
  cases e : ns[i]? with
  | none => rw [e] at h; cases h
  | some z => rw [e] at h; exact ⟨z, rfl, (Option.some.inj h).symm⟩
theorem get_some {α : Type} {l : List α} {i : Nat} (h : i < l.length) : ∃ z, l[i]? = some z := ⟨_, List.getElem?_eq_getElem h⟩
end Wm
/-! ## 6. The classes -/
namespace Wm
open PySem PySem.Spec PyProof.Rows L2 StX
/-- what the class Weather must have as the top has made it -/
structure WeatherC (K : PySem.W.Frag) (C : Addr) : Prop where
  cl : Cls K C
  n_pattern : NoAttr K C "pattern"
/-- what the class Heater must have as the top has made it -/
structure HeaterC (K : PySem.W.Frag) (C : Addr) : Prop where
  cl : Cls K C
  n_power : NoAttr K C "power"
  n_below : NoAttr K C "below"
  n_above : NoAttr K C "above"
/-- what the class Room must have as the top has made it -/
structure RoomC (K : PySem.W.Frag) (C : Addr) : Prop where
  cl : Cls K C
  n_outside : NoAttr K C "outside"
  n_inside : NoAttr K C "inside"
  n_begin_degrees : NoAttr K C "begin_degrees"
  n_past : NoAttr K C "past"
  n_repeated : NoAttr K C "repeated"
  n_share : NoAttr K C "share"
  n_coldest : NoAttr K C "coldest"
  n_warmest : NoAttr K C "warmest"
/-- what the class Run must have as the top has made it -/
structure RunC (K : PySem.W.Frag) (C : Addr) : Prop where
  cl : Cls K C
  n_begin : NoAttr K C "begin"
  n_end : NoAttr K C "end"
  n_degrees : NoAttr K C "degrees"
  n_is_heating : NoAttr K C "is_heating"
  n_sums : NoAttr K C "sums"
  n_size : NoAttr K C "size"
  n_drift : NoAttr K C "drift"
/-- what the class History must have as the top has made it -/
structure HistoryC (K : PySem.W.Frag) (C : Addr) : Prop where
  cl : Cls K C
  n_shifts : NoAttr K C "shifts"
  n_added : NoAttr K C "added"
  n_floor : NoAttr K C "floor"
  n_ceiling : NoAttr K C "ceiling"
  n_was_heating : NoAttr K C "was_heating"
  n_runs : NoAttr K C "runs"
  n_loop : NoAttr K C "loop"
/-- what the class ThresholdObserver must have as the top has made it -/
structure ThresholdObserverC (K : PySem.W.Frag) (C : Addr) : Prop where
  cl : Cls K C
  n_outside : NoAttr K C "outside"
  n_power : NoAttr K C "power"
  n_tick : NoAttr K C "tick"
  n_degrees : NoAttr K C "degrees"
  n_is_heating : NoAttr K C "is_heating"
  n_lows : NoAttr K C "lows"
  n_highs : NoAttr K C "highs"
  n_noted : NoAttr K C "noted"
/-- what the class Setting must have as the top has made it -/
structure SettingC (K : PySem.W.Frag) (C : Addr) : Prop where
  cl : Cls K C
  n_least : NoAttr K C "least"
  n_most : NoAttr K C "most"
/-- what the class HourSetting must have as the top has made it -/
structure HourSettingC (K : PySem.W.Frag) (C : Addr) : Prop where
  cl : Cls K C
  n_least : NoAttr K C "least"
  n_most : NoAttr K C "most"
  n_length : NoAttr K C "length"
  n_hours : NoAttr K C "hours"
/-- what the class RestSetting must have as the top has made it -/
structure RestSettingC (K : PySem.W.Frag) (C : Addr) : Prop where
  cl : Cls K C
  n_least : NoAttr K C "least"
  n_most : NoAttr K C "most"
  n_rest : NoAttr K C "rest"
/-- what the class Prices must have as the top has made it -/
structure PricesC (K : PySem.W.Frag) (C : Addr) : Prop where
  cl : Cls K C
  n_table : NoAttr K C "table"
/-- what the class Moment must have as the top has made it -/
structure MomentC (K : PySem.W.Frag) (C : Addr) : Prop where
  cl : Cls K C
  n_tick : NoAttr K C "tick"
  n_heat : NoAttr K C "heat"
  n_on : NoAttr K C "on"
  n_burnt : NoAttr K C "burnt"
  n_sky : NoAttr K C "sky"
  n_stove : NoAttr K C "stove"
/-- what the class LiveRoom must have as the top has made it -/
structure LiveRoomC (K : PySem.W.Frag) (C : Addr) : Prop where
  cl : Cls K C
  n_moment : NoAttr K C "moment"
  n_earlier : NoAttr K C "earlier"
  n_done : NoAttr K C "done"
/-- what the class Attempt must have as the top has made it -/
structure AttemptC (K : PySem.W.Frag) (C : Addr) : Prop where
  cl : Cls K C
  n_live : NoAttr K C "live"
  n_kept : NoAttr K C "kept"
  n_stack : NoAttr K C "stack"
  n_steps : NoAttr K C "steps"
theorem fld_h {K : PySem.W.Frag} {H : Hp} {Q : VK} {C dx p : Addr} {fs : List (Str × V)} {f : Str} {v : V} (e : H p = some (.ins C dx fs)) (c : Cls K C) (n : NoAttr K C f) (l : fs.lookup f = some v) (k : Q v H) : rFld K f (.ref p) H Q := ⟨p, C, dx, fs, v, rfl, e, c, n, l, k⟩
theorem mtd_h {H : Hp} {Q : VK} {C dx p : Addr} {fs : List (Str × V)} {m : Str} {sp : Sp} {E : XK} {t : TA} {σ : L2.St} (e : H p = some (.ins C dx fs)) (l : fs.lookup m = none) (k : t σ H fun vs H2 => sp (.ref p :: vs) H2 Q E) : rMtd C m sp E t σ (.ref p) H Q := ⟨p, dx, fs, rfl, e, l, k⟩
theorem prp_h {H : Hp} {Q : VK} {C dx p : Addr} {fs : List (Str × V)} {sp : Sp} {E : XK} (e : H p = some (.ins C dx fs)) (k : sp [.ref p] H Q E) : rPrp C sp E (.ref p) H Q := ⟨p, dx, fs, rfl, e, k⟩
theorem len_h {K : PySem.W.Frag} {H : Hp} {Q : VK} {p : Addr} {xs : List V} (e : H p = some (.lst xs)) (k : Q (.int (xs.length : Nat)) H) : rLen K [.ref p] H Q := ⟨.ref p, xs.length, rfl, .inl ⟨xs, SqL.of e, rfl⟩, k⟩
theorem len_ht {K : PySem.W.Frag} {H : Hp} {Q : VK} {p : Addr} {xs : List V} (e : H p = some (.tup xs)) (k : Q (.int (xs.length : Nat)) H) : rLen K [.ref p] H Q := ⟨.ref p, xs.length, rfl, .inr ⟨xs, SqT.of e, rfl⟩, k⟩
theorem rix_ht {K : PySem.W.Frag} {H : Hp} {Q : VK} {p : Addr} {xs : List V} {i : Int} {v : V} (e : H p = some (.tup xs)) (ha : atI xs i = some v) (k : Q v H) : rIx K (.ref p) (.int i) H Q := .inr (.inl ⟨p, xs, i, v, rfl, rfl, SqT.of e, ha, k⟩)
theorem gtup_h {K : PySem.W.Frag} {H : Hp} {σ : L2.St} {p : Addr} {xs : List V} {m : Nat} {ts : TGs} {R : L2.St → Hp → Prop} (e : H p = some (.tup xs)) (hl : xs.length = m) (k : ts xs σ H R) : gTup K m ts (.ref p) σ H R := ⟨p, xs, rfl, SqT.of e, hl, k⟩
end Wm
/-! ## 7. Loops -/
namespace Wm
open PySem PySem.Spec PyProof.Rows L2 StX
def TurnsW (J : It) (g : TG) (tb : TS) (D : Ends) (σ : L2.St) (H1 : Hp) : Prop := ∃ W : Nat → Nat → L2.St → Hp → Prop, (∃ m, W 0 m σ H1) ∧ ∀ i m σ H, W i m σ H →
  (J.stop i H ∧ D.nx σ H) ∨ (J.go i H ∧ ∃ N : L2.St → Hp → Prop, (∀ σ' H', N σ' H' → ∃ m', m' < m ∧ W (i + 1) m' σ' H') ∧ ∀ x H', J.yld i H x H' → g x σ H' fun σ2 H2 => tb { D with nx := N, ct := N, bk := D.nx } σ2 H2)
def ForL (K : PySem.W.Frag) (g : TG) (tb : TS) (D : Ends) (σ : L2.St) (x : V) (H1 : Hp) : Prop := ∃ a, x = .ref a ∧ (∃ xs, SqL K H1 a xs) ∧ TurnsW (Itl K a) g tb D σ H1
def ForT (K : PySem.W.Frag) (g : TG) (tb : TS) (D : Ends) (σ : L2.St) (x : V) (H1 : Hp) : Prop := ∃ a, x = .ref a ∧ (∃ xs, SqT K H1 a xs) ∧ TurnsW (Itt K a) g tb D σ H1
def ForR1 (g : TG) (tb : TS) (D : Ends) (σ : L2.St) (vs : List V) (H1 : Hp) : Prop := ∃ j : Int, vs = [.int j] ∧ -(2 ^ 62) ≤ j ∧ j < 2 ^ 62 ∧ TurnsW (Itr 0 j.toNat) g tb D σ H1
def ForR2 (g : TG) (tb : TS) (D : Ends) (σ : L2.St) (vs : List V) (H1 : Hp) : Prop := ∃ i j : Int, vs = [.int i, .int j] ∧ (-(2 ^ 62) ≤ i ∧ i < 2 ^ 62 ∧ -(2 ^ 62) ≤ j ∧ j < 2 ^ 62) ∧ TurnsW (Itr i (j - i).toNat) g tb D σ H1
section
variable {K : PySem.W.Frag} {G H : Hp} {mu : Mu} {σ : L2.St} {D : Ends} {a : Addr} {xs : List V} {tl : TE} {tr : TA} {g : TG} {tb : TS} {c : TT} {i : Nat}
theorem r_forL (k : tl σ H fun x H1 => ForL K g tb D σ x H1) : tFor (iList K tl) g tb D σ H := k
theorem r_forT (k : tl σ H fun x H1 => ForT K g tb D σ x H1) : tFor (iTup K tl) g tb D σ H := k
theorem r_forR1 (k : tr σ H fun vs H1 => ForR1 g tb D σ vs H1) : tFor (iRng1 tr) g tb D σ H := k
/-- over a list: the target is a name -/
theorem forL_by (e : SqL K H a xs) (Pv : Nat → L2.St → Hp → Prop) (h0 : Pv 0 σ H) (hl : ∀ i σ H, i ≤ xs.length → Pv i σ H → SqL K H a xs)
    (hs : ∀ i x σ H, xs[i]? = some x → Pv i σ H → g x σ H fun σ2 H2 => tb { D with nx := Pv (i + 1), ct := Pv (i + 1), bk := D.nx } σ2 H2) (hd : ∀ σ H, Pv xs.length σ H → D.nx σ H) : ForL K g tb D σ (.ref a) H :=
  ⟨a, rfl, ⟨xs, e⟩, for_list Pv h0 hl hs hd⟩
theorem forT_by (e : SqT K H a xs) (Pv : Nat → L2.St → Hp → Prop) (h0 : Pv 0 σ H) (hl : ∀ i σ H, i ≤ xs.length → Pv i σ H → SqT K H a xs)
    (hs : ∀ i x σ H, xs[i]? = some x → Pv i σ H → g x σ H fun σ2 H2 => tb { D with nx := Pv (i + 1), ct := Pv (i + 1), bk := D.nx } σ2 H2) (hd : ∀ σ H, Pv xs.length σ H → D.nx σ H) : ForT K g tb D σ (.ref a) H :=
  ⟨a, rfl, ⟨xs, e⟩, for_tup Pv h0 hl hs hd⟩
theorem forR1_by {n : Int} (hb : n < 2 ^ 62) (hb' : -(2 ^ 62) ≤ n) (Pv : Nat → L2.St → Hp → Prop) (h0 : Pv 0 σ H)
    (hs : ∀ (i : Nat) σ H, (i : Int) < n → Pv i σ H → g (.int (i : Int)) σ H fun σ2 H2 => tb { D with nx := Pv (i + 1), ct := Pv (i + 1), bk := D.nx } σ2 H2) (hd : ∀ σ H, Pv n.toNat σ H → D.nx σ H) : ForR1 g tb D σ [.int n] H :=
  ⟨n, rfl, hb', hb, for_range Pv h0 (fun i σ H hi p => by rw [Int.zero_add]; exact hs i σ H (by omega) p) hd⟩
/-- comprehensions -/
def LcW (J : It) (g : TG) (tt : TT) (te : TE) (vs : List Nat) (σ : L2.St) (H1 : Hp) (Q : VK) : Prop := ∀ D, H1 D = none → ∃ W : Nat → Nat → Hp → Prop, (∃ m, W 0 m (upd H1 D (.lst []))) ∧ ∀ i m H, W i m H →
  (J.stop i H ∧ Q (.ref D) H) ∨ (J.go i H ∧ ∃ Nx : Hp → Prop, (∀ H', Nx H' → ∃ m', m' < m ∧ W (i + 1) m' H') ∧ ∀ x H', J.yld i H x H' → g x (wipe σ vs) H' fun σ2 H2 => wipe σ2 vs = wipe σ vs ∧ tt σ2 H2 fun b H3 =>
    if b = true then te σ2 H3 fun y H4 => ∃ acc, H4 D = some (.lst acc) ∧ acc.length < sizeLine ∧ Nx (upd H4 D (.lst (acc ++ [y]))) else Nx H3)
def LcL (K : PySem.W.Frag) (g : TG) (tt : TT) (te : TE) (vs : List Nat) (σ : L2.St) (Q : VK) (x : V) (H1 : Hp) : Prop := ∃ a, x = .ref a ∧ (∃ xs, SqL K H1 a xs) ∧ LcW (Itl K a) g tt te vs σ H1 Q
def LcT (K : PySem.W.Frag) (g : TG) (tt : TT) (te : TE) (vs : List Nat) (σ : L2.St) (Q : VK) (x : V) (H1 : Hp) : Prop := ∃ a, x = .ref a ∧ (∃ xs, SqT K H1 a xs) ∧ LcW (Itt K a) g tt te vs σ H1 Q
def LcR1 (g : TG) (tt : TT) (te : TE) (vs : List Nat) (σ : L2.St) (Q : VK) (xs : List V) (H1 : Hp) : Prop := ∃ j : Int, xs = [.int j] ∧ -(2 ^ 62) ≤ j ∧ j < 2 ^ 62 ∧ LcW (Itr 0 j.toNat) g tt te vs σ H1 Q
def LcR2 (g : TG) (tt : TT) (te : TE) (vs : List Nat) (σ : L2.St) (Q : VK) (xs : List V) (H1 : Hp) : Prop := ∃ i j : Int, xs = [.int i, .int j] ∧ (-(2 ^ 62) ≤ i ∧ i < 2 ^ 62 ∧ -(2 ^ 62) ≤ j ∧ j < 2 ^ 62) ∧ LcW (Itr i (j - i).toNat) g tt te vs σ H1 Q
variable {tt : TT} {te : TE} {vs : List Nat} {Q : VK}
theorem r_lcL (k : tl σ H fun x H1 => LcL K g tt te vs σ Q x H1) : tLc (iList K tl) g tt te vs σ H Q := k
theorem r_lcT (k : tl σ H fun x H1 => LcT K g tt te vs σ Q x H1) : tLc (iTup K tl) g tt te vs σ H Q := k
theorem r_lcR1 (k : tr σ H fun xs H1 => LcR1 g tt te vs σ Q xs H1) : tLc (iRng1 tr) g tt te vs σ H Q := k
/-- the turn's end: the list D has one more item, or as many -/
def LcN (G : Hp) (P : Nat → List V → Hp → Mu → Prop) (i : Nat) (D : Addr) (H4 : Hp) : Prop := ∃ acc G4 mu4, acc.length ≤ i + 1 ∧ Ex G G4 ∧ Hold G4 ((D, .lst acc) :: mu4) H4 ∧ P (i + 1) acc G4 mu4
def LcY (G : Hp) (P : Nat → List V → Hp → Mu → Prop) (i : Nat) (D : Addr) (y : V) (H4 : Hp) : Prop := ∃ acc, H4 D = some (.lst acc) ∧ acc.length < sizeLine ∧ LcN G P i D (upd H4 D (.lst (acc ++ [y])))
theorem lcY {P : Nat → List V → Hp → Mu → Prop} {D : Addr} {y : V} {H4 G4 : Hp} {mu4 : Mu} {acc : List V} (hh : Hold G4 ((D, .lst acc) :: mu4) H4) (ex : Ex G G4) (hl : acc.length ≤ i) (hi : i < 1000000) (p : P (i + 1) (acc ++ [y]) G4 mu4) : LcY G P i D y H4 :=
  ⟨acc, hh.get (i := 0) rfl, szl (by omega), acc ++ [y], G4, mu4, by simp; omega, ex, hh.set (i := 0) rfl, p⟩
theorem lcN {P : Nat → List V → Hp → Mu → Prop} {D : Addr} {H4 G4 : Hp} {mu4 : Mu} {acc : List V} (hh : Hold G4 ((D, .lst acc) :: mu4) H4) (ex : Ex G G4) (hl : acc.length ≤ i) (p : P (i + 1) acc G4 mu4) : LcN G P i D H4 :=
  ⟨acc, G4, mu4, by omega, ex, hh, p⟩
abbrev LcTurn (G : Hp) (P : Nat → List V → Hp → Mu → Prop) (g : TG) (tt : TT) (te : TE) (vs : List Nat) (σ : L2.St) (i : Nat) (x : V) (D : Addr) (H' : Hp) : Prop :=
  g x (wipe σ vs) H' fun σ2 H2 => wipe σ2 vs = wipe σ vs ∧ tt σ2 H2 fun b H3 => if b = true then te σ2 H3 fun y H4 => LcY G P i D y H4 else LcN G P i D H3
theorem lc_go {n : Nat} {J : It} (hh : Hold G mu H) (src : Nat → V → Prop) (P : Nat → List V → Hp → Mu → Prop) (h0 : P 0 [] G mu)
    (hstop : ∀ H', Ex G H' → J.stop n H') (hgo : ∀ i H', i < n → Ex G H' → J.go i H') (hy : ∀ i H' x H'', i < n → Ex G H' → J.yld i H' x H'' → H'' = H' ∧ src i x)
    (hs : ∀ i x D acc G' mu' H', i < n → src i x → acc.length ≤ i → Ex G G' → Hold G' ((D, .lst acc) :: mu') H' → P i acc G' mu' → LcTurn G P g tt te vs σ i x D H')
    (hd : ∀ D acc G' mu' H', acc.length ≤ n → Ex G G' → Hold G' ((D, .lst acc) :: mu') H' → P n acc G' mu' → Q (.ref D) H') : LcW J g tt te vs σ H Q := by
  intro D hD
  refine ⟨fun i m H' => m = n - i ∧ i ≤ n ∧ ∃ acc G' mu', acc.length ≤ i ∧ Ex G G' ∧ Hold G' ((D, .lst acc) :: mu') H' ∧ P i acc G' mu', ⟨n, by simp, Nat.zero_le _, [], G, mu, Nat.le_refl _, Ex.refl G, hh.newm hD, h0⟩, ?_⟩
  rintro i m H' ⟨rfl, hi, acc, G', mu', hl, ex, hh', p⟩
  by_cases hlt : i < n
  · refine .inr ⟨hgo i H' hlt (ex.trans hh'.ex), LcN G P i D, fun H4 h4 => ⟨n - (i + 1), by omega, rfl, hlt, h4⟩, fun x H2 y => ?_⟩
    obtain ⟨e, hx⟩ := hy i H' x H2 hlt (ex.trans hh'.ex) y
    subst e
    exact hs i x D acc G' mu' _ hlt hx hl ex hh' p
  · have e : i = n := by omega
    subst e
    exact .inl ⟨hstop H' (ex.trans hh'.ex), hd D acc G' mu' H' hl ex hh' p⟩
theorem lcR1_by {n : Int} (hh : Hold G mu H) (hb : n < 2 ^ 62) (hb' : -(2 ^ 62) ≤ n) (P : Nat → List V → Hp → Mu → Prop) (h0 : P 0 [] G mu)
    (hs : ∀ (i : Nat) D acc G' mu' H', (i : Int) < n → acc.length ≤ i → Ex G G' → Hold G' ((D, .lst acc) :: mu') H' → P i acc G' mu' → LcTurn G P g tt te vs σ i (.int (i : Int)) D H')
    (hd : ∀ D acc G' mu' H', acc.length ≤ n.toNat → Ex G G' → Hold G' ((D, .lst acc) :: mu') H' → P n.toNat acc G' mu' → Q (.ref D) H') : LcR1 g tt te vs σ Q [.int n] H :=
  ⟨n, rfl, hb', hb, lc_go hh (fun i x => x = .int (i : Int)) P h0 (fun _ _ => Nat.le_refl _) (fun i H' hi _ => hi) (fun i H' x H'' _ _ y => ⟨y.1, by have := y.2; rw [Int.zero_add] at this; exact this⟩)
    (fun i x D acc G' mu' H' hi e hl ex h p => by subst e; exact hs i D acc G' mu' H' (by omega) hl ex h p) hd⟩
end
end Wm
namespace Wm
open PySem PySem.Spec PyProof.Rows L2 StX
theorem r_ty {K : PySem.W.Frag} {H : Hp} {p : Addr} {xs : List V} {R : Prop} (e : H p = some (.lst xs)) (k : R) : tyV K "list" (.ref p) H ∧ R := ⟨.inl ⟨rfl, xs, SqL.of e⟩, k⟩
theorem last_at {α : Type} {l : List α} {x : α} (h : l[l.length - 1]? = some x) : atI l (-1) = some x := by
  have hl := (List.getElem?_eq_some_iff.mp h).1
  unfold atI ixN
  rw [if_neg (by decide), if_pos (by omega)]
  show l[(-1 + (l.length : Int)).toNat]? = some x
  rw [show (-1 + (l.length : Int)).toNat = l.length - 1 by omega]
  exact h
theorem take_one {α : Type} {l : List α} {i : Nat} {x : α} (h : l[i]? = some x) : l.take (i + 1) = l.take i ++ [x] := by
  rw [List.take_add_one, h] <;> rfl
end Wm
/-! ## 8. Data compared -/
namespace Wm
open PySem PySem.Spec PyProof.Rows L2 StX
section
variable {K : PySem.W.Frag} {H : Hp} {Q : VK} {p q : Addr} {xs ys : List Int}
theorem dpAll_ints (xs : List Int) : DpAll K H (xs.map V.int) (xs.map PyData.int) := by
  induction xs with
  | nil => exact .nil
  | cons x r ih => exact .cons (.int x) ih
theorem canLay_ints (xs : List Int) : PyData.canLayAll0 (xs.map PyData.int) = true := by
  induction xs with
  | nil => rfl
  | cons x r ih =>
    simp only [List.map_cons, PyData.canLayAll0, PyData.canLay0, Bool.true_and]
    exact ih
theorem depth_ints (xs : List Int) : PyData.depthAll (xs.map PyData.int) = 0 := by
  induction xs with
  | nil => rfl
  | cons x r ih =>
    simp only [List.map_cons, PyData.depthAll, PyData.depth, ih]
    rfl
theorem eqv_ints : ∀ xs ys : List Int, PyData.eqvAll (xs.map PyData.int) (ys.map PyData.int) = decide (xs = ys)
  | [], [] => rfl
  | x :: xs, [] => by simp [PyData.eqvAll]
  | [], y :: ys => by simp [PyData.eqvAll]
  | x :: xs, y :: ys => by
    simp only [List.map_cons, PyData.eqvAll, PyData.eqv, eqv_ints xs ys]
    by_cases h : x = y
    · subst h; simp
    · simp [h]
theorem shaped_lst {ds : List PyData} (h : PyData.canLayAll0 ds = true) (hd : PyData.depthAll ds ≤ 60) : SeqAt.shaped (.list ds) = true := by
  unfold SeqAt.shaped
  rw [Bool.and_eq_true]
  refine ⟨by simpa [PyData.canLay0] using h, decide_eq_true (by simp only [PyData.depth]; omega)⟩
theorem shaped_tup {ds : List PyData} (h : PyData.canLayAll0 ds = true) (hd : PyData.depthAll ds ≤ 60) : SeqAt.shaped (.tuple ds) = true := by
  unfold SeqAt.shaped
  rw [Bool.and_eq_true]
  refine ⟨by simpa [PyData.canLay0] using h, decide_eq_true (by simp only [PyData.depth]; omega)⟩
theorem neI (h1 : SqL K H p (xs.map V.int)) (h2 : SqL K H q (ys.map V.int)) (k : Q (.bl (!decide (xs = ys))) H) : rNeD K (.ref p) (.ref q) H Q :=
  ⟨_, _, .lst h1 (dpAll_ints xs), .lst h2 (dpAll_ints ys), shaped_lst (canLay_ints xs) (by rw [depth_ints]; decide), shaped_lst (canLay_ints ys) (by rw [depth_ints]; decide), by simp only [PyData.eqv, eqv_ints]; exact k⟩
theorem eqI (h1 : SqL K H p (xs.map V.int)) (h2 : SqL K H q (ys.map V.int)) (k : Q (.bl (decide (xs = ys))) H) : rEqD K (.ref p) (.ref q) H Q :=
  ⟨_, _, .lst h1 (dpAll_ints xs), .lst h2 (dpAll_ints ys), shaped_lst (canLay_ints xs) (by rw [depth_ints]; decide), shaped_lst (canLay_ints ys) (by rw [depth_ints]; decide), by simp only [PyData.eqv, eqv_ints]; exact k⟩
theorem eqT (h1 : SqT K H p (xs.map V.int)) (h2 : SqT K H q (ys.map V.int)) (k : Q (.bl (decide (xs = ys))) H) : rEqD K (.ref p) (.ref q) H Q :=
  ⟨_, _, .tup h1 (dpAll_ints xs), .tup h2 (dpAll_ints ys), shaped_tup (canLay_ints xs) (by rw [depth_ints]; decide), shaped_tup (canLay_ints ys) (by rw [depth_ints]; decide), by simp only [PyData.eqv, eqv_ints]; exact k⟩
theorem isN {x : V} (k : Q (.bl (decide (x = .non))) H) : rIsN x .non H Q := ⟨rfl, k⟩
theorem notN {x : V} (k : Q (.bl (!decide (x = .non))) H) : rNotN x .non H Q := ⟨rfl, k⟩
end
end Wm
namespace Wm
open PySem PySem.Spec PyProof.Rows L2 StX
theorem Hold.start (H : Hp) : Hold H [] H := ⟨Ex.refl H, (fun _ h => by cases h), (fun _ h => by cases h), List.nodup_nil⟩
end Wm
namespace Wm
open PySem PySem.Spec PyProof.Rows L2 StX
section
variable {K : PySem.W.Frag} {G H : Hp} {mu : Mu} {Q : VK} {xs : List V}
/-- a new object, told only by where it stands: it was not there ahead -/
theorem tup_n (hP : xs.length ≤ sizeLine) (hh : Hold G mu H) (k : ∀ p H', G p = none → H' p = some (.tup xs) → Hold G mu H' → Q (.ref p) H') : rTup xs H Q :=
  ⟨hP, fun p hp => k p _ (hh.g_none hp) upd_same (hh.newg hp)⟩
theorem lst_n (hP : xs.length ≤ sizeLine) (hh : Hold G mu H) (k : ∀ p H', G p = none → H' p = some (.lst xs) → Hold G mu H' → Q (.ref p) H') : rLst xs H Q :=
  ⟨hP, fun p hp => k p _ (hh.g_none hp) upd_same (hh.newg hp)⟩
end
end Wm
end

section
/-! ## A dict from triples (int, int, bool) to their numbers in the order of coming -/
namespace Wm
open PySem PySem.Spec PyProof.Rows L2
abbrev K3 := Int × Int × Bool
def lf (k : K3) : List Leaf := [.num k.1, .num k.2.1, .num (if k.2.2 = true then 1 else 0)]
def tv3 (k : K3) : List V := [.int k.1, .int k.2.1, .bl k.2.2]
/-- the entry of number i -/
def SeenE (i : Nat) (k : K3 × Addr) (x : List Leaf × Addr × Value) : Prop := x.1 = lf k.1 ∧ x.2.1 = k.2 ∧ ∃ t, x.2.2 = .int (i : Int) t
structure SeenX (ks : List (K3 × Addr)) (xs : List (List Leaf × Addr × Value)) : Prop where
  len : xs.length = ks.length
  at_ : ∀ i k x, ks[i]? = some k → xs[i]? = some x → SeenE i k x
def SeenAt (P : Program) (w : World) (a : Addr) (ks : List (K3 × Addr)) (h : Heap) : Prop :=
  (a == sysModules) = false ∧ ∃ xs, SeenX ks xs ∧ ∃ o es ep, h.get? a = some o ∧ o.ExactDict ∧ o.data = .dict es ep ∧ es.toList = xs.map (entryOfKey (tupleKind (leafKind P w))) ∧ (xs.map (·.1)).Nodup
def SeenO (P : Program) (w : World) (a : Addr) (ks : List (K3 × Addr)) : HO := .ext (SeenAt P w a ks)
section
variable {X : Cx} {pins : List (Addr × Obj)} {σ : L2.St} {H : Hp} {s : Shared} {a t : Addr} {ks : List (K3 × Addr)} {k : K3}
/-- {} -/
def tSeenNew (P : Program) (w : World) : TE := fun _ H Q => ∀ p, H p = none → Q (.ref p) (upd H p (SeenO P w p []))
/-- key in seen -/
def rSeenIn (P : Program) (w : World) : R2 := fun x y H Q => ∃ (a t : Addr) (ks : List (K3 × Addr)) (k : K3), x = .ref t ∧ y = .ref a ∧ H a = some (SeenO P w a ks) ∧ H t = some (.tup (tv3 k)) ∧ (∀ q ∈ ks, H q.2 = some (.tup (tv3 q.1))) ∧ Q (.bl (decide (k ∈ ks.map (·.1)))) H
/-- seen[key], there -/
def rSeenGet (P : Program) (w : World) : R2 := fun x y H Q => ∃ (a t : Addr) (ks : List (K3 × Addr)) (k : K3) (i : Nat) (q : Addr), x = .ref a ∧ y = .ref t ∧ H a = some (SeenO P w a ks) ∧ H t = some (.tup (tv3 k)) ∧ (∀ q ∈ ks, H q.2 = some (.tup (tv3 q.1))) ∧ ks[i]? = some (k, q) ∧ Q (.int (i : Int)) H
def tSeenGet (P : Program) (w : World) (td ty : TE) : TE := fun σ H Q => td σ H fun x H1 => ty σ H1 fun y H2 => rSeenGet P w x y H2 Q
/-- seen[key] = its number, new -/
def sSeenPut (P : Program) (w : World) (td ty tv : TE) : TS := fun D σ H => tv σ H fun z H1 => td σ H1 fun x H2 => ty σ H2 fun y H3 => ∃ (a t : Addr) (ks : List (K3 × Addr)) (k : K3), z = .int (ks.length : Int) ∧ x = .ref a ∧ y = .ref t ∧ H3 a = some (SeenO P w a ks) ∧ H3 t = some (.tup (tv3 k)) ∧
  (∀ q ∈ ks, H3 q.2 = some (.tup (tv3 q.1))) ∧ k ∉ ks.map (·.1) ∧ ks.length < sizeLine ∧ D.nx σ (upd H3 a (SeenO P w a (ks ++ [(k, t)])))
end
end Wm
end

section
local macro_rules | `(tactic| walk_at "cls") => `(tactic| first | (with_reducible exact Wm.WeatherC.cl (by assumption)) | (with_reducible exact Wm.HeaterC.cl (by assumption)) | (with_reducible exact Wm.RoomC.cl (by assumption)) | (with_reducible exact Wm.RunC.cl (by assumption)) | (with_reducible exact Wm.HistoryC.cl (by assumption)) | (with_reducible exact Wm.ThresholdObserverC.cl (by assumption)) | (with_reducible exact Wm.SettingC.cl (by assumption)) | (with_reducible exact Wm.HourSettingC.cl (by assumption)) | (with_reducible exact Wm.RestSettingC.cl (by assumption)) | (with_reducible exact Wm.PricesC.cl (by assumption)) | (with_reducible exact Wm.MomentC.cl (by assumption)) | (with_reducible exact Wm.LiveRoomC.cl (by assumption)) | (with_reducible exact Wm.AttemptC.cl (by assumption)))
local macro_rules | `(tactic| walk_at "noattr") => `(tactic| first | (with_reducible exact Wm.WeatherC.n_pattern (by assumption)) | (with_reducible exact Wm.HeaterC.n_power (by assumption)) | (with_reducible exact Wm.HeaterC.n_below (by assumption)) | (with_reducible exact Wm.HeaterC.n_above (by assumption)) | (with_reducible exact Wm.RoomC.n_outside (by assumption)) | (with_reducible exact Wm.RoomC.n_inside (by assumption)) | (with_reducible exact Wm.RoomC.n_begin_degrees (by assumption)) | (with_reducible exact Wm.RoomC.n_past (by assumption)) | (with_reducible exact Wm.RoomC.n_repeated (by assumption)) | (with_reducible exact Wm.RoomC.n_share (by assumption)) | (with_reducible exact Wm.RoomC.n_coldest (by assumption)) | (with_reducible exact Wm.RoomC.n_warmest (by assumption)) | (with_reducible exact Wm.RunC.n_begin (by assumption)) | (with_reducible exact Wm.RunC.n_end (by assumption)) | (with_reducible exact Wm.RunC.n_degrees (by assumption)) | (with_reducible exact Wm.RunC.n_is_heating (by assumption)) | (with_reducible exact Wm.RunC.n_sums (by assumption)) | (with_reducible exact Wm.RunC.n_size (by assumption)) | (with_reducible exact Wm.RunC.n_drift (by assumption)) | (with_reducible exact Wm.HistoryC.n_shifts (by assumption)) | (with_reducible exact Wm.HistoryC.n_added (by assumption)) | (with_reducible exact Wm.HistoryC.n_floor (by assumption)) | (with_reducible exact Wm.HistoryC.n_ceiling (by assumption)) | (with_reducible exact Wm.HistoryC.n_was_heating (by assumption)) | (with_reducible exact Wm.HistoryC.n_runs (by assumption)) | (with_reducible exact Wm.HistoryC.n_loop (by assumption)) | (with_reducible exact Wm.ThresholdObserverC.n_outside (by assumption)) | (with_reducible exact Wm.ThresholdObserverC.n_power (by assumption)) | (with_reducible exact Wm.ThresholdObserverC.n_tick (by assumption)) | (with_reducible exact Wm.ThresholdObserverC.n_degrees (by assumption)) | (with_reducible exact Wm.ThresholdObserverC.n_is_heating (by assumption)) | (with_reducible exact Wm.ThresholdObserverC.n_lows (by assumption)) | (with_reducible exact Wm.ThresholdObserverC.n_highs (by assumption)) | (with_reducible exact Wm.ThresholdObserverC.n_noted (by assumption)) | (with_reducible exact Wm.SettingC.n_least (by assumption)) | (with_reducible exact Wm.SettingC.n_most (by assumption)) | (with_reducible exact Wm.HourSettingC.n_least (by assumption)) | (with_reducible exact Wm.HourSettingC.n_most (by assumption)) | (with_reducible exact Wm.HourSettingC.n_length (by assumption)) | (with_reducible exact Wm.HourSettingC.n_hours (by assumption)) | (with_reducible exact Wm.RestSettingC.n_least (by assumption)) | (with_reducible exact Wm.RestSettingC.n_most (by assumption)) | (with_reducible exact Wm.RestSettingC.n_rest (by assumption)) | (with_reducible exact Wm.PricesC.n_table (by assumption)) | (with_reducible exact Wm.MomentC.n_tick (by assumption)) | (with_reducible exact Wm.MomentC.n_heat (by assumption)) | (with_reducible exact Wm.MomentC.n_on (by assumption)) | (with_reducible exact Wm.MomentC.n_burnt (by assumption)) | (with_reducible exact Wm.MomentC.n_sky (by assumption)) | (with_reducible exact Wm.MomentC.n_stove (by assumption)) | (with_reducible exact Wm.LiveRoomC.n_moment (by assumption)) | (with_reducible exact Wm.LiveRoomC.n_earlier (by assumption)) | (with_reducible exact Wm.LiveRoomC.n_done (by assumption)) | (with_reducible exact Wm.AttemptC.n_live (by assumption)) | (with_reducible exact Wm.AttemptC.n_kept (by assumption)) | (with_reducible exact Wm.AttemptC.n_stack (by assumption)) | (with_reducible exact Wm.AttemptC.n_steps (by assumption)))
local macro_rules | `(tactic| walk_at "at") => `(tactic| first | assumption | exact Wm.Hold.rd (by assumption) (by assumption) | exact Wm.Hold.get (i := 0) (by assumption) rfl | exact Wm.Hold.get (i := 1) (by assumption) rfl | exact Wm.Hold.get (i := 2) (by assumption) rfl | exact Wm.Hold.get (i := 3) (by assumption) rfl | exact Wm.Hold.get (i := 4) (by assumption) rfl)
local macro_rules | `(tactic| walk_at "s1") => `(tactic| first
  | (with_reducible refine Wm.r_seq ?_)
  | (with_reducible refine Wm.r_op ?_)
  | ((with_reducible refine' Wm.r_var ?h ?_); (case h => rfl))
  | (with_reducible refine Wm.r_c ?_)
  | (with_reducible refine Wm.r_I0 ?_)
  | (with_reducible refine Wm.r_cons ?_)
  | (with_reducible refine Wm.r_nil ?_)
  | (with_reducible refine Wm.r_asg ?_)
  | (with_reducible refine Wm.r_gname ?_; try simp only [List.set_cons_zero, List.set_cons_succ])
  | (with_reducible refine Wm.r_nx ?_)
  | (with_reducible refine Wm.r_rt ?_)
  | (with_reducible refine Wm.r_ret ?_)
  | (with_reducible refine Wm.r_test ?_)
  | (with_reducible refine Wm.r_bl ?_)
  | (with_reducible refine Wm.r_B ?_)
  | (with_reducible refine Wm.r_eqI ?_)
  | (with_reducible refine Wm.r_neI ?_)
  | (with_reducible refine Wm.r_eqB ?_)
  | (with_reducible refine Wm.r_neB ?_)
  | (with_reducible refine Wm.r_fld ?_)
  | (with_reducible refine Wm.r_call ?_)
  | (with_reducible refine Wm.r_mtd ?_)
  | (with_reducible refine Wm.r_prp ?_)
  | (with_reducible refine Wm.r_mak ?_)
  | (with_reducible refine Wm.r_cb ?_)
  | (with_reducible refine Wm.r_tup ?_)
  | (with_reducible refine Wm.r_lst ?_)
  | (with_reducible refine Wm.r_chain ?_)
  | (with_reducible refine Wm.r_and ?_)
  | (with_reducible refine Wm.r_or ?_)
  | (with_reducible refine Wm.r_not ?_)
  | (with_reducible refine Wm.r_andV ?_)
  | (with_reducible refine Wm.r_orV ?_)
  | (with_reducible refine Wm.r_notV ?_)
  | (with_reducible refine Wm.r_if ?_)
  | (with_reducible refine Wm.r_un ?_)
  | (with_reducible refine Wm.r_U ?_)
  | (with_reducible refine Wm.r_iteT ?_)
  | (with_reducible refine Wm.r_iteF ?_)
  | (with_reducible refine Wm.r_next ?_)
  | (with_reducible refine Wm.r_drop ?_)
  | (with_reducible refine Wm.r_retN ?_)
  | ((with_reducible refine' Wm.r_aug ?h ?_); (case h => rfl))
  | (with_reducible refine Wm.r_ipI ?_)
  | (with_reducible refine Wm.r_par ?_)
  | (with_reducible refine Wm.r_two ?_; try simp only [List.set_cons_zero, List.set_cons_succ])
  | (with_reducible refine Wm.r_sl ?_)
  | (with_reducible refine Wm.r_nopart ?_)
  | (with_reducible refine Wm.r_part ?_)
  | (with_reducible refine Wm.r_xi ?_)
  | (with_reducible refine Wm.r_gcons ?_)
  | (with_reducible refine Wm.r_gnil ?_)
  | (with_reducible refine Wm.r_sub ?_)
  | (with_reducible refine Wm.r_setF ?_)
  | (with_reducible refine Wm.r_app ?_)
  | (with_reducible refine Wm.int_i ?_)
  | (with_reducible refine Wm.int_b ?_)
  | (with_reducible refine Wm.min2 ?_)
  | (with_reducible refine Wm.max2 ?_)
  | (with_reducible refine Wm.abs1 ?_)
  | (with_reducible refine Wm.isN ?_)
  | (with_reducible refine Wm.notN ?_)
  | ((with_reducible refine' Wm.r_ty ?e ?_); (case e => walk_at "at"))
  | ((with_reducible refine' Wm.setF_m ?h 0 ?e ?c ?a ?l ?_); (case h => assumption); (case e => rfl); (case c => walk_at "cls"); (case a => walk_at "noattr"); (case l => exact of_decide_eq_true rfl); intro H1 hh1; simp only [List.set_cons_zero, List.set_cons_succ] at hh1)
  | ((with_reducible refine' Wm.setF_m ?h 1 ?e ?c ?a ?l ?_); (case h => assumption); (case e => rfl); (case c => walk_at "cls"); (case a => walk_at "noattr"); (case l => exact of_decide_eq_true rfl); intro H1 hh1; simp only [List.set_cons_zero, List.set_cons_succ] at hh1)
  | ((with_reducible refine' Wm.setF_m ?h 2 ?e ?c ?a ?l ?_); (case h => assumption); (case e => rfl); (case c => walk_at "cls"); (case a => walk_at "noattr"); (case l => exact of_decide_eq_true rfl); intro H1 hh1; simp only [List.set_cons_zero, List.set_cons_succ] at hh1)
  | ((with_reducible refine' Wm.setF_m ?h 3 ?e ?c ?a ?l ?_); (case h => assumption); (case e => rfl); (case c => walk_at "cls"); (case a => walk_at "noattr"); (case l => exact of_decide_eq_true rfl); intro H1 hh1; simp only [List.set_cons_zero, List.set_cons_succ] at hh1)
  | (with_reducible refine Wm.r_forL ?_)
  | (with_reducible refine Wm.r_forT ?_)
  | (with_reducible refine Wm.r_forR1 ?_)
  | (with_reducible refine Wm.r_forR2 ?_)
  | (with_reducible refine Wm.r_lcL ?_)
  | (with_reducible refine Wm.r_lcT ?_)
  | (with_reducible refine Wm.r_lcR1 ?_)
  | (with_reducible refine Wm.r_lcR2 ?_)
  | ((with_reducible refine' Wm.fld_h ?e ?c ?n ?l ?_); (case e => walk_at "at"); (case c => walk_at "cls"); (case n => walk_at "noattr"); (case l => rfl))
  | ((with_reducible refine' Wm.mtd_h ?e ?l ?_); (case e => walk_at "at"); (case l => rfl))
  | ((with_reducible refine' Wm.prp_h ?e ?_); (case e => walk_at "at"))
  | ((with_reducible refine' Wm.rix_ht ?a ?b ?_); (case a => walk_at "at"); (case b => rfl))
  | ((with_reducible refine' Wm.rix_h ?a ?b ?_); (case a => walk_at "at"); (case b => rfl))
  | ((with_reducible refine' Wm.len_ht ?a ?_); (case a => walk_at "at"))
  | ((with_reducible refine' Wm.len_h ?a ?_); (case a => walk_at "at"))
  | ((with_reducible refine' Wm.len_l ?a ?b ?_); (case a => assumption); (case b => assumption))
  | ((with_reducible refine' Wm.len_t ?a ?b ?_); (case a => assumption); (case b => assumption))
  | ((with_reducible refine' Wm.gtup_h ?a ?b ?_); (case a => walk_at "at"); (case b => rfl))
  | (with_reducible refine Wm.r_I (Wm.cmulR (by decide)) ?_)
  | (with_reducible refine Wm.r_I (Wm.cmulL (by decide)) ?_)
  | (with_reducible refine Wm.r_I (Wm.cdiv (by decide) (by decide)) ?_)
  | (with_reducible refine Wm.r_I Wm.cpow18 ?_)
  | (with_reducible refine Wm.r_I Wm.cpow12 ?_)
  | (with_reducible refine Wm.r_I (by show (0 : Int) < _; decide) ?_))
local macro_rules | `(tactic| walk_at "s") => `(tactic| repeat (first | walk_at "s1" | (with_reducible refine Wm.r_ifS ?_)))
local macro_rules | `(tactic| walk_at "t") => `(tactic| repeat (walk_at "s1"))
local macro_rules | `(tactic| walk_at "sz") => `(tactic| exact of_decide_eq_true rfl)
namespace Wm
open PySem PySem.Spec PyProof.Rows L2 StX
/-! ## Runs -/
def psum (l : List Int) (i : Nat) : Int := (l.take i).sum
def sums (l : List Int) : List Int := (List.range (l.length + 1)).map (psum l)
def optI : Option Int → V
  | none => .non
  | some i => .int i
structure RunD where
  beg : Int
  fin : Option Int
  deg : Int
  on : Bool
  steps : List Int
def RunD.at_ (r : RunD) (t : Int) : Int := r.deg + (t - r.beg) / r.steps.length * r.steps.sum + psum r.steps ((t - r.beg) % r.steps.length).toNat
def runF (r : RunD) (s : Addr) : List (Str × V) := [("begin", .int r.beg), ("end", optI r.fin), ("degrees", .int r.deg), ("is_heating", .bl r.on), ("sums", .ref s), ("size", .int r.steps.length), ("drift", .int r.steps.sum)]
structure RunOk (r : RunD) : Prop where
  pos : 0 < r.steps.length
  len : r.steps.length ≤ 24
  ge : ∀ s ∈ r.steps, -100 ≤ s
  le : ∀ s ∈ r.steps, s ≤ 300
def IsRun (K : PySem.W.Frag) (A : Ads) (H : Hp) (p : Addr) (r : RunD) : Prop := RunC K A.cRun ∧ RunOk r ∧ ∃ dx s, H p = some (.ins A.cRun dx (runF r s)) ∧ H s = some (.lst ((sums r.steps).map V.int))
theorem IsRun.up {K : PySem.W.Frag} {A : Ads} {G H : Hp} {p : Addr} {r : RunD} (e : Ex G H) (h : IsRun K A G p r) : IsRun K A H p r := by
  obtain ⟨a, b, dx, s, h1, h2⟩ := h
  exact ⟨a, b, dx, s, e _ _ h1, e _ _ h2⟩
theorem psum_succ (l : List Int) {i : Nat} {x : Int} (h : l[i]? = some x) : psum l (i + 1) = psum l i + x := by
  unfold psum
  have hl := (List.getElem?_eq_some_iff.mp h).1
  rw [List.take_add_one, h]
  simp
theorem psum_all (l : List Int) : psum l l.length = l.sum := by unfold psum; rw [List.take_length]
theorem sums_len (l : List Int) : (sums l).length = l.length + 1 := by simp [sums]
theorem sums_at (l : List Int) {i : Nat} (h : i ≤ l.length) : (sums l)[i]? = some (psum l i) := by
  unfold sums
  rw [List.getElem?_map, List.getElem?_range (by omega)] <;> rfl
theorem sum_bound : ∀ (l : List Int), (∀ s ∈ l, -100 ≤ s) → (∀ s ∈ l, s ≤ 300) → -(100 * (l.length : Int)) ≤ l.sum ∧ l.sum ≤ 300 * l.length
  | [], _, _ => by simp
  | x :: l, h1, h2 => by
    have ih := sum_bound l (fun s hs => h1 s (List.mem_cons_of_mem _ hs)) (fun s hs => h2 s (List.mem_cons_of_mem _ hs))
    have a1 := h1 x List.mem_cons_self
    have a2 := h2 x List.mem_cons_self
    simp only [List.sum_cons, List.length_cons]
    omega
theorem RunOk.sumB {r : RunD} (h : RunOk r) : -2400 ≤ r.steps.sum ∧ r.steps.sum ≤ 7200 := by
  have := sum_bound r.steps h.ge h.le
  have := h.len
  omega
def sp_Run_at (K : PySem.W.Frag) (A : Ads) : Sp := fun vs H Q _ => ∃ (p : Addr) (t : Int) (r : RunD), vs = [.ref p, .int t] ∧ IsRun K A H p r ∧ Q (.int (r.at_ t)) H
/-- where the bound is passed at a place of the round, for the first time -/
def fbAt (r : RunD) (bound sign : Int) (p : Nat) : Option Int :=
  if (bound - r.deg - psum r.steps p) * sign < 0 then some (r.beg + p)
  else if 0 < r.steps.sum * sign then some (r.beg + p + ((bound - r.deg - psum r.steps p) * sign / (r.steps.sum * sign) + 1) * r.steps.length)
  else none
def fbL (r : RunD) (bound sign : Int) (n : Nat) : List Int := (List.range n).filterMap (fbAt r bound sign)
def FB (r : RunD) (bound sign : Int) (o : Option Int) : Prop :=
  (o = none ∧ fbL r bound sign r.steps.length = []) ∨ ∃ m, o = some m ∧ m ∈ fbL r bound sign r.steps.length ∧ ∀ y ∈ fbL r bound sign r.steps.length, m ≤ y
def sp_Run_first_beyond (K : PySem.W.Frag) (A : Ads) : Sp := fun vs H Q _ => ∃ (p : Addr) (bound sign : Int) (r : RunD), vs = [.ref p, .int bound, .int sign] ∧ IsRun K A H p r ∧ (sign = 1 ∨ sign = -1) ∧ ∀ o H', FB r bound sign o → Ex H H' → Q (optI o) H'
/-- (d, t): the greatest temperature times a sign up to a last tick, and the first such tick -/
def XIn (r : RunD) (last : Option Int) (u : Int) : Prop := r.beg ≤ u ∧ ∀ l, last = some l → u ≤ l
structure XT (r : RunD) (last : Option Int) (sign : Int) (n : Nat) (d t : Int) : Prop where
  inn : XIn r last t
  at_ : r.at_ t = d
  best : ∀ u, XIn r last u → ((u - r.beg) % r.steps.length).toNat < n → r.at_ u * sign ≤ d * sign ∧ (r.at_ u = d → t ≤ u)
theorem at_pk (r : RunD) (ok : RunOk r) {p k : Int} (h0 : 0 ≤ p) (h1 : p < r.steps.length) : r.at_ (r.beg + p + k * r.steps.length) = r.deg + k * r.steps.sum + psum r.steps p.toNat := by
  have op := ok.pos
  unfold RunD.at_
  have e : r.beg + p + k * r.steps.length - r.beg = p + k * r.steps.length := by omega
  rw [e, Int.add_mul_ediv_right _ _ (by omega), Int.add_mul_emod_self_right, Int.ediv_eq_zero_of_lt h0 h1, Int.emod_eq_of_lt h0 h1, Int.zero_add]
theorem at_beg (r : RunD) (ok : RunOk r) : r.at_ r.beg = r.deg := by
  have := at_pk r ok (p := 0) (k := 0) (Int.le_refl 0) (by have := ok.pos; omega)
  simpa [psum] using this
theorem pk_of (r : RunD) (ok : RunOk r) (u : Int) : u = r.beg + (u - r.beg) % r.steps.length + (u - r.beg) / r.steps.length * r.steps.length ∧ 0 ≤ (u - r.beg) % r.steps.length ∧ (u - r.beg) % r.steps.length < r.steps.length := by
  have op := ok.pos
  have h := Int.emod_add_mul_ediv (u - r.beg) r.steps.length
  refine ⟨?_, Int.emod_nonneg _ (by omega), Int.emod_lt_of_pos _ (by omega)⟩
  rw [Int.mul_comm] at h
  omega
/-- the tick of a place that is looked at -/
def xTick (r : RunD) (last : Option Int) (sign : Int) (p : Nat) : Int :=
  if 0 < r.steps.sum * sign then match last with
    | some l => r.beg + p + (l - (r.beg + p)) / r.steps.length * r.steps.length
    | none => r.beg + p
  else r.beg + p
theorem xTick_best (r : RunD) (ok : RunOk r) {last : Option Int} {sign : Int} (hs : sign = 1 ∨ sign = -1) (hn : last = none → ¬ 0 < r.steps.sum * sign) {p : Nat} (hp : p < r.steps.length) (hl : XIn r last (r.beg + p)) :
    XIn r last (xTick r last sign p) ∧ ∀ u, XIn r last u → ((u - r.beg) % r.steps.length).toNat = p → r.at_ u * sign ≤ r.at_ (xTick r last sign p) * sign ∧ (r.at_ u = r.at_ (xTick r last sign p) → xTick r last sign p ≤ u) := by
  have op := ok.pos
  have key : ∀ k : Int, r.at_ (r.beg + p + k * r.steps.length) = r.deg + k * r.steps.sum + psum r.steps p := fun k => by
    have := at_pk r ok (p := (p : Int)) (k := k) (by omega) (by omega)
    rw [Int.toNat_natCast] at this
    exact this
  by_cases hd : 0 < r.steps.sum * sign
  · cases last with
    | none => exact absurd hd (hn rfl)
    | some l =>
      have e : xTick r (some l) sign p = r.beg + p + (l - (r.beg + p)) / r.steps.length * r.steps.length := by unfold xTick; rw [if_pos hd]
      rw [e]
      have hle := hl.2 l rfl
      have k0 : 0 ≤ (l - (r.beg + p)) / r.steps.length := Int.ediv_nonneg (by omega) (by omega)
      have kl : (l - (r.beg + p)) / r.steps.length * r.steps.length ≤ l - (r.beg + p) := Int.ediv_mul_le _ (by omega)
      have kp : 0 ≤ (l - (r.beg + p)) / r.steps.length * r.steps.length := Int.mul_nonneg k0 (by omega)
      refine ⟨⟨by omega, fun l' h => by cases h; omega⟩, fun u hu hm => ?_⟩
      obtain ⟨eu, u0, u1⟩ := pk_of r ok u
      have hm' : (u - r.beg) % r.steps.length = p := by omega
      rw [hm'] at eu
      have hul := hu.2 l rfl
      rw [eu, key, key]
      generalize hk : (u - r.beg) / (r.steps.length : Int) = k at eu
      generalize hK : (l - (r.beg + p)) / (r.steps.length : Int) = k2
      have hkk : k ≤ k2 := by
        rw [← hK]
        exact (Int.le_ediv_iff_mul_le (by omega)).mpr (by omega)
      rcases hs with rfl | rfl
      · have hd' : 0 < r.steps.sum := by omega
        have m1 := Int.mul_le_mul_of_nonneg_right hkk (Int.le_of_lt hd')
        refine ⟨by omega, fun h => ?_⟩
        have h2 : k * r.steps.sum = k2 * r.steps.sum := by omega
        have h3 := Int.eq_of_mul_eq_mul_right (by omega) h2
        rw [h3]
        exact Int.le_refl _
      · have hd' : 0 < -r.steps.sum := by omega
        have m1 := Int.mul_le_mul_of_nonneg_right hkk (Int.le_of_lt hd')
        rw [Int.mul_neg, Int.mul_neg] at m1
        refine ⟨by omega, fun h => ?_⟩
        have h2 : k * r.steps.sum = k2 * r.steps.sum := by omega
        have h3 := Int.eq_of_mul_eq_mul_right (by omega) h2
        rw [h3]
        exact Int.le_refl _
  · have e : xTick r last sign p = r.beg + p := by unfold xTick; rw [if_neg hd]
    rw [e]
    refine ⟨hl, fun u hu hm => ?_⟩
    obtain ⟨eu, u0, u1⟩ := pk_of r ok u
    have hm' : (u - r.beg) % r.steps.length = p := by omega
    rw [hm'] at eu
    have k0 := key 0
    rw [Int.zero_mul, Int.add_zero] at k0
    rw [eu, key, k0]
    generalize hk : (u - r.beg) / (r.steps.length : Int) = k at eu
    have hk0 : 0 ≤ k := by
      rw [← hk]
      exact Int.ediv_nonneg (by have := hu.1; omega) (by omega)
    have hkl : 0 ≤ k * (r.steps.length : Int) := Int.mul_nonneg hk0 (by omega)
    rcases hs with rfl | rfl
    · have hd' : 0 ≤ -r.steps.sum := by omega
      have m1 := Int.mul_nonneg hk0 hd'
      rw [Int.mul_neg] at m1
      exact ⟨by omega, fun _ => by omega⟩
    · have hd' : 0 ≤ r.steps.sum := by omega
      have m1 := Int.mul_nonneg hk0 hd'
      exact ⟨by omega, fun _ => by omega⟩
theorem XT.start (r : RunD) (ok : RunOk r) {last : Option Int} {sign : Int} (hl : XIn r last r.beg) : XT r last sign 0 r.deg r.beg := ⟨hl, at_beg r ok, fun _ _ h => absurd h (Nat.not_lt_zero _)⟩
theorem XT.step {r : RunD} (ok : RunOk r) {last : Option Int} {sign d t : Int} (hs : sign = 1 ∨ sign = -1) (hn : last = none → ¬ 0 < r.steps.sum * sign) {p : Nat} (hp : p < r.steps.length) (hl : XIn r last (r.beg + p)) (h : XT r last sign p d t) :
    (if d * sign < r.at_ (xTick r last sign p) * sign ∨ (r.at_ (xTick r last sign p) = d ∧ xTick r last sign p < t) then XT r last sign (p + 1) (r.at_ (xTick r last sign p)) (xTick r last sign p) else XT r last sign (p + 1) d t) := by
  obtain ⟨b1, b2⟩ := xTick_best r ok hs hn hp hl
  generalize hx : xTick r last sign p = x at b1 b2
  generalize hv : r.at_ x = v at b2
  split
  · rename_i c
    refine ⟨b1, hv, fun u hu hlt => ?_⟩
    by_cases e : ((u - r.beg) % r.steps.length).toNat = p
    · exact b2 u hu e
    · obtain ⟨c1, c2⟩ := h.best u hu (by omega)
      rcases c with c | ⟨ce, cl⟩
      · refine ⟨by omega, fun z => ?_⟩
        rw [z] at c1
        omega
      · subst ce
        exact ⟨c1, fun z => by have := c2 z; omega⟩
  · rename_i c
    refine ⟨h.inn, h.at_, fun u hu hlt => ?_⟩
    by_cases e : ((u - r.beg) % r.steps.length).toNat = p
    · obtain ⟨c1, c2⟩ := b2 u hu e
      have c3 : ¬ d * sign < v * sign := fun z => c (.inl z)
      refine ⟨by omega, fun z => ?_⟩
      have ve : v = d := by
        rw [z] at c1
        rcases hs with rfl | rfl <;> omega
      have c4 := c2 (z.trans ve.symm)
      have c5 : ¬ x < t := fun w => c (.inr ⟨ve, w⟩)
      omega
    · exact h.best u hu (by omega)
def sp_Run_extreme (K : PySem.W.Frag) (A : Ads) : Sp := fun vs H Q _ => ∃ (p : Addr) (last : Option Int) (sign : Int) (r : RunD), vs = [.ref p, optI last, .int sign] ∧ IsRun K A H p r ∧ (sign = 1 ∨ sign = -1) ∧ XIn r last r.beg ∧
  (last = none → 0 < r.steps.sum * sign → Q .non H) ∧
  ((last = none → ¬ 0 < r.steps.sum * sign) → ∀ d t q H', XT r last sign r.steps.length d t → Ex H H' → H q = none → H' q = some (.tup [.int d, .int t]) → Q (.ref q) H')
def t_Run_init (K : PySem.W.Frag) (A : Ads) : TS := tSeq (sFld K (tVar 0) (tVar 1) "begin") (tSeq (sFld K (tVar 0) (tC .non) "end") (tSeq (sFld K (tVar 0) (tVar 2) "degrees") (tSeq (sFld K (tVar 0) (tVar 3) "is_heating") (tSeq (sFld K (tVar 0) (tLst (tCons (tC (.int 0)) (tNil))) "sums") (tSeq (tFor (iList K (tVar 4)) (gName 5) (tDrop (tBM K "list" rAppend (tFld K (tVar 0) "sums") (tCons (tOp (rI0 fun i j => .int (i + j)) (tOp (rIx K) (tFld K (tVar 0) "sums") (tUn (rU fun i => .int (-i)) (tC (.int 1)))) (tVar 5)) (tNil))))) (tSeq (sFld K (tVar 0) (tCB (rLen K) (tCons (tVar 4) (tNil))) "size") (sFld K (tVar 0) (tOp (rIx K) (tFld K (tVar 0) "sums") (tUn (rU fun i => .int (-i)) (tC (.int 1)))) "drift")))))))
def t_Run_at (K : PySem.W.Frag) (A : Ads) : TS := tSeq (tAsg (tOp (rI0 fun i j => .int (i - j)) (tVar 1) (tFld K (tVar 0) "begin")) (gName 2)) (tRet (tOp (rI0 fun i j => .int (i + j)) (tOp (rI0 fun i j => .int (i + j)) (tFld K (tVar 0) "degrees") (tOp (rI CMul fun i j => .int (i * j)) (tOp (rI CDivW fun i j => .int (i / j)) (tVar 2) (tFld K (tVar 0) "size")) (tFld K (tVar 0) "drift"))) (tOp (rIx K) (tFld K (tVar 0) "sums") (tOp (rI (fun _ j => 0 < j) fun i j => .int (i % j)) (tCB rInt (tCons (tVar 2) (tNil))) (tFld K (tVar 0) "size")))))
def t_Run_first_beyond (K : PySem.W.Frag) (A : Ads) : TS := tSeq (tAsg (tLst (tNil)) (gName 3)) (tSeq (tFor (iRng1 (tCons (tFld K (tVar 0) "size") (tNil))) (gName 4) (tSeq (tAsg (tOp (rI CMul fun i j => .int (i * j)) (tOp (rI0 fun i j => .int (i - j)) (tOp (rI0 fun i j => .int (i - j)) (tVar 1) (tFld K (tVar 0) "degrees")) (tOp (rIx K) (tFld K (tVar 0) "sums") (tVar 4))) (tVar 2)) (gName 5)) (tIfS (tTest (tOp (rI0 fun i j => .bl (decide (i < j))) (tVar 5) (tC (.int 0)))) (tDrop (tBM K "list" rAppend (tVar 3) (tCons (tOp (rI0 fun i j => .int (i + j)) (tFld K (tVar 0) "begin") (tVar 4)) (tNil)))) (tIfS (tTest (tOp (rI0 fun i j => .bl (decide (j < i))) (tOp (rI CMul fun i j => .int (i * j)) (tFld K (tVar 0) "drift") (tVar 2)) (tC (.int 0)))) (tDrop (tBM K "list" rAppend (tVar 3) (tCons (tOp (rI0 fun i j => .int (i + j)) (tOp (rI0 fun i j => .int (i + j)) (tFld K (tVar 0) "begin") (tVar 4)) (tOp (rI CMul fun i j => .int (i * j)) (tOp (rI0 fun i j => .int (i + j)) (tOp (rI CDivW fun i j => .int (i / j)) (tVar 5) (tOp (rI CMul fun i j => .int (i * j)) (tFld K (tVar 0) "drift") (tVar 2))) (tC (.int 1))) (tFld K (tVar 0) "size"))) (tNil)))) (tNext))))) (tRet (tIf (tTest (tOp (rNeD K) (tVar 3) (tLst (tNil)))) (tCB (rMin K) (tCons (tVar 3) (tNil))) (tC .non))))
def t_Run_extreme_c1 (K : PySem.W.Frag) (A : Ads) : TS := tSeq (tAsg (tMtd A.cRun "at" (sp_Run_at K A) E0 (tVar 0) (tCons (tVar 5) (tNil))) (gName 6)) (tIfS (tOr (tTest (tOp (rI0 fun i j => .bl (decide (j < i))) (tOp (rI CMul fun i j => .int (i * j)) (tVar 6) (tVar 2)) (tOp (rI CMul fun i j => .int (i * j)) (tOp (rIx K) (tVar 3) (tC (.int 0))) (tVar 2)))) (tAnd (tTest (tOp rEq (tVar 6) (tOp (rIx K) (tVar 3) (tC (.int 0))))) (tTest (tOp (rI0 fun i j => .bl (decide (i < j))) (tVar 5) (tOp (rIx K) (tVar 3) (tC (.int 1))))))) (tAsg (tTup (tCons (tVar 6) (tCons (tVar 5) (tNil)))) (gName 3)) (tNext))
def t_Run_extreme (K : PySem.W.Frag) (A : Ads) : TS := tSeq (tIfS (tAnd (tTest (tOp rIsN (tVar 1) (tC .non))) (tTest (tOp (rI0 fun i j => .bl (decide (j < i))) (tOp (rI CMul fun i j => .int (i * j)) (tFld K (tVar 0) "drift") (tVar 2)) (tC (.int 0))))) (tRet (tC .non)) (tNext)) (tSeq (tAsg (tTup (tCons (tFld K (tVar 0) "degrees") (tCons (tFld K (tVar 0) "begin") (tNil)))) (gName 3)) (tSeq (tFor (iRng1 (tCons (tFld K (tVar 0) "size") (tNil))) (gName 4) (tSeq (tAsg (tOp (rI0 fun i j => .int (i + j)) (tFld K (tVar 0) "begin") (tVar 4)) (gName 5)) (tSeq (tIfS (tAnd (tTest (tOp rNotN (tVar 1) (tC .non))) (tTest (tOp (rI0 fun i j => .bl (decide (j < i))) (tVar 5) (tVar 1)))) (tRet (tVar 3)) (tNext)) (tSeq (tIfS (tTest (tOp (rI0 fun i j => .bl (decide (j < i))) (tOp (rI CMul fun i j => .int (i * j)) (tFld K (tVar 0) "drift") (tVar 2)) (tC (.int 0)))) (tAug 5 (tOp (rI CMul fun i j => .int (i * j)) (tOp (rI CDivW fun i j => .int (i / j)) (tOp (rI0 fun i j => .int (i - j)) (tVar 1) (tVar 5)) (tFld K (tVar 0) "size")) (tFld K (tVar 0) "size")) (ipI fun i j => i + j)) (tNext)) (t_Run_extreme_c1 K A))))) (tRet (tVar 3))))
section
variable {K : PySem.W.Frag} {A : Ads}
theorem pure_Run_at (vs : List V) (H : Hp) (Q : VK) (E : XK) (h : sp_Run_at K A vs H Q E) : t_Run_at K A { nx := fun _ H' => Q .non H', rt := Q } (start ["self", "tick", "place"] vs) H := by
  obtain ⟨p, t, r, rfl, ⟨TR, ok, dx, s, h1, h2⟩, k⟩ := h
  have ol := ok.len
  have op := ok.pos
  have os := ok.sumB
  show t_Run_at K A _ [some (.ref p), some (.int t), none] H
  unfold t_Run_at
  walk_at "s"
  refine r_I (cdiv (by omega) (by omega)) ?_
  walk_at "s"
  refine r_I (cmulR (by omega)) ?_
  walk_at "s"
  refine r_I (show (0 : Int) < (r.steps.length : Int) by omega) ?_
  have m0 := Int.emod_nonneg (t - r.beg) (show (r.steps.length : Int) ≠ 0 by omega)
  have m1 := Int.emod_lt_of_pos (t - r.beg) (show (0 : Int) < (r.steps.length : Int) by omega)
  refine rix_h h2 (atI_of m0 (ints_at (sums_at r.steps (by omega)))) ?_
  walk_at "s"
  exact k
def sp_Run_init (K : PySem.W.Frag) (A : Ads) : Sp := fun vs H Q _ => ∃ (p dx st : Addr) (b d : Int) (on : Bool) (steps : List Int) (G : Hp) (mu : Mu), vs = [.ref p, .int b, .int d, .bl on, .ref st] ∧ RunC K A.cRun ∧ Hold G ((p, .ins A.cRun dx []) :: mu) H ∧ SqL K G st (steps.map V.int) ∧ steps.length ≤ 24 ∧
  ∀ (s : Addr) (G' H' : Hp), Ex G G' → G' s = some (.lst ((sums steps).map V.int)) → Hold G' ((p, .ins A.cRun dx (runF ⟨b, none, d, on, steps⟩ s)) :: mu) H' → Q .non H'
theorem pure_Run_init (vs : List V) (H : Hp) (Q : VK) (E : XK) (h : sp_Run_init K A vs H Q E) : t_Run_init K A { nx := fun _ H' => Q .non H', rt := Q } (start ["self", "begin", "degrees", "is_heating", "steps", "step"] vs) H := by
  obtain ⟨p, dx, st, b, d, on, steps, G, mu, rfl, TR, hh, hst, hl, k⟩ := h
  show t_Run_init K A _ [some (.ref p), some (.int b), some (.int d), some (.bl on), some (.ref st), none] H
  unfold t_Run_init
  walk_at "s"
  refine lst_m (by decide) (by assumption) fun s H1 hh => ?_
  walk_at "s"
  rename_i H2 hh2
  refine forL_by (hh2.lst hst) (fun i σ H => ∃ v : Option V, σ = [some (.ref p), some (.int b), some (.int d), some (.bl on), some (.ref st), v] ∧
    Hold G ((s, .lst (((sums steps).take (i + 1)).map V.int)) :: (p, .ins A.cRun dx ([("begin", .int b), ("end", .non), ("degrees", .int d), ("is_heating", .bl on), ("sums", .ref s)] : List (Str × V))) :: mu) H)
    ⟨none, rfl, ?_⟩ (fun i σ H _ ⟨_, _, hh⟩ => hh.lst hst) ?_ ?_
  · have e : (sums steps).take 1 = [0] := by
      unfold sums
      rw [List.range_succ_eq_map]
      rfl
    rw [show 0 + 1 = 1 from rfl, e]
    exact hh2
  · rintro i x σ H3 hi ⟨v, rfl, hh⟩
    obtain ⟨z, hz, rfl⟩ := ints_of hi
    have il := (List.getElem?_eq_some_iff.mp hz).1
    have hlen : ((sums steps).take (i + 1)).length = i + 1 := by rw [List.length_take, sums_len]; omega
    walk_at "s"
    refine rix_h (hh.get (i := 0) rfl) (last_at (ints_at (z := psum steps i) ?_)) ?_
    · rw [List.length_map, hlen, Nat.add_sub_cancel, List.getElem?_take_of_lt (by omega)]
      exact sums_at steps (by omega)
    walk_at "s"
    refine app_m hh 0 rfl (szl (by rw [List.length_map, hlen]; omega)) fun H4 hh4 => ?_
    walk_at "s"
    refine ⟨_, rfl, ?_⟩
    rw [take_one (sums_at steps (show i + 1 ≤ steps.length by omega)), psum_succ steps hz, List.map_append]
    exact hh4
  · rintro σ H3 ⟨v, rfl, hh⟩
    rw [List.length_map, show (sums steps).take (steps.length + 1) = sums steps by rw [← sums_len, List.take_length]] at hh
    walk_at "s"
    refine rix_h (by walk_at "at") (last_at (ints_at (z := steps.sum) ?_)) ?_
    · rw [List.length_map, sums_len, Nat.add_sub_cancel, sums_at steps (Nat.le_refl _), psum_all]
    walk_at "s"
    rename_i H5 hh5
    rw [List.length_map] at hh5
    exact k s _ _ hh5.frz_ex upd_same hh5.frz
theorem pure_Run_extreme (vs : List V) (H : Hp) (Q : VK) (E : XK) (h : sp_Run_extreme K A vs H Q E) : t_Run_extreme K A { nx := fun _ H' => Q .non H', rt := Q } (start ["self", "last", "sign", "best", "place", "tick", "degrees"] vs) H := by
  obtain ⟨p, last, sign, r, rfl, ir, hs, hb, kN, kS⟩ := h
  have ir' := ir
  obtain ⟨TR, ok, dx, s, h1, h2⟩ := ir'
  have ol := ok.len
  have op := ok.pos
  have os := ok.sumB
  have hh := Hold.start H
  show t_Run_extreme K A _ [some (.ref p), some (optI last), some (.int sign), none, none, none, none] H
  unfold t_Run_extreme
  have an : Ans (tTest (tOp (rI0 fun i j => .bl (decide (j < i))) (tOp (rI CMul fun i j => .int (i * j)) (tFld K (tVar 0) "drift") (tVar 2)) (tC (.int 0)))) [some (.ref p), some (optI last), some (.int sign), none, none, none, none] H (decide (0 < r.steps.sum * sign)) := fun Q q => by
    walk_at "s"
    refine r_I (cmulR (by omega)) ?_
    walk_at "s"
    exact q
  refine r_seq (ifA (ans_and2 (b1 := decide (optI last = .non)) (fun Q q => by walk_at "s"; exact q) an) (fun c1 => ?_) (fun c1 => ?_))
  · walk_at "s"
    rw [Bool.and_eq_true] at c1
    have e : last = none := by
      cases last with
      | none => rfl
      | some l => exact absurd (of_decide_eq_true c1.1) (by intro z; cases z)
    exact kN e (of_decide_eq_true c1.2)
  · have hn : last = none → ¬ 0 < r.steps.sum * sign := fun e z => by
      subst e
      rw [decide_eq_true z] at c1
      exact absurd c1 (by decide)
    have kS := kS hn
    walk_at "s"
    refine tup_n (by walk_at "sz") (by assumption) fun q0 H1 hq0 e0 hh1 => ?_
    walk_at "s"
    refine forR1_by (by omega) (by omega) (fun i σ H' => ∃ (v4 v5 v6 : Option V) (q : Addr) (d t : Int), σ = [some (.ref p), some (optI last), some (.int sign), some (.ref q), v4, v5, v6] ∧ Hold H [] H' ∧ H q = none ∧ H' q = some (.tup [.int d, .int t]) ∧ XT r last sign i d t)
      ⟨none, none, none, q0, r.deg, r.beg, rfl, hh1, hq0, e0, XT.start r ok hb⟩ ?_ ?_
    · rintro i σ H2 hi ⟨v4, v5, v6, q, d, t, rfl, hh2, hq, eq, xt⟩
      have hp : i < r.steps.length := by omega
      have an2 : ∀ (σ : L2.St) (H' : Hp), σ[0]? = some (some (.ref p)) → σ[2]? = some (some (.int sign)) → Hold H [] H' → Ans (tTest (tOp (rI0 fun i j => .bl (decide (j < i))) (tOp (rI CMul fun i j => .int (i * j)) (tFld K (tVar 0) "drift") (tVar 2)) (tC (.int 0)))) σ H' (decide (0 < r.steps.sum * sign)) := fun σ H' e0 e2 hh Q q => by
        refine r_test (r_op (r_op (r_fld (r_var e0 ?_))))
        walk_at "s"
        refine r_var e2 ?_
        refine r_I (cmulR (by omega)) ?_
        walk_at "s"
        exact q
      have fin : ∀ (H3 : Hp) (x : Int), Hold H [] H3 → H3 q = some (.tup [.int d, .int t]) → XIn r last (r.beg + i) → x = xTick r last sign i →
          t_Run_extreme_c1 K A
          { nx := fun σ H' => ∃ (v4 v5 v6 : Option V) (q : Addr) (d t : Int), σ = [some (.ref p), some (optI last), some (.int sign), some (.ref q), v4, v5, v6] ∧ Hold H [] H' ∧ H q = none ∧ H' q = some (.tup [.int d, .int t]) ∧ XT r last sign (i + 1) d t,
            ct := fun σ H' => ∃ (v4 v5 v6 : Option V) (q : Addr) (d t : Int), σ = [some (.ref p), some (optI last), some (.int sign), some (.ref q), v4, v5, v6] ∧ Hold H [] H' ∧ H q = none ∧ H' q = some (.tup [.int d, .int t]) ∧ XT r last sign (i + 1) d t,
            bk := fun σ H' => tRet (tVar 3) { nx := fun _ H' => Q .non H', rt := Q } σ H', rt := Q } [some (.ref p), some (optI last), some (.int sign), some (.ref q), some (.int (i : Int)), some (.int x), v6] H3 := by
        intro H3 x hh3 eq3 hin hx
        have st := XT.step ok hs hn hp hin xt
        rw [← hx] at st
        unfold t_Run_extreme_c1
        walk_at "s"
        refine ⟨p, x, r, rfl, ir.up hh3.ex, ?_⟩
        walk_at "t"
        generalize hy : r.at_ x = y at st
        refine ifA (b := decide (d * sign < y * sign) || (decide (y = d) && decide (x < t))) (ans_or2 (fun Q q => ?_) (ans_and2 (fun Q q => ?_) (fun Q q => ?_))) (fun c => ?_) (fun c => ?_)
        · walk_at "s"
          refine r_I (cmulR (by omega)) ?_
          walk_at "s"
          refine r_I (cmulR (by omega)) ?_
          walk_at "s"
          exact q
        · walk_at "s"
          exact q
        · walk_at "s"
          exact q
        · rw [Bool.or_eq_true, Bool.and_eq_true, decide_eq_true_eq, decide_eq_true_eq, decide_eq_true_eq] at c
          rw [if_pos c] at st
          walk_at "s"
          refine tup_n (by walk_at "sz") (by assumption) fun q4 H4 hq4 e4 hh4 => ?_
          walk_at "s"
          exact ⟨_, _, _, q4, _, _, rfl, hh4, hq4, e4, st⟩
        · have c' : ¬ (d * sign < y * sign ∨ y = d ∧ x < t) := fun z => by
            rw [← decide_eq_true_eq (p := d * sign < y * sign), ← decide_eq_true_eq (p := y = d), ← decide_eq_true_eq (p := x < t), ← Bool.and_eq_true, ← Bool.or_eq_true, c] at z
            cases z
          rw [if_neg c'] at st
          walk_at "s"
          exact ⟨_, _, _, q, _, _, rfl, hh3, hq, eq3, st⟩
      cases last with
      | none =>
        walk_at "t"
        refine r_ifS ?_
        walk_at "t"
        refine r_iteF ?_
        walk_at "t"
        refine ifA (an2 _ _ rfl rfl hh2) (fun c => absurd (of_decide_eq_true c) (hn rfl)) (fun c => ?_)
        refine r_next ?_
        refine fin H2 _ hh2 eq ⟨by omega, fun l h => by cases h⟩ ?_
        unfold xTick
        rw [if_neg (of_decide_eq_false c)]
      | some l =>
        have eo : optI (some l) = .int l := rfl
        rw [eo]
        walk_at "t"
        refine r_ifS ?_
        walk_at "t"
        refine r_iteT ?_
        walk_at "t"
        refine r_ite (fun c => ?_) (fun c => ?_)
        · -- past the last tick: all places are done
          have c2 : l < r.beg + i := of_decide_eq_true c
          walk_at "t"
          refine kS d t q H2 ⟨xt.inn, xt.at_, fun u hu hlt => xt.best u hu ?_⟩ hh2.ex hq eq
          obtain ⟨eu, u0, u1⟩ := pk_of r ok u
          have hul := hu.2 l rfl
          have k0 : 0 ≤ (u - r.beg) / (r.steps.length : Int) * r.steps.length := Int.mul_nonneg (Int.ediv_nonneg (by have := hu.1; omega) (by omega)) (by omega)
          omega
        · have c2 : ¬ l < r.beg + i := of_decide_eq_false c
          have hin : XIn r (some l) (r.beg + i) := ⟨by omega, fun l' h => by cases h; omega⟩
          walk_at "t"
          refine ifA (an2 _ _ rfl rfl hh2) (fun c3 => ?_) (fun c3 => ?_)
          · walk_at "t"
            refine r_I (cdiv (by omega) (by omega)) ?_
            walk_at "t"
            refine r_I (cmulR (by omega)) ?_
            walk_at "t"
            refine fin H2 _ hh2 eq hin ?_
            unfold xTick
            rw [if_pos (of_decide_eq_true c3)]
          · refine r_next ?_
            refine fin H2 _ hh2 eq hin ?_
            unfold xTick
            rw [if_neg (of_decide_eq_false c3)]
    · rintro σ H2 ⟨v4, v5, v6, q, d, t, rfl, hh2, hq, eq, xt⟩
      rw [Int.toNat_natCast] at xt
      walk_at "s"
      exact kS d t q H2 xt hh2.ex hq eq
end
end Wm
end

section
/-! ## What runs mean -/
namespace Wm
open PySem
def Beyond (r : RunD) (bound sign u : Int) : Prop := bound * sign < r.at_ u * sign
/-- one tick further -/
theorem at_succ (r : RunD) (ok : RunOk r) (u : Int) : ∃ x, r.steps[((u - r.beg) % r.steps.length).toNat]? = some x ∧ r.at_ (u + 1) = r.at_ u + x := by
  have op := ok.pos
  obtain ⟨eu, u0, u1⟩ := pk_of r ok u
  generalize hq : (u - r.beg) % (r.steps.length : Int) = q at *
  generalize hk : (u - r.beg) / (r.steps.length : Int) = k at *
  obtain ⟨x, hx⟩ := get_some (l := r.steps) (i := q.toNat) (by omega)
  refine ⟨x, hx, ?_⟩
  have a0 := at_pk r ok (p := q) (k := k) u0 u1
  rw [← eu] at a0
  rw [a0]
  by_cases hl : q + 1 < r.steps.length
  · have a1 := at_pk r ok (p := q + 1) (k := k) (by omega) hl
    have e1 : r.beg + (q + 1) + k * r.steps.length = u + 1 := by omega
    rw [e1] at a1
    rw [a1, show (q + 1).toNat = q.toNat + 1 by omega, psum_succ r.steps hx]
    omega
  · have a1 := at_pk r ok (p := 0) (k := k + 1) (Int.le_refl 0) (by omega)
    have e1 : r.beg + 0 + (k + 1) * r.steps.length = u + 1 := by
      rw [Int.add_mul, Int.one_mul]
      omega
    rw [e1] at a1
    have hs := psum_succ r.steps hx
    rw [show q.toNat + 1 = r.steps.length by omega, psum_all] at hs
    have e0 : psum r.steps (0 : Int).toNat = 0 := by simp [psum]
    rw [a1, e0, Int.add_mul, Int.one_mul]
    omega
end Wm
end

section
/-! ## Histories: chains of runs, their bounds, and that they end -/
namespace Wm
open PySem
structure Par where
  ch : List Int
  gain : Int
  lo : Int
  hi : Int
  start : Int
  was : Bool
structure ParOk (P : Par) : Prop where
  pos : 0 < P.ch.length
  len : P.ch.length ≤ 24
  chB : ∀ x ∈ P.ch, -100 ≤ x ∧ x ≤ 100
  g1 : 1 ≤ P.gain
  g2 : P.gain ≤ 200
  lh : P.lo ≤ P.hi
  lo1 : -(10 ^ 12) ≤ P.lo
  hi1 : P.hi ≤ 10 ^ 12
  s1 : -(10 ^ 12) ≤ P.start
  s2 : P.start ≤ 10 ^ 12
def Par.dec (P : Par) (d : Int) (b : Bool) : Bool := if d < P.lo then true else (b && decide (d ≤ P.hi))
structure S3 where
  t : Int
  d : Int
  on : Bool
def Par.heat (P : Par) (on : Bool) : Int := if on = true then P.gain else 0
def phase (P : Par) (t : Int) : Nat := (t % P.ch.length).toNat
def stepsOf (P : Par) (t : Int) (on : Bool) : List Int := (P.ch.drop (phase P t) ++ P.ch.take (phase P t)).map (· + P.heat on)
def runFrom (P : Par) (s : S3) (e : Option Int) : RunD := ⟨s.t, e, s.d, s.on, stepsOf P s.t s.on⟩
def bnd (P : Par) (on : Bool) : Int := if on = true then P.hi else P.lo
def sgn (on : Bool) : Int := if on = true then 1 else -1
def nextS (P : Par) (s : S3) (e : Int) : S3 := ⟨e, (runFrom P s none).at_ e, !s.on⟩
def start3 (P : Par) : S3 := ⟨0, P.start, P.dec P.start P.was⟩
inductive Chn (P : Par) : List RunD → S3 → Prop
  | nil : Chn P [] (start3 P)
  | snoc {rs : List RunD} {s : S3} {e : Int} : Chn P rs s → FB (runFrom P s none) (bnd P s.on) (sgn s.on) (some e) → Chn P (rs ++ [runFrom P s (some e)]) (nextS P s e)
def keyS (P : Par) (s : S3) : Int × Int × Bool := (s.t % P.ch.length, s.d, s.on)
def keyR (P : Par) (r : RunD) : Int × Int × Bool := (r.beg % P.ch.length, r.deg, r.on)
theorem phase_lt {P : Par} (ok : ParOk P) (t : Int) : phase P t < P.ch.length := by
  have := ok.pos
  have := Int.emod_nonneg t (show (P.ch.length : Int) ≠ 0 by omega)
  have := Int.emod_lt_of_pos t (show (0 : Int) < P.ch.length by omega)
  unfold phase
  omega
theorem phase_cast {P : Par} (ok : ParOk P) (t : Int) : ((phase P t : Nat) : Int) = t % P.ch.length := by
  have := ok.pos
  have := Int.emod_nonneg t (show (P.ch.length : Int) ≠ 0 by omega)
  unfold phase
  omega
theorem steps_len {P : Par} (ok : ParOk P) (t : Int) (on : Bool) : (stepsOf P t on).length = P.ch.length := by
  have := phase_lt ok t
  unfold stepsOf
  simp only [List.length_map, List.length_append, List.length_drop, List.length_take]
  omega
theorem heat_ge {P : Par} (ok : ParOk P) (on : Bool) : 0 ≤ P.heat on ∧ P.heat on ≤ 200 := by
  have := ok.g1
  have := ok.g2
  unfold Par.heat
  split <;> omega
theorem steps_mem {P : Par} (ok : ParOk P) {t : Int} {on : Bool} {x : Int} (h : x ∈ stepsOf P t on) : -100 + P.heat on ≤ x ∧ x ≤ 100 + P.heat on := by
  unfold stepsOf at h
  obtain ⟨y, hy, rfl⟩ := List.mem_map.mp h
  have hm : y ∈ P.ch := by
    rcases List.mem_append.mp hy with h | h
    · exact List.mem_of_mem_drop h
    · exact List.mem_of_mem_take h
  have := ok.chB y hm
  omega
theorem run_ok {P : Par} (ok : ParOk P) (s : S3) (e : Option Int) : RunOk (runFrom P s e) := by
  have hl : (runFrom P s e).steps.length = P.ch.length := steps_len ok _ _
  have h0 := ok.pos
  have h1 := ok.len
  have hg := heat_ge ok s.on
  refine ⟨by omega, by omega, fun x hx => ?_, fun x hx => ?_⟩
  · have := steps_mem ok (t := s.t) (on := s.on) hx; omega
  · have := steps_mem ok (t := s.t) (on := s.on) hx; omega
/-- what holds of each state at which a run begins -/
structure StOk (P : Par) (n : Nat) (s : S3) : Prop where
  t0 : 0 ≤ s.t
  t1 : s.t ≤ n * 10 ^ 14
  d0 : -(10 ^ 12) - 100 ≤ s.d
  d1 : s.d ≤ 10 ^ 12 + 300
  on_ : s.on = true → s.d ≤ P.hi
  off : s.on = false → P.lo ≤ s.d
  onI : 0 < n → s.on = true → P.lo - 100 ≤ s.d ∧ s.d < P.lo
  offI : 0 < n → s.on = false → P.hi < s.d ∧ s.d ≤ P.hi + 300
/-- a number of a key below 9,601: 0 for the first one -/
def codeK (P : Par) (k : Int × Int × Bool) : Nat := (k.1 * 400 + (if k.2.2 = true then k.2.1 - (P.lo - 100) else k.2.1 - (P.hi + 1) + 100)).toNat
/-- a whole history -/
structure HistOk (P : Par) (rs : List RunD) (loop : Option Int) : Prop where
  par : ParOk P
  nd : (rs.map (keyR P)).Nodup
  shape : (loop = none ∧ ∃ rs0 s, Chn P rs0 s ∧ rs = rs0 ++ [runFrom P s none] ∧ FB (runFrom P s none) (bnd P s.on) (sgn s.on) none) ∨
    (∃ (j : Nat) (r : RunD) (s : S3), loop = some (j : Int) ∧ Chn P rs s ∧ rs[j]? = some r ∧ keyR P r = keyS P s)
end Wm
end

section
/-! ## More rules -/
namespace Wm
open PySem PySem.Spec PyProof.Rows L2 StX
section
variable {K : PySem.W.Frag} {G H : Hp} {mu : Mu} {Q : VK} {xs ys : List V} {a b : Addr} {σ : L2.St} {D : Ends}
theorem r_yes {QT : Bool → Hp → Prop} (k : QT true H) : tYes σ H QT := k
theorem r_par2 {i j : Nat} {tr : TA} (k : tr σ H fun vs H1 => ∃ v w, vs = [v, w] ∧ D.nx ((σ.set i (some v)).set j (some w)) H1) : tPar i j tr D σ H := k
def rSeenPut (P : Program) (w : World) (D : Ends) (σ : L2.St) (z x y : V) (H3 : Hp) : Prop := ∃ (a t : Addr) (ks : List (K3 × Addr)) (k : K3), z = .int (ks.length : Int) ∧ x = .ref a ∧ y = .ref t ∧ H3 a = some (SeenO P w a ks) ∧ H3 t = some (.tup (tv3 k)) ∧
  (∀ q ∈ ks, H3 q.2 = some (.tup (tv3 q.1))) ∧ k ∉ ks.map (·.1) ∧ ks.length < sizeLine ∧ D.nx σ (upd H3 a (SeenO P w a (ks ++ [(k, t)])))
theorem cut_from (xs : List V) {i : Int} {n : Nat} (h : i = (n : Int)) (hn : n ≤ xs.length) : cutV xs (some i) none = xs.drop n := by
  subst h
  unfold cutV
  rw [HT.sIx_nat, HT.sIx_none, Nat.min_eq_left hn]
  exact List.take_of_length_le (by simp)
theorem cut_to (xs : List V) {i : Int} {n : Nat} (h : i = (n : Int)) (hn : n ≤ xs.length) : cutV xs none (some i) = xs.take n := by
  subst h
  unfold cutV
  rw [HT.sIx_nat, HT.sIx_none, Nat.min_eq_left hn]
  simp
end
end Wm
end

section
local macro_rules | `(tactic| walk_at "cls") => `(tactic| first | (with_reducible exact Wm.WeatherC.cl (by assumption)) | (with_reducible exact Wm.HeaterC.cl (by assumption)) | (with_reducible exact Wm.RoomC.cl (by assumption)) | (with_reducible exact Wm.RunC.cl (by assumption)) | (with_reducible exact Wm.HistoryC.cl (by assumption)) | (with_reducible exact Wm.ThresholdObserverC.cl (by assumption)) | (with_reducible exact Wm.SettingC.cl (by assumption)) | (with_reducible exact Wm.HourSettingC.cl (by assumption)) | (with_reducible exact Wm.RestSettingC.cl (by assumption)) | (with_reducible exact Wm.PricesC.cl (by assumption)) | (with_reducible exact Wm.MomentC.cl (by assumption)) | (with_reducible exact Wm.LiveRoomC.cl (by assumption)) | (with_reducible exact Wm.AttemptC.cl (by assumption)))
local macro_rules | `(tactic| walk_at "noattr") => `(tactic| first | (with_reducible exact Wm.WeatherC.n_pattern (by assumption)) | (with_reducible exact Wm.HeaterC.n_power (by assumption)) | (with_reducible exact Wm.HeaterC.n_below (by assumption)) | (with_reducible exact Wm.HeaterC.n_above (by assumption)) | (with_reducible exact Wm.RoomC.n_outside (by assumption)) | (with_reducible exact Wm.RoomC.n_inside (by assumption)) | (with_reducible exact Wm.RoomC.n_begin_degrees (by assumption)) | (with_reducible exact Wm.RoomC.n_past (by assumption)) | (with_reducible exact Wm.RoomC.n_repeated (by assumption)) | (with_reducible exact Wm.RoomC.n_share (by assumption)) | (with_reducible exact Wm.RoomC.n_coldest (by assumption)) | (with_reducible exact Wm.RoomC.n_warmest (by assumption)) | (with_reducible exact Wm.RunC.n_begin (by assumption)) | (with_reducible exact Wm.RunC.n_end (by assumption)) | (with_reducible exact Wm.RunC.n_degrees (by assumption)) | (with_reducible exact Wm.RunC.n_is_heating (by assumption)) | (with_reducible exact Wm.RunC.n_sums (by assumption)) | (with_reducible exact Wm.RunC.n_size (by assumption)) | (with_reducible exact Wm.RunC.n_drift (by assumption)) | (with_reducible exact Wm.HistoryC.n_shifts (by assumption)) | (with_reducible exact Wm.HistoryC.n_added (by assumption)) | (with_reducible exact Wm.HistoryC.n_floor (by assumption)) | (with_reducible exact Wm.HistoryC.n_ceiling (by assumption)) | (with_reducible exact Wm.HistoryC.n_was_heating (by assumption)) | (with_reducible exact Wm.HistoryC.n_runs (by assumption)) | (with_reducible exact Wm.HistoryC.n_loop (by assumption)) | (with_reducible exact Wm.ThresholdObserverC.n_outside (by assumption)) | (with_reducible exact Wm.ThresholdObserverC.n_power (by assumption)) | (with_reducible exact Wm.ThresholdObserverC.n_tick (by assumption)) | (with_reducible exact Wm.ThresholdObserverC.n_degrees (by assumption)) | (with_reducible exact Wm.ThresholdObserverC.n_is_heating (by assumption)) | (with_reducible exact Wm.ThresholdObserverC.n_lows (by assumption)) | (with_reducible exact Wm.ThresholdObserverC.n_highs (by assumption)) | (with_reducible exact Wm.ThresholdObserverC.n_noted (by assumption)) | (with_reducible exact Wm.SettingC.n_least (by assumption)) | (with_reducible exact Wm.SettingC.n_most (by assumption)) | (with_reducible exact Wm.HourSettingC.n_least (by assumption)) | (with_reducible exact Wm.HourSettingC.n_most (by assumption)) | (with_reducible exact Wm.HourSettingC.n_length (by assumption)) | (with_reducible exact Wm.HourSettingC.n_hours (by assumption)) | (with_reducible exact Wm.RestSettingC.n_least (by assumption)) | (with_reducible exact Wm.RestSettingC.n_most (by assumption)) | (with_reducible exact Wm.RestSettingC.n_rest (by assumption)) | (with_reducible exact Wm.PricesC.n_table (by assumption)) | (with_reducible exact Wm.MomentC.n_tick (by assumption)) | (with_reducible exact Wm.MomentC.n_heat (by assumption)) | (with_reducible exact Wm.MomentC.n_on (by assumption)) | (with_reducible exact Wm.MomentC.n_burnt (by assumption)) | (with_reducible exact Wm.MomentC.n_sky (by assumption)) | (with_reducible exact Wm.MomentC.n_stove (by assumption)) | (with_reducible exact Wm.LiveRoomC.n_moment (by assumption)) | (with_reducible exact Wm.LiveRoomC.n_earlier (by assumption)) | (with_reducible exact Wm.LiveRoomC.n_done (by assumption)) | (with_reducible exact Wm.AttemptC.n_live (by assumption)) | (with_reducible exact Wm.AttemptC.n_kept (by assumption)) | (with_reducible exact Wm.AttemptC.n_stack (by assumption)) | (with_reducible exact Wm.AttemptC.n_steps (by assumption)))
local macro_rules | `(tactic| walk_at "at") => `(tactic| first | assumption | exact Wm.Hold.rd (by assumption) (by assumption) | exact Wm.Hold.get (i := 0) (by assumption) rfl | exact Wm.Hold.get (i := 1) (by assumption) rfl | exact Wm.Hold.get (i := 2) (by assumption) rfl | exact Wm.Hold.get (i := 3) (by assumption) rfl | exact Wm.Hold.get (i := 4) (by assumption) rfl)
local macro_rules | `(tactic| walk_at "s1") => `(tactic| first
  | (with_reducible refine Wm.r_seq ?_)
  | (with_reducible refine Wm.r_op ?_)
  | ((with_reducible refine' Wm.r_var ?h ?_); (case h => rfl))
  | (with_reducible refine Wm.r_c ?_)
  | (with_reducible refine Wm.r_I0 ?_)
  | (with_reducible refine Wm.r_cons ?_)
  | (with_reducible refine Wm.r_nil ?_)
  | (with_reducible refine Wm.r_asg ?_)
  | (with_reducible refine Wm.r_gname ?_; try simp only [List.set_cons_zero, List.set_cons_succ])
  | (with_reducible refine Wm.r_nx ?_)
  | (with_reducible refine Wm.r_rt ?_)
  | (with_reducible refine Wm.r_ret ?_)
  | (with_reducible refine Wm.r_test ?_)
  | (with_reducible refine Wm.r_bl ?_)
  | (with_reducible refine Wm.r_B ?_)
  | (with_reducible refine Wm.r_eqI ?_)
  | (with_reducible refine Wm.r_neI ?_)
  | (with_reducible refine Wm.r_eqB ?_)
  | (with_reducible refine Wm.r_neB ?_)
  | (with_reducible refine Wm.r_fld ?_)
  | (with_reducible refine Wm.r_call ?_)
  | (with_reducible refine Wm.r_mtd ?_)
  | (with_reducible refine Wm.r_prp ?_)
  | (with_reducible refine Wm.r_mak ?_)
  | (with_reducible refine Wm.r_cb ?_)
  | (with_reducible refine Wm.r_tup ?_)
  | (with_reducible refine Wm.r_lst ?_)
  | (with_reducible refine Wm.r_chain ?_)
  | (with_reducible refine Wm.r_and ?_)
  | (with_reducible refine Wm.r_or ?_)
  | (with_reducible refine Wm.r_not ?_)
  | (with_reducible refine Wm.r_andV ?_)
  | (with_reducible refine Wm.r_orV ?_)
  | (with_reducible refine Wm.r_notV ?_)
  | (with_reducible refine Wm.r_if ?_)
  | (with_reducible refine Wm.r_un ?_)
  | (with_reducible refine Wm.r_U ?_)
  | (with_reducible refine Wm.r_iteT ?_)
  | (with_reducible refine Wm.r_iteF ?_)
  | (with_reducible refine Wm.r_next ?_)
  | (with_reducible refine Wm.r_drop ?_)
  | (with_reducible refine Wm.r_retN ?_)
  | ((with_reducible refine' Wm.r_aug ?h ?_); (case h => rfl))
  | (with_reducible refine Wm.r_ipI ?_)
  | (with_reducible refine Wm.r_par2 ?_)
  | (with_reducible refine Wm.r_two ?_; try simp only [List.set_cons_zero, List.set_cons_succ])
  | (with_reducible refine Wm.r_yes ?_)
  | (with_reducible refine Wm.r_par3 ?_)
  | (with_reducible refine Wm.r_seenPut ?_)
  | (with_reducible refine Wm.r_seenGet ?_)
  | (with_reducible refine Wm.r_three ?_; try simp only [List.set_cons_zero, List.set_cons_succ])
  | (with_reducible refine Wm.r_sl ?_)
  | (with_reducible refine Wm.r_nopart ?_)
  | (with_reducible refine Wm.r_part ?_)
  | (with_reducible refine Wm.r_xi ?_)
  | (with_reducible refine Wm.r_gcons ?_)
  | (with_reducible refine Wm.r_gnil ?_)
  | (with_reducible refine Wm.r_sub ?_)
  | (with_reducible refine Wm.r_setF ?_)
  | (with_reducible refine Wm.r_app ?_)
  | (with_reducible refine Wm.int_i ?_)
  | (with_reducible refine Wm.int_b ?_)
  | (with_reducible refine Wm.min2 ?_)
  | (with_reducible refine Wm.max2 ?_)
  | (with_reducible refine Wm.abs1 ?_)
  | (with_reducible refine Wm.isN ?_)
  | (with_reducible refine Wm.notN ?_)
  | ((with_reducible refine' Wm.r_ty ?e ?_); (case e => walk_at "at"))
  | ((with_reducible refine' Wm.setF_m ?h 0 ?e ?c ?a ?l ?_); (case h => assumption); (case e => rfl); (case c => walk_at "cls"); (case a => walk_at "noattr"); (case l => exact of_decide_eq_true rfl); intro H1 hh1; simp only [List.set_cons_zero, List.set_cons_succ] at hh1)
  | ((with_reducible refine' Wm.setF_m ?h 1 ?e ?c ?a ?l ?_); (case h => assumption); (case e => rfl); (case c => walk_at "cls"); (case a => walk_at "noattr"); (case l => exact of_decide_eq_true rfl); intro H1 hh1; simp only [List.set_cons_zero, List.set_cons_succ] at hh1)
  | ((with_reducible refine' Wm.setF_m ?h 2 ?e ?c ?a ?l ?_); (case h => assumption); (case e => rfl); (case c => walk_at "cls"); (case a => walk_at "noattr"); (case l => exact of_decide_eq_true rfl); intro H1 hh1; simp only [List.set_cons_zero, List.set_cons_succ] at hh1)
  | ((with_reducible refine' Wm.setF_m ?h 3 ?e ?c ?a ?l ?_); (case h => assumption); (case e => rfl); (case c => walk_at "cls"); (case a => walk_at "noattr"); (case l => exact of_decide_eq_true rfl); intro H1 hh1; simp only [List.set_cons_zero, List.set_cons_succ] at hh1)
  | (with_reducible refine Wm.r_forL ?_)
  | (with_reducible refine Wm.r_forT ?_)
  | (with_reducible refine Wm.r_forR1 ?_)
  | (with_reducible refine Wm.r_forR2 ?_)
  | (with_reducible refine Wm.r_lcL ?_)
  | (with_reducible refine Wm.r_lcT ?_)
  | (with_reducible refine Wm.r_lcR1 ?_)
  | (with_reducible refine Wm.r_lcR2 ?_)
  | ((with_reducible refine' Wm.fld_h ?e ?c ?n ?l ?_); (case e => walk_at "at"); (case c => walk_at "cls"); (case n => walk_at "noattr"); (case l => rfl))
  | ((with_reducible refine' Wm.mtd_h ?e ?l ?_); (case e => walk_at "at"); (case l => rfl))
  | ((with_reducible refine' Wm.prp_h ?e ?_); (case e => walk_at "at"))
  | ((with_reducible refine' Wm.rix_ht ?a ?b ?_); (case a => walk_at "at"); (case b => rfl))
  | ((with_reducible refine' Wm.rix_h ?a ?b ?_); (case a => walk_at "at"); (case b => rfl))
  | ((with_reducible refine' Wm.len_ht ?a ?_); (case a => walk_at "at"))
  | ((with_reducible refine' Wm.len_h ?a ?_); (case a => walk_at "at"))
  | ((with_reducible refine' Wm.len_l ?a ?b ?_); (case a => assumption); (case b => assumption))
  | ((with_reducible refine' Wm.len_t ?a ?b ?_); (case a => assumption); (case b => assumption))
  | ((with_reducible refine' Wm.gtup_h ?a ?b ?_); (case a => walk_at "at"); (case b => rfl))
  | (with_reducible refine Wm.r_I (Wm.cmulR (by decide)) ?_)
  | (with_reducible refine Wm.r_I (Wm.cmulL (by decide)) ?_)
  | (with_reducible refine Wm.r_I (Wm.cdiv (by decide) (by decide)) ?_)
  | (with_reducible refine Wm.r_I Wm.cpow18 ?_)
  | (with_reducible refine Wm.r_I Wm.cpow12 ?_)
  | (with_reducible refine Wm.r_I (by show (0 : Int) < _; decide) ?_))
local macro_rules | `(tactic| walk_at "s") => `(tactic| repeat (first | walk_at "s1" | (with_reducible refine Wm.r_ifS ?_)))
local macro_rules | `(tactic| walk_at "t") => `(tactic| repeat (walk_at "s1"))
local macro_rules | `(tactic| walk_at "sz") => `(tactic| exact of_decide_eq_true rfl)
namespace Wm
open PySem PySem.Spec PyProof.Rows L2 StX
/-! ## Histories: the object and its methods -/
def histF (P : Par) (sh ru : Addr) (loop : Option Int) : List (Str × V) := [("shifts", .ref sh), ("added", .int P.gain), ("floor", .int P.lo), ("ceiling", .int P.hi), ("was_heating", .bl P.was), ("runs", .ref ru), ("loop", optI loop)]
structure RunsAt (K : PySem.W.Frag) (A : Ads) (H : Hp) (ras : List Addr) (rs : List RunD) : Prop where
  len : ras.length = rs.length
  at_ : ∀ (i : Nat) (a : Addr) (r : RunD), ras[i]? = some a → rs[i]? = some r → IsRun K A H a r
def IsHist (K : PySem.W.Frag) (A : Ads) (H : Hp) (p : Addr) (P : Par) (rs : List RunD) (loop : Option Int) : Prop :=
  HistoryC K A.cHistory ∧ RunC K A.cRun ∧ HistOk P rs loop ∧ ∃ dx sh ru ras, H p = some (.ins A.cHistory dx (histF P sh ru loop)) ∧ H sh = some (.tup (P.ch.map V.int)) ∧ H ru = some (.lst (ras.map V.ref)) ∧ RunsAt K A H ras rs
def sp_History_decide (K : PySem.W.Frag) (A : Ads) : Sp := fun vs H Q _ => ∃ (p dx sh ru : Addr) (d : Int) (b : Bool) (P : Par) (loop : Option Int), vs = [.ref p, .int d, .bl b] ∧ HistoryC K A.cHistory ∧ H p = some (.ins A.cHistory dx (histF P sh ru loop)) ∧ Q (.bl (P.dec d b)) H
def sp_History_find_runs (K : PySem.W.Frag) (A : Ads) : Sp := fun vs H Q _ => ∃ (p dx sh ru : Addr) (P : Par) (G : Hp) (mu : Mu), vs = [.ref p, .int P.start, .bl P.was] ∧ HistoryC K A.cHistory ∧ RunC K A.cRun ∧ ParOk P ∧
  Hold G ((ru, .lst []) :: (p, .ins A.cHistory dx (histF P sh ru none)) :: mu) H ∧ G sh = some (.tup (P.ch.map V.int)) ∧
  ∀ (rs : List RunD) (loop : Option Int) (G' H' : Hp), Ex G G' → IsHist K A G' p P rs loop → Hold G' mu H' → Q .non H'
def sp_History_init (K : PySem.W.Frag) (A : Ads) : Sp := fun vs H Q _ => ∃ (p dx sh : Addr) (P : Par) (G : Hp) (mu : Mu), vs = [.ref p, .ref sh, .int P.gain, .int P.lo, .int P.hi, .int P.start, .bl P.was] ∧ HistoryC K A.cHistory ∧ RunC K A.cRun ∧ ParOk P ∧
  Hold G ((p, .ins A.cHistory dx []) :: mu) H ∧ G sh = some (.tup (P.ch.map V.int)) ∧
  ∀ (rs : List RunD) (loop : Option Int) (G' H' : Hp), Ex G G' → IsHist K A G' p P rs loop → Hold G' mu H' → Q .non H'
def t_History_init (K : PySem.W.Frag) (A : Ads) : TS := tSeq (sFld K (tVar 0) (tVar 1) "shifts") (tSeq (sFld K (tVar 0) (tVar 2) "added") (tSeq (sFld K (tVar 0) (tVar 3) "floor") (tSeq (sFld K (tVar 0) (tVar 4) "ceiling") (tSeq (sFld K (tVar 0) (tVar 6) "was_heating") (tSeq (sFld K (tVar 0) (tLst (tNil)) "runs") (tSeq (sFld K (tVar 0) (tC .non) "loop") (tDrop (tMtd A.cHistory "find_runs" (sp_History_find_runs K A) E0 (tVar 0) (tCons (tVar 5) (tCons (tVar 6) (tNil)))))))))))
def t_History_decide (K : PySem.W.Frag) (A : Ads) : TS := tSeq (tIfS (tTest (tOp (rI0 fun i j => .bl (decide (i < j))) (tVar 1) (tFld K (tVar 0) "floor"))) (tRet (tC (.bl true))) (tNext)) (tRet (tAndV (tVar 2) (tOp (rI0 fun i j => .bl (decide (i ≤ j))) (tVar 1) (tFld K (tVar 0) "ceiling"))))
def t_History_find_runs (K : PySem.W.Frag) (A : Ads) : TS := tSeq (tPar3 3 4 5 (tCons (tC (.int 0)) (tCons (tSeenNew A.P A.w) (tCons (tC (.bl true)) (tNil))))) (tSeq (tAsg (tMtd A.cHistory "decide" (sp_History_decide K A) E0 (tVar 0) (tCons (tVar 1) (tCons (tVar 2) (tNil)))) (gName 2)) (tWhile (tB (tVar 5)) (tSeq (tAsg (tOp (rI (fun _ j => 0 < j) fun i j => .int (i % j)) (tCB rInt (tCons (tVar 3) (tNil))) (tCB (rLen K) (tCons (tFld K (tVar 0) "shifts") (tNil)))) (gName 6)) (tSeq (tAsg (tTup (tCons (tVar 6) (tCons (tVar 1) (tCons (tVar 2) (tNil))))) (gName 7)) (tIfS (tTest (tOp (rSeenIn A.P A.w) (tVar 7) (tVar 4))) (tSeq (sFld K (tVar 0) (tSeenGet A.P A.w (tVar 4) (tVar 7)) "loop") (tAsg (tC (.bl false)) (gName 5))) (tSeq (sSeenPut A.P A.w (tVar 4) (tVar 7) (tCB (rLen K) (tCons (tFld K (tVar 0) "runs") (tNil)))) (tSeq (tAsg (tIf (tB (tVar 2)) (tFld K (tVar 0) "added") (tC (.int 0))) (gName 8)) (tSeq (tAsg (tOp (rCatA K) (tSl (rSlA K) (tFld K (tVar 0) "shifts") (tPart (tVar 6)) (tNoPart)) (tSl (rSlA K) (tFld K (tVar 0) "shifts") (tNoPart) (tPart (tVar 6)))) (gName 9)) (tSeq (tAsg (tMak A.cRun (sp_Run_init K A) E0 (tCons (tVar 3) (tCons (tVar 1) (tCons (tVar 2) (tCons (tLc (iTup K (tVar 9)) (gName 11) (tYes) (tOp (rI0 fun i j => .int (i + j)) (tVar 11) (tVar 8)) [11]) (tNil)))))) (gName 10)) (tSeq (sFld K (tVar 10) (tIf (tB (tVar 2)) (tMtd A.cRun "first_beyond" (sp_Run_first_beyond K A) E0 (tVar 10) (tCons (tFld K (tVar 0) "ceiling") (tCons (tC (.int 1)) (tNil)))) (tMtd A.cRun "first_beyond" (sp_Run_first_beyond K A) E0 (tVar 10) (tCons (tFld K (tVar 0) "floor") (tCons (tUn (rU fun i => .int (-i)) (tC (.int 1))) (tNil))))) "end") (tSeq (tDrop (tBM K "list" rAppend (tFld K (tVar 0) "runs") (tCons (tVar 10) (tNil)))) (tIfS (tTest (tOp rIsN (tFld K (tVar 10) "end") (tC .non))) (tAsg (tC (.bl false)) (gName 5)) (tPar3 3 1 2 (tCons (tFld K (tVar 10) "end") (tCons (tMtd A.cRun "at" (sp_Run_at K A) E0 (tVar 10) (tCons (tFld K (tVar 10) "end") (tNil))) (tCons (tNotV (tVar 2)) (tNil)))))))))))))))))
section
variable {K : PySem.W.Frag} {A : Ads}
/-- the loop of find_runs, open and shut -/
def FOpen (K : PySem.W.Frag) (A : Ads) (P : Par) (p dx sh ru se : Addr) (G : Hp) (mu : Mu) (m : Nat) (σ : L2.St) (H : Hp) : Prop := ∃ (s : S3) (rs : List RunD) (ras : List Addr) (ks : List (K3 × Addr)) (G1 : Hp) (v6 v7 v8 v9 v10 v11 : Option V),
  σ = [some (.ref p), some (.int s.d), some (.bl s.on), some (.int s.t), some (.ref se), some (.bl true), v6, v7, v8, v9, v10, v11] ∧ Ex G G1 ∧
  Hold G1 ((se, SeenO A.P A.w se ks) :: (ru, .lst (ras.map V.ref)) :: (p, .ins A.cHistory dx (histF P sh ru none)) :: mu) H ∧ Chn P rs s ∧ (rs.map (keyR P)).Nodup ∧ RunsAt K A G1 ras rs ∧ ks.map (·.1) = rs.map (keyR P) ∧
  (∀ q ∈ ks, G1 q.2 = some (.tup (tv3 q.1))) ∧ m = 9603 - rs.length
def FShut (K : PySem.W.Frag) (A : Ads) (P : Par) (p dx sh ru se : Addr) (G : Hp) (mu : Mu) (m : Nat) (σ : L2.St) (H : Hp) : Prop := ∃ (rs : List RunD) (loop : Option Int) (ras : List Addr) (o : HO) (G1 : Hp) (v1 v2 v3 v6 v7 v8 v9 v10 v11 : Option V),
  σ = [some (.ref p), v1, v2, v3, some (.ref se), some (.bl false), v6, v7, v8, v9, v10, v11] ∧ Ex G G1 ∧
  Hold G1 ((se, o) :: (ru, .lst (ras.map V.ref)) :: (p, .ins A.cHistory dx (histF P sh ru loop)) :: mu) H ∧ HistOk P rs loop ∧ RunsAt K A G1 ras rs ∧ m = 0
end
end Wm
end

section
/-! ## The simulation tick by tick, and that the runs are it -/
namespace Wm
open PySem
def chAt (P : Par) (t : Int) : Int := P.ch.getD (phase P t) 0
def simN (P : Par) : Nat → Int × Bool
  | 0 => (P.start, P.dec P.start P.was)
  | t + 1 => ((simN P t).1 + chAt P t + P.heat (simN P t).2, P.dec ((simN P t).1 + chAt P t + P.heat (simN P t).2) (simN P t).2)
@[irreducible] def dAt (P : Par) (t : Int) : Int := (simN P t.toNat).1
@[irreducible] def oAt (P : Par) (t : Int) : Bool := (simN P t.toNat).2
theorem d_succ (P : Par) {t : Int} (h : 0 ≤ t) : dAt P (t + 1) = dAt P t + chAt P t + P.heat (oAt P t) := by
  unfold dAt oAt
  rw [show (t + 1).toNat = t.toNat + 1 by omega]
  show (simN P t.toNat).1 + chAt P ((t.toNat : Nat) : Int) + P.heat (simN P t.toNat).2 = _
  rw [Int.toNat_of_nonneg h]
theorem o_succ (P : Par) {t : Int} (h : 0 ≤ t) : oAt P (t + 1) = P.dec (dAt P (t + 1)) (oAt P t) := by
  rw [d_succ P h]
  unfold dAt oAt
  rw [show (t + 1).toNat = t.toNat + 1 by omega]
  show P.dec ((simN P t.toNat).1 + chAt P ((t.toNat : Nat) : Int) + P.heat (simN P t.toNat).2) _ = _
  rw [Int.toNat_of_nonneg h]
theorem d_zero (P : Par) : dAt P 0 = P.start := by unfold dAt; rfl
theorem o_zero (P : Par) : oAt P 0 = P.dec P.start P.was := by unfold oAt; rfl
theorem rot_at (l : List Int) {p q : Nat} (hp : p < l.length) (hq : q < l.length) : (l.drop p ++ l.take p)[q]? = l[(p + q) % l.length]? := by
  by_cases h : p + q < l.length
  · rw [List.getElem?_append_left (by rw [List.length_drop]; omega), List.getElem?_drop, Nat.mod_eq_of_lt h]
  · rw [List.getElem?_append_right (by rw [List.length_drop]; omega), List.length_drop, List.getElem?_take_of_lt (by omega), Nat.mod_eq_sub_mod (by omega), Nat.mod_eq_of_lt (by omega)]
    congr 1
    omega
theorem ch_some {P : Par} (ok : ParOk P) (t : Int) : P.ch[phase P t]? = some (chAt P t) := by
  unfold chAt
  rw [List.getD_eq_getElem?_getD, List.getElem?_eq_getElem (phase_lt ok t)] <;> rfl
theorem steps_at {P : Par} (ok : ParOk P) (t u : Int) (on : Bool) : (stepsOf P t on)[((u - t) % P.ch.length).toNat]? = some (chAt P u + P.heat on) := by
  have op := ok.pos
  have hl := phase_lt ok t
  have hc := phase_cast ok t
  have q0 := Int.emod_nonneg (u - t) (show (P.ch.length : Int) ≠ 0 by omega)
  have q1 := Int.emod_lt_of_pos (u - t) (show (0 : Int) < P.ch.length by omega)
  unfold stepsOf
  rw [List.getElem?_map, rot_at P.ch hl (by omega)]
  have e : (phase P t + ((u - t) % P.ch.length).toNat) % P.ch.length = phase P u := by
    have e2 : ((phase P t + ((u - t) % P.ch.length).toNat : Nat) : Int) % P.ch.length = u % P.ch.length := by
      rw [Int.natCast_add, hc, Int.toNat_of_nonneg q0, ← Int.add_emod]
      congr 1
      omega
    have := phase_cast ok u
    rw [← e2] at this
    omega
  rw [e, ch_some ok u]
  rfl
theorem run_succ {P : Par} (ok : ParOk P) (s : S3) (u : Int) : (runFrom P s none).at_ (u + 1) = (runFrom P s none).at_ u + (chAt P u + P.heat s.on) := by
  obtain ⟨x, hx, ha⟩ := at_succ (runFrom P s none) (run_ok ok s none) u
  have e : (runFrom P s none).steps.length = P.ch.length := steps_len ok _ _
  rw [e] at hx
  have h2 := steps_at ok s.t u s.on
  have : x = chAt P u + P.heat s.on := Option.some.inj (hx.symm.trans h2)
  rw [ha, this]
/-- what a run of the list tells -/
structure RunV (P : Par) (r : RunD) : Prop where
  b0 : 0 ≤ r.beg
  sim : ∀ u, r.beg ≤ u → (∀ e, r.fin = some e → u < e) → dAt P u = r.at_ u ∧ oAt P u = r.on
  fin : ∀ e, r.fin = some e → r.beg < e ∧ dAt P e = r.at_ e ∧ oAt P e = !r.on
  shape : r = runFrom P ⟨r.beg, r.deg, r.on⟩ r.fin
/-! ### lists of runs -/
def begAt (rs : List RunD) (j : Int) : Int := match rs[j.toNat]? with | some r => r.beg | none => 0
def finLast (rs : List RunD) : Int := match rs[rs.length - 1]? with | some ⟨_, some e, _, _, _⟩ => e | _ => 0
def circ (rs : List RunD) (j : Int) : Int := finLast rs - begAt rs j
def wrapT (rs : List RunD) (loop : Option Int) (t : Int) : Int := match loop with | none => 0 | some j => if t < finLast rs then 0 else (t - begAt rs j) / circ rs j
def wrapP (rs : List RunD) (loop : Option Int) (t : Int) : Int := match loop with | none => t | some j => if t < finLast rs then t else t - (t - begAt rs j) / circ rs j * circ rs j
/-- all that is told of a history's runs -/
structure HistV (P : Par) (rs : List RunD) (loop : Option Int) : Prop where
  par : ParOk P
  nd : (rs.map (keyR P)).Nodup
  ne : 0 < rs.length
  le : rs.length ≤ 9603
  each : ∀ r ∈ rs, RunV P r
  first : ∃ r, rs[0]? = some r ∧ r.beg = 0 ∧ r.on = P.dec P.start P.was ∧ r.deg = P.start
  next : ∀ (i : Nat) (r r2 : RunD), rs[i]? = some r → rs[i + 1]? = some r2 → r.fin = some r2.beg ∧ r2.on = !r.on ∧ r2.deg = r.at_ r2.beg
  small : ∀ r ∈ rs, r.beg ≤ 9603 * 10 ^ 14 ∧ ∀ e, r.fin = some e → e ≤ 9603 * 10 ^ 14
  open_ : loop = none → ∃ r, rs[rs.length - 1]? = some r ∧ r.fin = none
  shut : ∀ j, loop = some j → 0 ≤ j ∧ ∃ r l e, rs[j.toNat]? = some r ∧ rs[rs.length - 1]? = some l ∧ l.fin = some e ∧ r.beg < e ∧ (e - r.beg) % P.ch.length = 0 ∧ dAt P e = r.deg ∧ oAt P e = r.on ∧ r.on = !l.on
end Wm
end

section
namespace Wm
open PySem
structure Shut (P : Par) (rs : List RunD) (j : Int) : Prop where
  j0 : 0 ≤ j
  jl : j < rs.length
  b0 : 0 ≤ begAt rs j
  lt : begAt rs j < finLast rs
  big : finLast rs ≤ 9603 * 10 ^ 14
  c0 : 0 < circ rs j
  cB : circ rs j ≤ 9603 * 10 ^ 14
  ph : circ rs j % P.ch.length = 0
  d : dAt P (finLast rs) = dAt P (begAt rs j)
  o : oAt P (finLast rs) = oAt P (begAt rs j)
/-- what wrapping tells -/
structure Wrap (P : Par) (rs : List RunD) (loop : Option Int) (t : Int) : Prop where
  p0 : 0 ≤ wrapP rs loop t
  pt : wrapP rs loop t ≤ t
  pl : loop = none ∨ wrapP rs loop t < finLast rs
  t0 : 0 ≤ wrapT rs loop t
  tt : wrapT rs loop t ≤ t
  d : dAt P (wrapP rs loop t) = dAt P t
  o : oAt P (wrapP rs loop t) = oAt P t
  ph : wrapP rs loop t % P.ch.length = t % P.ch.length
  eq : ∀ j, loop = some j → t = wrapP rs loop t + wrapT rs loop t * circ rs j ∧ (0 < wrapT rs loop t → begAt rs j ≤ wrapP rs loop t)
  zero : wrapT rs loop t = 0 → wrapP rs loop t = t
end Wm
end

section
local macro_rules | `(tactic| walk_at "cls") => `(tactic| first | (with_reducible exact Wm.WeatherC.cl (by assumption)) | (with_reducible exact Wm.HeaterC.cl (by assumption)) | (with_reducible exact Wm.RoomC.cl (by assumption)) | (with_reducible exact Wm.RunC.cl (by assumption)) | (with_reducible exact Wm.HistoryC.cl (by assumption)) | (with_reducible exact Wm.ThresholdObserverC.cl (by assumption)) | (with_reducible exact Wm.SettingC.cl (by assumption)) | (with_reducible exact Wm.HourSettingC.cl (by assumption)) | (with_reducible exact Wm.RestSettingC.cl (by assumption)) | (with_reducible exact Wm.PricesC.cl (by assumption)) | (with_reducible exact Wm.MomentC.cl (by assumption)) | (with_reducible exact Wm.LiveRoomC.cl (by assumption)) | (with_reducible exact Wm.AttemptC.cl (by assumption)))
local macro_rules | `(tactic| walk_at "noattr") => `(tactic| first | (with_reducible exact Wm.WeatherC.n_pattern (by assumption)) | (with_reducible exact Wm.HeaterC.n_power (by assumption)) | (with_reducible exact Wm.HeaterC.n_below (by assumption)) | (with_reducible exact Wm.HeaterC.n_above (by assumption)) | (with_reducible exact Wm.RoomC.n_outside (by assumption)) | (with_reducible exact Wm.RoomC.n_inside (by assumption)) | (with_reducible exact Wm.RoomC.n_begin_degrees (by assumption)) | (with_reducible exact Wm.RoomC.n_past (by assumption)) | (with_reducible exact Wm.RoomC.n_repeated (by assumption)) | (with_reducible exact Wm.RoomC.n_share (by assumption)) | (with_reducible exact Wm.RoomC.n_coldest (by assumption)) | (with_reducible exact Wm.RoomC.n_warmest (by assumption)) | (with_reducible exact Wm.RunC.n_begin (by assumption)) | (with_reducible exact Wm.RunC.n_end (by assumption)) | (with_reducible exact Wm.RunC.n_degrees (by assumption)) | (with_reducible exact Wm.RunC.n_is_heating (by assumption)) | (with_reducible exact Wm.RunC.n_sums (by assumption)) | (with_reducible exact Wm.RunC.n_size (by assumption)) | (with_reducible exact Wm.RunC.n_drift (by assumption)) | (with_reducible exact Wm.HistoryC.n_shifts (by assumption)) | (with_reducible exact Wm.HistoryC.n_added (by assumption)) | (with_reducible exact Wm.HistoryC.n_floor (by assumption)) | (with_reducible exact Wm.HistoryC.n_ceiling (by assumption)) | (with_reducible exact Wm.HistoryC.n_was_heating (by assumption)) | (with_reducible exact Wm.HistoryC.n_runs (by assumption)) | (with_reducible exact Wm.HistoryC.n_loop (by assumption)) | (with_reducible exact Wm.ThresholdObserverC.n_outside (by assumption)) | (with_reducible exact Wm.ThresholdObserverC.n_power (by assumption)) | (with_reducible exact Wm.ThresholdObserverC.n_tick (by assumption)) | (with_reducible exact Wm.ThresholdObserverC.n_degrees (by assumption)) | (with_reducible exact Wm.ThresholdObserverC.n_is_heating (by assumption)) | (with_reducible exact Wm.ThresholdObserverC.n_lows (by assumption)) | (with_reducible exact Wm.ThresholdObserverC.n_highs (by assumption)) | (with_reducible exact Wm.ThresholdObserverC.n_noted (by assumption)) | (with_reducible exact Wm.SettingC.n_least (by assumption)) | (with_reducible exact Wm.SettingC.n_most (by assumption)) | (with_reducible exact Wm.HourSettingC.n_least (by assumption)) | (with_reducible exact Wm.HourSettingC.n_most (by assumption)) | (with_reducible exact Wm.HourSettingC.n_length (by assumption)) | (with_reducible exact Wm.HourSettingC.n_hours (by assumption)) | (with_reducible exact Wm.RestSettingC.n_least (by assumption)) | (with_reducible exact Wm.RestSettingC.n_most (by assumption)) | (with_reducible exact Wm.RestSettingC.n_rest (by assumption)) | (with_reducible exact Wm.PricesC.n_table (by assumption)) | (with_reducible exact Wm.MomentC.n_tick (by assumption)) | (with_reducible exact Wm.MomentC.n_heat (by assumption)) | (with_reducible exact Wm.MomentC.n_on (by assumption)) | (with_reducible exact Wm.MomentC.n_burnt (by assumption)) | (with_reducible exact Wm.MomentC.n_sky (by assumption)) | (with_reducible exact Wm.MomentC.n_stove (by assumption)) | (with_reducible exact Wm.LiveRoomC.n_moment (by assumption)) | (with_reducible exact Wm.LiveRoomC.n_earlier (by assumption)) | (with_reducible exact Wm.LiveRoomC.n_done (by assumption)) | (with_reducible exact Wm.AttemptC.n_live (by assumption)) | (with_reducible exact Wm.AttemptC.n_kept (by assumption)) | (with_reducible exact Wm.AttemptC.n_stack (by assumption)) | (with_reducible exact Wm.AttemptC.n_steps (by assumption)))
local macro_rules | `(tactic| walk_at "at") => `(tactic| first | assumption | exact Wm.Hold.rd (by assumption) (by assumption) | exact Wm.Hold.get (i := 0) (by assumption) rfl | exact Wm.Hold.get (i := 1) (by assumption) rfl | exact Wm.Hold.get (i := 2) (by assumption) rfl | exact Wm.Hold.get (i := 3) (by assumption) rfl | exact Wm.Hold.get (i := 4) (by assumption) rfl)
local macro_rules | `(tactic| walk_at "s1") => `(tactic| first
  | (with_reducible refine Wm.r_seq ?_)
  | (with_reducible refine Wm.r_op ?_)
  | ((with_reducible refine' Wm.r_var ?h ?_); (case h => rfl))
  | (with_reducible refine Wm.r_c ?_)
  | (with_reducible refine Wm.r_I0 ?_)
  | (with_reducible refine Wm.r_cons ?_)
  | (with_reducible refine Wm.r_nil ?_)
  | (with_reducible refine Wm.r_asg ?_)
  | (with_reducible refine Wm.r_gname ?_; try simp only [List.set_cons_zero, List.set_cons_succ])
  | (with_reducible refine Wm.r_nx ?_)
  | (with_reducible refine Wm.r_rt ?_)
  | (with_reducible refine Wm.r_ret ?_)
  | (with_reducible refine Wm.r_test ?_)
  | (with_reducible refine Wm.r_bl ?_)
  | (with_reducible refine Wm.r_B ?_)
  | (with_reducible refine Wm.r_eqI ?_)
  | (with_reducible refine Wm.r_neI ?_)
  | (with_reducible refine Wm.r_eqB ?_)
  | (with_reducible refine Wm.r_neB ?_)
  | (with_reducible refine Wm.r_fld ?_)
  | (with_reducible refine Wm.r_call ?_)
  | (with_reducible refine Wm.r_mtd ?_)
  | (with_reducible refine Wm.r_prp ?_)
  | (with_reducible refine Wm.r_mak ?_)
  | (with_reducible refine Wm.r_cb ?_)
  | (with_reducible refine Wm.r_tup ?_)
  | (with_reducible refine Wm.r_lst ?_)
  | (with_reducible refine Wm.r_chain ?_)
  | (with_reducible refine Wm.r_and ?_)
  | (with_reducible refine Wm.r_or ?_)
  | (with_reducible refine Wm.r_not ?_)
  | (with_reducible refine Wm.r_andV ?_)
  | (with_reducible refine Wm.r_orV ?_)
  | (with_reducible refine Wm.r_notV ?_)
  | (with_reducible refine Wm.r_if ?_)
  | (with_reducible refine Wm.r_un ?_)
  | (with_reducible refine Wm.r_U ?_)
  | (with_reducible refine Wm.r_iteT ?_)
  | (with_reducible refine Wm.r_iteF ?_)
  | (with_reducible refine Wm.r_next ?_)
  | (with_reducible refine Wm.r_drop ?_)
  | (with_reducible refine Wm.r_retN ?_)
  | ((with_reducible refine' Wm.r_aug ?h ?_); (case h => rfl))
  | (with_reducible refine Wm.r_ipI ?_)
  | (with_reducible refine Wm.r_par2 ?_)
  | (with_reducible refine Wm.r_two ?_; try simp only [List.set_cons_zero, List.set_cons_succ])
  | (with_reducible refine Wm.r_yes ?_)
  | (with_reducible refine Wm.r_par3 ?_)
  | (with_reducible refine Wm.r_seenPut ?_)
  | (with_reducible refine Wm.r_seenGet ?_)
  | (with_reducible refine Wm.r_three ?_; try simp only [List.set_cons_zero, List.set_cons_succ])
  | (with_reducible refine Wm.r_sl ?_)
  | (with_reducible refine Wm.r_nopart ?_)
  | (with_reducible refine Wm.r_part ?_)
  | (with_reducible refine Wm.r_xi ?_)
  | (with_reducible refine Wm.r_gcons ?_)
  | (with_reducible refine Wm.r_gnil ?_)
  | (with_reducible refine Wm.r_sub ?_)
  | (with_reducible refine Wm.r_setF ?_)
  | (with_reducible refine Wm.r_app ?_)
  | (with_reducible refine Wm.int_i ?_)
  | (with_reducible refine Wm.int_b ?_)
  | (with_reducible refine Wm.min2 ?_)
  | (with_reducible refine Wm.max2 ?_)
  | (with_reducible refine Wm.abs1 ?_)
  | (with_reducible refine Wm.isN ?_)
  | (with_reducible refine Wm.notN ?_)
  | ((with_reducible refine' Wm.r_ty ?e ?_); (case e => walk_at "at"))
  | ((with_reducible refine' Wm.setF_m ?h 0 ?e ?c ?a ?l ?_); (case h => assumption); (case e => rfl); (case c => walk_at "cls"); (case a => walk_at "noattr"); (case l => exact of_decide_eq_true rfl); intro H1 hh1; simp only [List.set_cons_zero, List.set_cons_succ] at hh1)
  | ((with_reducible refine' Wm.setF_m ?h 1 ?e ?c ?a ?l ?_); (case h => assumption); (case e => rfl); (case c => walk_at "cls"); (case a => walk_at "noattr"); (case l => exact of_decide_eq_true rfl); intro H1 hh1; simp only [List.set_cons_zero, List.set_cons_succ] at hh1)
  | ((with_reducible refine' Wm.setF_m ?h 2 ?e ?c ?a ?l ?_); (case h => assumption); (case e => rfl); (case c => walk_at "cls"); (case a => walk_at "noattr"); (case l => exact of_decide_eq_true rfl); intro H1 hh1; simp only [List.set_cons_zero, List.set_cons_succ] at hh1)
  | ((with_reducible refine' Wm.setF_m ?h 3 ?e ?c ?a ?l ?_); (case h => assumption); (case e => rfl); (case c => walk_at "cls"); (case a => walk_at "noattr"); (case l => exact of_decide_eq_true rfl); intro H1 hh1; simp only [List.set_cons_zero, List.set_cons_succ] at hh1)
  | (with_reducible refine Wm.r_forL ?_)
  | (with_reducible refine Wm.r_forT ?_)
  | (with_reducible refine Wm.r_forR1 ?_)
  | (with_reducible refine Wm.r_forR2 ?_)
  | (with_reducible refine Wm.r_lcL ?_)
  | (with_reducible refine Wm.r_lcT ?_)
  | (with_reducible refine Wm.r_lcR1 ?_)
  | (with_reducible refine Wm.r_lcR2 ?_)
  | ((with_reducible refine' Wm.fld_h ?e ?c ?n ?l ?_); (case e => walk_at "at"); (case c => walk_at "cls"); (case n => walk_at "noattr"); (case l => rfl))
  | ((with_reducible refine' Wm.mtd_h ?e ?l ?_); (case e => walk_at "at"); (case l => rfl))
  | ((with_reducible refine' Wm.prp_h ?e ?_); (case e => walk_at "at"))
  | ((with_reducible refine' Wm.rix_ht ?a ?b ?_); (case a => walk_at "at"); (case b => rfl))
  | ((with_reducible refine' Wm.rix_h ?a ?b ?_); (case a => walk_at "at"); (case b => rfl))
  | ((with_reducible refine' Wm.len_ht ?a ?_); (case a => walk_at "at"))
  | ((with_reducible refine' Wm.len_h ?a ?_); (case a => walk_at "at"))
  | ((with_reducible refine' Wm.len_l ?a ?b ?_); (case a => assumption); (case b => assumption))
  | ((with_reducible refine' Wm.len_t ?a ?b ?_); (case a => assumption); (case b => assumption))
  | ((with_reducible refine' Wm.gtup_h ?a ?b ?_); (case a => walk_at "at"); (case b => rfl))
  | (with_reducible refine Wm.r_I (Wm.cmulR (by decide)) ?_)
  | (with_reducible refine Wm.r_I (Wm.cmulL (by decide)) ?_)
  | (with_reducible refine Wm.r_I (Wm.cdiv (by decide) (by decide)) ?_)
  | (with_reducible refine Wm.r_I Wm.cpow18 ?_)
  | (with_reducible refine Wm.r_I Wm.cpow12 ?_)
  | (with_reducible refine Wm.r_I (by show (0 : Int) < _; decide) ?_))
local macro_rules | `(tactic| walk_at "s") => `(tactic| repeat (first | walk_at "s1" | (with_reducible refine Wm.r_ifS ?_)))
local macro_rules | `(tactic| walk_at "t") => `(tactic| repeat (walk_at "s1"))
local macro_rules | `(tactic| walk_at "sz") => `(tactic| exact of_decide_eq_true rfl)
namespace Wm
open PySem PySem.Spec PyProof.Rows L2 StX
/-! ## Histories: asking -/
def sp_History_circle (K : PySem.W.Frag) (A : Ads) : Sp := fun vs H Q _ => ∃ (p : Addr) (P : Par) (rs : List RunD) (j : Int), vs = [.ref p] ∧ IsHist K A H p P rs (some j) ∧ Q (.int (circ rs j)) H
def sp_History_wrapped (K : PySem.W.Frag) (A : Ads) : Sp := fun vs H Q _ => ∃ (p : Addr) (t : Int) (P : Par) (rs : List RunD) (loop : Option Int), vs = [.ref p, .int t] ∧ IsHist K A H p P rs loop ∧
  ∀ q H', Ex H H' → H q = none → H' q = some (.tup [.int (wrapT rs loop t), .int (wrapP rs loop t)]) → Q (.ref q) H'
def sp_History_run_at (K : PySem.W.Frag) (A : Ads) : Sp := fun vs H Q _ => ∃ (p : Addr) (t : Int) (P : Par) (rs : List RunD) (loop : Option Int), vs = [.ref p, .int t] ∧ IsHist K A H p P rs loop ∧ 0 ≤ t ∧
  ∀ (i : Nat) (a : Addr) (r : RunD), rs[i]? = some r → IsRun K A H a r → r.beg ≤ t → (∀ r2, rs[i + 1]? = some r2 → t < r2.beg) → Q (.ref a) H
def t_History_circle (K : PySem.W.Frag) (A : Ads) : TS := tRet (tOp (rI0 fun i j => .int (i - j)) (tFld K (tOp (rIx K) (tFld K (tVar 0) "runs") (tUn (rU fun i => .int (-i)) (tC (.int 1)))) "end") (tFld K (tOp (rIx K) (tFld K (tVar 0) "runs") (tFld K (tVar 0) "loop")) "begin"))
def t_History_wrapped (K : PySem.W.Frag) (A : Ads) : TS := tSeq (tIfS (tOr (tTest (tOp rIsN (tFld K (tVar 0) "loop") (tC .non))) (tTest (tOp (rI0 fun i j => .bl (decide (i < j))) (tVar 1) (tFld K (tOp (rIx K) (tFld K (tVar 0) "runs") (tUn (rU fun i => .int (-i)) (tC (.int 1)))) "end")))) (tRet (tTup (tCons (tC (.int 0)) (tCons (tVar 1) (tNil))))) (tNext)) (tSeq (tAsg (tOp (rI CDivW fun i j => .int (i / j)) (tOp (rI0 fun i j => .int (i - j)) (tVar 1) (tFld K (tOp (rIx K) (tFld K (tVar 0) "runs") (tFld K (tVar 0) "loop")) "begin")) (tMtd A.cHistory "circle" (sp_History_circle K A) E0 (tVar 0) tNil)) (gName 2)) (tRet (tTup (tCons (tVar 2) (tCons (tOp (rI0 fun i j => .int (i - j)) (tVar 1) (tOp (rI CMul fun i j => .int (i * j)) (tVar 2) (tMtd A.cHistory "circle" (sp_History_circle K A) E0 (tVar 0) tNil))) (tNil))))))
def t_History_run_at (K : PySem.W.Frag) (A : Ads) : TS := tSeq (tPar 2 3 (tCons (tC (.int 0)) (tCons (tCB (rLen K) (tCons (tFld K (tVar 0) "runs") (tNil))) (tNil)))) (tSeq (tWhile (tTest (tOp (rI0 fun i j => .bl (decide (j < i))) (tOp (rI0 fun i j => .int (i - j)) (tVar 3) (tVar 2)) (tC (.int 1)))) (tSeq (tAsg (tOp (rI CDivW fun i j => .int (i / j)) (tOp (rI0 fun i j => .int (i + j)) (tVar 2) (tVar 3)) (tC (.int 2))) (gName 4)) (tIfS (tTest (tOp (rI0 fun i j => .bl (decide (i ≤ j))) (tFld K (tOp (rIx K) (tFld K (tVar 0) "runs") (tVar 4)) "begin") (tVar 1))) (tAsg (tVar 4) (gName 2)) (tAsg (tVar 4) (gName 3))))) (tRet (tOp (rIx K) (tFld K (tVar 0) "runs") (tVar 2))))
section
variable {K : PySem.W.Frag} {A : Ads}
end
end Wm
end

section
/-! ## enumerate over a tuple -/
namespace PySem
open Sem (wp)
open AutoSeq1 (wpAny_loadPart')
theorem wm_meets_enum1 {v : Value} {o : Obj} {H : Heap → Prop} (B : Begins v o H) :
    Meets (Builtin.«enumerate.__new__» ⟨[.type "enumerate", v], []⟩) (fun _ R s => H s.heap ∧
      R (.ok (.ret (.ref (s.heap.push o).objs.size))) { s with heap := (s.heap.push o).push { cls := .type "enumerate", data := .fields #[.none, .bool false, .ref s.heap.objs.size, rawInt 0, .none, .none] } }) :=
  .of_wp fun prog w A R s h => by
    obtain ⟨hp, g, d, tk, os⟩ := s; obtain ⟨h1, h⟩ := h
    have hsub := sub_enumerate
    have q1 : ∀ {A' : Around} {E : Value → Shared → Prop} {Q : Value → Shared → Prop}, Q (.ref hp.objs.size) ⟨hp.push o, g, d, tk, os⟩ → wpAny (model prog w) A' (pyIter v) Q E ⟨hp, g, d, tk, os⟩ :=
      fun q => B.iter prog w _ _ ⟨hp, g, d, tk, os⟩ _ h1 q
    wp_walk using q1
    refine wpAny_stack_any fun st => wpAny_pure ?_
    split
    · rename_i c _ _ _ _ _
      cases (c == Value.type "enumerate")
      · wp_walk using q1
        exact ⟨_, rfl, h⟩
      · wp_walk using q1
        exact ⟨_, rfl, h⟩
    · wp_walk using q1
      exact ⟨_, rfl, h⟩
section
variable {prog : Program} {w : World} {A : Around} {E : Value → Shared → Prop} {s : Shared}
theorem wm_enum1 {v : Value} {o : Obj} {H : Heap → Prop} {Q : Value → Shared → Prop} (B : Begins v o H) (h1 : H s.heap)
    (h : ∀ h', IsEnum h' (s.heap.objs.size + 1) s.heap.objs.size 0 .none → h'.get? s.heap.objs.size = some o → h'.objs.size = s.heap.objs.size + 2 →
      (∀ b o, s.heap.get? b = some o → h'.get? b = some o) → Q (.ref (s.heap.objs.size + 1)) { s with heap := h' }) :
    wpAny (model prog w) A (call (.type "enumerate") [v]) Q E s := by
  refine callType_new F.called_enumerate (by decide) (F.typeCall_enumerate_1 _) (F.newCall_enumerate_1 _) (fun obj => F.args_object_init_2 obj _) F.entry_enumerate_new
    (wm_meets_enum1 B) ⟨h1, ?_⟩
  have hz : (s.heap.push o).objs.size = s.heap.objs.size + 1 := Heap.size_push ..
  show _ ∧ _
  rw [hz]
  have he : IsEnum ((s.heap.push o).push { cls := .type "enumerate", data := .fields #[.none, .bool false, .ref s.heap.objs.size, rawInt 0, .none, .none] }) (s.heap.objs.size + 1) s.heap.objs.size 0 .none := by
    have := Heap.get?_push_size (s.heap.push o) (o := { cls := .type "enumerate", data := .fields #[.none, .bool false, .ref s.heap.objs.size, rawInt 0, .none, .none] }) rfl
    rw [hz] at this; exact this
  refine ⟨⟨_, he, rfl⟩, h _ he (Heap.get?_push_of_some _ (Heap.get?_push_size _ B.free)) (by rw [Heap.size_push, hz]) fun b o x => Heap.get?_push_of_some _ (Heap.get?_push_of_some _ x)⟩
end
end PySem
namespace Wm
open PySem PySem.Spec PyProof.Rows L2 StX
/-- the tuple at a, each item in a new pair -/
def Iet (K : PySem.W.Frag) (a : Addr) : It :=
  ⟨fun i H => ∃ (xs : List V) (x : V), SqT K H a xs ∧ xs[i]? = some x, fun i H v H' => ∃ T x, v = .ref T ∧ H T = none ∧ H' = upd H T (.tup [.int (i : Nat), x]) ∧ ∀ xs, SqT K H a xs → xs[i]? = some x, fun i H => ∃ xs : List V, SqT K H a xs ∧ xs.length = i⟩
theorem sqT_inj {X : Cx} {pins : List (Addr × Obj)} {σ : L2.St} {H : Hp} {s : Shared} {a : Addr} {xs ys : List V} (I : Inv X pins σ H s) (h : SqT X.K H a xs) (h2 : SqT X.K H a ys) : xs = ys := I.tuple_inj h h2
theorem turn_enumT {P : Program} {w : World} {K : PySem.W.Frag} {elts : List Expr} {kk : Nat} {tpos : Pos} (a e it : Addr) (hai : a ≠ it) :
    Turn P w K (.Tuple elts kk tpos) (Iet K a) [e, it] e (fun i h => (∃ old, IsEnum h e it ((i : Nat) : Int) old) ∧ h.IsTupleIter it a i ∧ e ≠ it) where
  mem := by simp
  obj := fun i h st b hb => by
    obtain ⟨⟨old, he⟩, ⟨o, ho, hc, hd⟩, _⟩ := st
    have e' : b = e ∨ b = it := by simpa using hb
    rcases e' with z | z
    · rw [z]; exact ⟨_, he, fun v q => nomatch q⟩
    · rw [z]; exact ⟨o, ho, fun v q => by rw [hd] at q; cases q⟩
  keep := fun i h h' st k => let ⟨⟨old, he⟩, hi, hne⟩ := st; ⟨⟨old, k e (by simp) _ he⟩, hi.at fun o q => k it (by simp) o q, hne⟩
  item := by
    intro X hP hw hK hc i pins s σ H E I hf st hg
    subst hP hw hK
    obtain ⟨⟨old, he⟩, hit, hne⟩ := st
    obtain ⟨xs, x, hq, hx⟩ := hg
    obtain ⟨its, rv, p, hz⟩ := I.tuple hq
    obtain ⟨u, hu, ru⟩ := rv.get hx
    have hel : e < s.heap.objs.size := Heap.lt_size he
    have hil : it < s.heap.objs.size := by obtain ⟨_, q, _⟩ := hit; exact Heap.lt_size q
    have hil2 : i < its.toArray.size := by
      have := (List.getElem?_eq_some_iff.mp hu).1
      simpa using this
    have hea : e ≠ a := fun z => by
      obtain ⟨o, ho, hc', _⟩ := p
      rw [z] at he
      rw [he] at ho
      cases ho
      exact absurd (Value.type.inj hc') (by decide)
    refine wpAny_pyNext_enum_itemC (Draws.tuple (A := X.A.in1) (I.ok.hd hc) it a hai its.toArray) he ⟨hit, p⟩ hil2 hne (by simp [hne, hea]) fun x' h' tk hx' ho hst hT hsz hk => ?_
    have hxu : x' = u := by
      have h2 : its.toArray[i]? = some u := by simpa using hu
      rw [h2] at hx'
      cases hx'
      rfl
    subst hxu
    refine ⟨_, rfl, wpAny_letOwnedTupleGo_enum (s := { s with heap := h', toks := tk + 1 }) ho fun h'' he' sb => ?_⟩
    have hT2 : h''.get? s.heap.objs.size = some { cls := .type "tuple", data := .seq #[.int i tk, x'] } := (sb.2 _ (Nat.ne_of_gt hel)).trans hT
    have new : ObjOk X.prog X.w (upd H s.heap.objs.size (.tup [.int (i : Nat), x])) h'' s.heap.objs.size (.tup [.int (i : Nat), x]) :=
      ⟨by show 2 ≤ sizeLine; decide, [.int i tk, x'], .cons ⟨_, rfl⟩ (.cons ru .nil), ⟨_, hT2, rfl, _, rfl⟩⟩
    have I1 : Inv X pins σ (upd H s.heap.objs.size (.tup [.int (i : Nat), x])) { s with heap := h'', toks := tk + 1 } :=
      I.turnedNew (ch := [e, it]) (fun b ob hb q => (sb.2 b (fun z => hb (by simp [z]))).trans (hk b ob (fun z => hb (by simp [z])) (fun z => hb (by simp [z])) q)) hf (Nat.le_refl _) new
    refine ⟨.ref s.heap.objs.size, _, I1, rfl, ⟨_, x, rfl, I.hok.fresh (Nat.le_refl _), rfl, fun ys hy => by rw [sqT_inj I hy hq]; exact hx⟩, ⟨⟨x', ?_⟩, hst.1.at fun o q => (sb.2 it (Ne.symm hne)).trans q, hne⟩, fun b hb => ?_⟩
    · have e1 : ((i + 1 : Nat) : Int) = (i : Int) + 1 := by omega
      rw [e1]; exact he'
    · have hb' : b < s.heap.objs.size := by
        have e' : b = e ∨ b = it := by simpa using hb
        rcases e' with z | z
        · rw [z]; exact hel
        · rw [z]; exact hil
      rw [upd_ne (Nat.ne_of_lt hb')]
      exact (hf b hb).1
  done := by
    intro X hP hw hK hc i pins s σ H E I hf st hg
    subst hP hw hK
    obtain ⟨⟨old, he⟩, hit, hne⟩ := st
    obtain ⟨xs, hq, hx⟩ := hg
    obtain ⟨its, rv, p, hz⟩ := I.tuple hq
    obtain ⟨f0, f1, f2, f3, f4, f5⟩ := hf it (by simp)
    have hl := rv.length
    have p2 : s.heap.IsTuple a its.toArray := p
    have hn : its.toArray.size = i := by rw [List.size_toArray, ← hl]; exact hx
    subst hn
    exact wpAny_pyNext_enum_endD (Draws.tuple (A := X.A.in1) (I.ok.hd hc) it a hai its.toArray) he ⟨hit, p2⟩ fun h' eb => ⟨rfl, I.turned (t' := s.toks) (fun b o hb q => eb b o hb q) f0 f1 f3 f4 f5⟩
  self := fun A i s Q E st h => let ⟨⟨_, he⟩, _⟩ := st; wpAny_pyIter_enum he h
def iEnumT (K : PySem.W.Frag) (ta : TA) : TI := fun σ H R => ta σ H fun vs H1 => ∃ a xs, vs = [.ref a] ∧ SqT K H1 a xs ∧ R (Iet K a) H1
theorem pi_enumT {X : Cx} {e : Expr} {ta : TA} {p pos tpos : Pos} {elts : List Expr} {kk : Nat} (hg : Gl X "enumerate") (hm : X.mg "enumerate" = none) (ha : PA X [e] ta) (hs : starEach [e] X.env = [(false, eval e X.env)] := by rfl) :
    PI X (.Tuple elts kk tpos) (.Call (.Name "enumerate" p) [e] [] pos) (iEnumT X.K ta) := by
  refine ⟨fun pins s σ H R I h => ?_⟩
  refine Call_ (ld_blt I hg hm boot_enumerate (PyProof.Rows.callWith_type1 (thn (ha.run pos pins s σ H _ I h) fun us s1 ⟨vs, H1, I1, r1, q1⟩ => ?_) hs rfl))
  obtain ⟨a, xs, ex, hq, q⟩ := q1
  subst ex
  cases r1 with
  | cons r rr =>
    cases rr
    cases r
    obtain ⟨its, rv, p', hz⟩ := I1.tuple hq
    have p2 : s1.heap.IsTuple a its.toArray := p'
    have hal : a < s1.heap.objs.size := by obtain ⟨_, q, _⟩ := p2; exact Heap.lt_size q
    refine wm_enum1 (begins_tuple a its.toArray) p2 fun h' he hit hsz hk => wpAny_pyIter_enum he ?_
    have I2 : Inv X pins σ H1 { s1 with heap := h' } := I1.kept (t' := s1.toks) hk
    refine ⟨s1.heap.objs.size + 1, [s1.heap.objs.size + 1, s1.heap.objs.size], _, _, H1, rfl, I2, turn_enumT a (s1.heap.objs.size + 1) s1.heap.objs.size (Nat.ne_of_lt hal), ⟨⟨.none, he⟩, ⟨_, hit, rfl, rfl⟩, Nat.succ_ne_self _⟩, fun b hb => ?_, q⟩
    have e' : b = s1.heap.objs.size + 1 ∨ b = s1.heap.objs.size := by simpa using hb
    have hle : s1.heap.objs.size ≤ b := by
      rcases e' with z | z
      · rw [z]; exact Nat.le_add_right _ _
      · rw [z]; exact Nat.le_refl _
    exact I1.fpOk hle (I1.hok.fresh hle)
/-- for i, x in enumerate(t) -/
def ForET (K : PySem.W.Frag) (g : TG) (tb : TS) (D : Ends) (σ : L2.St) (vs : List V) (H1 : Hp) : Prop := ∃ a xs, vs = [.ref a] ∧ SqT K H1 a xs ∧ TurnsW (Iet K a) g tb D σ H1
section
variable {K : PySem.W.Frag} {H : Hp} {σ : L2.St} {D : Ends} {a : Addr} {xs : List V} {tr : TA} {g : TG} {tb : TS}
theorem r_forET (k : tr σ H fun vs H1 => ForET K g tb D σ vs H1) : tFor (iEnumT K tr) g tb D σ H := k
theorem forET_by (e : SqT K H a xs) (Pv : Nat → L2.St → Hp → Prop) (h0 : Pv 0 σ H) (hl : ∀ i σ H, i ≤ xs.length → Pv i σ H → Ex H H ∧ SqT K H a xs)
    (hs : ∀ i x σ H T, xs[i]? = some x → Pv i σ H → H T = none → g (.ref T) σ (upd H T (.tup [.int (i : Int), x])) fun σ2 H2 => tb { D with nx := Pv (i + 1), ct := Pv (i + 1), bk := D.nx } σ2 H2) (hd : ∀ σ H, Pv xs.length σ H → D.nx σ H) : ForET K g tb D σ [.ref a] H := by
  refine ⟨a, xs, rfl, e, fun i m σ H => m = xs.length - i ∧ i ≤ xs.length ∧ Pv i σ H, ⟨xs.length, rfl, Nat.zero_le _, h0⟩, ?_⟩
  rintro i m σ H ⟨rfl, hi, p⟩
  by_cases hlt : i < xs.length
  · obtain ⟨x, hx⟩ := get_some hlt
    refine .inr ⟨⟨xs, x, (hl i σ H hi p).2, hx⟩, Pv (i + 1), fun σ' H' h => ⟨xs.length - (i + 1), by omega, rfl, hlt, h⟩, ?_⟩
    rintro v H' ⟨T, y, rfl, hT, rfl, hy⟩
    exact hs i y σ H T (hy xs (hl i σ H hi p).2) p hT
  · have e : i = xs.length := by omega
    subst e
    exact .inl ⟨⟨xs, (hl _ σ H hi p).2, rfl⟩, hd σ H p⟩
end
end Wm
namespace Wm
open PySem PySem.Spec PyProof.Rows L2 StX
/-! ## a op b op c op d -/
def tChain3 (r r' r'' : R2) (ta tb tc td : TE) : TE := fun σ H Q => ta σ H fun x H1 => tb σ H1 fun y H2 => r x y H2 fun z H3 => ∃ k, z = .bl k ∧
  (if k = true then tc σ H3 fun w' H4 => r' y w' H4 (fun z' H5 => ∃ k', z' = .bl k' ∧ (if k' = true then td σ H5 fun v' H6 => r'' w' v' H6 Q else Q (.bl false) H5)) else Q (.bl false) H3)
section
variable {X : Cx} {a b c d : Expr} {ta tb tc td : TE} {op op' op'' : CmpOp} {r r' r'' : R2} {pos : Pos}
end
section
variable {σ : L2.St} {H : Hp} {Q : VK} {ta tb tc td : TE} {r r' r'' : R2}
end
end Wm
namespace Wm
section
variable {A B P : Prop} [Decidable P]
theorem r_dT (h : P) (k : A) : if decide P = true then A else B := by rw [if_pos (decide_eq_true h)]; exact k
theorem r_dF (h : ¬ P) (k : B) : if decide P = true then A else B := by rw [if_neg (by rw [decide_eq_false h]; exact Bool.false_ne_true)]; exact k
theorem r_dN (h : P) (k : B) : if (!decide P) = true then A else B := by rw [decide_eq_true h]; exact k
theorem r_nT (k : B) : if (!true) = true then A else B := k
theorem r_nF (k : A) : if (!false) = true then A else B := k
end
end Wm
namespace Wm
open PySem PySem.Spec PyProof.Rows L2 StX
/-- C(e, .., k = v, ..) -/
def tMakKw (C : Addr) (n m : Nat) (sp : Sp) (E : XK) (t tk : TA) : TE := tMakeK C n m sp (fun us ws => us ++ ws) E t tk
def rMakKw (C : Addr) (n m : Nat) (sp : Sp) (E : XK) (vs zs : List V) (H2 : Hp) (Q : VK) : Prop := vs.length = n ∧ zs.length = m ∧ ∀ x dx, H2 x = none → H2 dx = none → dx ≠ x →
  sp ((.ref x :: vs) ++ zs) (upd (upd H2 dx (.own x)) x (.ins C dx [])) (fun v H3 => v = .non ∧ Q (.ref x) H3) E
theorem r_makKw {C : Addr} {n m : Nat} {sp : Sp} {E : XK} {t tk : TA} {σ : L2.St} {H : Hp} {Q : VK} (k : t σ H fun vs H1 => tk σ H1 fun zs H2 => rMakKw C n m sp E vs zs H2 Q) : tMakKw C n m sp E t tk σ H Q := k
theorem makeKw_m {C : Addr} {n m : Nat} {sp : Sp} {E : XK} {vs zs : List V} {H : Hp} {Q : VK} {G : Hp} {mu : Mu} (hh : Hold G mu H) (h1 : vs.length = n) (h2 : zs.length = m) (k : ∀ x dx H', Hold G ((x, .ins C dx []) :: mu) H' → sp ((.ref x :: vs) ++ zs) H' (fun v H2 => v = .non ∧ Q (.ref x) H2) E) : rMakKw C n m sp E vs zs H Q :=
  ⟨h1, h2, make_m (sp := fun vs' H' Q' E' => sp (vs' ++ zs) H' Q' E') hh k⟩
theorem lst_m2 {G : Hp} {mu : Mu} {H : Hp} {x y : Addr × HO} {xs : List V} {Q : VK} (hP : xs.length ≤ sizeLine) (hh : Hold G (x :: y :: mu) H) (k : ∀ p H', Hold G (x :: y :: (p, .lst xs) :: mu) H' → Q (.ref p) H') : rLst xs H Q := ⟨hP, fun p hp => k p _ (hh.newm2 hp)⟩
section
variable {K : PySem.W.Frag} {G : Hp} {mu : Mu} {H : Hp} {p : Addr} {ys : List V} {Q : VK}
theorem listOf_G (hh : Hold G mu H) (h : SqL K H p ys ∨ SqT K H p ys) (k : ∀ l G' H', Ex G G' → G' l = some (.lst ys) → Hold G' mu H' → Q (.ref l) H') : rListOf K [.ref p] H Q :=
  ⟨p, ys, rfl, h, fun l hl => k l _ _ (Ex.new (hh.g_none hl)) upd_same (hh.new hl)⟩
theorem rep_G {i : Int} (hh : Hold G mu H) (h : H p = some (.lst ys)) (h1 : -(2 ^ 63) ≤ i) (h2 : i < 2 ^ 63) (hz : ys.length * i.toNat ≤ sizeLine) (k : ∀ l G' H', Ex G G' → G' l = some (.lst (List.replicate i.toNat ys).flatten) → Hold G' mu H' → Q (.ref l) H') : rRep (.ref p) (.int i) H Q :=
  ⟨p, i, ys, rfl, rfl, h, h1, h2, hz, fun l hl => k l _ _ (Ex.new (hh.g_none hl)) upd_same (hh.new hl)⟩
end
end Wm
end

section
local macro_rules | `(tactic| walk_at "cls") => `(tactic| first | (with_reducible exact Wm.WeatherC.cl (by assumption)) | (with_reducible exact Wm.HeaterC.cl (by assumption)) | (with_reducible exact Wm.RoomC.cl (by assumption)) | (with_reducible exact Wm.RunC.cl (by assumption)) | (with_reducible exact Wm.HistoryC.cl (by assumption)) | (with_reducible exact Wm.ThresholdObserverC.cl (by assumption)) | (with_reducible exact Wm.SettingC.cl (by assumption)) | (with_reducible exact Wm.HourSettingC.cl (by assumption)) | (with_reducible exact Wm.RestSettingC.cl (by assumption)) | (with_reducible exact Wm.PricesC.cl (by assumption)) | (with_reducible exact Wm.MomentC.cl (by assumption)) | (with_reducible exact Wm.LiveRoomC.cl (by assumption)) | (with_reducible exact Wm.AttemptC.cl (by assumption)))
local macro_rules | `(tactic| walk_at "noattr") => `(tactic| first | (with_reducible exact Wm.WeatherC.n_pattern (by assumption)) | (with_reducible exact Wm.HeaterC.n_power (by assumption)) | (with_reducible exact Wm.HeaterC.n_below (by assumption)) | (with_reducible exact Wm.HeaterC.n_above (by assumption)) | (with_reducible exact Wm.RoomC.n_outside (by assumption)) | (with_reducible exact Wm.RoomC.n_inside (by assumption)) | (with_reducible exact Wm.RoomC.n_begin_degrees (by assumption)) | (with_reducible exact Wm.RoomC.n_past (by assumption)) | (with_reducible exact Wm.RoomC.n_repeated (by assumption)) | (with_reducible exact Wm.RoomC.n_share (by assumption)) | (with_reducible exact Wm.RoomC.n_coldest (by assumption)) | (with_reducible exact Wm.RoomC.n_warmest (by assumption)) | (with_reducible exact Wm.RunC.n_begin (by assumption)) | (with_reducible exact Wm.RunC.n_end (by assumption)) | (with_reducible exact Wm.RunC.n_degrees (by assumption)) | (with_reducible exact Wm.RunC.n_is_heating (by assumption)) | (with_reducible exact Wm.RunC.n_sums (by assumption)) | (with_reducible exact Wm.RunC.n_size (by assumption)) | (with_reducible exact Wm.RunC.n_drift (by assumption)) | (with_reducible exact Wm.HistoryC.n_shifts (by assumption)) | (with_reducible exact Wm.HistoryC.n_added (by assumption)) | (with_reducible exact Wm.HistoryC.n_floor (by assumption)) | (with_reducible exact Wm.HistoryC.n_ceiling (by assumption)) | (with_reducible exact Wm.HistoryC.n_was_heating (by assumption)) | (with_reducible exact Wm.HistoryC.n_runs (by assumption)) | (with_reducible exact Wm.HistoryC.n_loop (by assumption)) | (with_reducible exact Wm.ThresholdObserverC.n_outside (by assumption)) | (with_reducible exact Wm.ThresholdObserverC.n_power (by assumption)) | (with_reducible exact Wm.ThresholdObserverC.n_tick (by assumption)) | (with_reducible exact Wm.ThresholdObserverC.n_degrees (by assumption)) | (with_reducible exact Wm.ThresholdObserverC.n_is_heating (by assumption)) | (with_reducible exact Wm.ThresholdObserverC.n_lows (by assumption)) | (with_reducible exact Wm.ThresholdObserverC.n_highs (by assumption)) | (with_reducible exact Wm.ThresholdObserverC.n_noted (by assumption)) | (with_reducible exact Wm.SettingC.n_least (by assumption)) | (with_reducible exact Wm.SettingC.n_most (by assumption)) | (with_reducible exact Wm.HourSettingC.n_least (by assumption)) | (with_reducible exact Wm.HourSettingC.n_most (by assumption)) | (with_reducible exact Wm.HourSettingC.n_length (by assumption)) | (with_reducible exact Wm.HourSettingC.n_hours (by assumption)) | (with_reducible exact Wm.RestSettingC.n_least (by assumption)) | (with_reducible exact Wm.RestSettingC.n_most (by assumption)) | (with_reducible exact Wm.RestSettingC.n_rest (by assumption)) | (with_reducible exact Wm.PricesC.n_table (by assumption)) | (with_reducible exact Wm.MomentC.n_tick (by assumption)) | (with_reducible exact Wm.MomentC.n_heat (by assumption)) | (with_reducible exact Wm.MomentC.n_on (by assumption)) | (with_reducible exact Wm.MomentC.n_burnt (by assumption)) | (with_reducible exact Wm.MomentC.n_sky (by assumption)) | (with_reducible exact Wm.MomentC.n_stove (by assumption)) | (with_reducible exact Wm.LiveRoomC.n_moment (by assumption)) | (with_reducible exact Wm.LiveRoomC.n_earlier (by assumption)) | (with_reducible exact Wm.LiveRoomC.n_done (by assumption)) | (with_reducible exact Wm.AttemptC.n_live (by assumption)) | (with_reducible exact Wm.AttemptC.n_kept (by assumption)) | (with_reducible exact Wm.AttemptC.n_stack (by assumption)) | (with_reducible exact Wm.AttemptC.n_steps (by assumption)))
local macro_rules | `(tactic| walk_at "at") => `(tactic| first | assumption | exact Wm.Hold.rd (by assumption) (by assumption) | exact Wm.Hold.get (i := 0) (by assumption) rfl | exact Wm.Hold.get (i := 1) (by assumption) rfl | exact Wm.Hold.get (i := 2) (by assumption) rfl | exact Wm.Hold.get (i := 3) (by assumption) rfl | exact Wm.Hold.get (i := 4) (by assumption) rfl)
local macro_rules | `(tactic| walk_at "s1") => `(tactic| first
  | (with_reducible refine Wm.r_seq ?_)
  | (with_reducible refine Wm.r_op ?_)
  | ((with_reducible refine' Wm.r_var ?h ?_); (case h => rfl))
  | (with_reducible refine Wm.r_c ?_)
  | (with_reducible refine Wm.r_I0 ?_)
  | (with_reducible refine Wm.r_cons ?_)
  | (with_reducible refine Wm.r_nil ?_)
  | (with_reducible refine Wm.r_asg ?_)
  | (with_reducible refine Wm.r_gname ?_; try simp only [List.set_cons_zero, List.set_cons_succ])
  | (with_reducible refine Wm.r_nx ?_)
  | (with_reducible refine Wm.r_rt ?_)
  | (with_reducible refine Wm.r_ret ?_)
  | (with_reducible refine Wm.r_test ?_)
  | (with_reducible refine Wm.r_bl ?_)
  | (with_reducible refine Wm.r_B ?_)
  | (with_reducible refine Wm.r_eqI ?_)
  | (with_reducible refine Wm.r_neI ?_)
  | (with_reducible refine Wm.r_eqB ?_)
  | (with_reducible refine Wm.r_neB ?_)
  | (with_reducible refine Wm.r_fld ?_)
  | (with_reducible refine Wm.r_call ?_)
  | (with_reducible refine Wm.r_mtd ?_)
  | (with_reducible refine Wm.r_prp ?_)
  | (with_reducible refine Wm.r_mak ?_)
  | (with_reducible refine Wm.r_cb ?_)
  | (with_reducible refine Wm.r_tup ?_)
  | (with_reducible refine Wm.r_lst ?_)
  | (with_reducible refine Wm.r_chain ?_)
  | (with_reducible refine Wm.r_and ?_)
  | (with_reducible refine Wm.r_or ?_)
  | (with_reducible refine Wm.r_not ?_)
  | (with_reducible refine Wm.r_andV ?_)
  | (with_reducible refine Wm.r_orV ?_)
  | (with_reducible refine Wm.r_notV ?_)
  | (with_reducible refine Wm.r_if ?_)
  | (with_reducible refine Wm.r_un ?_)
  | (with_reducible refine Wm.r_U ?_)
  | (with_reducible refine Wm.r_iteT ?_)
  | (with_reducible refine Wm.r_iteF ?_)
  | (with_reducible refine Wm.r_next ?_)
  | (with_reducible refine Wm.r_drop ?_)
  | (with_reducible refine Wm.r_retN ?_)
  | ((with_reducible refine' Wm.r_aug ?h ?_); (case h => rfl))
  | (with_reducible refine Wm.r_ipI ?_)
  | (with_reducible refine Wm.r_par2 ?_)
  | (with_reducible refine Wm.r_two ?_; try simp only [List.set_cons_zero, List.set_cons_succ])
  | (with_reducible refine Wm.r_yes ?_)
  | (with_reducible refine Wm.r_forET ?_)
  | (with_reducible refine Wm.r_chain3 ?_)
  | (with_reducible refine Wm.r_nT ?_)
  | (with_reducible refine Wm.r_nF ?_)
  | (with_reducible refine Wm.r_par3 ?_)
  | (with_reducible refine Wm.r_seenPut ?_)
  | (with_reducible refine Wm.r_seenGet ?_)
  | (with_reducible refine Wm.r_three ?_; try simp only [List.set_cons_zero, List.set_cons_succ])
  | (with_reducible refine Wm.r_sl ?_)
  | (with_reducible refine Wm.r_nopart ?_)
  | (with_reducible refine Wm.r_part ?_)
  | (with_reducible refine Wm.r_xi ?_)
  | (with_reducible refine Wm.r_gcons ?_)
  | (with_reducible refine Wm.r_gnil ?_)
  | (with_reducible refine Wm.r_sub ?_)
  | (with_reducible refine Wm.r_setF ?_)
  | (with_reducible refine Wm.r_app ?_)
  | (with_reducible refine Wm.int_i ?_)
  | (with_reducible refine Wm.int_b ?_)
  | (with_reducible refine Wm.min2 ?_)
  | (with_reducible refine Wm.max2 ?_)
  | (with_reducible refine Wm.abs1 ?_)
  | (with_reducible refine Wm.isN ?_)
  | (with_reducible refine Wm.notN ?_)
  | ((with_reducible refine' Wm.r_ty ?e ?_); (case e => walk_at "at"))
  | ((with_reducible refine' Wm.setF_m ?h 0 ?e ?c ?a ?l ?_); (case h => assumption); (case e => rfl); (case c => walk_at "cls"); (case a => walk_at "noattr"); (case l => exact of_decide_eq_true rfl); intro H1 hh1; simp only [List.set_cons_zero, List.set_cons_succ] at hh1)
  | ((with_reducible refine' Wm.setF_m ?h 1 ?e ?c ?a ?l ?_); (case h => assumption); (case e => rfl); (case c => walk_at "cls"); (case a => walk_at "noattr"); (case l => exact of_decide_eq_true rfl); intro H1 hh1; simp only [List.set_cons_zero, List.set_cons_succ] at hh1)
  | ((with_reducible refine' Wm.setF_m ?h 2 ?e ?c ?a ?l ?_); (case h => assumption); (case e => rfl); (case c => walk_at "cls"); (case a => walk_at "noattr"); (case l => exact of_decide_eq_true rfl); intro H1 hh1; simp only [List.set_cons_zero, List.set_cons_succ] at hh1)
  | ((with_reducible refine' Wm.setF_m ?h 3 ?e ?c ?a ?l ?_); (case h => assumption); (case e => rfl); (case c => walk_at "cls"); (case a => walk_at "noattr"); (case l => exact of_decide_eq_true rfl); intro H1 hh1; simp only [List.set_cons_zero, List.set_cons_succ] at hh1)
  | (with_reducible refine Wm.r_forL ?_)
  | (with_reducible refine Wm.r_forT ?_)
  | (with_reducible refine Wm.r_forR1 ?_)
  | (with_reducible refine Wm.r_forR2 ?_)
  | (with_reducible refine Wm.r_lcL ?_)
  | (with_reducible refine Wm.r_lcT ?_)
  | (with_reducible refine Wm.r_lcR1 ?_)
  | (with_reducible refine Wm.r_lcR2 ?_)
  | ((with_reducible refine' Wm.fld_h ?e ?c ?n ?l ?_); (case e => walk_at "at"); (case c => walk_at "cls"); (case n => walk_at "noattr"); (case l => rfl))
  | ((with_reducible refine' Wm.mtd_h ?e ?l ?_); (case e => walk_at "at"); (case l => rfl))
  | ((with_reducible refine' Wm.prp_h ?e ?_); (case e => walk_at "at"))
  | ((with_reducible refine' Wm.rix_ht ?a ?b ?_); (case a => walk_at "at"); (case b => rfl))
  | ((with_reducible refine' Wm.rix_h ?a ?b ?_); (case a => walk_at "at"); (case b => rfl))
  | ((with_reducible refine' Wm.len_ht ?a ?_); (case a => walk_at "at"))
  | ((with_reducible refine' Wm.len_h ?a ?_); (case a => walk_at "at"))
  | ((with_reducible refine' Wm.len_l ?a ?b ?_); (case a => assumption); (case b => assumption))
  | ((with_reducible refine' Wm.len_t ?a ?b ?_); (case a => assumption); (case b => assumption))
  | ((with_reducible refine' Wm.gtup_h ?a ?b ?_); (case a => walk_at "at"); (case b => rfl))
  | (with_reducible refine Wm.r_I (Wm.cmulR (by decide)) ?_)
  | (with_reducible refine Wm.r_I (Wm.cmulL (by decide)) ?_)
  | (with_reducible refine Wm.r_I (Wm.cdiv (by decide) (by decide)) ?_)
  | (with_reducible refine Wm.r_I Wm.cpow18 ?_)
  | (with_reducible refine Wm.r_I Wm.cpow12 ?_)
  | (with_reducible refine Wm.r_I (by show (0 : Int) < _; decide) ?_))
local macro_rules | `(tactic| walk_at "s") => `(tactic| repeat (first | walk_at "s1" | (with_reducible refine Wm.r_ifS ?_)))
local macro_rules | `(tactic| walk_at "t") => `(tactic| repeat (walk_at "s1"))
local macro_rules | `(tactic| walk_at "sz") => `(tactic| exact of_decide_eq_true rfl)
local macro_rules | `(tactic| walk_at "d") => `(tactic| first | (refine Wm.r_dT (by omega) ?_) | (refine Wm.r_dF (by omega) ?_) | (refine Wm.r_dN (by omega) ?_) | (refine Wm.r_dM (by omega) ?_))
local macro_rules | `(tactic| walk_at "sd") => `(tactic| repeat (first | walk_at "s1" | (with_reducible refine Wm.r_ifS ?_) | walk_at "d"))
namespace Wm
open PySem PySem.Spec PyProof.Rows L2 StX
/-! ## Weather, heaters and what rooms keep -/
def WOk (ch : List Int) : Prop := 0 < ch.length ∧ ch.length ≤ 24 ∧ ∀ x ∈ ch, -100 ≤ x ∧ x ≤ 100
def IsWeather (K : PySem.W.Frag) (A : Ads) (H : Hp) (p t : Addr) (ch : List Int) : Prop := WeatherC K A.cWeather ∧ WOk ch ∧ ∃ dx, H p = some (.ins A.cWeather dx [("pattern", .ref t)]) ∧ H t = some (.tup (ch.map V.int))
theorem IsWeather.up {K : PySem.W.Frag} {A : Ads} {G H : Hp} {p t : Addr} {ch : List Int} (e : Ex G H) (h : IsWeather K A G p t ch) : IsWeather K A H p t ch := by
  obtain ⟨a, b, dx, h1, h2⟩ := h
  exact ⟨a, b, dx, e _ _ h1, e _ _ h2⟩
def HtOk (g lo hi : Int) : Prop := 1 ≤ g ∧ g ≤ 200 ∧ -(10 ^ 12) ≤ lo ∧ lo ≤ hi ∧ hi ≤ 10 ^ 12
def IsHeater (K : PySem.W.Frag) (A : Ads) (H : Hp) (p : Addr) (g lo hi : Int) : Prop := HeaterC K A.cHeater ∧ HtOk g lo hi ∧ ∃ dx, H p = some (.ins A.cHeater dx [("power", .int g), ("below", .int lo), ("above", .int hi)])
def sp_validate_number (K : PySem.W.Frag) (A : Ads) : Sp := fun vs H Q _ => ∃ n lo hi : Int, vs = [.int n, .int lo, .int hi] ∧ lo ≤ n ∧ n ≤ hi ∧ Q .non H
def sp_common_divisor (K : PySem.W.Frag) (A : Ads) : Sp := fun vs H Q _ => ∃ a b : Nat, vs = [.int (a : Int), .int (b : Int)] ∧ Q (.int (Nat.gcd a b : Nat)) H
def sp_Weather_body (K : PySem.W.Frag) (A : Ads) : Sp := fun vs H Q _ => ∃ (p dx t : Addr) (ch : List Int) (G : Hp) (mu : Mu), vs = [.ref p, .ref t] ∧ WeatherC K A.cWeather ∧ WOk ch ∧ Hold G ((p, .ins A.cWeather dx []) :: mu) H ∧ G t = some (.tup (ch.map V.int)) ∧
  ∀ G' H', Ex G G' → IsWeather K A G' p t ch → Hold G' mu H' → Q .non H'
def sp_Weather_init (K : PySem.W.Frag) (A : Ads) : Sp := fun vs H Q E => ∃ ws rest, vs = ws ++ rest ∧ ws.length = ["self"].length ∧ rest.length ≤ sizeLine ∧ ∀ p, H p = Option.none → sp_Weather_body K A (ws ++ [V.ref p]) (upd H p (.tup rest)) Q E
def sp_Weather_changes (K : PySem.W.Frag) (A : Ads) : Sp := fun vs H Q _ => ∃ (p t : Addr) (ch : List Int), vs = [.ref p] ∧ IsWeather K A H p t ch ∧ Q (.ref t) H
def sp_Heater_init (K : PySem.W.Frag) (A : Ads) : Sp := fun vs H Q _ => ∃ (p dx : Addr) (g lo hi : Int) (G : Hp) (mu : Mu), vs = [.ref p, .int g, .int lo, .int hi] ∧ HeaterC K A.cHeater ∧ HtOk g lo hi ∧ Hold G ((p, .ins A.cHeater dx []) :: mu) H ∧
  ∀ G' H', Ex G G' → IsHeater K A G' p g lo hi → Hold G' mu H' → Q .non H'
def sp_Heater_gain (K : PySem.W.Frag) (A : Ads) : Sp := fun vs H Q _ => ∃ (p : Addr) (g lo hi : Int), vs = [.ref p] ∧ IsHeater K A H p g lo hi ∧ Q (.int g) H
def sp_Heater_low (K : PySem.W.Frag) (A : Ads) : Sp := fun vs H Q _ => ∃ (p : Addr) (g lo hi : Int), vs = [.ref p] ∧ IsHeater K A H p g lo hi ∧ Q (.int lo) H
def sp_Heater_high (K : PySem.W.Frag) (A : Ads) : Sp := fun vs H Q _ => ∃ (p : Addr) (g lo hi : Int), vs = [.ref p] ∧ IsHeater K A H p g lo hi ∧ Q (.int hi) H
def t_validate_number (K : PySem.W.Frag) (A : Ads) : TS := tIfS (tNot (tTest (tChain (rI0 fun i j => .bl (decide (i ≤ j))) (rI0 fun i j => .bl (decide (i ≤ j))) (tVar 1) (tVar 0) (tVar 2)))) (tNever) (tNext)
def t_common_divisor (K : PySem.W.Frag) (A : Ads) : TS := tSeq (tWhile (tTest (tOp rNe (tVar 1) (tC (.int 0)))) (tPar 0 1 (tCons (tVar 1) (tCons (tOp (rI (fun _ j => 0 < j) fun i j => .int (i % j)) (tCB rInt (tCons (tVar 0) (tNil))) (tCB rInt (tCons (tVar 1) (tNil)))) (tNil))))) (tRet (tVar 0))
def t_Weather_init (K : PySem.W.Frag) (A : Ads) : TS := tSeq (tIfS (tTest (tOp (rEqD K) (tVar 1) (tTup (tNil)))) (tNever) (tNext)) (tSeq (tFor (iEnumT K (tCons (tVar 1) (tNil))) (gTup K 2 (gCons (gName 2) (gCons (gName 3) (gNil)))) (tIfS (tOr (tTest (tOp rEq (tVar 2) (tC (.int 24)))) (tNot (tTest (tChain (rI0 fun i j => .bl (decide (i ≤ j))) (rI0 fun i j => .bl (decide (i ≤ j))) (tOp (rI0 fun i j => .int (i - j)) (tC (.int 0)) (tC (.int 100))) (tVar 3) (tC (.int 100)))))) (tNever) (tNext))) (sFld K (tVar 0) (tVar 1) "pattern"))
def t_Weather_changes (K : PySem.W.Frag) (A : Ads) : TS := tRet (tFld K (tVar 0) "pattern")
def t_Heater_init (K : PySem.W.Frag) (A : Ads) : TS := tSeq (tIfS (tOr (tNot (tTest (tChain (rI0 fun i j => .bl (decide (i ≤ j))) (rI0 fun i j => .bl (decide (i ≤ j))) (tC (.int 1)) (tVar 1) (tC (.int 200))))) (tNot (tTest (tChain3 (rI0 fun i j => .bl (decide (i ≤ j))) (rI0 fun i j => .bl (decide (i ≤ j))) (rI0 fun i j => .bl (decide (i ≤ j))) (tOp (rI0 fun i j => .int (i - j)) (tC (.int 0)) (tC (.int 1000000000000))) (tVar 2) (tVar 3) (tC (.int 1000000000000)))))) (tNever) (tNext)) (tSeq (sFld K (tVar 0) (tVar 1) "power") (tSeq (sFld K (tVar 0) (tVar 2) "below") (sFld K (tVar 0) (tVar 3) "above")))
def t_Heater_gain (K : PySem.W.Frag) (A : Ads) : TS := tRet (tFld K (tVar 0) "power")
def t_Heater_low (K : PySem.W.Frag) (A : Ads) : TS := tRet (tFld K (tVar 0) "below")
def t_Heater_high (K : PySem.W.Frag) (A : Ads) : TS := tRet (tFld K (tVar 0) "above")
section
variable {K : PySem.W.Frag} {A : Ads}
theorem pure_validate_number (vs : List V) (H : Hp) (Q : VK) (E : XK) (h : sp_validate_number K A vs H Q E) : t_validate_number K A { nx := fun _ H' => Q .non H', rt := Q } (start ["number", "smallest", "largest"] vs) H := by
  obtain ⟨n, lo, hi, rfl, h1, h2, k⟩ := h
  show t_validate_number K A _ [some (.int n), some (.int lo), some (.int hi)] H
  unfold t_validate_number
  walk_at "sd"
  exact k
theorem pure_Weather_changes (vs : List V) (H : Hp) (Q : VK) (E : XK) (h : sp_Weather_changes K A vs H Q E) : t_Weather_changes K A { nx := fun _ H' => Q .non H', rt := Q } (start ["self"] vs) H := by
  obtain ⟨p, t, ch, rfl, ⟨TW, wo, dx, h1, h2⟩, k⟩ := h
  show t_Weather_changes K A _ [some (.ref p)] H
  unfold t_Weather_changes
  walk_at "s"
  exact k
theorem pure_Weather_init (vs : List V) (H : Hp) (Q : VK) (E : XK) (h : sp_Weather_body K A vs H Q E) : t_Weather_init K A { nx := fun _ H' => Q .non H', rt := Q } (start ["self", "changes", "index", "change"] vs) H := by
  obtain ⟨p, dx, t, ch, G, mu, rfl, TW, ok, hh, ht, k⟩ := h
  obtain ⟨o1, o2, o3⟩ := id ok
  show t_Weather_init K A _ [some (.ref p), some (.ref t), none, none] H
  unfold t_Weather_init
  walk_at "s"
  refine tup_G (by walk_at "sz") hh fun q G1 H1 ex1 hq hh1 => ?_
  refine eqT (xs := ch) (ys := []) (SqT.of_ (hh1.rd (ex1 _ _ ht))) (SqT.of_ (hh1.rd hq)) ?_
  walk_at "s"
  refine r_dF (fun z => by rw [z] at o1; exact absurd o1 (Nat.lt_irrefl 0)) ?_
  walk_at "s"
  refine forET_by (SqT.of_ (hh1.rd (ex1 _ _ ht))) (fun i σ H' => ∃ (v1 v2 : Option V), σ = [some (.ref p), some (.ref t), v1, v2] ∧ Hold G1 ((p, .ins A.cWeather dx []) :: mu) H') ⟨none, none, rfl, hh1⟩
    (fun i σ H' _ ⟨_, _, _, hh⟩ => ⟨Ex.refl H', SqT.of_ (hh.rd (ex1 _ _ ht))⟩) ?_ ?_
  · rintro i x σ H2 T hx ⟨v1, v2, rfl, hh2⟩ hT
    obtain ⟨z, hz, rfl⟩ := ints_of hx
    have hb := o3 z (List.mem_of_getElem? hz)
    have hi := (List.getElem?_eq_some_iff.mp hz).1
    refine gtup_h upd_same rfl ?_
    walk_at "sd"
    exact ⟨_, _, rfl, hh2.newg hT⟩
  · rintro σ H2 ⟨v1, v2, rfl, hh2⟩
    walk_at "s"
    rename_i H3 hh3
    exact k _ _ (ex1.trans hh3.frz_ex) ⟨TW, ok, dx, upd_same, hh3.frz_ex _ _ (ex1 _ _ ht)⟩ hh3.frz
end
end Wm
end

section
/-! ## What a room keeps of its history -/
namespace Wm
open PySem
def lenR (r : RunD) : Int := match r.fin with | some e => e - r.beg | none => 0
def lenAt (rs : List RunD) (i : Int) : Int := match rs[i.toNat]? with | some r => lenR r | none => 0
def repO (rs : List RunD) (loop : Option Int) : Option (Int × Int) :=
  match loop with
  | none => match rs[rs.length - 1]? with
    | some l => if l.steps.sum = 0 then some (l.beg, (l.steps.length : Int)) else none
    | none => none
  | some j => some (begAt rs j - (if 0 < j then min (lenAt rs (j - 1)) (lenAt rs ((rs.length : Int) - 1)) else 0), circ rs j)
def heatSum (rs : List RunD) : Int := ((rs.filter (·.on)).map lenR).sum
def share (rs : List RunD) (loop : Option Int) : Int × Int :=
  match loop with
  | none => match rs[rs.length - 1]? with
    | some l => if l.on = true then (1, 1) else (0, 1)
    | none => (0, 1)
  | some j => ((heatSum (rs.drop j.toNat)) / (Nat.gcd (heatSum (rs.drop j.toNat)).toNat (circ rs j).toNat : Nat), circ rs j / (Nat.gcd (heatSum (rs.drop j.toNat)).toNat (circ rs j).toNat : Nat))
/-- the greatest temperature times a sign, and the first tick of it -/
def Ext (P : Par) (rs : List RunD) (loop : Option Int) (sign : Int) : Option (Int × Int) → Prop
  | none => loop = none ∧ ∃ l, rs[rs.length - 1]? = some l ∧ 0 < l.steps.sum * sign
  | some (d, t) => 0 ≤ t ∧ t ≤ 9604 * 10 ^ 14 ∧ dAt P t = d ∧ ∀ u, 0 ≤ u → dAt P u * sign ≤ d * sign ∧ (dAt P u = d → t ≤ u)
/-- of one run -/
def XTO (r : RunD) (sign : Int) : Option (Int × Int) → Prop
  | none => r.fin = none ∧ 0 < r.steps.sum * sign
  | some (d, t) => XT r r.fin sign r.steps.length d t ∧ (r.fin = none → ¬ 0 < r.steps.sum * sign) ∧ (r.fin = none → t ≤ r.beg + r.steps.length)
/-- of the runs up to number i -/
structure ExtI (P : Par) (rs : List RunD) (sign : Int) (i : Nat) (d t : Int) : Prop where
  t0 : 0 ≤ t
  big : t ≤ 9604 * 10 ^ 14
  d_ : dAt P t = d
  fin : ∀ r e, rs[i]? = some r → r.fin = some e → t ≤ e
  best : ∀ u, 0 ≤ u → (∀ r e, rs[i]? = some r → r.fin = some e → u ≤ e) → dAt P u * sign ≤ d * sign ∧ (dAt P u = d → t ≤ u)
end Wm
end

section
local macro_rules | `(tactic| walk_at "cls") => `(tactic| first | (with_reducible exact Wm.WeatherC.cl (by assumption)) | (with_reducible exact Wm.HeaterC.cl (by assumption)) | (with_reducible exact Wm.RoomC.cl (by assumption)) | (with_reducible exact Wm.RunC.cl (by assumption)) | (with_reducible exact Wm.HistoryC.cl (by assumption)) | (with_reducible exact Wm.ThresholdObserverC.cl (by assumption)) | (with_reducible exact Wm.SettingC.cl (by assumption)) | (with_reducible exact Wm.HourSettingC.cl (by assumption)) | (with_reducible exact Wm.RestSettingC.cl (by assumption)) | (with_reducible exact Wm.PricesC.cl (by assumption)) | (with_reducible exact Wm.MomentC.cl (by assumption)) | (with_reducible exact Wm.LiveRoomC.cl (by assumption)) | (with_reducible exact Wm.AttemptC.cl (by assumption)))
local macro_rules | `(tactic| walk_at "noattr") => `(tactic| first | (with_reducible exact Wm.WeatherC.n_pattern (by assumption)) | (with_reducible exact Wm.HeaterC.n_power (by assumption)) | (with_reducible exact Wm.HeaterC.n_below (by assumption)) | (with_reducible exact Wm.HeaterC.n_above (by assumption)) | (with_reducible exact Wm.RoomC.n_outside (by assumption)) | (with_reducible exact Wm.RoomC.n_inside (by assumption)) | (with_reducible exact Wm.RoomC.n_begin_degrees (by assumption)) | (with_reducible exact Wm.RoomC.n_past (by assumption)) | (with_reducible exact Wm.RoomC.n_repeated (by assumption)) | (with_reducible exact Wm.RoomC.n_share (by assumption)) | (with_reducible exact Wm.RoomC.n_coldest (by assumption)) | (with_reducible exact Wm.RoomC.n_warmest (by assumption)) | (with_reducible exact Wm.RunC.n_begin (by assumption)) | (with_reducible exact Wm.RunC.n_end (by assumption)) | (with_reducible exact Wm.RunC.n_degrees (by assumption)) | (with_reducible exact Wm.RunC.n_is_heating (by assumption)) | (with_reducible exact Wm.RunC.n_sums (by assumption)) | (with_reducible exact Wm.RunC.n_size (by assumption)) | (with_reducible exact Wm.RunC.n_drift (by assumption)) | (with_reducible exact Wm.HistoryC.n_shifts (by assumption)) | (with_reducible exact Wm.HistoryC.n_added (by assumption)) | (with_reducible exact Wm.HistoryC.n_floor (by assumption)) | (with_reducible exact Wm.HistoryC.n_ceiling (by assumption)) | (with_reducible exact Wm.HistoryC.n_was_heating (by assumption)) | (with_reducible exact Wm.HistoryC.n_runs (by assumption)) | (with_reducible exact Wm.HistoryC.n_loop (by assumption)) | (with_reducible exact Wm.ThresholdObserverC.n_outside (by assumption)) | (with_reducible exact Wm.ThresholdObserverC.n_power (by assumption)) | (with_reducible exact Wm.ThresholdObserverC.n_tick (by assumption)) | (with_reducible exact Wm.ThresholdObserverC.n_degrees (by assumption)) | (with_reducible exact Wm.ThresholdObserverC.n_is_heating (by assumption)) | (with_reducible exact Wm.ThresholdObserverC.n_lows (by assumption)) | (with_reducible exact Wm.ThresholdObserverC.n_highs (by assumption)) | (with_reducible exact Wm.ThresholdObserverC.n_noted (by assumption)) | (with_reducible exact Wm.SettingC.n_least (by assumption)) | (with_reducible exact Wm.SettingC.n_most (by assumption)) | (with_reducible exact Wm.HourSettingC.n_least (by assumption)) | (with_reducible exact Wm.HourSettingC.n_most (by assumption)) | (with_reducible exact Wm.HourSettingC.n_length (by assumption)) | (with_reducible exact Wm.HourSettingC.n_hours (by assumption)) | (with_reducible exact Wm.RestSettingC.n_least (by assumption)) | (with_reducible exact Wm.RestSettingC.n_most (by assumption)) | (with_reducible exact Wm.RestSettingC.n_rest (by assumption)) | (with_reducible exact Wm.PricesC.n_table (by assumption)) | (with_reducible exact Wm.MomentC.n_tick (by assumption)) | (with_reducible exact Wm.MomentC.n_heat (by assumption)) | (with_reducible exact Wm.MomentC.n_on (by assumption)) | (with_reducible exact Wm.MomentC.n_burnt (by assumption)) | (with_reducible exact Wm.MomentC.n_sky (by assumption)) | (with_reducible exact Wm.MomentC.n_stove (by assumption)) | (with_reducible exact Wm.LiveRoomC.n_moment (by assumption)) | (with_reducible exact Wm.LiveRoomC.n_earlier (by assumption)) | (with_reducible exact Wm.LiveRoomC.n_done (by assumption)) | (with_reducible exact Wm.AttemptC.n_live (by assumption)) | (with_reducible exact Wm.AttemptC.n_kept (by assumption)) | (with_reducible exact Wm.AttemptC.n_stack (by assumption)) | (with_reducible exact Wm.AttemptC.n_steps (by assumption)))
local macro_rules | `(tactic| walk_at "at") => `(tactic| first | assumption | exact Wm.Hold.rd (by assumption) (by assumption) | exact Wm.Hold.get (i := 0) (by assumption) rfl | exact Wm.Hold.get (i := 1) (by assumption) rfl | exact Wm.Hold.get (i := 2) (by assumption) rfl | exact Wm.Hold.get (i := 3) (by assumption) rfl | exact Wm.Hold.get (i := 4) (by assumption) rfl)
local macro_rules | `(tactic| walk_at "s1") => `(tactic| first
  | (with_reducible refine Wm.r_seq ?_)
  | (with_reducible refine Wm.r_op ?_)
  | ((with_reducible refine' Wm.r_var ?h ?_); (case h => rfl))
  | (with_reducible refine Wm.r_c ?_)
  | (with_reducible refine Wm.r_I0 ?_)
  | (with_reducible refine Wm.r_cons ?_)
  | (with_reducible refine Wm.r_nil ?_)
  | (with_reducible refine Wm.r_asg ?_)
  | (with_reducible refine Wm.r_gname ?_; try simp only [List.set_cons_zero, List.set_cons_succ])
  | (with_reducible refine Wm.r_nx ?_)
  | (with_reducible refine Wm.r_rt ?_)
  | (with_reducible refine Wm.r_ret ?_)
  | (with_reducible refine Wm.r_test ?_)
  | (with_reducible refine Wm.r_bl ?_)
  | (with_reducible refine Wm.r_B ?_)
  | (with_reducible refine Wm.r_eqI ?_)
  | (with_reducible refine Wm.r_neI ?_)
  | (with_reducible refine Wm.r_eqB ?_)
  | (with_reducible refine Wm.r_neB ?_)
  | (with_reducible refine Wm.r_fld ?_)
  | (with_reducible refine Wm.r_call ?_)
  | (with_reducible refine Wm.r_mtd ?_)
  | (with_reducible refine Wm.r_prp ?_)
  | (with_reducible refine Wm.r_mak ?_)
  | (with_reducible refine Wm.r_cb ?_)
  | (with_reducible refine Wm.r_tup ?_)
  | (with_reducible refine Wm.r_lst ?_)
  | (with_reducible refine Wm.r_chain ?_)
  | (with_reducible refine Wm.r_and ?_)
  | (with_reducible refine Wm.r_or ?_)
  | (with_reducible refine Wm.r_not ?_)
  | (with_reducible refine Wm.r_andV ?_)
  | (with_reducible refine Wm.r_orV ?_)
  | (with_reducible refine Wm.r_notV ?_)
  | (with_reducible refine Wm.r_if ?_)
  | (with_reducible refine Wm.r_un ?_)
  | (with_reducible refine Wm.r_U ?_)
  | (with_reducible refine Wm.r_iteT ?_)
  | (with_reducible refine Wm.r_iteF ?_)
  | (with_reducible refine Wm.r_next ?_)
  | (with_reducible refine Wm.r_drop ?_)
  | (with_reducible refine Wm.r_retN ?_)
  | ((with_reducible refine' Wm.r_aug ?h ?_); (case h => rfl))
  | (with_reducible refine Wm.r_ipI ?_)
  | (with_reducible refine Wm.r_par2 ?_)
  | (with_reducible refine Wm.r_two ?_; try simp only [List.set_cons_zero, List.set_cons_succ])
  | (with_reducible refine Wm.r_yes ?_)
  | (with_reducible refine Wm.r_forET ?_)
  | (with_reducible refine Wm.r_chain3 ?_)
  | (with_reducible refine Wm.r_nT ?_)
  | (with_reducible refine Wm.r_nF ?_)
  | (with_reducible refine Wm.r_par3 ?_)
  | (with_reducible refine Wm.r_seenPut ?_)
  | (with_reducible refine Wm.r_seenGet ?_)
  | (with_reducible refine Wm.r_three ?_; try simp only [List.set_cons_zero, List.set_cons_succ])
  | (with_reducible refine Wm.r_sl ?_)
  | (with_reducible refine Wm.r_nopart ?_)
  | (with_reducible refine Wm.r_part ?_)
  | (with_reducible refine Wm.r_xi ?_)
  | (with_reducible refine Wm.r_gcons ?_)
  | (with_reducible refine Wm.r_gnil ?_)
  | (with_reducible refine Wm.r_sub ?_)
  | (with_reducible refine Wm.r_setF ?_)
  | (with_reducible refine Wm.r_app ?_)
  | (with_reducible refine Wm.int_i ?_)
  | (with_reducible refine Wm.int_b ?_)
  | (with_reducible refine Wm.min2 ?_)
  | (with_reducible refine Wm.max2 ?_)
  | (with_reducible refine Wm.abs1 ?_)
  | (with_reducible refine Wm.isN ?_)
  | (with_reducible refine Wm.notN ?_)
  | ((with_reducible refine' Wm.r_ty ?e ?_); (case e => walk_at "at"))
  | ((with_reducible refine' Wm.setF_m ?h 0 ?e ?c ?a ?l ?_); (case h => assumption); (case e => rfl); (case c => walk_at "cls"); (case a => walk_at "noattr"); (case l => exact of_decide_eq_true rfl); intro H1 hh1; simp only [List.set_cons_zero, List.set_cons_succ] at hh1)
  | ((with_reducible refine' Wm.setF_m ?h 1 ?e ?c ?a ?l ?_); (case h => assumption); (case e => rfl); (case c => walk_at "cls"); (case a => walk_at "noattr"); (case l => exact of_decide_eq_true rfl); intro H1 hh1; simp only [List.set_cons_zero, List.set_cons_succ] at hh1)
  | ((with_reducible refine' Wm.setF_m ?h 2 ?e ?c ?a ?l ?_); (case h => assumption); (case e => rfl); (case c => walk_at "cls"); (case a => walk_at "noattr"); (case l => exact of_decide_eq_true rfl); intro H1 hh1; simp only [List.set_cons_zero, List.set_cons_succ] at hh1)
  | ((with_reducible refine' Wm.setF_m ?h 3 ?e ?c ?a ?l ?_); (case h => assumption); (case e => rfl); (case c => walk_at "cls"); (case a => walk_at "noattr"); (case l => exact of_decide_eq_true rfl); intro H1 hh1; simp only [List.set_cons_zero, List.set_cons_succ] at hh1)
  | (with_reducible refine Wm.r_forL ?_)
  | (with_reducible refine Wm.r_forT ?_)
  | (with_reducible refine Wm.r_forR1 ?_)
  | (with_reducible refine Wm.r_forR2 ?_)
  | (with_reducible refine Wm.r_lcL ?_)
  | (with_reducible refine Wm.r_lcT ?_)
  | (with_reducible refine Wm.r_lcR1 ?_)
  | (with_reducible refine Wm.r_lcR2 ?_)
  | ((with_reducible refine' Wm.fld_h ?e ?c ?n ?l ?_); (case e => walk_at "at"); (case c => walk_at "cls"); (case n => walk_at "noattr"); (case l => rfl))
  | ((with_reducible refine' Wm.mtd_h ?e ?l ?_); (case e => walk_at "at"); (case l => rfl))
  | ((with_reducible refine' Wm.prp_h ?e ?_); (case e => walk_at "at"))
  | ((with_reducible refine' Wm.rix_ht ?a ?b ?_); (case a => walk_at "at"); (case b => rfl))
  | ((with_reducible refine' Wm.rix_h ?a ?b ?_); (case a => walk_at "at"); (case b => rfl))
  | ((with_reducible refine' Wm.len_ht ?a ?_); (case a => walk_at "at"))
  | ((with_reducible refine' Wm.len_h ?a ?_); (case a => walk_at "at"))
  | ((with_reducible refine' Wm.len_l ?a ?b ?_); (case a => assumption); (case b => assumption))
  | ((with_reducible refine' Wm.len_t ?a ?b ?_); (case a => assumption); (case b => assumption))
  | ((with_reducible refine' Wm.gtup_h ?a ?b ?_); (case a => walk_at "at"); (case b => rfl))
  | (with_reducible refine Wm.r_I (Wm.cmulR (by decide)) ?_)
  | (with_reducible refine Wm.r_I (Wm.cmulL (by decide)) ?_)
  | (with_reducible refine Wm.r_I (Wm.cdiv (by decide) (by decide)) ?_)
  | (with_reducible refine Wm.r_I Wm.cpow18 ?_)
  | (with_reducible refine Wm.r_I Wm.cpow12 ?_)
  | (with_reducible refine Wm.r_I (by show (0 : Int) < _; decide) ?_))
local macro_rules | `(tactic| walk_at "s") => `(tactic| repeat (first | walk_at "s1" | (with_reducible refine Wm.r_ifS ?_)))
local macro_rules | `(tactic| walk_at "t") => `(tactic| repeat (walk_at "s1"))
local macro_rules | `(tactic| walk_at "sz") => `(tactic| exact of_decide_eq_true rfl)
local macro_rules | `(tactic| walk_at "d") => `(tactic| first | (refine Wm.r_dT (by omega) ?_) | (refine Wm.r_dF (by omega) ?_) | (refine Wm.r_dN (by omega) ?_) | (refine Wm.r_dM (by omega) ?_))
local macro_rules | `(tactic| walk_at "sd") => `(tactic| repeat (first | walk_at "s1" | (with_reducible refine Wm.r_ifS ?_) | walk_at "d"))
namespace Wm
open PySem PySem.Spec PyProof.Rows L2 StX
/-! ## What a room keeps: repetition, share, extremes -/
def OptAt (H : Hp) (v : V) : Option (Int × Int) → Prop
  | none => v = .non
  | some (a, b) => ∃ q, v = .ref q ∧ H q = some (.tup [.int a, .int b])
def OptP (o : Option (Int × Int)) (H : Hp) (Q : VK) : Prop :=
  match o with
  | none => ∀ H', Ex H H' → Q .non H'
  | some (a, b) => ∀ q H', Ex H H' → H q = none → H' q = some (.tup [.int a, .int b]) → Q (.ref q) H'
def sp_repetition_of (K : PySem.W.Frag) (A : Ads) : Sp := fun vs H Q _ => ∃ (p : Addr) (P : Par) (rs : List RunD) (loop : Option Int), vs = [.ref p] ∧ IsHist K A H p P rs loop ∧ OptP (repO rs loop) H Q
def sp_share_of (K : PySem.W.Frag) (A : Ads) : Sp := fun vs H Q _ => ∃ (p : Addr) (P : Par) (rs : List RunD) (loop : Option Int), vs = [.ref p] ∧ IsHist K A H p P rs loop ∧ OptP (some (share rs loop)) H Q
def sp_extreme_of (K : PySem.W.Frag) (A : Ads) : Sp := fun vs H Q _ => ∃ (p : Addr) (sign : Int) (P : Par) (rs : List RunD) (loop : Option Int), vs = [.ref p, .int sign] ∧ IsHist K A H p P rs loop ∧ (sign = 1 ∨ sign = -1) ∧ ∀ o, Ext P rs loop sign o → OptP o H Q
def t_repetition_of (K : PySem.W.Frag) (A : Ads) : TS := tSeq (tPar 1 2 (tCons (tFld K (tVar 0) "runs") (tCons (tFld K (tVar 0) "loop") (tNil)))) (tSeq (tIfS (tTest (tOp rIsN (tVar 2) (tC .non))) (tRet (tIf (tTest (tOp rEq (tFld K (tOp (rIx K) (tVar 1) (tUn (rU fun i => .int (-i)) (tC (.int 1)))) "drift") (tC (.int 0)))) (tTup (tCons (tFld K (tOp (rIx K) (tVar 1) (tUn (rU fun i => .int (-i)) (tC (.int 1)))) "begin") (tCons (tFld K (tOp (rIx K) (tVar 1) (tUn (rU fun i => .int (-i)) (tC (.int 1)))) "size") (tNil)))) (tC .non))) (tNext)) (tSeq (tAsg (tFld K (tOp (rIx K) (tVar 1) (tVar 2)) "begin") (gName 3)) (tSeq (tIfS (tTest (tOp (rI0 fun i j => .bl (decide (j < i))) (tVar 2) (tC (.int 0)))) (tAug 3 (tCB rMin2 (tCons (tOp (rI0 fun i j => .int (i - j)) (tFld K (tOp (rIx K) (tVar 1) (tOp (rI0 fun i j => .int (i - j)) (tVar 2) (tC (.int 1)))) "end") (tFld K (tOp (rIx K) (tVar 1) (tOp (rI0 fun i j => .int (i - j)) (tVar 2) (tC (.int 1)))) "begin")) (tCons (tOp (rI0 fun i j => .int (i - j)) (tFld K (tOp (rIx K) (tVar 1) (tUn (rU fun i => .int (-i)) (tC (.int 1)))) "end") (tFld K (tOp (rIx K) (tVar 1) (tUn (rU fun i => .int (-i)) (tC (.int 1)))) "begin")) (tNil)))) (ipI fun i j => i - j)) (tNext)) (tRet (tTup (tCons (tVar 3) (tCons (tMtd A.cHistory "circle" (sp_History_circle K A) E0 (tVar 0) tNil) (tNil))))))))
def t_share_of (K : PySem.W.Frag) (A : Ads) : TS := tSeq (tIfS (tTest (tOp rIsN (tFld K (tVar 0) "loop") (tC .non))) (tRet (tIf (tB (tFld K (tOp (rIx K) (tFld K (tVar 0) "runs") (tUn (rU fun i => .int (-i)) (tC (.int 1)))) "is_heating")) (tTup (tCons (tC (.int 1)) (tCons (tC (.int 1)) (tNil)))) (tTup (tCons (tC (.int 0)) (tCons (tC (.int 1)) (tNil)))))) (tNext)) (tSeq (tAsg (tCB (rSum K) (tCons (tLc (iList K (tSl (rSlL K) (tFld K (tVar 0) "runs") (tPart (tFld K (tVar 0) "loop")) (tNoPart))) (gName 2) (tB (tFld K (tVar 2) "is_heating")) (tOp (rI0 fun i j => .int (i - j)) (tFld K (tVar 2) "end") (tFld K (tVar 2) "begin")) [2]) (tNil))) (gName 1)) (tSeq (tAsg (tCal (sp_common_divisor K A) E0 (tCons (tVar 1) (tCons (tMtd A.cHistory "circle" (sp_History_circle K A) E0 (tVar 0) tNil) (tNil)))) (gName 3)) (tRet (tTup (tCons (tOp (rI CDivW fun i j => .int (i / j)) (tVar 1) (tVar 3)) (tCons (tOp (rI CDivW fun i j => .int (i / j)) (tMtd A.cHistory "circle" (sp_History_circle K A) E0 (tVar 0) tNil) (tVar 3)) (tNil)))))))
def t_extreme_of (K : PySem.W.Frag) (A : Ads) : TS := tSeq (tAsg (tLc (iList K (tFld K (tVar 0) "runs")) (gName 3) (tYes) (tMtd A.cRun "extreme" (sp_Run_extreme K A) E0 (tVar 3) (tCons (tFld K (tVar 3) "end") (tCons (tVar 1) (tNil)))) [3]) (gName 2)) (tSeq (tIfS (tTest (tOp (rInD K) (tC .non) (tVar 2))) (tRet (tC .non)) (tNext)) (tSeq (tAsg (tOp (rIx K) (tVar 2) (tC (.int 0))) (gName 4)) (tSeq (tFor (iList K (tSl (rSlL K) (tVar 2) (tPart (tC (.int 1))) (tNoPart))) (gTup K 2 (gCons (gName 5) (gCons (gName 6) (gNil)))) (tIfS (tTest (tOp (rI0 fun i j => .bl (decide (j < i))) (tOp (rI CMul fun i j => .int (i * j)) (tVar 5) (tVar 1)) (tOp (rI CMul fun i j => .int (i * j)) (tOp (rIx K) (tVar 4) (tC (.int 0))) (tVar 1)))) (tAsg (tTup (tCons (tVar 5) (tCons (tVar 6) (tNil)))) (gName 4)) (tNext))) (tRet (tVar 4)))))
section
variable {K : PySem.W.Frag} {A : Ads}
/-- the data of an optional pair -/
def optD : Option (Int × Int) → PyData
  | none => .none
  | some (a, b) => .tuple [.int a, .int b]
end
end Wm
end

section
local macro_rules | `(tactic| walk_at "cls") => `(tactic| first | (with_reducible exact Wm.WeatherC.cl (by assumption)) | (with_reducible exact Wm.HeaterC.cl (by assumption)) | (with_reducible exact Wm.RoomC.cl (by assumption)) | (with_reducible exact Wm.RunC.cl (by assumption)) | (with_reducible exact Wm.HistoryC.cl (by assumption)) | (with_reducible exact Wm.ThresholdObserverC.cl (by assumption)) | (with_reducible exact Wm.SettingC.cl (by assumption)) | (with_reducible exact Wm.HourSettingC.cl (by assumption)) | (with_reducible exact Wm.RestSettingC.cl (by assumption)) | (with_reducible exact Wm.PricesC.cl (by assumption)) | (with_reducible exact Wm.MomentC.cl (by assumption)) | (with_reducible exact Wm.LiveRoomC.cl (by assumption)) | (with_reducible exact Wm.AttemptC.cl (by assumption)))
local macro_rules | `(tactic| walk_at "noattr") => `(tactic| first | (with_reducible exact Wm.WeatherC.n_pattern (by assumption)) | (with_reducible exact Wm.HeaterC.n_power (by assumption)) | (with_reducible exact Wm.HeaterC.n_below (by assumption)) | (with_reducible exact Wm.HeaterC.n_above (by assumption)) | (with_reducible exact Wm.RoomC.n_outside (by assumption)) | (with_reducible exact Wm.RoomC.n_inside (by assumption)) | (with_reducible exact Wm.RoomC.n_begin_degrees (by assumption)) | (with_reducible exact Wm.RoomC.n_past (by assumption)) | (with_reducible exact Wm.RoomC.n_repeated (by assumption)) | (with_reducible exact Wm.RoomC.n_share (by assumption)) | (with_reducible exact Wm.RoomC.n_coldest (by assumption)) | (with_reducible exact Wm.RoomC.n_warmest (by assumption)) | (with_reducible exact Wm.RunC.n_begin (by assumption)) | (with_reducible exact Wm.RunC.n_end (by assumption)) | (with_reducible exact Wm.RunC.n_degrees (by assumption)) | (with_reducible exact Wm.RunC.n_is_heating (by assumption)) | (with_reducible exact Wm.RunC.n_sums (by assumption)) | (with_reducible exact Wm.RunC.n_size (by assumption)) | (with_reducible exact Wm.RunC.n_drift (by assumption)) | (with_reducible exact Wm.HistoryC.n_shifts (by assumption)) | (with_reducible exact Wm.HistoryC.n_added (by assumption)) | (with_reducible exact Wm.HistoryC.n_floor (by assumption)) | (with_reducible exact Wm.HistoryC.n_ceiling (by assumption)) | (with_reducible exact Wm.HistoryC.n_was_heating (by assumption)) | (with_reducible exact Wm.HistoryC.n_runs (by assumption)) | (with_reducible exact Wm.HistoryC.n_loop (by assumption)) | (with_reducible exact Wm.ThresholdObserverC.n_outside (by assumption)) | (with_reducible exact Wm.ThresholdObserverC.n_power (by assumption)) | (with_reducible exact Wm.ThresholdObserverC.n_tick (by assumption)) | (with_reducible exact Wm.ThresholdObserverC.n_degrees (by assumption)) | (with_reducible exact Wm.ThresholdObserverC.n_is_heating (by assumption)) | (with_reducible exact Wm.ThresholdObserverC.n_lows (by assumption)) | (with_reducible exact Wm.ThresholdObserverC.n_highs (by assumption)) | (with_reducible exact Wm.ThresholdObserverC.n_noted (by assumption)) | (with_reducible exact Wm.SettingC.n_least (by assumption)) | (with_reducible exact Wm.SettingC.n_most (by assumption)) | (with_reducible exact Wm.HourSettingC.n_least (by assumption)) | (with_reducible exact Wm.HourSettingC.n_most (by assumption)) | (with_reducible exact Wm.HourSettingC.n_length (by assumption)) | (with_reducible exact Wm.HourSettingC.n_hours (by assumption)) | (with_reducible exact Wm.RestSettingC.n_least (by assumption)) | (with_reducible exact Wm.RestSettingC.n_most (by assumption)) | (with_reducible exact Wm.RestSettingC.n_rest (by assumption)) | (with_reducible exact Wm.PricesC.n_table (by assumption)) | (with_reducible exact Wm.MomentC.n_tick (by assumption)) | (with_reducible exact Wm.MomentC.n_heat (by assumption)) | (with_reducible exact Wm.MomentC.n_on (by assumption)) | (with_reducible exact Wm.MomentC.n_burnt (by assumption)) | (with_reducible exact Wm.MomentC.n_sky (by assumption)) | (with_reducible exact Wm.MomentC.n_stove (by assumption)) | (with_reducible exact Wm.LiveRoomC.n_moment (by assumption)) | (with_reducible exact Wm.LiveRoomC.n_earlier (by assumption)) | (with_reducible exact Wm.LiveRoomC.n_done (by assumption)) | (with_reducible exact Wm.AttemptC.n_live (by assumption)) | (with_reducible exact Wm.AttemptC.n_kept (by assumption)) | (with_reducible exact Wm.AttemptC.n_stack (by assumption)) | (with_reducible exact Wm.AttemptC.n_steps (by assumption)))
local macro_rules | `(tactic| walk_at "at") => `(tactic| first | assumption | exact Wm.Hold.rd (by assumption) (by assumption) | exact Wm.Hold.get (i := 0) (by assumption) rfl | exact Wm.Hold.get (i := 1) (by assumption) rfl | exact Wm.Hold.get (i := 2) (by assumption) rfl | exact Wm.Hold.get (i := 3) (by assumption) rfl | exact Wm.Hold.get (i := 4) (by assumption) rfl)
local macro_rules | `(tactic| walk_at "s1") => `(tactic| first
  | (with_reducible refine Wm.r_seq ?_)
  | (with_reducible refine Wm.r_op ?_)
  | ((with_reducible refine' Wm.r_var ?h ?_); (case h => rfl))
  | (with_reducible refine Wm.r_c ?_)
  | (with_reducible refine Wm.r_I0 ?_)
  | (with_reducible refine Wm.r_cons ?_)
  | (with_reducible refine Wm.r_nil ?_)
  | (with_reducible refine Wm.r_asg ?_)
  | (with_reducible refine Wm.r_gname ?_; try simp only [List.set_cons_zero, List.set_cons_succ])
  | (with_reducible refine Wm.r_nx ?_)
  | (with_reducible refine Wm.r_rt ?_)
  | (with_reducible refine Wm.r_ret ?_)
  | (with_reducible refine Wm.r_test ?_)
  | (with_reducible refine Wm.r_bl ?_)
  | (with_reducible refine Wm.r_B ?_)
  | (with_reducible refine Wm.r_eqI ?_)
  | (with_reducible refine Wm.r_neI ?_)
  | (with_reducible refine Wm.r_eqB ?_)
  | (with_reducible refine Wm.r_neB ?_)
  | (with_reducible refine Wm.r_fld ?_)
  | (with_reducible refine Wm.r_call ?_)
  | (with_reducible refine Wm.r_mtd ?_)
  | (with_reducible refine Wm.r_prp ?_)
  | (with_reducible refine Wm.r_mak ?_)
  | (with_reducible refine Wm.r_cb ?_)
  | (with_reducible refine Wm.r_tup ?_)
  | (with_reducible refine Wm.r_lst ?_)
  | (with_reducible refine Wm.r_chain ?_)
  | (with_reducible refine Wm.r_and ?_)
  | (with_reducible refine Wm.r_or ?_)
  | (with_reducible refine Wm.r_not ?_)
  | (with_reducible refine Wm.r_andV ?_)
  | (with_reducible refine Wm.r_orV ?_)
  | (with_reducible refine Wm.r_notV ?_)
  | (with_reducible refine Wm.r_if ?_)
  | (with_reducible refine Wm.r_un ?_)
  | (with_reducible refine Wm.r_U ?_)
  | (with_reducible refine Wm.r_iteT ?_)
  | (with_reducible refine Wm.r_iteF ?_)
  | (with_reducible refine Wm.r_next ?_)
  | (with_reducible refine Wm.r_drop ?_)
  | (with_reducible refine Wm.r_retN ?_)
  | ((with_reducible refine' Wm.r_aug ?h ?_); (case h => rfl))
  | (with_reducible refine Wm.r_ipI ?_)
  | (with_reducible refine Wm.r_par2 ?_)
  | (with_reducible refine Wm.r_two ?_; try simp only [List.set_cons_zero, List.set_cons_succ])
  | (with_reducible refine Wm.r_yes ?_)
  | (with_reducible refine Wm.r_forET ?_)
  | (with_reducible refine Wm.r_chain3 ?_)
  | (with_reducible refine Wm.r_nT ?_)
  | (with_reducible refine Wm.r_nF ?_)
  | (with_reducible refine Wm.r_par3 ?_)
  | (with_reducible refine Wm.r_seenPut ?_)
  | (with_reducible refine Wm.r_seenGet ?_)
  | (with_reducible refine Wm.r_three ?_; try simp only [List.set_cons_zero, List.set_cons_succ])
  | (with_reducible refine Wm.r_sl ?_)
  | (with_reducible refine Wm.r_nopart ?_)
  | (with_reducible refine Wm.r_part ?_)
  | (with_reducible refine Wm.r_xi ?_)
  | (with_reducible refine Wm.r_gcons ?_)
  | (with_reducible refine Wm.r_gnil ?_)
  | (with_reducible refine Wm.r_sub ?_)
  | (with_reducible refine Wm.r_setF ?_)
  | (with_reducible refine Wm.r_app ?_)
  | (with_reducible refine Wm.int_i ?_)
  | (with_reducible refine Wm.int_b ?_)
  | (with_reducible refine Wm.min2 ?_)
  | (with_reducible refine Wm.max2 ?_)
  | (with_reducible refine Wm.abs1 ?_)
  | (with_reducible refine Wm.isN ?_)
  | (with_reducible refine Wm.notN ?_)
  | ((with_reducible refine' Wm.r_ty ?e ?_); (case e => walk_at "at"))
  | ((with_reducible refine' Wm.setF_m ?h 0 ?e ?c ?a ?l ?_); (case h => assumption); (case e => rfl); (case c => walk_at "cls"); (case a => walk_at "noattr"); (case l => exact of_decide_eq_true rfl); intro H1 hh1; simp only [List.set_cons_zero, List.set_cons_succ] at hh1)
  | ((with_reducible refine' Wm.setF_m ?h 1 ?e ?c ?a ?l ?_); (case h => assumption); (case e => rfl); (case c => walk_at "cls"); (case a => walk_at "noattr"); (case l => exact of_decide_eq_true rfl); intro H1 hh1; simp only [List.set_cons_zero, List.set_cons_succ] at hh1)
  | ((with_reducible refine' Wm.setF_m ?h 2 ?e ?c ?a ?l ?_); (case h => assumption); (case e => rfl); (case c => walk_at "cls"); (case a => walk_at "noattr"); (case l => exact of_decide_eq_true rfl); intro H1 hh1; simp only [List.set_cons_zero, List.set_cons_succ] at hh1)
  | ((with_reducible refine' Wm.setF_m ?h 3 ?e ?c ?a ?l ?_); (case h => assumption); (case e => rfl); (case c => walk_at "cls"); (case a => walk_at "noattr"); (case l => exact of_decide_eq_true rfl); intro H1 hh1; simp only [List.set_cons_zero, List.set_cons_succ] at hh1)
  | (with_reducible refine Wm.r_forL ?_)
  | (with_reducible refine Wm.r_forT ?_)
  | (with_reducible refine Wm.r_forR1 ?_)
  | (with_reducible refine Wm.r_forR2 ?_)
  | (with_reducible refine Wm.r_lcL ?_)
  | (with_reducible refine Wm.r_lcT ?_)
  | (with_reducible refine Wm.r_lcR1 ?_)
  | (with_reducible refine Wm.r_lcR2 ?_)
  | ((with_reducible refine' Wm.fld_h ?e ?c ?n ?l ?_); (case e => walk_at "at"); (case c => walk_at "cls"); (case n => walk_at "noattr"); (case l => rfl))
  | ((with_reducible refine' Wm.mtd_h ?e ?l ?_); (case e => walk_at "at"); (case l => rfl))
  | ((with_reducible refine' Wm.prp_h ?e ?_); (case e => walk_at "at"))
  | ((with_reducible refine' Wm.rix_ht ?a ?b ?_); (case a => walk_at "at"); (case b => rfl))
  | ((with_reducible refine' Wm.rix_h ?a ?b ?_); (case a => walk_at "at"); (case b => rfl))
  | ((with_reducible refine' Wm.len_ht ?a ?_); (case a => walk_at "at"))
  | ((with_reducible refine' Wm.len_h ?a ?_); (case a => walk_at "at"))
  | ((with_reducible refine' Wm.len_l ?a ?b ?_); (case a => assumption); (case b => assumption))
  | ((with_reducible refine' Wm.len_t ?a ?b ?_); (case a => assumption); (case b => assumption))
  | ((with_reducible refine' Wm.gtup_h ?a ?b ?_); (case a => walk_at "at"); (case b => rfl))
  | (with_reducible refine Wm.r_I (Wm.cmulR (by decide)) ?_)
  | (with_reducible refine Wm.r_I (Wm.cmulL (by decide)) ?_)
  | (with_reducible refine Wm.r_I (Wm.cdiv (by decide) (by decide)) ?_)
  | (with_reducible refine Wm.r_I Wm.cpow18 ?_)
  | (with_reducible refine Wm.r_I Wm.cpow12 ?_)
  | (with_reducible refine Wm.r_I (by show (0 : Int) < _; decide) ?_))
local macro_rules | `(tactic| walk_at "s") => `(tactic| repeat (first | walk_at "s1" | (with_reducible refine Wm.r_ifS ?_)))
local macro_rules | `(tactic| walk_at "t") => `(tactic| repeat (walk_at "s1"))
local macro_rules | `(tactic| walk_at "sz") => `(tactic| exact of_decide_eq_true rfl)
local macro_rules | `(tactic| walk_at "d") => `(tactic| first | (refine Wm.r_dT (by omega) ?_) | (refine Wm.r_dF (by omega) ?_) | (refine Wm.r_dN (by omega) ?_) | (refine Wm.r_dM (by omega) ?_))
local macro_rules | `(tactic| walk_at "sd") => `(tactic| repeat (first | walk_at "s1" | (with_reducible refine Wm.r_ifS ?_) | walk_at "d"))
namespace Wm
open PySem PySem.Spec PyProof.Rows L2 StX
/-! ## Rooms -/
def roomF (w h pa : Addr) (start : Int) (vr vs vc vw : V) : List (Str × V) := [("outside", .ref w), ("inside", .ref h), ("begin_degrees", .int start), ("past", .ref pa), ("repeated", vr), ("share", vs), ("coldest", vc), ("warmest", vw)]
structure RoomD where
  w : Addr
  wt : Addr
  h : Addr
  pa : Addr
  P : Par
  rs : List RunD
  loop : Option Int
structure IsRoom (K : PySem.W.Frag) (A : Ads) (H : Hp) (p : Addr) (R : RoomD) : Prop where
  cl : RoomC K A.cRoom
  w_ : IsWeather K A H R.w R.wt R.P.ch
  h_ : IsHeater K A H R.h R.P.gain R.P.lo R.P.hi
  pa_ : IsHist K A H R.pa R.P R.rs R.loop
  ob : ∃ (dx : Addr) (vr vs vc vw : V) (o1 o2 : Option (Int × Int)), H p = some (.ins A.cRoom dx (roomF R.w R.h R.pa R.P.start vr vs vc vw)) ∧ OptAt H vr (repO R.rs R.loop) ∧ OptAt H vs (some (share R.rs R.loop)) ∧
    Ext R.P R.rs R.loop (-1) o1 ∧ OptAt H vc o1 ∧ Ext R.P R.rs R.loop 1 o2 ∧ OptAt H vw o2
def sp_Room_init (K : PySem.W.Frag) (A : Ads) : Sp := fun vs H Q _ => ∃ (p dx w wt h : Addr) (P : Par) (G : Hp) (mu : Mu), vs = [.ref p, .ref w, .ref h, .int P.start, .bl P.was] ∧ RoomC K A.cRoom ∧ HistoryC K A.cHistory ∧ RunC K A.cRun ∧
  IsWeather K A G w wt P.ch ∧ IsHeater K A G h P.gain P.lo P.hi ∧ -(10 ^ 12) ≤ P.start ∧ P.start ≤ 10 ^ 12 ∧ Hold G ((p, .ins A.cRoom dx []) :: mu) H ∧
  ∀ (rs : List RunD) (loop : Option Int) (pa : Addr) (G' H' : Hp), Ex G G' → IsRoom K A G' p ⟨w, wt, h, pa, P, rs, loop⟩ → Hold G' mu H' → Q .non H'
def sp_Room_weather (K : PySem.W.Frag) (A : Ads) : Sp := fun vs H Q _ => ∃ (p : Addr) (R : RoomD), vs = [.ref p] ∧ IsRoom K A H p R ∧ Q (.ref R.w) H
def sp_Room_heater (K : PySem.W.Frag) (A : Ads) : Sp := fun vs H Q _ => ∃ (p : Addr) (R : RoomD), vs = [.ref p] ∧ IsRoom K A H p R ∧ Q (.ref R.h) H
def sp_Room_start (K : PySem.W.Frag) (A : Ads) : Sp := fun vs H Q _ => ∃ (p : Addr) (R : RoomD), vs = [.ref p] ∧ IsRoom K A H p R ∧ Q (.int R.P.start) H
def sp_Room_repetition (K : PySem.W.Frag) (A : Ads) : Sp := fun vs H Q _ => ∃ (p dx w h pa : Addr) (s : Int) (vr v2 vc vw : V), vs = [.ref p] ∧ RoomC K A.cRoom ∧ H p = some (.ins A.cRoom dx (roomF w h pa s vr v2 vc vw)) ∧ Q vr H
def sp_Room_heating_share (K : PySem.W.Frag) (A : Ads) : Sp := fun vs H Q _ => ∃ (p dx w h pa : Addr) (s : Int) (vr v2 vc vw : V), vs = [.ref p] ∧ RoomC K A.cRoom ∧ H p = some (.ins A.cRoom dx (roomF w h pa s vr v2 vc vw)) ∧ Q v2 H
def sp_Room_lowest (K : PySem.W.Frag) (A : Ads) : Sp := fun vs H Q _ => ∃ (p dx w h pa : Addr) (s : Int) (vr v2 vc vw : V), vs = [.ref p] ∧ RoomC K A.cRoom ∧ H p = some (.ins A.cRoom dx (roomF w h pa s vr v2 vc vw)) ∧ Q vc H
def sp_Room_highest (K : PySem.W.Frag) (A : Ads) : Sp := fun vs H Q _ => ∃ (p dx w h pa : Addr) (s : Int) (vr v2 vc vw : V), vs = [.ref p] ∧ RoomC K A.cRoom ∧ H p = some (.ins A.cRoom dx (roomF w h pa s vr v2 vc vw)) ∧ Q vw H
def sp_Room_temperature (K : PySem.W.Frag) (A : Ads) : Sp := fun vs H Q _ => ∃ (p : Addr) (R : RoomD) (t : Int), vs = [.ref p, .int t] ∧ IsRoom K A H p R ∧ 0 ≤ t ∧ t ≤ 10 ^ 18 ∧ ∀ H', Ex H H' → Q (.int (dAt R.P t)) H'
def sp_Room_is_on (K : PySem.W.Frag) (A : Ads) : Sp := fun vs H Q _ => ∃ (p : Addr) (R : RoomD) (t : Int), vs = [.ref p, .int t] ∧ IsRoom K A H p R ∧ 0 ≤ t ∧ t ≤ 10 ^ 18 ∧ ∀ H', Ex H H' → Q (.bl (oAt R.P t)) H'
def sp_Room_loop_begin (K : PySem.W.Frag) (A : Ads) : Sp := fun vs H Q _ => ∃ (p : Addr) (R : RoomD) (j : Int), vs = [.ref p] ∧ IsRoom K A H p R ∧ R.loop = some j ∧ Q (.int (begAt R.rs j)) H
def t_Room_init (K : PySem.W.Frag) (A : Ads) : TS := tSeq (tDrop (tCal (sp_validate_number K A) E0 (tCons (tVar 3) (tCons (tOp (rI0 fun i j => .int (i - j)) (tC (.int 0)) (tC (.int 1000000000000))) (tCons (tC (.int 1000000000000)) (tNil)))))) (tSeq (sFld K (tVar 0) (tVar 1) "outside") (tSeq (sFld K (tVar 0) (tVar 2) "inside") (tSeq (sFld K (tVar 0) (tVar 3) "begin_degrees") (tSeq (sFld K (tVar 0) (tMak A.cHistory (sp_History_init K A) E0 (tCons (tPrp A.cWeather (sp_Weather_changes K A) E0 (tVar 1)) (tCons (tPrp A.cHeater (sp_Heater_gain K A) E0 (tVar 2)) (tCons (tPrp A.cHeater (sp_Heater_low K A) E0 (tVar 2)) (tCons (tPrp A.cHeater (sp_Heater_high K A) E0 (tVar 2)) (tCons (tVar 3) (tCons (tVar 4) (tNil)))))))) "past") (tSeq (sFld K (tVar 0) (tCal (sp_repetition_of K A) E0 (tCons (tFld K (tVar 0) "past") (tNil))) "repeated") (tSeq (sFld K (tVar 0) (tCal (sp_share_of K A) E0 (tCons (tFld K (tVar 0) "past") (tNil))) "share") (tSeq (sFld K (tVar 0) (tCal (sp_extreme_of K A) E0 (tCons (tFld K (tVar 0) "past") (tCons (tUn (rU fun i => .int (-i)) (tC (.int 1))) (tNil)))) "coldest") (sFld K (tVar 0) (tCal (sp_extreme_of K A) E0 (tCons (tFld K (tVar 0) "past") (tCons (tC (.int 1)) (tNil)))) "warmest"))))))))
def t_Room_weather (K : PySem.W.Frag) (A : Ads) : TS := tRet (tFld K (tVar 0) "outside")
def t_Room_heater (K : PySem.W.Frag) (A : Ads) : TS := tRet (tFld K (tVar 0) "inside")
def t_Room_start (K : PySem.W.Frag) (A : Ads) : TS := tRet (tFld K (tVar 0) "begin_degrees")
def t_Room_is_on (K : PySem.W.Frag) (A : Ads) : TS := tSeq (tDrop (tCal (sp_validate_number K A) E0 (tCons (tVar 1) (tCons (tC (.int 0)) (tCons (tC (.int 1000000000000000000)) (tNil)))))) (tRet (tFld K (tMtd A.cHistory "run_at" (sp_History_run_at K A) E0 (tFld K (tVar 0) "past") (tCons (tOp (rIx K) (tMtd A.cHistory "wrapped" (sp_History_wrapped K A) E0 (tFld K (tVar 0) "past") (tCons (tVar 1) (tNil))) (tC (.int 1))) (tNil))) "is_heating"))
def t_Room_loop_begin (K : PySem.W.Frag) (A : Ads) : TS := tRet (tFld K (tOp (rIx K) (tFld K (tFld K (tVar 0) "past") "runs") (tFld K (tFld K (tVar 0) "past") "loop")) "begin")
def t_Room_repetition (K : PySem.W.Frag) (A : Ads) : TS := tRet (tFld K (tVar 0) "repeated")
def t_Room_heating_share (K : PySem.W.Frag) (A : Ads) : TS := tRet (tFld K (tVar 0) "share")
def t_Room_temperature (K : PySem.W.Frag) (A : Ads) : TS := tSeq (tDrop (tCal (sp_validate_number K A) E0 (tCons (tVar 1) (tCons (tC (.int 0)) (tCons (tC (.int 1000000000000000000)) (tNil)))))) (tSeq (tAsg (tOp (rIx K) (tMtd A.cHistory "wrapped" (sp_History_wrapped K A) E0 (tFld K (tVar 0) "past") (tCons (tVar 1) (tNil))) (tC (.int 1))) (gName 2)) (tRet (tMtd A.cRun "at" (sp_Run_at K A) E0 (tMtd A.cHistory "run_at" (sp_History_run_at K A) E0 (tFld K (tVar 0) "past") (tCons (tVar 2) (tNil))) (tCons (tVar 2) (tNil)))))
def t_Room_lowest (K : PySem.W.Frag) (A : Ads) : TS := tRet (tFld K (tVar 0) "coldest")
def t_Room_highest (K : PySem.W.Frag) (A : Ads) : TS := tRet (tFld K (tVar 0) "warmest")
section
variable {K : PySem.W.Frag} {A : Ads}
end
end Wm
end

section
/-! ## Heating ticks -/
namespace Wm
open PySem
def hN (P : Par) : Nat → Int
  | 0 => 0
  | t + 1 => hN P t + if oAt P t = true then 1 else 0
@[irreducible] def hAt (P : Par) (t : Int) : Int := hN P t.toNat
/-- the ticks of heating of a run ahead of a tick -/
def heatIn (r : RunD) (t : Int) : Int := if r.on = true ∧ r.beg < t then (match r.fin with | none => t | some e => if t < e then t else e) - r.beg else 0
/-- where the runs up to number i end, but not behind t -/
def upTo (rs : List RunD) (t : Int) (i : Nat) : Int := match rs[i]? with | some r => if r.beg < t then r.beg else t | none => t
end Wm
end

section
local macro_rules | `(tactic| walk_at "cls") => `(tactic| first | (with_reducible exact Wm.WeatherC.cl (by assumption)) | (with_reducible exact Wm.HeaterC.cl (by assumption)) | (with_reducible exact Wm.RoomC.cl (by assumption)) | (with_reducible exact Wm.RunC.cl (by assumption)) | (with_reducible exact Wm.HistoryC.cl (by assumption)) | (with_reducible exact Wm.ThresholdObserverC.cl (by assumption)) | (with_reducible exact Wm.SettingC.cl (by assumption)) | (with_reducible exact Wm.HourSettingC.cl (by assumption)) | (with_reducible exact Wm.RestSettingC.cl (by assumption)) | (with_reducible exact Wm.PricesC.cl (by assumption)) | (with_reducible exact Wm.MomentC.cl (by assumption)) | (with_reducible exact Wm.LiveRoomC.cl (by assumption)) | (with_reducible exact Wm.AttemptC.cl (by assumption)))
local macro_rules | `(tactic| walk_at "noattr") => `(tactic| first | (with_reducible exact Wm.WeatherC.n_pattern (by assumption)) | (with_reducible exact Wm.HeaterC.n_power (by assumption)) | (with_reducible exact Wm.HeaterC.n_below (by assumption)) | (with_reducible exact Wm.HeaterC.n_above (by assumption)) | (with_reducible exact Wm.RoomC.n_outside (by assumption)) | (with_reducible exact Wm.RoomC.n_inside (by assumption)) | (with_reducible exact Wm.RoomC.n_begin_degrees (by assumption)) | (with_reducible exact Wm.RoomC.n_past (by assumption)) | (with_reducible exact Wm.RoomC.n_repeated (by assumption)) | (with_reducible exact Wm.RoomC.n_share (by assumption)) | (with_reducible exact Wm.RoomC.n_coldest (by assumption)) | (with_reducible exact Wm.RoomC.n_warmest (by assumption)) | (with_reducible exact Wm.RunC.n_begin (by assumption)) | (with_reducible exact Wm.RunC.n_end (by assumption)) | (with_reducible exact Wm.RunC.n_degrees (by assumption)) | (with_reducible exact Wm.RunC.n_is_heating (by assumption)) | (with_reducible exact Wm.RunC.n_sums (by assumption)) | (with_reducible exact Wm.RunC.n_size (by assumption)) | (with_reducible exact Wm.RunC.n_drift (by assumption)) | (with_reducible exact Wm.HistoryC.n_shifts (by assumption)) | (with_reducible exact Wm.HistoryC.n_added (by assumption)) | (with_reducible exact Wm.HistoryC.n_floor (by assumption)) | (with_reducible exact Wm.HistoryC.n_ceiling (by assumption)) | (with_reducible exact Wm.HistoryC.n_was_heating (by assumption)) | (with_reducible exact Wm.HistoryC.n_runs (by assumption)) | (with_reducible exact Wm.HistoryC.n_loop (by assumption)) | (with_reducible exact Wm.ThresholdObserverC.n_outside (by assumption)) | (with_reducible exact Wm.ThresholdObserverC.n_power (by assumption)) | (with_reducible exact Wm.ThresholdObserverC.n_tick (by assumption)) | (with_reducible exact Wm.ThresholdObserverC.n_degrees (by assumption)) | (with_reducible exact Wm.ThresholdObserverC.n_is_heating (by assumption)) | (with_reducible exact Wm.ThresholdObserverC.n_lows (by assumption)) | (with_reducible exact Wm.ThresholdObserverC.n_highs (by assumption)) | (with_reducible exact Wm.ThresholdObserverC.n_noted (by assumption)) | (with_reducible exact Wm.SettingC.n_least (by assumption)) | (with_reducible exact Wm.SettingC.n_most (by assumption)) | (with_reducible exact Wm.HourSettingC.n_least (by assumption)) | (with_reducible exact Wm.HourSettingC.n_most (by assumption)) | (with_reducible exact Wm.HourSettingC.n_length (by assumption)) | (with_reducible exact Wm.HourSettingC.n_hours (by assumption)) | (with_reducible exact Wm.RestSettingC.n_least (by assumption)) | (with_reducible exact Wm.RestSettingC.n_most (by assumption)) | (with_reducible exact Wm.RestSettingC.n_rest (by assumption)) | (with_reducible exact Wm.PricesC.n_table (by assumption)) | (with_reducible exact Wm.MomentC.n_tick (by assumption)) | (with_reducible exact Wm.MomentC.n_heat (by assumption)) | (with_reducible exact Wm.MomentC.n_on (by assumption)) | (with_reducible exact Wm.MomentC.n_burnt (by assumption)) | (with_reducible exact Wm.MomentC.n_sky (by assumption)) | (with_reducible exact Wm.MomentC.n_stove (by assumption)) | (with_reducible exact Wm.LiveRoomC.n_moment (by assumption)) | (with_reducible exact Wm.LiveRoomC.n_earlier (by assumption)) | (with_reducible exact Wm.LiveRoomC.n_done (by assumption)) | (with_reducible exact Wm.AttemptC.n_live (by assumption)) | (with_reducible exact Wm.AttemptC.n_kept (by assumption)) | (with_reducible exact Wm.AttemptC.n_stack (by assumption)) | (with_reducible exact Wm.AttemptC.n_steps (by assumption)))
local macro_rules | `(tactic| walk_at "at") => `(tactic| first | assumption | exact Wm.Hold.rd (by assumption) (by assumption) | exact Wm.Hold.get (i := 0) (by assumption) rfl | exact Wm.Hold.get (i := 1) (by assumption) rfl | exact Wm.Hold.get (i := 2) (by assumption) rfl | exact Wm.Hold.get (i := 3) (by assumption) rfl | exact Wm.Hold.get (i := 4) (by assumption) rfl)
local macro_rules | `(tactic| walk_at "s1") => `(tactic| first
  | (with_reducible refine Wm.r_seq ?_)
  | (with_reducible refine Wm.r_op ?_)
  | ((with_reducible refine' Wm.r_var ?h ?_); (case h => rfl))
  | (with_reducible refine Wm.r_c ?_)
  | (with_reducible refine Wm.r_I0 ?_)
  | (with_reducible refine Wm.r_cons ?_)
  | (with_reducible refine Wm.r_nil ?_)
  | (with_reducible refine Wm.r_asg ?_)
  | (with_reducible refine Wm.r_gname ?_; try simp only [List.set_cons_zero, List.set_cons_succ])
  | (with_reducible refine Wm.r_nx ?_)
  | (with_reducible refine Wm.r_rt ?_)
  | (with_reducible refine Wm.r_ret ?_)
  | (with_reducible refine Wm.r_test ?_)
  | (with_reducible refine Wm.r_bl ?_)
  | (with_reducible refine Wm.r_B ?_)
  | (with_reducible refine Wm.r_eqI ?_)
  | (with_reducible refine Wm.r_neI ?_)
  | (with_reducible refine Wm.r_eqB ?_)
  | (with_reducible refine Wm.r_neB ?_)
  | (with_reducible refine Wm.r_fld ?_)
  | (with_reducible refine Wm.r_call ?_)
  | (with_reducible refine Wm.r_mtd ?_)
  | (with_reducible refine Wm.r_prp ?_)
  | (with_reducible refine Wm.r_mak ?_)
  | (with_reducible refine Wm.r_cb ?_)
  | (with_reducible refine Wm.r_tup ?_)
  | (with_reducible refine Wm.r_lst ?_)
  | (with_reducible refine Wm.r_chain ?_)
  | (with_reducible refine Wm.r_and ?_)
  | (with_reducible refine Wm.r_or ?_)
  | (with_reducible refine Wm.r_not ?_)
  | (with_reducible refine Wm.r_andV ?_)
  | (with_reducible refine Wm.r_orV ?_)
  | (with_reducible refine Wm.r_notV ?_)
  | (with_reducible refine Wm.r_if ?_)
  | (with_reducible refine Wm.r_un ?_)
  | (with_reducible refine Wm.r_U ?_)
  | (with_reducible refine Wm.r_iteT ?_)
  | (with_reducible refine Wm.r_iteF ?_)
  | (with_reducible refine Wm.r_next ?_)
  | (with_reducible refine Wm.r_drop ?_)
  | (with_reducible refine Wm.r_retN ?_)
  | ((with_reducible refine' Wm.r_aug ?h ?_); (case h => rfl))
  | (with_reducible refine Wm.r_ipI ?_)
  | (with_reducible refine Wm.r_par2 ?_)
  | (with_reducible refine Wm.r_two ?_; try simp only [List.set_cons_zero, List.set_cons_succ])
  | (with_reducible refine Wm.r_yes ?_)
  | (with_reducible refine Wm.r_forET ?_)
  | (with_reducible refine Wm.r_chain3 ?_)
  | (with_reducible refine Wm.r_nT ?_)
  | (with_reducible refine Wm.r_nF ?_)
  | (with_reducible refine Wm.r_par3 ?_)
  | (with_reducible refine Wm.r_seenPut ?_)
  | (with_reducible refine Wm.r_seenGet ?_)
  | (with_reducible refine Wm.r_three ?_; try simp only [List.set_cons_zero, List.set_cons_succ])
  | (with_reducible refine Wm.r_sl ?_)
  | (with_reducible refine Wm.r_nopart ?_)
  | (with_reducible refine Wm.r_part ?_)
  | (with_reducible refine Wm.r_xi ?_)
  | (with_reducible refine Wm.r_gcons ?_)
  | (with_reducible refine Wm.r_gnil ?_)
  | (with_reducible refine Wm.r_sub ?_)
  | (with_reducible refine Wm.r_setF ?_)
  | (with_reducible refine Wm.r_app ?_)
  | (with_reducible refine Wm.int_i ?_)
  | (with_reducible refine Wm.int_b ?_)
  | (with_reducible refine Wm.min2 ?_)
  | (with_reducible refine Wm.max2 ?_)
  | (with_reducible refine Wm.abs1 ?_)
  | (with_reducible refine Wm.isN ?_)
  | (with_reducible refine Wm.notN ?_)
  | ((with_reducible refine' Wm.r_ty ?e ?_); (case e => walk_at "at"))
  | ((with_reducible refine' Wm.setF_m ?h 0 ?e ?c ?a ?l ?_); (case h => assumption); (case e => rfl); (case c => walk_at "cls"); (case a => walk_at "noattr"); (case l => exact of_decide_eq_true rfl); intro H1 hh1; simp only [List.set_cons_zero, List.set_cons_succ] at hh1)
  | ((with_reducible refine' Wm.setF_m ?h 1 ?e ?c ?a ?l ?_); (case h => assumption); (case e => rfl); (case c => walk_at "cls"); (case a => walk_at "noattr"); (case l => exact of_decide_eq_true rfl); intro H1 hh1; simp only [List.set_cons_zero, List.set_cons_succ] at hh1)
  | ((with_reducible refine' Wm.setF_m ?h 2 ?e ?c ?a ?l ?_); (case h => assumption); (case e => rfl); (case c => walk_at "cls"); (case a => walk_at "noattr"); (case l => exact of_decide_eq_true rfl); intro H1 hh1; simp only [List.set_cons_zero, List.set_cons_succ] at hh1)
  | ((with_reducible refine' Wm.setF_m ?h 3 ?e ?c ?a ?l ?_); (case h => assumption); (case e => rfl); (case c => walk_at "cls"); (case a => walk_at "noattr"); (case l => exact of_decide_eq_true rfl); intro H1 hh1; simp only [List.set_cons_zero, List.set_cons_succ] at hh1)
  | (with_reducible refine Wm.r_forL ?_)
  | (with_reducible refine Wm.r_forT ?_)
  | (with_reducible refine Wm.r_forR1 ?_)
  | (with_reducible refine Wm.r_forR2 ?_)
  | (with_reducible refine Wm.r_lcL ?_)
  | (with_reducible refine Wm.r_lcT ?_)
  | (with_reducible refine Wm.r_lcR1 ?_)
  | (with_reducible refine Wm.r_lcR2 ?_)
  | ((with_reducible refine' Wm.fld_h ?e ?c ?n ?l ?_); (case e => walk_at "at"); (case c => walk_at "cls"); (case n => walk_at "noattr"); (case l => rfl))
  | ((with_reducible refine' Wm.mtd_h ?e ?l ?_); (case e => walk_at "at"); (case l => rfl))
  | ((with_reducible refine' Wm.prp_h ?e ?_); (case e => walk_at "at"))
  | ((with_reducible refine' Wm.rix_ht ?a ?b ?_); (case a => walk_at "at"); (case b => rfl))
  | ((with_reducible refine' Wm.rix_h ?a ?b ?_); (case a => walk_at "at"); (case b => rfl))
  | ((with_reducible refine' Wm.len_ht ?a ?_); (case a => walk_at "at"))
  | ((with_reducible refine' Wm.len_h ?a ?_); (case a => walk_at "at"))
  | ((with_reducible refine' Wm.len_l ?a ?b ?_); (case a => assumption); (case b => assumption))
  | ((with_reducible refine' Wm.len_t ?a ?b ?_); (case a => assumption); (case b => assumption))
  | ((with_reducible refine' Wm.gtup_h ?a ?b ?_); (case a => walk_at "at"); (case b => rfl))
  | (with_reducible refine Wm.r_I (Wm.cmulR (by decide)) ?_)
  | (with_reducible refine Wm.r_I (Wm.cmulL (by decide)) ?_)
  | (with_reducible refine Wm.r_I (Wm.cdiv (by decide) (by decide)) ?_)
  | (with_reducible refine Wm.r_I Wm.cpow18 ?_)
  | (with_reducible refine Wm.r_I Wm.cpow12 ?_)
  | (with_reducible refine Wm.r_I (by show (0 : Int) < _; decide) ?_))
local macro_rules | `(tactic| walk_at "s") => `(tactic| repeat (first | walk_at "s1" | (with_reducible refine Wm.r_ifS ?_)))
local macro_rules | `(tactic| walk_at "t") => `(tactic| repeat (walk_at "s1"))
local macro_rules | `(tactic| walk_at "sz") => `(tactic| exact of_decide_eq_true rfl)
local macro_rules | `(tactic| walk_at "d") => `(tactic| first | (refine Wm.r_dT (by omega) ?_) | (refine Wm.r_dF (by omega) ?_) | (refine Wm.r_dN (by omega) ?_) | (refine Wm.r_dM (by omega) ?_))
local macro_rules | `(tactic| walk_at "sd") => `(tactic| repeat (first | walk_at "s1" | (with_reducible refine Wm.r_ifS ?_) | walk_at "d"))
namespace Wm
open PySem PySem.Spec PyProof.Rows L2 StX
/-! ## Heating ticks -/
def sp_Room_heated_before (K : PySem.W.Frag) (A : Ads) : Sp := fun vs H Q _ => ∃ (p : Addr) (R : RoomD) (t : Int), vs = [.ref p, .int t] ∧ IsRoom K A H p R ∧ 0 ≤ t ∧ (R.loop = none ∨ t ≤ finLast R.rs) ∧ Q (.int (hAt R.P t)) H
def sp_Room_heating_ticks (K : PySem.W.Frag) (A : Ads) : Sp := fun vs H Q _ => ∃ (p : Addr) (R : RoomD) (t : Int), vs = [.ref p, .int t] ∧ IsRoom K A H p R ∧ 0 ≤ t ∧ t ≤ 10 ^ 18 ∧ ∀ H', Ex H H' → Q (.int (hAt R.P t)) H'
def t_Room_heated_before (K : PySem.W.Frag) (A : Ads) : TS := tSeq (tAsg (tC (.int 0)) (gName 2)) (tSeq (tFor (iList K (tFld K (tFld K (tVar 0) "past") "runs")) (gName 3) (tIfS (tAnd (tB (tFld K (tVar 3) "is_heating")) (tTest (tOp (rI0 fun i j => .bl (decide (i < j))) (tFld K (tVar 3) "begin") (tVar 1)))) (tAug 2 (tOp (rI0 fun i j => .int (i - j)) (tIf (tTest (tOp rIsN (tFld K (tVar 3) "end") (tC .non))) (tVar 1) (tCB rMin2 (tCons (tFld K (tVar 3) "end") (tCons (tVar 1) (tNil))))) (tFld K (tVar 3) "begin")) (ipI fun i j => i + j)) (tNext))) (tRet (tVar 2)))
def t_Room_heating_ticks (K : PySem.W.Frag) (A : Ads) : TS := tSeq (tDrop (tCal (sp_validate_number K A) E0 (tCons (tVar 1) (tCons (tC (.int 0)) (tCons (tC (.int 1000000000000000000)) (tNil)))))) (tSeq (tAsg (tMtd A.cHistory "wrapped" (sp_History_wrapped K A) E0 (tFld K (tVar 0) "past") (tCons (tVar 1) (tNil))) (gTup K 2 (gCons (gName 2) (gCons (gName 3) (gNil))))) (tSeq (tAsg (tMtd A.cRoom "heated_before" (sp_Room_heated_before K A) E0 (tVar 0) (tCons (tVar 3) (tNil))) (gName 4)) (tSeq (tIfS (tTest (tOp (rI0 fun i j => .bl (decide (j < i))) (tVar 2) (tC (.int 0)))) (tAug 4 (tOp (rI CMul fun i j => .int (i * j)) (tVar 2) (tOp (rI0 fun i j => .int (i - j)) (tMtd A.cRoom "heated_before" (sp_Room_heated_before K A) E0 (tVar 0) (tCons (tFld K (tOp (rIx K) (tFld K (tFld K (tVar 0) "past") "runs") (tUn (rU fun i => .int (-i)) (tC (.int 1)))) "end") (tNil))) (tMtd A.cRoom "heated_before" (sp_Room_heated_before K A) E0 (tVar 0) (tCons (tMtd A.cRoom "loop_begin" (sp_Room_loop_begin K A) E0 (tVar 0) tNil) (tNil))))) (ipI fun i j => i + j)) (tNext)) (tRet (tVar 4)))))
section
variable {K : PySem.W.Frag} {A : Ads}
end
end Wm
end

section
/-! ## The share and the repetition -/
namespace Wm
open PySem
/-- from its first tick on the repetition repeats the heater's states -/
structure RepV (P : Par) (rs : List RunD) (loop : Option Int) (f c : Int) : Prop where
  f0 : 0 ≤ f
  c0 : 0 < c
  big : f + c ≤ 9604 * 10 ^ 14
  ph : c % P.ch.length = 0
  per : ∀ u, f ≤ u → dAt P (u + c) = dAt P u ∧ oAt P (u + c) = oAt P u
end Wm
end

section
/-! ## Switchings -/
namespace Wm
open PySem
def prevO (P : Par) (t : Int) : Bool := if t ≤ 0 then P.was else oAt P (t - 1)
def swI (P : Par) (t : Int) : Int := if (oAt P t != prevO P t) = true then 1 else 0
def swN (P : Par) : Nat → Int
  | 0 => 0
  | t + 1 => swN P t + swI P t
@[irreducible] def swAt (P : Par) (t : Int) : Int := swN P t.toNat
def same0 (P : Par) (rs : List RunD) : Int := match rs[0]? with | some r => if (r.on == P.was) = true then 1 else 0 | none => 0
def before (rs : List RunD) (t : Int) : List RunD := rs.filter fun r => decide (r.beg < t)
/-- the switchings ahead of a tick of the round, with a place for the beginning -/
def swF (P : Par) (rs : List RunD) (t : Int) : Int := if t = 0 then -same0 P rs else swAt P t
end Wm
end

section
namespace Wm
open PySem
def NthV (P : Par) (n : Int) : Option Int → Prop
  | none => ∀ u, 0 ≤ u → swAt P u < n
  | some w => 0 ≤ w ∧ swAt P w = n - 1 ∧ swAt P (w + 1) = n
end Wm
end

section
local macro_rules | `(tactic| walk_at "cls") => `(tactic| first | (with_reducible exact Wm.WeatherC.cl (by assumption)) | (with_reducible exact Wm.HeaterC.cl (by assumption)) | (with_reducible exact Wm.RoomC.cl (by assumption)) | (with_reducible exact Wm.RunC.cl (by assumption)) | (with_reducible exact Wm.HistoryC.cl (by assumption)) | (with_reducible exact Wm.ThresholdObserverC.cl (by assumption)) | (with_reducible exact Wm.SettingC.cl (by assumption)) | (with_reducible exact Wm.HourSettingC.cl (by assumption)) | (with_reducible exact Wm.RestSettingC.cl (by assumption)) | (with_reducible exact Wm.PricesC.cl (by assumption)) | (with_reducible exact Wm.MomentC.cl (by assumption)) | (with_reducible exact Wm.LiveRoomC.cl (by assumption)) | (with_reducible exact Wm.AttemptC.cl (by assumption)))
local macro_rules | `(tactic| walk_at "noattr") => `(tactic| first | (with_reducible exact Wm.WeatherC.n_pattern (by assumption)) | (with_reducible exact Wm.HeaterC.n_power (by assumption)) | (with_reducible exact Wm.HeaterC.n_below (by assumption)) | (with_reducible exact Wm.HeaterC.n_above (by assumption)) | (with_reducible exact Wm.RoomC.n_outside (by assumption)) | (with_reducible exact Wm.RoomC.n_inside (by assumption)) | (with_reducible exact Wm.RoomC.n_begin_degrees (by assumption)) | (with_reducible exact Wm.RoomC.n_past (by assumption)) | (with_reducible exact Wm.RoomC.n_repeated (by assumption)) | (with_reducible exact Wm.RoomC.n_share (by assumption)) | (with_reducible exact Wm.RoomC.n_coldest (by assumption)) | (with_reducible exact Wm.RoomC.n_warmest (by assumption)) | (with_reducible exact Wm.RunC.n_begin (by assumption)) | (with_reducible exact Wm.RunC.n_end (by assumption)) | (with_reducible exact Wm.RunC.n_degrees (by assumption)) | (with_reducible exact Wm.RunC.n_is_heating (by assumption)) | (with_reducible exact Wm.RunC.n_sums (by assumption)) | (with_reducible exact Wm.RunC.n_size (by assumption)) | (with_reducible exact Wm.RunC.n_drift (by assumption)) | (with_reducible exact Wm.HistoryC.n_shifts (by assumption)) | (with_reducible exact Wm.HistoryC.n_added (by assumption)) | (with_reducible exact Wm.HistoryC.n_floor (by assumption)) | (with_reducible exact Wm.HistoryC.n_ceiling (by assumption)) | (with_reducible exact Wm.HistoryC.n_was_heating (by assumption)) | (with_reducible exact Wm.HistoryC.n_runs (by assumption)) | (with_reducible exact Wm.HistoryC.n_loop (by assumption)) | (with_reducible exact Wm.ThresholdObserverC.n_outside (by assumption)) | (with_reducible exact Wm.ThresholdObserverC.n_power (by assumption)) | (with_reducible exact Wm.ThresholdObserverC.n_tick (by assumption)) | (with_reducible exact Wm.ThresholdObserverC.n_degrees (by assumption)) | (with_reducible exact Wm.ThresholdObserverC.n_is_heating (by assumption)) | (with_reducible exact Wm.ThresholdObserverC.n_lows (by assumption)) | (with_reducible exact Wm.ThresholdObserverC.n_highs (by assumption)) | (with_reducible exact Wm.ThresholdObserverC.n_noted (by assumption)) | (with_reducible exact Wm.SettingC.n_least (by assumption)) | (with_reducible exact Wm.SettingC.n_most (by assumption)) | (with_reducible exact Wm.HourSettingC.n_least (by assumption)) | (with_reducible exact Wm.HourSettingC.n_most (by assumption)) | (with_reducible exact Wm.HourSettingC.n_length (by assumption)) | (with_reducible exact Wm.HourSettingC.n_hours (by assumption)) | (with_reducible exact Wm.RestSettingC.n_least (by assumption)) | (with_reducible exact Wm.RestSettingC.n_most (by assumption)) | (with_reducible exact Wm.RestSettingC.n_rest (by assumption)) | (with_reducible exact Wm.PricesC.n_table (by assumption)) | (with_reducible exact Wm.MomentC.n_tick (by assumption)) | (with_reducible exact Wm.MomentC.n_heat (by assumption)) | (with_reducible exact Wm.MomentC.n_on (by assumption)) | (with_reducible exact Wm.MomentC.n_burnt (by assumption)) | (with_reducible exact Wm.MomentC.n_sky (by assumption)) | (with_reducible exact Wm.MomentC.n_stove (by assumption)) | (with_reducible exact Wm.LiveRoomC.n_moment (by assumption)) | (with_reducible exact Wm.LiveRoomC.n_earlier (by assumption)) | (with_reducible exact Wm.LiveRoomC.n_done (by assumption)) | (with_reducible exact Wm.AttemptC.n_live (by assumption)) | (with_reducible exact Wm.AttemptC.n_kept (by assumption)) | (with_reducible exact Wm.AttemptC.n_stack (by assumption)) | (with_reducible exact Wm.AttemptC.n_steps (by assumption)))
local macro_rules | `(tactic| walk_at "at") => `(tactic| first | assumption | exact Wm.Hold.rd (by assumption) (by assumption) | exact Wm.Hold.get (i := 0) (by assumption) rfl | exact Wm.Hold.get (i := 1) (by assumption) rfl | exact Wm.Hold.get (i := 2) (by assumption) rfl | exact Wm.Hold.get (i := 3) (by assumption) rfl | exact Wm.Hold.get (i := 4) (by assumption) rfl)
local macro_rules | `(tactic| walk_at "s1") => `(tactic| first
  | (with_reducible refine Wm.r_seq ?_)
  | (with_reducible refine Wm.r_op ?_)
  | ((with_reducible refine' Wm.r_var ?h ?_); (case h => rfl))
  | (with_reducible refine Wm.r_c ?_)
  | (with_reducible refine Wm.r_I0 ?_)
  | (with_reducible refine Wm.r_cons ?_)
  | (with_reducible refine Wm.r_nil ?_)
  | (with_reducible refine Wm.r_asg ?_)
  | (with_reducible refine Wm.r_gname ?_; try simp only [List.set_cons_zero, List.set_cons_succ])
  | (with_reducible refine Wm.r_nx ?_)
  | (with_reducible refine Wm.r_rt ?_)
  | (with_reducible refine Wm.r_ret ?_)
  | (with_reducible refine Wm.r_test ?_)
  | (with_reducible refine Wm.r_bl ?_)
  | (with_reducible refine Wm.r_B ?_)
  | (with_reducible refine Wm.r_eqI ?_)
  | (with_reducible refine Wm.r_neI ?_)
  | (with_reducible refine Wm.r_eqB ?_)
  | (with_reducible refine Wm.r_neB ?_)
  | (with_reducible refine Wm.r_fld ?_)
  | (with_reducible refine Wm.r_call ?_)
  | (with_reducible refine Wm.r_mtd ?_)
  | (with_reducible refine Wm.r_prp ?_)
  | (with_reducible refine Wm.r_mak ?_)
  | (with_reducible refine Wm.r_makKw ?_)
  | (with_reducible refine Wm.r_cb ?_)
  | (with_reducible refine Wm.r_tup ?_)
  | (with_reducible refine Wm.r_lst ?_)
  | (with_reducible refine Wm.r_chain ?_)
  | (with_reducible refine Wm.r_and ?_)
  | (with_reducible refine Wm.r_or ?_)
  | (with_reducible refine Wm.r_not ?_)
  | (with_reducible refine Wm.r_andV ?_)
  | (with_reducible refine Wm.r_orV ?_)
  | (with_reducible refine Wm.r_notV ?_)
  | (with_reducible refine Wm.r_if ?_)
  | (with_reducible refine Wm.r_un ?_)
  | (with_reducible refine Wm.r_U ?_)
  | (with_reducible refine Wm.r_iteT ?_)
  | (with_reducible refine Wm.r_iteF ?_)
  | (with_reducible refine Wm.r_next ?_)
  | (with_reducible refine Wm.r_drop ?_)
  | (with_reducible refine Wm.r_retN ?_)
  | ((with_reducible refine' Wm.r_aug ?h ?_); (case h => rfl))
  | (with_reducible refine Wm.r_ipI ?_)
  | (with_reducible refine Wm.r_par2 ?_)
  | (with_reducible refine Wm.r_two ?_; try simp only [List.set_cons_zero, List.set_cons_succ])
  | (with_reducible refine Wm.r_yes ?_)
  | (with_reducible refine Wm.r_forET ?_)
  | (with_reducible refine Wm.r_chain3 ?_)
  | (with_reducible refine Wm.r_nT ?_)
  | (with_reducible refine Wm.r_nF ?_)
  | (with_reducible refine Wm.r_par3 ?_)
  | (with_reducible refine Wm.r_seenPut ?_)
  | (with_reducible refine Wm.r_seenGet ?_)
  | (with_reducible refine Wm.r_three ?_; try simp only [List.set_cons_zero, List.set_cons_succ])
  | (with_reducible refine Wm.r_sl ?_)
  | (with_reducible refine Wm.r_nopart ?_)
  | (with_reducible refine Wm.r_part ?_)
  | (with_reducible refine Wm.r_xi ?_)
  | (with_reducible refine Wm.r_gcons ?_)
  | (with_reducible refine Wm.r_gnil ?_)
  | (with_reducible refine Wm.r_sub ?_)
  | (with_reducible refine Wm.r_setF ?_)
  | (with_reducible refine Wm.r_app ?_)
  | (with_reducible refine Wm.int_i ?_)
  | (with_reducible refine Wm.int_b ?_)
  | (with_reducible refine Wm.min2 ?_)
  | (with_reducible refine Wm.max2 ?_)
  | (with_reducible refine Wm.abs1 ?_)
  | (with_reducible refine Wm.isN ?_)
  | (with_reducible refine Wm.notN ?_)
  | ((with_reducible refine' Wm.r_ty ?e ?_); (case e => walk_at "at"))
  | ((with_reducible refine' Wm.setF_m ?h 0 ?e ?c ?a ?l ?_); (case h => assumption); (case e => rfl); (case c => walk_at "cls"); (case a => walk_at "noattr"); (case l => exact of_decide_eq_true rfl); intro H1 hh1; simp only [List.set_cons_zero, List.set_cons_succ] at hh1)
  | ((with_reducible refine' Wm.setF_m ?h 1 ?e ?c ?a ?l ?_); (case h => assumption); (case e => rfl); (case c => walk_at "cls"); (case a => walk_at "noattr"); (case l => exact of_decide_eq_true rfl); intro H1 hh1; simp only [List.set_cons_zero, List.set_cons_succ] at hh1)
  | ((with_reducible refine' Wm.setF_m ?h 2 ?e ?c ?a ?l ?_); (case h => assumption); (case e => rfl); (case c => walk_at "cls"); (case a => walk_at "noattr"); (case l => exact of_decide_eq_true rfl); intro H1 hh1; simp only [List.set_cons_zero, List.set_cons_succ] at hh1)
  | ((with_reducible refine' Wm.setF_m ?h 3 ?e ?c ?a ?l ?_); (case h => assumption); (case e => rfl); (case c => walk_at "cls"); (case a => walk_at "noattr"); (case l => exact of_decide_eq_true rfl); intro H1 hh1; simp only [List.set_cons_zero, List.set_cons_succ] at hh1)
  | (with_reducible refine Wm.r_forL ?_)
  | (with_reducible refine Wm.r_forT ?_)
  | (with_reducible refine Wm.r_forR1 ?_)
  | (with_reducible refine Wm.r_forR2 ?_)
  | (with_reducible refine Wm.r_lcL ?_)
  | (with_reducible refine Wm.r_lcT ?_)
  | (with_reducible refine Wm.r_lcR1 ?_)
  | (with_reducible refine Wm.r_lcR2 ?_)
  | ((with_reducible refine' Wm.fld_h ?e ?c ?n ?l ?_); (case e => walk_at "at"); (case c => walk_at "cls"); (case n => walk_at "noattr"); (case l => rfl))
  | ((with_reducible refine' Wm.mtd_h ?e ?l ?_); (case e => walk_at "at"); (case l => rfl))
  | ((with_reducible refine' Wm.prp_h ?e ?_); (case e => walk_at "at"))
  | ((with_reducible refine' Wm.rix_ht ?a ?b ?_); (case a => walk_at "at"); (case b => rfl))
  | ((with_reducible refine' Wm.rix_h ?a ?b ?_); (case a => walk_at "at"); (case b => rfl))
  | ((with_reducible refine' Wm.len_ht ?a ?_); (case a => walk_at "at"))
  | ((with_reducible refine' Wm.len_h ?a ?_); (case a => walk_at "at"))
  | ((with_reducible refine' Wm.len_l ?a ?b ?_); (case a => assumption); (case b => assumption))
  | ((with_reducible refine' Wm.len_t ?a ?b ?_); (case a => assumption); (case b => assumption))
  | ((with_reducible refine' Wm.gtup_h ?a ?b ?_); (case a => walk_at "at"); (case b => rfl))
  | (with_reducible refine Wm.r_I (Wm.cmulR (by decide)) ?_)
  | (with_reducible refine Wm.r_I (Wm.cmulL (by decide)) ?_)
  | (with_reducible refine Wm.r_I (Wm.cdiv (by decide) (by decide)) ?_)
  | (with_reducible refine Wm.r_I Wm.cpow18 ?_)
  | (with_reducible refine Wm.r_I Wm.cpow12 ?_)
  | (with_reducible refine Wm.r_I (by show (0 : Int) < _; decide) ?_))
local macro_rules | `(tactic| walk_at "s") => `(tactic| repeat (first | walk_at "s1" | (with_reducible refine Wm.r_ifS ?_)))
local macro_rules | `(tactic| walk_at "t") => `(tactic| repeat (walk_at "s1"))
local macro_rules | `(tactic| walk_at "sz") => `(tactic| exact of_decide_eq_true rfl)
local macro_rules | `(tactic| walk_at "d") => `(tactic| first | (refine Wm.r_dT (by omega) ?_) | (refine Wm.r_dF (by omega) ?_) | (refine Wm.r_dN (by omega) ?_) | (refine Wm.r_dM (by omega) ?_))
local macro_rules | `(tactic| walk_at "sd") => `(tactic| repeat (first | walk_at "s1" | (with_reducible refine Wm.r_ifS ?_) | walk_at "d"))
namespace Wm
open PySem PySem.Spec PyProof.Rows L2 StX
/-! ## Switchings -/
def sp_Room_switched_before (K : PySem.W.Frag) (A : Ads) : Sp := fun vs H Q _ => ∃ (p : Addr) (R : RoomD) (t : Int), vs = [.ref p, .int t] ∧ IsRoom K A H p R ∧ ∀ H', Ex H H' → Q (.int (((before R.rs t).length : Int) - same0 R.P R.rs)) H'
def sp_Room_switchings (K : PySem.W.Frag) (A : Ads) : Sp := fun vs H Q _ => ∃ (p : Addr) (R : RoomD) (t : Int), vs = [.ref p, .int t] ∧ IsRoom K A H p R ∧ 0 ≤ t ∧ t ≤ 10 ^ 18 ∧ ∀ H', Ex H H' → Q (.int (swAt R.P t)) H'
def sp_Room_nth_switching (K : PySem.W.Frag) (A : Ads) : Sp := fun vs H Q _ => ∃ (p : Addr) (R : RoomD) (n : Int), vs = [.ref p, .int n] ∧ IsRoom K A H p R ∧ 1 ≤ n ∧ n ≤ 10 ^ 18 ∧ ∀ o H', NthV R.P n o → Ex H H' → Q (optI o) H'
def t_Room_switched_before (K : PySem.W.Frag) (A : Ads) : TS := tSeq (tAsg (tLc (iList K (tFld K (tFld K (tVar 0) "past") "runs")) (gName 3) (tTest (tOp (rI0 fun i j => .bl (decide (i < j))) (tFld K (tVar 3) "begin") (tVar 1))) (tFld K (tVar 3) "begin") [3]) (gName 2)) (tSeq (tAsg (tOp rEq (tFld K (tOp (rIx K) (tFld K (tFld K (tVar 0) "past") "runs") (tC (.int 0))) "is_heating") (tFld K (tFld K (tVar 0) "past") "was_heating")) (gName 4)) (tRet (tOp (rI0 fun i j => .int (i - j)) (tCB (rLen K) (tCons (tVar 2) (tNil))) (tCB rInt (tCons (tVar 4) (tNil))))))
def t_Room_switchings (K : PySem.W.Frag) (A : Ads) : TS := tSeq (tDrop (tCal (sp_validate_number K A) E0 (tCons (tVar 1) (tCons (tC (.int 0)) (tCons (tC (.int 1000000000000000000)) (tNil)))))) (tSeq (tAsg (tMtd A.cHistory "wrapped" (sp_History_wrapped K A) E0 (tFld K (tVar 0) "past") (tCons (tVar 1) (tNil))) (gTup K 2 (gCons (gName 2) (gCons (gName 3) (gNil))))) (tSeq (tAsg (tMtd A.cRoom "switched_before" (sp_Room_switched_before K A) E0 (tVar 0) (tCons (tVar 3) (tNil))) (gName 4)) (tRet (tIf (tTest (tOp (rI0 fun i j => .bl (decide (j < i))) (tVar 2) (tC (.int 0)))) (tOp (rI0 fun i j => .int (i + j)) (tVar 4) (tOp (rI CMul fun i j => .int (i * j)) (tVar 2) (tOp (rI0 fun i j => .int (i - j)) (tCB (rLen K) (tCons (tFld K (tFld K (tVar 0) "past") "runs") (tNil))) (tFld K (tFld K (tVar 0) "past") "loop")))) (tCB rMax2 (tCons (tC (.int 0)) (tCons (tVar 4) (tNil))))))))
def t_Room_nth_switching (K : PySem.W.Frag) (A : Ads) : TS := tSeq (tDrop (tCal (sp_validate_number K A) E0 (tCons (tVar 1) (tCons (tC (.int 1)) (tCons (tC (.int 1000000000000000000)) (tNil)))))) (tSeq (tAsg (tOp rEq (tFld K (tOp (rIx K) (tFld K (tFld K (tVar 0) "past") "runs") (tC (.int 0))) "is_heating") (tFld K (tFld K (tVar 0) "past") "was_heating")) (gName 2)) (tSeq (tAsg (tOp (rI0 fun i j => .int (i + j)) (tOp (rI0 fun i j => .int (i - j)) (tVar 1) (tC (.int 1))) (tCB rInt (tCons (tVar 2) (tNil)))) (gName 3)) (tSeq (tIfS (tTest (tOp (rI0 fun i j => .bl (decide (i < j))) (tVar 3) (tCB (rLen K) (tCons (tFld K (tFld K (tVar 0) "past") "runs") (tNil))))) (tRet (tFld K (tOp (rIx K) (tFld K (tFld K (tVar 0) "past") "runs") (tVar 3)) "begin")) (tNext)) (tSeq (tIfS (tTest (tOp rIsN (tFld K (tFld K (tVar 0) "past") "loop") (tC .non))) (tRet (tC .non)) (tNext)) (tSeq (tAsg (tOp (rI0 fun i j => .int (i - j)) (tCB (rLen K) (tCons (tFld K (tFld K (tVar 0) "past") "runs") (tNil))) (tFld K (tFld K (tVar 0) "past") "loop")) (gName 4)) (tSeq (tPar 5 6 (tCons (tOp (rI CDivW fun i j => .int (i / j)) (tOp (rI0 fun i j => .int (i - j)) (tVar 3) (tFld K (tFld K (tVar 0) "past") "loop")) (tVar 4)) (tCons (tOp (rI (fun _ j => 0 < j) fun i j => .int (i % j)) (tCB rInt (tCons (tOp (rI0 fun i j => .int (i - j)) (tVar 3) (tFld K (tFld K (tVar 0) "past") "loop")) (tNil))) (tVar 4)) (tNil)))) (tRet (tOp (rI0 fun i j => .int (i + j)) (tFld K (tOp (rIx K) (tFld K (tFld K (tVar 0) "past") "runs") (tOp (rI0 fun i j => .int (i + j)) (tFld K (tFld K (tVar 0) "past") "loop") (tVar 6))) "begin") (tOp (rI CMul fun i j => .int (i * j)) (tVar 5) (tMtd A.cHistory "circle" (sp_History_circle K A) E0 (tFld K (tVar 0) "past") tNil))))))))))
section
variable {K : PySem.W.Frag} {A : Ads}
end
end Wm
end

section
local macro_rules | `(tactic| walk_at "cls") => `(tactic| first | (with_reducible exact Wm.WeatherC.cl (by assumption)) | (with_reducible exact Wm.HeaterC.cl (by assumption)) | (with_reducible exact Wm.RoomC.cl (by assumption)) | (with_reducible exact Wm.RunC.cl (by assumption)) | (with_reducible exact Wm.HistoryC.cl (by assumption)) | (with_reducible exact Wm.ThresholdObserverC.cl (by assumption)) | (with_reducible exact Wm.SettingC.cl (by assumption)) | (with_reducible exact Wm.HourSettingC.cl (by assumption)) | (with_reducible exact Wm.RestSettingC.cl (by assumption)) | (with_reducible exact Wm.PricesC.cl (by assumption)) | (with_reducible exact Wm.MomentC.cl (by assumption)) | (with_reducible exact Wm.LiveRoomC.cl (by assumption)) | (with_reducible exact Wm.AttemptC.cl (by assumption)))
local macro_rules | `(tactic| walk_at "noattr") => `(tactic| first | (with_reducible exact Wm.WeatherC.n_pattern (by assumption)) | (with_reducible exact Wm.HeaterC.n_power (by assumption)) | (with_reducible exact Wm.HeaterC.n_below (by assumption)) | (with_reducible exact Wm.HeaterC.n_above (by assumption)) | (with_reducible exact Wm.RoomC.n_outside (by assumption)) | (with_reducible exact Wm.RoomC.n_inside (by assumption)) | (with_reducible exact Wm.RoomC.n_begin_degrees (by assumption)) | (with_reducible exact Wm.RoomC.n_past (by assumption)) | (with_reducible exact Wm.RoomC.n_repeated (by assumption)) | (with_reducible exact Wm.RoomC.n_share (by assumption)) | (with_reducible exact Wm.RoomC.n_coldest (by assumption)) | (with_reducible exact Wm.RoomC.n_warmest (by assumption)) | (with_reducible exact Wm.RunC.n_begin (by assumption)) | (with_reducible exact Wm.RunC.n_end (by assumption)) | (with_reducible exact Wm.RunC.n_degrees (by assumption)) | (with_reducible exact Wm.RunC.n_is_heating (by assumption)) | (with_reducible exact Wm.RunC.n_sums (by assumption)) | (with_reducible exact Wm.RunC.n_size (by assumption)) | (with_reducible exact Wm.RunC.n_drift (by assumption)) | (with_reducible exact Wm.HistoryC.n_shifts (by assumption)) | (with_reducible exact Wm.HistoryC.n_added (by assumption)) | (with_reducible exact Wm.HistoryC.n_floor (by assumption)) | (with_reducible exact Wm.HistoryC.n_ceiling (by assumption)) | (with_reducible exact Wm.HistoryC.n_was_heating (by assumption)) | (with_reducible exact Wm.HistoryC.n_runs (by assumption)) | (with_reducible exact Wm.HistoryC.n_loop (by assumption)) | (with_reducible exact Wm.ThresholdObserverC.n_outside (by assumption)) | (with_reducible exact Wm.ThresholdObserverC.n_power (by assumption)) | (with_reducible exact Wm.ThresholdObserverC.n_tick (by assumption)) | (with_reducible exact Wm.ThresholdObserverC.n_degrees (by assumption)) | (with_reducible exact Wm.ThresholdObserverC.n_is_heating (by assumption)) | (with_reducible exact Wm.ThresholdObserverC.n_lows (by assumption)) | (with_reducible exact Wm.ThresholdObserverC.n_highs (by assumption)) | (with_reducible exact Wm.ThresholdObserverC.n_noted (by assumption)) | (with_reducible exact Wm.SettingC.n_least (by assumption)) | (with_reducible exact Wm.SettingC.n_most (by assumption)) | (with_reducible exact Wm.HourSettingC.n_least (by assumption)) | (with_reducible exact Wm.HourSettingC.n_most (by assumption)) | (with_reducible exact Wm.HourSettingC.n_length (by assumption)) | (with_reducible exact Wm.HourSettingC.n_hours (by assumption)) | (with_reducible exact Wm.RestSettingC.n_least (by assumption)) | (with_reducible exact Wm.RestSettingC.n_most (by assumption)) | (with_reducible exact Wm.RestSettingC.n_rest (by assumption)) | (with_reducible exact Wm.PricesC.n_table (by assumption)) | (with_reducible exact Wm.MomentC.n_tick (by assumption)) | (with_reducible exact Wm.MomentC.n_heat (by assumption)) | (with_reducible exact Wm.MomentC.n_on (by assumption)) | (with_reducible exact Wm.MomentC.n_burnt (by assumption)) | (with_reducible exact Wm.MomentC.n_sky (by assumption)) | (with_reducible exact Wm.MomentC.n_stove (by assumption)) | (with_reducible exact Wm.LiveRoomC.n_moment (by assumption)) | (with_reducible exact Wm.LiveRoomC.n_earlier (by assumption)) | (with_reducible exact Wm.LiveRoomC.n_done (by assumption)) | (with_reducible exact Wm.AttemptC.n_live (by assumption)) | (with_reducible exact Wm.AttemptC.n_kept (by assumption)) | (with_reducible exact Wm.AttemptC.n_stack (by assumption)) | (with_reducible exact Wm.AttemptC.n_steps (by assumption)))
local macro_rules | `(tactic| walk_at "at") => `(tactic| first | assumption | exact Wm.Hold.rd (by assumption) (by assumption) | exact Wm.Hold.get (i := 0) (by assumption) rfl | exact Wm.Hold.get (i := 1) (by assumption) rfl | exact Wm.Hold.get (i := 2) (by assumption) rfl | exact Wm.Hold.get (i := 3) (by assumption) rfl | exact Wm.Hold.get (i := 4) (by assumption) rfl)
local macro_rules | `(tactic| walk_at "s1") => `(tactic| first
  | (with_reducible refine Wm.r_seq ?_)
  | (with_reducible refine Wm.r_op ?_)
  | ((with_reducible refine' Wm.r_var ?h ?_); (case h => rfl))
  | (with_reducible refine Wm.r_c ?_)
  | (with_reducible refine Wm.r_I0 ?_)
  | (with_reducible refine Wm.r_cons ?_)
  | (with_reducible refine Wm.r_nil ?_)
  | (with_reducible refine Wm.r_asg ?_)
  | (with_reducible refine Wm.r_gname ?_; try simp only [List.set_cons_zero, List.set_cons_succ])
  | (with_reducible refine Wm.r_nx ?_)
  | (with_reducible refine Wm.r_rt ?_)
  | (with_reducible refine Wm.r_ret ?_)
  | (with_reducible refine Wm.r_test ?_)
  | (with_reducible refine Wm.r_bl ?_)
  | (with_reducible refine Wm.r_B ?_)
  | (with_reducible refine Wm.r_eqI ?_)
  | (with_reducible refine Wm.r_neI ?_)
  | (with_reducible refine Wm.r_eqB ?_)
  | (with_reducible refine Wm.r_neB ?_)
  | (with_reducible refine Wm.r_fld ?_)
  | (with_reducible refine Wm.r_call ?_)
  | (with_reducible refine Wm.r_mtd ?_)
  | (with_reducible refine Wm.r_prp ?_)
  | (with_reducible refine Wm.r_mak ?_)
  | (with_reducible refine Wm.r_makKw ?_)
  | (with_reducible refine Wm.r_cb ?_)
  | (with_reducible refine Wm.r_tup ?_)
  | (with_reducible refine Wm.r_lst ?_)
  | (with_reducible refine Wm.r_chain ?_)
  | (with_reducible refine Wm.r_and ?_)
  | (with_reducible refine Wm.r_or ?_)
  | (with_reducible refine Wm.r_not ?_)
  | (with_reducible refine Wm.r_andV ?_)
  | (with_reducible refine Wm.r_orV ?_)
  | (with_reducible refine Wm.r_notV ?_)
  | (with_reducible refine Wm.r_if ?_)
  | (with_reducible refine Wm.r_un ?_)
  | (with_reducible refine Wm.r_U ?_)
  | (with_reducible refine Wm.r_iteT ?_)
  | (with_reducible refine Wm.r_iteF ?_)
  | (with_reducible refine Wm.r_next ?_)
  | (with_reducible refine Wm.r_drop ?_)
  | (with_reducible refine Wm.r_retN ?_)
  | ((with_reducible refine' Wm.r_aug ?h ?_); (case h => rfl))
  | (with_reducible refine Wm.r_ipI ?_)
  | (with_reducible refine Wm.r_par2 ?_)
  | (with_reducible refine Wm.r_two ?_; try simp only [List.set_cons_zero, List.set_cons_succ])
  | (with_reducible refine Wm.r_yes ?_)
  | (with_reducible refine Wm.r_forET ?_)
  | (with_reducible refine Wm.r_chain3 ?_)
  | (with_reducible refine Wm.r_nT ?_)
  | (with_reducible refine Wm.r_nF ?_)
  | (with_reducible refine Wm.r_par3 ?_)
  | (with_reducible refine Wm.r_seenPut ?_)
  | (with_reducible refine Wm.r_seenGet ?_)
  | (with_reducible refine Wm.r_three ?_; try simp only [List.set_cons_zero, List.set_cons_succ])
  | (with_reducible refine Wm.r_sl ?_)
  | (with_reducible refine Wm.r_nopart ?_)
  | (with_reducible refine Wm.r_part ?_)
  | (with_reducible refine Wm.r_xi ?_)
  | (with_reducible refine Wm.r_gcons ?_)
  | (with_reducible refine Wm.r_gnil ?_)
  | (with_reducible refine Wm.r_sub ?_)
  | (with_reducible refine Wm.r_setF ?_)
  | (with_reducible refine Wm.r_app ?_)
  | (with_reducible refine Wm.int_i ?_)
  | (with_reducible refine Wm.int_b ?_)
  | (with_reducible refine Wm.min2 ?_)
  | (with_reducible refine Wm.max2 ?_)
  | (with_reducible refine Wm.abs1 ?_)
  | (with_reducible refine Wm.isN ?_)
  | (with_reducible refine Wm.notN ?_)
  | ((with_reducible refine' Wm.r_ty ?e ?_); (case e => walk_at "at"))
  | ((with_reducible refine' Wm.setF_m ?h 0 ?e ?c ?a ?l ?_); (case h => assumption); (case e => rfl); (case c => walk_at "cls"); (case a => walk_at "noattr"); (case l => exact of_decide_eq_true rfl); intro H1 hh1; simp only [List.set_cons_zero, List.set_cons_succ] at hh1)
  | ((with_reducible refine' Wm.setF_m ?h 1 ?e ?c ?a ?l ?_); (case h => assumption); (case e => rfl); (case c => walk_at "cls"); (case a => walk_at "noattr"); (case l => exact of_decide_eq_true rfl); intro H1 hh1; simp only [List.set_cons_zero, List.set_cons_succ] at hh1)
  | ((with_reducible refine' Wm.setF_m ?h 2 ?e ?c ?a ?l ?_); (case h => assumption); (case e => rfl); (case c => walk_at "cls"); (case a => walk_at "noattr"); (case l => exact of_decide_eq_true rfl); intro H1 hh1; simp only [List.set_cons_zero, List.set_cons_succ] at hh1)
  | ((with_reducible refine' Wm.setF_m ?h 3 ?e ?c ?a ?l ?_); (case h => assumption); (case e => rfl); (case c => walk_at "cls"); (case a => walk_at "noattr"); (case l => exact of_decide_eq_true rfl); intro H1 hh1; simp only [List.set_cons_zero, List.set_cons_succ] at hh1)
  | (with_reducible refine Wm.r_forL ?_)
  | (with_reducible refine Wm.r_forT ?_)
  | (with_reducible refine Wm.r_forR1 ?_)
  | (with_reducible refine Wm.r_forR2 ?_)
  | (with_reducible refine Wm.r_lcL ?_)
  | (with_reducible refine Wm.r_lcT ?_)
  | (with_reducible refine Wm.r_lcR1 ?_)
  | (with_reducible refine Wm.r_lcR2 ?_)
  | ((with_reducible refine' Wm.fld_h ?e ?c ?n ?l ?_); (case e => walk_at "at"); (case c => walk_at "cls"); (case n => walk_at "noattr"); (case l => rfl))
  | ((with_reducible refine' Wm.mtd_h ?e ?l ?_); (case e => walk_at "at"); (case l => rfl))
  | ((with_reducible refine' Wm.prp_h ?e ?_); (case e => walk_at "at"))
  | ((with_reducible refine' Wm.rix_ht ?a ?b ?_); (case a => walk_at "at"); (case b => rfl))
  | ((with_reducible refine' Wm.rix_h ?a ?b ?_); (case a => walk_at "at"); (case b => rfl))
  | ((with_reducible refine' Wm.len_ht ?a ?_); (case a => walk_at "at"))
  | ((with_reducible refine' Wm.len_h ?a ?_); (case a => walk_at "at"))
  | ((with_reducible refine' Wm.len_l ?a ?b ?_); (case a => assumption); (case b => assumption))
  | ((with_reducible refine' Wm.len_t ?a ?b ?_); (case a => assumption); (case b => assumption))
  | ((with_reducible refine' Wm.gtup_h ?a ?b ?_); (case a => walk_at "at"); (case b => rfl))
  | (with_reducible refine Wm.r_I (Wm.cmulR (by decide)) ?_)
  | (with_reducible refine Wm.r_I (Wm.cmulL (by decide)) ?_)
  | (with_reducible refine Wm.r_I (Wm.cdiv (by decide) (by decide)) ?_)
  | (with_reducible refine Wm.r_I Wm.cpow18 ?_)
  | (with_reducible refine Wm.r_I Wm.cpow12 ?_)
  | (with_reducible refine Wm.r_I (by show (0 : Int) < _; decide) ?_))
local macro_rules | `(tactic| walk_at "s") => `(tactic| repeat (first | walk_at "s1" | (with_reducible refine Wm.r_ifS ?_)))
local macro_rules | `(tactic| walk_at "t") => `(tactic| repeat (walk_at "s1"))
local macro_rules | `(tactic| walk_at "sz") => `(tactic| exact of_decide_eq_true rfl)
local macro_rules | `(tactic| walk_at "d") => `(tactic| first | (refine Wm.r_dT (by omega) ?_) | (refine Wm.r_dF (by omega) ?_) | (refine Wm.r_dN (by omega) ?_) | (refine Wm.r_dM (by omega) ?_))
local macro_rules | `(tactic| walk_at "sd") => `(tactic| repeat (first | walk_at "s1" | (with_reducible refine Wm.r_ifS ?_) | walk_at "d"))
namespace Wm
open PySem PySem.Spec PyProof.Rows L2 StX
/-! ## The law's helpers -/
def t_law_next (K : PySem.W.Frag) (A : Ads) : TS := tSeq (tAsg (tOp (rIx K) (tOp rCat (tOp (rIx K) (tVar 0) (tC (.int 1))) (tLst (tCons (tC (.int 0)) (tNil)))) (tOp (rI (fun _ j => 0 < j) fun i j => .int (i % j)) (tOp (rIx K) (tVar 0) (tC (.int 2))) (tCB rMax2 (tCons (tC (.int 1)) (tCons (tCB (rLen K) (tCons (tOp (rIx K) (tVar 0) (tC (.int 1))) (tNil))) (tNil)))))) (gName 2)) (tSeq (tIfS (tTest (tOp (rI0 fun i j => .bl (decide (j ≤ i))) (tVar 2) (tOp (rI CPow fun i j => .int (i ^ j.toNat)) (tC (.int 10)) (tC (.int 18))))) (tSeq (tAsg (tOp (rI CDivW fun i j => .int (i / j)) (tVar 2) (tVar 1)) (gSub (tOp (rIx K) (tVar 0) (tC (.int 1))) (tOp (rI (fun _ j => 0 < j) fun i j => .int (i % j)) (tOp (rIx K) (tVar 0) (tC (.int 2))) (tCB (rLen K) (tCons (tOp (rIx K) (tVar 0) (tC (.int 1))) (tNil)))) rSetL)) (tRet (tOp (rI (fun _ j => 0 < j) fun i j => .int (i % j)) (tVar 2) (tVar 1)))) (tNext)) (tSeq (tAsg (tOp (rI (fun _ j => 0 < j) fun i j => .int (i % j)) (tOp (rI0 fun i j => .int (i + j)) (tOp (rI0 fun i j => .int (i + j)) (tOp (rI CMul fun i j => .int (i * j)) (tOp (rIx K) (tVar 0) (tC (.int 0))) (tC (.int 48271))) (tOp (rI CMul fun i j => .int (i * j)) (tVar 2) (tC (.int 69621)))) (tC (.int 11))) (tC (.int 2147483647))) (gSub (tVar 0) (tC (.int 0)) rSetL)) (tSeq (tAsg (tOp (rI0 fun i j => .int (i + j)) (tOp (rIx K) (tVar 0) (tC (.int 2))) (tC (.int 1))) (gSub (tVar 0) (tC (.int 2)) rSetL)) (tRet (tOp (rI (fun _ j => 0 < j) fun i j => .int (i % j)) (tOp (rI CDivW fun i j => .int (i / j)) (tOp (rIx K) (tVar 0) (tC (.int 0))) (tC (.int 7))) (tVar 1))))))
/-- the state of the draws: a number mixed, an index, the cells -/
structure DS where
  m : Int
  ix : Int
  cs : List Int
abbrev dh (a c : Addr) (d : DS) : Addr × HO := (a, .lst [.int d.m, .ref c, .int d.ix])
abbrev dc (c : Addr) (d : DS) : Addr × HO := (c, .lst (d.cs.map V.int))
structure DS.Ok (d : DS) : Prop where
  ix : 0 ≤ d.ix
  len : d.cs.length ≤ 63
def sp_law_next (K : PySem.W.Frag) (A : Ads) : Sp := fun vs H Q E => ∃ (a c : Addr) (d : DS) (lim : Int) (G : Hp) (mu : Mu), vs = [.ref a, .int lim] ∧ Hold G (dh a c d :: dc c d :: mu) H ∧ d.Ok ∧ 0 < lim ∧ lim < 2 ^ 64 ∧
  ∀ (n : Int) (d' : DS) (H' : Hp), 0 ≤ n → n < lim → d'.Ok → Hold G (dh a c d' :: dc c d' :: mu) H' → Q (.int n) H'
theorem pure_law_next {K : PySem.W.Frag} {A : Ads} (vs : List V) (H : Hp) (Q : VK) (E : XK) (h : sp_law_next K A vs H Q E) :
    t_law_next K A { nx := fun _ H' => Q .non H', rt := Q } (start ["_law_h", "_law_limit", "_law_cell"] vs) H := by
  obtain ⟨a, c, d, lim, G, mu, rfl, hh, ok, h0, h1, k⟩ := h
  have hl := ok.len
  have hx := ok.ix
  show t_law_next K A _ [some (.ref a), some (.int lim), none] H
  unfold t_law_next
  walk_at "s"
  refine lst_x (by decide) hh fun p H1 hp hh1 => ?_
  refine cat_x hh1 (hh1.get (i := 1) rfl) hp (sz (by simp; omega)) fun q H2 g2 hh2 => ?_
  walk_at "s"
  generalize hn : (((d.cs.map V.int).length : Nat) : Int) = n
  have en : n = (d.cs.length : Int) := by rw [← hn, List.length_map]
  have hm : (if n > 1 then n else 1) = max 1 n := by omega
  rw [hm]
  refine r_I (show (0 : Int) < max 1 n by omega) ?_
  have r0 := Int.emod_nonneg d.ix (show max 1 n ≠ 0 by omega)
  have r1 := Int.emod_lt_of_pos d.ix (show (0 : Int) < max 1 n by omega)
  generalize d.ix % max 1 n = j at r0 r1
  obtain ⟨cell, hc⟩ : ∃ z, (d.cs ++ [0])[j.toNat]? = some z := ⟨_, List.getElem?_eq_getElem (show j.toNat < (d.cs ++ [0]).length by simp; omega)⟩
  have hc2 : (d.cs.map V.int ++ [V.int 0])[j.toNat]? = some (V.int cell) := by
    rw [show d.cs.map V.int ++ [V.int 0] = (d.cs ++ [0]).map V.int by simp, List.getElem?_map, hc] <;> rfl
  refine rix_h g2 (atI_of r0 hc2) ?_
  walk_at "s"
  refine r_ite (fun h => ?_) (fun h => ?_)
  · -- a large cell
    walk_at "s"
    refine r_I (cdiv h0 h1) ?_
    walk_at "s"
    have hlen : 0 < d.cs.length := by
      rcases Nat.eq_zero_or_pos d.cs.length with z | z
      · have e0 : d.cs = [] := List.length_eq_zero_iff.mp z
        have hj : j.toNat = 0 := by omega
        rw [e0, hj] at hc
        have : cell = 0 := (Option.some.inj hc).symm
        rw [this] at h
        exact absurd (of_decide_eq_true h) (by decide)
      · exact z
    generalize hn2 : (((d.cs.map V.int).length : Nat) : Int) = n2
    have en2 : n2 = (d.cs.length : Int) := by rw [← hn2, List.length_map]
    refine r_I (show (0 : Int) < n2 by omega) ?_
    have r2 := Int.emod_nonneg d.ix (show n2 ≠ 0 by omega)
    have r3 := Int.emod_lt_of_pos d.ix (show (0 : Int) < n2 by omega)
    generalize d.ix % n2 = j2 at r2 r3
    refine setL_m hh2 1 rfl (ixN_of (by omega) (by rw [List.length_map]; omega)) fun H3 hh3 => ?_
    walk_at "s"
    refine r_I h0 ?_
    walk_at "s"
    refine k _ ⟨d.m, d.ix, d.cs.set j2.toNat (cell / lim)⟩ H3 (Int.emod_nonneg cell (by omega)) (Int.emod_lt_of_pos cell h0) ⟨hx, by simp; exact hl⟩ ?_
    show Hold G ((a, _) :: (c, .lst ((d.cs.set j2.toNat (cell / lim)).map V.int)) :: mu) H3
    rw [List.map_set]
    exact hh3
  · walk_at "s"
    refine setL_m hh2 0 rfl (by rfl) fun H3 hh3 => ?_
    walk_at "s"
    refine setL_m hh3 0 rfl (by rfl) fun H4 hh4 => ?_
    walk_at "s"
    refine r_I h0 ?_
    walk_at "s"
    exact k _ ⟨_, d.ix + 1, d.cs⟩ H4 (Int.emod_nonneg _ (by omega)) (Int.emod_lt_of_pos _ h0) ⟨by show 0 ≤ d.ix + 1; omega, hl⟩ hh4
def sp_law_mix (K : PySem.W.Frag) (A : Ads) : Sp := fun vs H Q _ => ∃ (s : Addr) (seed : Int) (xs : List Int), vs = [.ref s, .int seed] ∧ SqL K H s (xs.map V.int) ∧ xs.length ≤ 63 ∧
  ∀ (a c : Addr) (d : DS) (H' : Hp), d.Ok → Hold H [dh a c d, dc c d] H' → Q (.ref a) H'
def sp_law_changes (K : PySem.W.Frag) (A : Ads) : Sp := fun vs H Q _ => ∃ (a c : Addr) (most : Int) (d : DS) (G : Hp) (mu : Mu), vs = [.ref a, .int most] ∧ Hold G (dh a c d :: dc c d :: mu) H ∧ d.Ok ∧ 1 ≤ most ∧ most ≤ 24 ∧
  ∀ (t : Addr) (ch : List Int) (d' : DS) (G' H' : Hp), Ex G G' → G' t = some (.tup (ch.map V.int)) → WOk ch → (ch.length : Int) ≤ most → d'.Ok → Hold G' (dh a c d' :: dc c d' :: mu) H' → Q (.ref t) H'
structure SetOk (g lo hi st : Int) : Prop where
  g1 : 1 ≤ g
  g2 : g ≤ 200
  lh : lo ≤ hi
  w : hi ≤ lo + 10 ^ 11
  l1 : -(10 ^ 11) ≤ lo
  l2 : lo ≤ 10 ^ 11
  s1 : lo - 10 ^ 11 ≤ st
  s2 : st ≤ lo + 2 * 10 ^ 11
def sp_law_setting (K : PySem.W.Frag) (A : Ads) : Sp := fun vs H Q _ => ∃ (a c : Addr) (d : DS) (G : Hp) (mu : Mu), vs = [.ref a] ∧ Hold G (dh a c d :: dc c d :: mu) H ∧ d.Ok ∧
  ∀ (t : Addr) (g lo hi st : Int) (on : Bool) (d' : DS) (G' H' : Hp), Ex G G' → G' t = some (.tup [.int g, .int lo, .int hi, .int st, .bl on]) → SetOk g lo hi st → d'.Ok → Hold G' (dh a c d' :: dc c d' :: mu) H' → Q (.ref t) H'
def sp_law_weather (K : PySem.W.Frag) (A : Ads) : Sp := fun vs H Q _ => ∃ (t : Addr) (ch : List Int) (G : Hp) (mu : Mu), vs = [.ref t] ∧ WeatherC K A.cWeather ∧ Hold G mu H ∧ G t = some (.tup (ch.map V.int)) ∧ WOk ch ∧ ch.length ≤ 6 ∧
  ∀ (w wt : Addr) (G' H' : Hp), Ex G G' → IsWeather K A G' w wt ch → Hold G' mu H' → Q (.ref w) H'
def sp_law_room (K : PySem.W.Frag) (A : Ads) : Sp := fun vs H Q _ => ∃ (t s : Addr) (P : Par) (G : Hp) (mu : Mu), vs = [.ref t, .ref s] ∧ WeatherC K A.cWeather ∧ HeaterC K A.cHeater ∧ RoomC K A.cRoom ∧ HistoryC K A.cHistory ∧ RunC K A.cRun ∧ Hold G mu H ∧
  G t = some (.tup (P.ch.map V.int)) ∧ G s = some (.tup [.int P.gain, .int P.lo, .int P.hi, .int P.start, .bl P.was]) ∧ WOk P.ch ∧ P.ch.length ≤ 6 ∧ HtOk P.gain P.lo P.hi ∧ -(10 ^ 12) ≤ P.start ∧ P.start ≤ 10 ^ 12 ∧
  ∀ (p : Addr) (R : RoomD) (G' H' : Hp), Ex G G' → IsRoom K A G' p R → R.P = P → Hold G' mu H' → Q (.ref p) H'
def sp_law_divisor (K : PySem.W.Frag) (A : Ads) : Sp := fun vs H Q _ => ∃ a b : Nat, vs = [.int (a : Int), .int (b : Int)] ∧ Q (.int (Nat.gcd a b : Nat)) H
def t_law_mix (K : PySem.W.Frag) (A : Ads) : TS := tSeq (tAsg (tVar 1) (gName 2)) (tSeq (tFor (iList K (tVar 0)) (gName 3) (tAsg (tOp (rI (fun _ j => 0 < j) fun i j => .int (i % j)) (tOp (rI0 fun i j => .int (i + j)) (tOp (rI0 fun i j => .int (i + j)) (tOp (rI CMul fun i j => .int (i * j)) (tVar 2) (tC (.int 48271))) (tOp (rI (fun _ j => 0 < j) fun i j => .int (i % j)) (tVar 3) (tC (.int 2147483629)))) (tC (.int 1))) (tC (.int 2147483647))) (gName 2))) (tRet (tLst (tCons (tVar 2) (tCons (tCB (rListOf K) (tCons (tVar 0) (tNil))) (tCons (tC (.int 0)) (tNil)))))))
def t_law_changes (K : PySem.W.Frag) (A : Ads) : TS := tSeq (tPar 2 3 (tCons (tOp (rIx K) (tLst (tCons (tC (.int 3)) (tCons (tC (.int 9)) (tCons (tC (.int 100)) (tNil))))) (tCal (sp_law_next K A) E0 (tCons (tVar 0) (tCons (tC (.int 3)) (tNil))))) (tCons (tLst (tNil)) (tNil)))) (tSeq (tAsg (tOp (rI0 fun i j => .int (i - j)) (tOp (rI0 fun i j => .int (i - j)) (tCal (sp_law_next K A) E0 (tCons (tVar 0) (tCons (tOp (rI0 fun i j => .int (i + j)) (tOp (rI CMul fun i j => .int (i * j)) (tC (.int 2)) (tVar 2)) (tC (.int 1))) (tNil)))) (tVar 2)) (tOp (rI CDivW fun i j => .int (i / j)) (tVar 2) (tC (.int 2)))) (gName 4)) (tSeq (tFor (iRng1 (tCons (tOp (rI0 fun i j => .int (i + j)) (tC (.int 1)) (tCal (sp_law_next K A) E0 (tCons (tVar 0) (tCons (tVar 1) (tNil))))) (tNil))) (gName 5) (tDrop (tBM K "list" rAppend (tVar 3) (tCons (tOp (rI CMul fun i j => .int (i * j)) (tCB rMax2 (tCons (tUn (rU fun i => .int (-i)) (tC (.int 100))) (tCons (tCB rMin2 (tCons (tC (.int 100)) (tCons (tOp (rI0 fun i j => .int (i + j)) (tVar 4) (tCal (sp_law_next K A) E0 (tCons (tVar 0) (tCons (tOp (rI0 fun i j => .int (i + j)) (tVar 2) (tC (.int 1))) (tNil))))) (tNil)))) (tNil)))) (tCB rInt (tCons (tOp (rI0 fun i j => .bl (decide (j < i))) (tCal (sp_law_next K A) E0 (tCons (tVar 0) (tCons (tC (.int 5)) (tNil)))) (tC (.int 0))) (tNil)))) (tNil))))) (tRet (tCB (rTupOf K) (tCons (tVar 3) (tNil))))))
def t_law_weather (K : PySem.W.Frag) (A : Ads) : TS := tSeq (tAsg (tOp rCat (tCB (rListOf K) (tCons (tVar 0) (tNil))) (tOp rRep (tLst (tCons (tC (.int 0)) (tNil))) (tC (.int 6)))) (gName 1)) (tSeq (tIfS (tTest (tOp (rI0 fun i j => .bl (decide (i < j))) (tCB (rLen K) (tCons (tVar 0) (tNil))) (tC (.int 3)))) (tRet (tIf (tTest (tOp rEq (tCB (rLen K) (tCons (tVar 0) (tNil))) (tC (.int 1)))) (tMak A.cWeather (sp_Weather_init K A) E0 (tCons (tOp (rIx K) (tVar 1) (tC (.int 0))) (tNil))) (tMak A.cWeather (sp_Weather_init K A) E0 (tCons (tOp (rIx K) (tVar 1) (tC (.int 0))) (tCons (tOp (rIx K) (tVar 1) (tC (.int 1))) (tNil)))))) (tNext)) (tSeq (tIfS (tTest (tOp (rI0 fun i j => .bl (decide (i < j))) (tCB (rLen K) (tCons (tVar 0) (tNil))) (tC (.int 5)))) (tRet (tIf (tTest (tOp rEq (tCB (rLen K) (tCons (tVar 0) (tNil))) (tC (.int 3)))) (tMak A.cWeather (sp_Weather_init K A) E0 (tCons (tOp (rIx K) (tVar 1) (tC (.int 0))) (tCons (tOp (rIx K) (tVar 1) (tC (.int 1))) (tCons (tOp (rIx K) (tVar 1) (tC (.int 2))) (tNil))))) (tMak A.cWeather (sp_Weather_init K A) E0 (tCons (tOp (rIx K) (tVar 1) (tC (.int 0))) (tCons (tOp (rIx K) (tVar 1) (tC (.int 1))) (tCons (tOp (rIx K) (tVar 1) (tC (.int 2))) (tCons (tOp (rIx K) (tVar 1) (tC (.int 3))) (tNil)))))))) (tNext)) (tSeq (tIfS (tTest (tOp rEq (tCB (rLen K) (tCons (tVar 0) (tNil))) (tC (.int 5)))) (tRet (tMak A.cWeather (sp_Weather_init K A) E0 (tCons (tOp (rIx K) (tVar 1) (tC (.int 0))) (tCons (tOp (rIx K) (tVar 1) (tC (.int 1))) (tCons (tOp (rIx K) (tVar 1) (tC (.int 2))) (tCons (tOp (rIx K) (tVar 1) (tC (.int 3))) (tCons (tOp (rIx K) (tVar 1) (tC (.int 4))) (tNil)))))))) (tNext)) (tRet (tMak A.cWeather (sp_Weather_init K A) E0 (tCons (tOp (rIx K) (tVar 1) (tC (.int 0))) (tCons (tOp (rIx K) (tVar 1) (tC (.int 1))) (tCons (tOp (rIx K) (tVar 1) (tC (.int 2))) (tCons (tOp (rIx K) (tVar 1) (tC (.int 3))) (tCons (tOp (rIx K) (tVar 1) (tC (.int 4))) (tCons (tOp (rIx K) (tVar 1) (tC (.int 5))) (tNil))))))))))))
def t_law_setting (K : PySem.W.Frag) (A : Ads) : TS := tSeq (tAsg (tOp (rIx K) (tLst (tCons (tC (.int 5)) (tCons (tC (.int 60)) (tCons (tOp (rI CPow fun i j => .int (i ^ j.toNat)) (tC (.int 10)) (tC (.int 11))) (tNil))))) (tCal (sp_law_next K A) E0 (tCons (tVar 0) (tCons (tC (.int 3)) (tNil))))) (gName 1)) (tSeq (tAsg (tOp (rI0 fun i j => .int (i - j)) (tCal (sp_law_next K A) E0 (tCons (tVar 0) (tCons (tVar 1) (tNil)))) (tOp (rI CDivW fun i j => .int (i / j)) (tVar 1) (tC (.int 2)))) (gName 2)) (tSeq (tAsg (tOp (rI0 fun i j => .int (i + j)) (tVar 2) (tCal (sp_law_next K A) E0 (tCons (tVar 0) (tCons (tOp (rIx K) (tLst (tCons (tC (.int 4)) (tCons (tVar 1) (tNil)))) (tCal (sp_law_next K A) E0 (tCons (tVar 0) (tCons (tC (.int 2)) (tNil))))) (tNil))))) (gName 3)) (tSeq (tAsg (tOp (rI0 fun i j => .int (i - j)) (tOp (rI0 fun i j => .int (i + j)) (tVar 2) (tCal (sp_law_next K A) E0 (tCons (tVar 0) (tCons (tOp (rI CMul fun i j => .int (i * j)) (tC (.int 2)) (tVar 1)) (tNil))))) (tOp (rI CDivW fun i j => .int (i / j)) (tVar 1) (tC (.int 2)))) (gName 4)) (tSeq (tAsg (tOp (rIx K) (tLst (tCons (tVar 4) (tCons (tVar 2) (tCons (tVar 3) (tCons (tOp (rI0 fun i j => .int (i - j)) (tVar 2) (tC (.int 1))) (tCons (tOp (rI0 fun i j => .int (i + j)) (tVar 3) (tC (.int 1))) (tNil))))))) (tCB rMax2 (tCons (tC (.int 0)) (tCons (tOp (rI0 fun i j => .int (i - j)) (tCal (sp_law_next K A) E0 (tCons (tVar 0) (tCons (tC (.int 8)) (tNil)))) (tC (.int 3))) (tNil))))) (gName 4)) (tRet (tTup (tCons (tOp (rI0 fun i j => .int (i + j)) (tC (.int 1)) (tCal (sp_law_next K A) E0 (tCons (tVar 0) (tCons (tOp (rIx K) (tLst (tCons (tC (.int 6)) (tCons (tC (.int 200)) (tNil)))) (tCal (sp_law_next K A) E0 (tCons (tVar 0) (tCons (tC (.int 2)) (tNil))))) (tNil))))) (tCons (tVar 2) (tCons (tVar 3) (tCons (tVar 4) (tCons (tOp rEq (tCal (sp_law_next K A) E0 (tCons (tVar 0) (tCons (tC (.int 2)) (tNil)))) (tC (.int 0))) (tNil))))))))))))
def t_law_room (K : PySem.W.Frag) (A : Ads) : TS := tSeq (tAsg (tVar 1) (gTup K 5 (gCons (gName 2) (gCons (gName 3) (gCons (gName 4) (gCons (gName 5) (gCons (gName 6) (gNil)))))))) (tRet (tMakKw A.cRoom 3 1 (sp_Room_init K A) E0 (tCons (tCal (sp_law_weather K A) E0 (tCons (tVar 0) (tNil))) (tCons (tMak A.cHeater (sp_Heater_init K A) E0 (tCons (tVar 2) (tCons (tVar 3) (tCons (tVar 4) (tNil))))) (tCons (tVar 5) (tNil)))) (tCons (tVar 6) (tNil))))
def t_law_divisor (K : PySem.W.Frag) (A : Ads) : TS := tSeq (tWhile (tTest (tOp rNe (tVar 1) (tC (.int 0)))) (tPar 0 1 (tCons (tVar 1) (tCons (tOp (rI (fun _ j => 0 < j) fun i j => .int (i % j)) (tVar 0) (tVar 1)) (tNil))))) (tRet (tVar 0))
section
variable {K : PySem.W.Frag} {A : Ads}
theorem pure_law_mix (vs : List V) (H : Hp) (Q : VK) (E : XK) (h : sp_law_mix K A vs H Q E) : t_law_mix K A { nx := fun _ H' => Q .non H', rt := Q } (start ["_law_script", "_law_seed", "_law_mixed", "_law_cell"] vs) H := by
  obtain ⟨s, seed, xs, rfl, hs, hl, k⟩ := h
  show t_law_mix K A _ [some (.ref s), some (.int seed), none, none] H
  unfold t_law_mix
  walk_at "s"
  refine forL_by hs (fun i σ H' => H' = H ∧ ∃ (m : Int) (v : Option V), σ = [some (.ref s), some (.int seed), some (.int m), v]) ⟨rfl, seed, none, rfl⟩ (fun i σ H' _ ⟨e, _⟩ => by subst e; exact hs) ?_ ?_
  · rintro i x σ H' hx ⟨rfl, m, v, rfl⟩
    obtain ⟨z, hz, rfl⟩ := ints_of hx
    walk_at "s"
    exact ⟨by trivial, _, _, rfl⟩
  · rintro σ H' ⟨rfl, m, v, rfl⟩
    walk_at "s"
    refine ⟨s, _, rfl, .inl hs, fun c hc => ?_⟩
    have hh1 := (Hold.start H').newm (o := .lst (xs.map V.int)) hc
    generalize upd H' c (.lst (xs.map V.int)) = H1 at hh1 ⊢
    walk_at "s"
    refine lst_m (by walk_at "sz") hh1 fun a H2 hh2 => ?_
    exact k a c ⟨m, 0, xs⟩ H2 ⟨Int.le_refl 0, hl⟩ hh2
theorem pure_law_changes (vs : List V) (H : Hp) (Q : VK) (E : XK) (h : sp_law_changes K A vs H Q E) : t_law_changes K A { nx := fun _ H' => Q .non H', rt := Q } (start ["_law_h", "_law_most", "_law_wide", "_law_found", "_law_low", "_law_k"] vs) H := by
  obtain ⟨a, c, most, d, G, mu, rfl, hh, dok, m1, m2, k⟩ := h
  show t_law_changes K A _ [some (.ref a), some (.int most), none, none, none, none] H
  unfold t_law_changes
  walk_at "s"
  refine lst_G (by walk_at "sz") hh fun p G1 H1 ex1 hp hh1 => ?_
  walk_at "s"
  refine ⟨a, c, d, 3, G1, mu, rfl, hh1, dok, by omega, by omega, fun n d2 H2 n0 n1 dok2 hh2 => ?_⟩
  obtain ⟨wide, hw, w0, w1⟩ : ∃ w : Int, atI [V.int 3, V.int 9, V.int 100] n = some (V.int w) ∧ 3 ≤ w ∧ w ≤ 100 := by
    rcases (show n = 0 ∨ n = 1 ∨ n = 2 by omega) with rfl | rfl | rfl
    · exact ⟨3, rfl, by decide, by decide⟩
    · exact ⟨9, rfl, by decide, by decide⟩
    · exact ⟨100, rfl, by decide, by decide⟩
  refine rix_h (hh2.rd hp) hw ?_
  walk_at "s"
  refine lst_m2 (by walk_at "sz") hh2 fun f H3 hh3 => ?_
  walk_at "s"
  refine ⟨a, c, d2, 2 * wide + 1, G1, _, rfl, hh3, dok2, by omega, by omega, fun n3 d3 H4 n30 n31 dok3 hh4 => ?_⟩
  walk_at "s"
  generalize hlow : n3 - wide - wide / 2 = low
  refine ⟨a, c, d3, most, G1, _, rfl, hh4, dok3, by omega, by omega, fun n4 d4 H5 n40 n41 dok4 hh5 => ?_⟩
  walk_at "s"
  refine forR1_by (by omega) (by omega) (fun i σ H' => ∃ (v : Option V) (d' : DS) (ch : List Int), σ = [some (.ref a), some (.int most), some (.int wide), some (.ref f), some (.int low), v] ∧ d'.Ok ∧ ch.length = i ∧ (∀ x ∈ ch, -100 ≤ x ∧ x ≤ 100) ∧ Hold G1 (dh a c d' :: dc c d' :: (f, .lst (ch.map V.int)) :: mu) H')
    ⟨none, d4, [], rfl, dok4, rfl, (fun x h => by cases h), hh5⟩ ?_ ?_
  · rintro i σ H6 hi ⟨v, d', ch, rfl, dok', hl, hb, hh6⟩
    walk_at "s"
    refine ⟨a, c, d', wide + 1, G1, _, rfl, hh6, dok', by omega, by omega, fun n7 d7 H7 n70 n71 dok7 hh7 => ?_⟩
    walk_at "s"
    refine ⟨a, c, d7, 5, G1, _, rfl, hh7, dok7, by omega, by omega, fun n8 d8 H8 n80 n81 dok8 hh8 => ?_⟩
    walk_at "s"
    generalize hz : (if (if low + n7 < 100 then low + n7 else 100) > -100 then (if low + n7 < 100 then low + n7 else 100) else -100) = z
    have zb : -100 ≤ z ∧ z ≤ 100 := by omega
    refine r_I (cmulL (by omega)) ?_
    walk_at "s"
    generalize hy : z * (if decide (0 < n8) = true then 1 else 0) = y
    have yb : -100 ≤ y ∧ y ≤ 100 := by
      rw [← hy]
      split <;> omega
    refine app_m hh8 2 rfl (szl (by rw [List.length_map]; omega)) fun H9 hh9 => ?_
    walk_at "s"
    refine ⟨_, d8, ch ++ [y], rfl, dok8, by simp [hl], fun x hx => ?_, ?_⟩
    · rcases List.mem_append.mp hx with h | h
      · exact hb x h
      · rw [List.mem_singleton] at h
        subst h
        exact yb
    · rw [List.map_append]
      exact hh9
  · rintro σ H6 ⟨v, d', ch, rfl, dok', hl, hb, hh6⟩
    walk_at "s"
    refine ⟨f, _, rfl, .inl ⟨SqL.of (hh6.get (i := 2) rfl), ?_⟩⟩
    have hh7 := hh6.drop2
    refine new1_G hh7 fun t G7 H7 ex7 ht hh7 => ?_
    exact k t ch d' G7 H7 (ex1.trans ex7) ht ⟨by omega, by omega, hb⟩ (by omega) dok' hh7
theorem pure_law_setting (vs : List V) (H : Hp) (Q : VK) (E : XK) (h : sp_law_setting K A vs H Q E) : t_law_setting K A { nx := fun _ H' => Q .non H', rt := Q } (start ["_law_h", "_law_wide", "_law_low", "_law_high", "_law_start"] vs) H := by
  obtain ⟨a, c, d, G, mu, rfl, hh, dok, k⟩ := h
  show t_law_setting K A _ [some (.ref a), none, none, none, none] H
  unfold t_law_setting
  walk_at "s"
  refine r_I (show CPow 10 11 from ⟨by decide, by decide, by decide⟩) ?_
  walk_at "s"
  refine lst_G (by walk_at "sz") hh fun p G1 H1 ex1 hp hh1 => ?_
  walk_at "s"
  refine ⟨a, c, d, 3, G1, mu, rfl, hh1, dok, by omega, by omega, fun n d2 H2 n0 n1 dok2 hh2 => ?_⟩
  obtain ⟨wide, hw, w0, w1⟩ : ∃ w : Int, atI [V.int 5, V.int 60, V.int (10 ^ (11 : Int).toNat)] n = some (V.int w) ∧ 5 ≤ w ∧ w ≤ 10 ^ 11 := by
    rcases (show n = 0 ∨ n = 1 ∨ n = 2 by omega) with rfl | rfl | rfl
    · exact ⟨5, rfl, by decide, by decide⟩
    · exact ⟨60, rfl, by decide, by decide⟩
    · exact ⟨10 ^ 11, rfl, by decide, by decide⟩
  refine rix_h (hh2.rd hp) hw ?_
  walk_at "s"
  refine ⟨a, c, d2, wide, G1, mu, rfl, hh2, dok2, by omega, by omega, fun n3 d3 H3 n30 n31 dok3 hh3 => ?_⟩
  walk_at "s"
  generalize hlow : n3 - wide / 2 = low
  refine lst_G (by walk_at "sz") hh3 fun p2 G4 H4 ex4 hp2 hh4 => ?_
  walk_at "s"
  refine ⟨a, c, d3, 2, G4, mu, rfl, hh4, dok3, by omega, by omega, fun n5 d5 H5 n50 n51 dok5 hh5 => ?_⟩
  obtain ⟨w2, hw2, w20, w21⟩ : ∃ w : Int, atI [V.int 4, V.int wide] n5 = some (V.int w) ∧ 4 ≤ w ∧ w ≤ 10 ^ 11 := by
    rcases (show n5 = 0 ∨ n5 = 1 by omega) with rfl | rfl
    · exact ⟨4, rfl, by decide, by decide⟩
    · exact ⟨wide, rfl, by omega, by omega⟩
  refine rix_h (hh5.rd hp2) hw2 ?_
  walk_at "s"
  refine ⟨a, c, d5, w2, G4, mu, rfl, hh5, dok5, by omega, by omega, fun n6 d6 H6 n60 n61 dok6 hh6 => ?_⟩
  walk_at "s"
  generalize hhigh : low + n6 = high
  refine ⟨a, c, d6, 2 * wide, G4, mu, rfl, hh6, dok6, by omega, by omega, fun n7 d7 H7 n70 n71 dok7 hh7 => ?_⟩
  walk_at "s"
  generalize hst : low + n7 - wide / 2 = st
  refine lst_G (by walk_at "sz") hh7 fun p3 G8 H8 ex8 hp3 hh8 => ?_
  walk_at "s"
  refine ⟨a, c, d7, 8, G8, mu, rfl, hh8, dok7, by omega, by omega, fun n9 d9 H9 n90 n91 dok9 hh9 => ?_⟩
  walk_at "s"
  generalize hix : (if n9 - 3 > 0 then n9 - 3 else 0) = ix
  obtain ⟨s2, hs2, sb1, sb2⟩ : ∃ w : Int, atI [V.int st, V.int low, V.int high, V.int (low - 1), V.int (high + 1)] ix = some (V.int w) ∧ low - 10 ^ 11 ≤ w ∧ w ≤ low + 2 * 10 ^ 11 := by
    rcases (show ix = 0 ∨ ix = 1 ∨ ix = 2 ∨ ix = 3 ∨ ix = 4 by omega) with h | h | h | h | h <;> rw [h]
    · exact ⟨st, rfl, by omega, by omega⟩
    · exact ⟨low, rfl, by omega, by omega⟩
    · exact ⟨high, rfl, by omega, by omega⟩
    · exact ⟨low - 1, rfl, by omega, by omega⟩
    · exact ⟨high + 1, rfl, by omega, by omega⟩
  refine rix_h (hh9.rd hp3) hs2 ?_
  walk_at "s"
  refine lst_G (by walk_at "sz") hh9 fun p4 G10 H10 ex10 hp4 hh10 => ?_
  walk_at "s"
  refine ⟨a, c, d9, 2, G10, mu, rfl, hh10, dok9, by omega, by omega, fun n11 d11 H11 n110 n111 dok11 hh11 => ?_⟩
  obtain ⟨w3, hw3, w30, w31⟩ : ∃ w : Int, atI [V.int 6, V.int 200] n11 = some (V.int w) ∧ 6 ≤ w ∧ w ≤ 200 := by
    rcases (show n11 = 0 ∨ n11 = 1 by omega) with rfl | rfl
    · exact ⟨6, rfl, by decide, by decide⟩
    · exact ⟨200, rfl, by decide, by decide⟩
  refine rix_h (hh11.rd hp4) hw3 ?_
  walk_at "s"
  refine ⟨a, c, d11, w3, G10, mu, rfl, hh11, dok11, by omega, by omega, fun n12 d12 H12 n120 n121 dok12 hh12 => ?_⟩
  walk_at "s"
  refine ⟨a, c, d12, 2, G10, mu, rfl, hh12, dok12, by omega, by omega, fun n13 d13 H13 n130 n131 dok13 hh13 => ?_⟩
  walk_at "s"
  refine tup_G (by walk_at "sz") hh13 fun t G14 H14 ex14 ht hh14 => ?_
  exact k t (1 + n12) low high s2 _ d13 G14 H14 (ex1.trans (ex4.trans (ex8.trans (ex10.trans ex14)))) ht ⟨by omega, by omega, by omega, by omega, by omega, by omega, sb1, sb2⟩ dok13 hh14
theorem weather_m {G : Hp} {mu : Mu} {H : Hp} {Q : VK} {E : XK} {ch : List Int} (hh : Hold G mu H) (WC : WeatherC K A.cWeather) (ok : WOk ch) (k : ∀ w wt G' H', Ex G G' → IsWeather K A G' w wt ch → Hold G' mu H' → Q (.ref w) H') :
    rMak A.cWeather (sp_Weather_init K A) E (ch.map V.int) H Q :=
  make_m hh fun x dx H1 hh1 => ⟨[.ref x], ch.map V.int, rfl, rfl, sz (by rw [List.length_map]; have := ok.2.1; omega), fun p hp => ⟨x, dx, p, ch, upd G p (.tup (ch.map V.int)), mu, rfl, WC, ok, hh1.new hp, upd_same,
    fun G' H' ex iw hh' => ⟨rfl, k x p G' H' ((Ex.new (hh1.g_none hp)).trans ex) iw hh'⟩⟩⟩
theorem pure_law_weather (vs : List V) (H : Hp) (Q : VK) (E : XK) (h : sp_law_weather K A vs H Q E) : t_law_weather K A { nx := fun _ H' => Q .non H', rt := Q } (start ["_law_changes_here", "_law_a"] vs) H := by
  obtain ⟨t, ch, G, mu, rfl, WC, hh, ht, ok, hl, k⟩ := h
  show t_law_weather K A _ [some (.ref t), none] H
  unfold t_law_weather
  walk_at "s"
  refine listOf_G hh (.inr (SqT.of (hh.rd ht))) fun q G1 H1 ex1 hq hh1 => ?_
  walk_at "s"
  refine lst_G (by walk_at "sz") hh1 fun z G2 H2 ex2 hz hh2 => ?_
  walk_at "s"
  refine rep_G hh2 (hh2.rd hz) (by decide) (by decide) (by decide) fun y G3 H3 ex3 hy hh3 => ?_
  walk_at "s"
  refine cat_G hh3 (hh3.rd (ex3 _ _ (ex2 _ _ hq))) (hh3.rd hy) (sz (by rw [List.length_map]; show _ + 6 ≤ _; omega)) fun l G4 H4 ex4 hl4 hh4 => ?_
  have ht4 := ex4 _ _ (ex3 _ _ (ex2 _ _ (ex1 _ _ ht)))
  have exA : Ex G G4 := ex1.trans (ex2.trans (ex3.trans ex4))
  have hl5 := hh4.rd hl4
  have fin : ∀ vs : List V, vs = ch.map V.int → rMak A.cWeather (sp_Weather_init K A) E0 vs H4 Q := fun vs e => by
    subst e
    exact weather_m hh4 WC ok fun w wt G' H' ex iw hh' => k w wt G' H' (exA.trans ex) iw hh'
  walk_at "s"
  have n0 := ok.1
  clear ok
  rcases ch with _ | ⟨x0, _ | ⟨x1, _ | ⟨x2, _ | ⟨x3, _ | ⟨x4, _ | ⟨x5, _ | ⟨x6, r⟩⟩⟩⟩⟩⟩⟩
  · exact absurd n0 (Nat.lt_irrefl 0)
  · refine r_iteT ?_
    walk_at "s"
    refine r_iteT ?_
    walk_at "s"
    exact fin _ rfl
  · refine r_iteT ?_
    walk_at "s"
    refine r_iteF ?_
    walk_at "s"
    exact fin _ rfl
  · refine r_iteF ?_
    walk_at "s"
    refine r_iteT ?_
    walk_at "s"
    refine r_iteT ?_
    walk_at "s"
    exact fin _ rfl
  · refine r_iteF ?_
    walk_at "s"
    refine r_iteT ?_
    walk_at "s"
    refine r_iteF ?_
    walk_at "s"
    exact fin _ rfl
  · refine r_iteF ?_
    walk_at "s"
    refine r_iteF ?_
    walk_at "s"
    refine r_iteT ?_
    walk_at "s"
    exact fin _ rfl
  · refine r_iteF ?_
    walk_at "s"
    refine r_iteF ?_
    walk_at "s"
    refine r_iteF ?_
    walk_at "s"
    exact fin _ rfl
  · simp at hl
end
end Wm
end

section
/-! ## How soon all of it has happened -/
namespace Wm
open PySem
/-- all temperatures from which a run begins are at most W from the threshold that ends it -/
structure Near (P : Par) (W : Int) : Prop where
  a : P.hi - P.lo + 300 ≤ W
  b : P.hi - P.start ≤ W
  c : P.start - P.lo ≤ W
end Wm
end

section
/-! ## No sooner, and not after fewer ticks -/
namespace Wm
open PySem
end Wm
end

section
/-! ## States of a room compared, ranges with a step -/
namespace Wm
open PySem PySem.Spec PyProof.Rows L2 StX
abbrev StV := Int × Bool
def StAt (H : Hp) (v : V) (s : StV) : Prop := ∃ q, v = .ref q ∧ H q = some (.tup [.int s.1, .bl s.2])
def stD (s : StV) : PyData := .tuple [.int s.1, .bool s.2]
section
variable {K : PySem.W.Frag} {H : Hp} {Q : VK}
/-- a list of states -/
structure StsAt (H : Hp) (vs : List V) (ss : List StV) : Prop where
  len : vs.length = ss.length
  at_ : ∀ (i : Nat) (v : V) (s : StV), vs[i]? = some v → ss[i]? = some s → StAt H v s
end
/-! ### range(a, b, c), c > 0 -/
def ForR3 (g : TG) (tb : TS) (D : Ends) (σ : L2.St) (vs : List V) (H1 : Hp) : Prop := ∃ (i j c : Int) (n : Nat), vs = [.int i, .int j, .int c] ∧ RgC i j c n ∧ TurnsW (Itc i c n) g tb D σ H1
section
variable {H : Hp} {σ : L2.St} {D : Ends} {tr : TA} {g : TG} {tb : TS}
end
end Wm
end

section
local macro_rules | `(tactic| walk_at "cls") => `(tactic| first | (with_reducible exact Wm.WeatherC.cl (by assumption)) | (with_reducible exact Wm.HeaterC.cl (by assumption)) | (with_reducible exact Wm.RoomC.cl (by assumption)) | (with_reducible exact Wm.RunC.cl (by assumption)) | (with_reducible exact Wm.HistoryC.cl (by assumption)) | (with_reducible exact Wm.ThresholdObserverC.cl (by assumption)) | (with_reducible exact Wm.SettingC.cl (by assumption)) | (with_reducible exact Wm.HourSettingC.cl (by assumption)) | (with_reducible exact Wm.RestSettingC.cl (by assumption)) | (with_reducible exact Wm.PricesC.cl (by assumption)) | (with_reducible exact Wm.MomentC.cl (by assumption)) | (with_reducible exact Wm.LiveRoomC.cl (by assumption)) | (with_reducible exact Wm.AttemptC.cl (by assumption)))
local macro_rules | `(tactic| walk_at "noattr") => `(tactic| first | (with_reducible exact Wm.WeatherC.n_pattern (by assumption)) | (with_reducible exact Wm.HeaterC.n_power (by assumption)) | (with_reducible exact Wm.HeaterC.n_below (by assumption)) | (with_reducible exact Wm.HeaterC.n_above (by assumption)) | (with_reducible exact Wm.RoomC.n_outside (by assumption)) | (with_reducible exact Wm.RoomC.n_inside (by assumption)) | (with_reducible exact Wm.RoomC.n_begin_degrees (by assumption)) | (with_reducible exact Wm.RoomC.n_past (by assumption)) | (with_reducible exact Wm.RoomC.n_repeated (by assumption)) | (with_reducible exact Wm.RoomC.n_share (by assumption)) | (with_reducible exact Wm.RoomC.n_coldest (by assumption)) | (with_reducible exact Wm.RoomC.n_warmest (by assumption)) | (with_reducible exact Wm.RunC.n_begin (by assumption)) | (with_reducible exact Wm.RunC.n_end (by assumption)) | (with_reducible exact Wm.RunC.n_degrees (by assumption)) | (with_reducible exact Wm.RunC.n_is_heating (by assumption)) | (with_reducible exact Wm.RunC.n_sums (by assumption)) | (with_reducible exact Wm.RunC.n_size (by assumption)) | (with_reducible exact Wm.RunC.n_drift (by assumption)) | (with_reducible exact Wm.HistoryC.n_shifts (by assumption)) | (with_reducible exact Wm.HistoryC.n_added (by assumption)) | (with_reducible exact Wm.HistoryC.n_floor (by assumption)) | (with_reducible exact Wm.HistoryC.n_ceiling (by assumption)) | (with_reducible exact Wm.HistoryC.n_was_heating (by assumption)) | (with_reducible exact Wm.HistoryC.n_runs (by assumption)) | (with_reducible exact Wm.HistoryC.n_loop (by assumption)) | (with_reducible exact Wm.ThresholdObserverC.n_outside (by assumption)) | (with_reducible exact Wm.ThresholdObserverC.n_power (by assumption)) | (with_reducible exact Wm.ThresholdObserverC.n_tick (by assumption)) | (with_reducible exact Wm.ThresholdObserverC.n_degrees (by assumption)) | (with_reducible exact Wm.ThresholdObserverC.n_is_heating (by assumption)) | (with_reducible exact Wm.ThresholdObserverC.n_lows (by assumption)) | (with_reducible exact Wm.ThresholdObserverC.n_highs (by assumption)) | (with_reducible exact Wm.ThresholdObserverC.n_noted (by assumption)) | (with_reducible exact Wm.SettingC.n_least (by assumption)) | (with_reducible exact Wm.SettingC.n_most (by assumption)) | (with_reducible exact Wm.HourSettingC.n_least (by assumption)) | (with_reducible exact Wm.HourSettingC.n_most (by assumption)) | (with_reducible exact Wm.HourSettingC.n_length (by assumption)) | (with_reducible exact Wm.HourSettingC.n_hours (by assumption)) | (with_reducible exact Wm.RestSettingC.n_least (by assumption)) | (with_reducible exact Wm.RestSettingC.n_most (by assumption)) | (with_reducible exact Wm.RestSettingC.n_rest (by assumption)) | (with_reducible exact Wm.PricesC.n_table (by assumption)) | (with_reducible exact Wm.MomentC.n_tick (by assumption)) | (with_reducible exact Wm.MomentC.n_heat (by assumption)) | (with_reducible exact Wm.MomentC.n_on (by assumption)) | (with_reducible exact Wm.MomentC.n_burnt (by assumption)) | (with_reducible exact Wm.MomentC.n_sky (by assumption)) | (with_reducible exact Wm.MomentC.n_stove (by assumption)) | (with_reducible exact Wm.LiveRoomC.n_moment (by assumption)) | (with_reducible exact Wm.LiveRoomC.n_earlier (by assumption)) | (with_reducible exact Wm.LiveRoomC.n_done (by assumption)) | (with_reducible exact Wm.AttemptC.n_live (by assumption)) | (with_reducible exact Wm.AttemptC.n_kept (by assumption)) | (with_reducible exact Wm.AttemptC.n_stack (by assumption)) | (with_reducible exact Wm.AttemptC.n_steps (by assumption)))
local macro_rules | `(tactic| walk_at "at") => `(tactic| first | assumption | exact Wm.Hold.rd (by assumption) (by assumption) | exact Wm.Hold.get (i := 0) (by assumption) rfl | exact Wm.Hold.get (i := 1) (by assumption) rfl | exact Wm.Hold.get (i := 2) (by assumption) rfl | exact Wm.Hold.get (i := 3) (by assumption) rfl | exact Wm.Hold.get (i := 4) (by assumption) rfl)
local macro_rules | `(tactic| walk_at "s1") => `(tactic| first
  | (with_reducible refine Wm.r_seq ?_)
  | (with_reducible refine Wm.r_op ?_)
  | ((with_reducible refine' Wm.r_var ?h ?_); (case h => rfl))
  | (with_reducible refine Wm.r_c ?_)
  | (with_reducible refine Wm.r_I0 ?_)
  | (with_reducible refine Wm.r_cons ?_)
  | (with_reducible refine Wm.r_nil ?_)
  | (with_reducible refine Wm.r_asg ?_)
  | (with_reducible refine Wm.r_gname ?_; try simp only [List.set_cons_zero, List.set_cons_succ])
  | (with_reducible refine Wm.r_nx ?_)
  | (with_reducible refine Wm.r_rt ?_)
  | (with_reducible refine Wm.r_ret ?_)
  | (with_reducible refine Wm.r_test ?_)
  | (with_reducible refine Wm.r_bl ?_)
  | (with_reducible refine Wm.r_B ?_)
  | (with_reducible refine Wm.r_eqI ?_)
  | (with_reducible refine Wm.r_neI ?_)
  | (with_reducible refine Wm.r_eqB ?_)
  | (with_reducible refine Wm.r_neB ?_)
  | (with_reducible refine Wm.r_fld ?_)
  | (with_reducible refine Wm.r_call ?_)
  | (with_reducible refine Wm.r_mtd ?_)
  | (with_reducible refine Wm.r_prp ?_)
  | (with_reducible refine Wm.r_mak ?_)
  | (with_reducible refine Wm.r_makKw ?_)
  | (with_reducible refine Wm.r_cb ?_)
  | (with_reducible refine Wm.r_tup ?_)
  | (with_reducible refine Wm.r_lst ?_)
  | (with_reducible refine Wm.r_chain ?_)
  | (with_reducible refine Wm.r_and ?_)
  | (with_reducible refine Wm.r_or ?_)
  | (with_reducible refine Wm.r_not ?_)
  | (with_reducible refine Wm.r_andV ?_)
  | (with_reducible refine Wm.r_orV ?_)
  | (with_reducible refine Wm.r_notV ?_)
  | (with_reducible refine Wm.r_if ?_)
  | (with_reducible refine Wm.r_un ?_)
  | (with_reducible refine Wm.r_U ?_)
  | (with_reducible refine Wm.r_iteT ?_)
  | (with_reducible refine Wm.r_iteF ?_)
  | (with_reducible refine Wm.r_next ?_)
  | (with_reducible refine Wm.r_drop ?_)
  | (with_reducible refine Wm.r_retN ?_)
  | ((with_reducible refine' Wm.r_aug ?h ?_); (case h => rfl))
  | (with_reducible refine Wm.r_ipI ?_)
  | (with_reducible refine Wm.r_par2 ?_)
  | (with_reducible refine Wm.r_two ?_; try simp only [List.set_cons_zero, List.set_cons_succ])
  | (with_reducible refine Wm.r_yes ?_)
  | (with_reducible refine Wm.r_forET ?_)
  | (with_reducible refine Wm.r_chain3 ?_)
  | (with_reducible refine Wm.r_nT ?_)
  | (with_reducible refine Wm.r_nF ?_)
  | (with_reducible refine Wm.r_par3 ?_)
  | (with_reducible refine Wm.r_seenPut ?_)
  | (with_reducible refine Wm.r_seenGet ?_)
  | (with_reducible refine Wm.r_three ?_; try simp only [List.set_cons_zero, List.set_cons_succ])
  | (with_reducible refine Wm.r_sl ?_)
  | (with_reducible refine Wm.r_nopart ?_)
  | (with_reducible refine Wm.r_part ?_)
  | (with_reducible refine Wm.r_xi ?_)
  | (with_reducible refine Wm.r_gcons ?_)
  | (with_reducible refine Wm.r_gnil ?_)
  | (with_reducible refine Wm.r_sub ?_)
  | (with_reducible refine Wm.r_setF ?_)
  | (with_reducible refine Wm.r_app ?_)
  | (with_reducible refine Wm.int_i ?_)
  | (with_reducible refine Wm.int_b ?_)
  | (with_reducible refine Wm.min2 ?_)
  | (with_reducible refine Wm.max2 ?_)
  | (with_reducible refine Wm.abs1 ?_)
  | (with_reducible refine Wm.isN ?_)
  | (with_reducible refine Wm.notN ?_)
  | ((with_reducible refine' Wm.r_ty ?e ?_); (case e => walk_at "at"))
  | ((with_reducible refine' Wm.setF_m ?h 0 ?e ?c ?a ?l ?_); (case h => assumption); (case e => rfl); (case c => walk_at "cls"); (case a => walk_at "noattr"); (case l => exact of_decide_eq_true rfl); intro H1 hh1; simp only [List.set_cons_zero, List.set_cons_succ] at hh1)
  | ((with_reducible refine' Wm.setF_m ?h 1 ?e ?c ?a ?l ?_); (case h => assumption); (case e => rfl); (case c => walk_at "cls"); (case a => walk_at "noattr"); (case l => exact of_decide_eq_true rfl); intro H1 hh1; simp only [List.set_cons_zero, List.set_cons_succ] at hh1)
  | ((with_reducible refine' Wm.setF_m ?h 2 ?e ?c ?a ?l ?_); (case h => assumption); (case e => rfl); (case c => walk_at "cls"); (case a => walk_at "noattr"); (case l => exact of_decide_eq_true rfl); intro H1 hh1; simp only [List.set_cons_zero, List.set_cons_succ] at hh1)
  | ((with_reducible refine' Wm.setF_m ?h 3 ?e ?c ?a ?l ?_); (case h => assumption); (case e => rfl); (case c => walk_at "cls"); (case a => walk_at "noattr"); (case l => exact of_decide_eq_true rfl); intro H1 hh1; simp only [List.set_cons_zero, List.set_cons_succ] at hh1)
  | (with_reducible refine Wm.r_forL ?_)
  | (with_reducible refine Wm.r_forT ?_)
  | (with_reducible refine Wm.r_forR1 ?_)
  | (with_reducible refine Wm.r_forR2 ?_)
  | (with_reducible refine Wm.r_forR3 ?_)
  | (with_reducible refine Wm.r_lcL ?_)
  | (with_reducible refine Wm.r_lcT ?_)
  | (with_reducible refine Wm.r_lcR1 ?_)
  | (with_reducible refine Wm.r_lcR2 ?_)
  | ((with_reducible refine' Wm.fld_h ?e ?c ?n ?l ?_); (case e => walk_at "at"); (case c => walk_at "cls"); (case n => walk_at "noattr"); (case l => rfl))
  | ((with_reducible refine' Wm.mtd_h ?e ?l ?_); (case e => walk_at "at"); (case l => rfl))
  | ((with_reducible refine' Wm.prp_h ?e ?_); (case e => walk_at "at"))
  | ((with_reducible refine' Wm.rix_ht ?a ?b ?_); (case a => walk_at "at"); (case b => rfl))
  | ((with_reducible refine' Wm.rix_h ?a ?b ?_); (case a => walk_at "at"); (case b => rfl))
  | ((with_reducible refine' Wm.len_ht ?a ?_); (case a => walk_at "at"))
  | ((with_reducible refine' Wm.len_h ?a ?_); (case a => walk_at "at"))
  | ((with_reducible refine' Wm.len_l ?a ?b ?_); (case a => assumption); (case b => assumption))
  | ((with_reducible refine' Wm.len_t ?a ?b ?_); (case a => assumption); (case b => assumption))
  | ((with_reducible refine' Wm.gtup_h ?a ?b ?_); (case a => walk_at "at"); (case b => rfl))
  | (with_reducible refine Wm.r_I (Wm.cmulR (by decide)) ?_)
  | (with_reducible refine Wm.r_I (Wm.cmulL (by decide)) ?_)
  | (with_reducible refine Wm.r_I (Wm.cdiv (by decide) (by decide)) ?_)
  | (with_reducible refine Wm.r_I Wm.cpow18 ?_)
  | (with_reducible refine Wm.r_I Wm.cpow12 ?_)
  | (with_reducible refine Wm.r_I (by show (0 : Int) < _; decide) ?_))
local macro_rules | `(tactic| walk_at "s") => `(tactic| repeat (first | walk_at "s1" | (with_reducible refine Wm.r_ifS ?_)))
local macro_rules | `(tactic| walk_at "t") => `(tactic| repeat (walk_at "s1"))
local macro_rules | `(tactic| walk_at "sz") => `(tactic| exact of_decide_eq_true rfl)
local macro_rules | `(tactic| walk_at "d") => `(tactic| first | (refine Wm.r_dT (by omega) ?_) | (refine Wm.r_dF (by omega) ?_) | (refine Wm.r_dN (by omega) ?_) | (refine Wm.r_dM (by omega) ?_))
local macro_rules | `(tactic| walk_at "sd") => `(tactic| repeat (first | walk_at "s1" | (with_reducible refine Wm.r_ifS ?_) | walk_at "d"))
namespace Wm
open PySem PySem.Spec PyProof.Rows L2 StX
/-! ## _law_alike, where the answer is yes -/
def ADn (H : Hp) : Nat → V → V → Prop
  | 0, x, y => (x = .non ∧ y = .non) ∨ (∃ i : Int, x = .int i ∧ y = .int i) ∨ (∃ b : Bool, x = .bl b ∧ y = .bl b) ∨ (∃ s : Str, x = .str s ∧ y = .str s)
  | n + 1, x, y => ((x = .non ∧ y = .non) ∨ (∃ i : Int, x = .int i ∧ y = .int i) ∨ (∃ b : Bool, x = .bl b ∧ y = .bl b) ∨ (∃ s : Str, x = .str s ∧ y = .str s)) ∨
    ∃ (p q : Addr) (xs ys : List V), x = .ref p ∧ y = .ref q ∧ ((H p = some (.tup xs) ∧ H q = some (.tup ys)) ∨ (H p = some (.lst xs) ∧ H q = some (.lst ys))) ∧ xs.length = ys.length ∧ xs.length ≤ 100000 ∧ ∀ (i : Nat) (x' y' : V), xs[i]? = some x' → ys[i]? = some y' → ADn H n x' y'
theorem ADn.up {G H : Hp} (e : Ex G H) : ∀ {n : Nat} {x y : V}, ADn G n x y → ADn H n x y
  | 0, _, _, h => h
  | n + 1, x, y, h => by
    rcases h with h | ⟨p, q, xs, ys, h1, h2, h3, h4, h5, h6⟩
    · exact .inl h
    · refine .inr ⟨p, q, xs, ys, h1, h2, ?_, h4, h5, fun i x' y' a b => (h6 i x' y' a b).up e⟩
      rcases h3 with ⟨a, b⟩ | ⟨a, b⟩
      · exact .inl ⟨e _ _ a, e _ _ b⟩
      · exact .inr ⟨e _ _ a, e _ _ b⟩
def sp_alikeN (n : Nat) : Sp := fun vs H Q _ => ∃ x y, vs = [x, y] ∧ ADn H n x y ∧ ∀ H', Ex H H' → Q (.bl true) H'
def sp_law_alike (K : PySem.W.Frag) (A : Ads) : Sp := sp_alikeN 4
def spNone : Sp := fun _ _ _ _ => False
def spPrev : Nat → Sp
  | 0 => spNone
  | n + 1 => sp_alikeN n
section
variable {K : PySem.W.Frag} {H : Hp} {Q : VK} {x : V} {n : String}
theorem isi_ty {t : String} {b : Bool} (ty : TyX K H x (.type t)) (h : kitB t n = some b) (k : Q (.bl b) H) : rIsi K [x, .ty n] H Q := ⟨x, .ty n, _, _, b, rfl, .ty n, ty, kit_ty h, k⟩
theorem isi_T {t n1 n2 : String} (b b1 b2 : Bool) (hb : (b1 || b2) = b) {tp : Addr} (e : H tp = some (.tup [.ty n1, .ty n2])) (ty : TyX K H x (.type t)) (h1 : kitB t n1 = some b1) (h2 : kitB t n2 = some b2) (k : Q (.bl b) H) : rIsiT K [x, .ref tp] H Q := by
  subst hb
  refine ⟨x, tp, _, _, [.type n1, .type n2], b1 || b2, rfl, e, .cons (.ty n1) (.cons (.ty n2) .nil), ty, ?_, k⟩
  refine kitAny_cons (kit_ty h1) (fun z => ?_) (fun z => by rw [z] <;> rfl)
  rw [z, Bool.false_or]
  exact kitAny_cons (kit_ty h2) (fun z2 => by rw [z2]; exact kitAny_nil) (fun z2 => z2)
end
def t_alikeN (sp : Sp) (K : PySem.W.Frag) (A : Ads) : TS := tSeq (tIfS (tB (tCB (rIsi K) (tCons (tVar 1) (tCons (tC (.ty "dict")) (tNil))))) (tNever) (tNext)) (tSeq (tIfS (tB (tCB (rIsiT K) (tCons (tVar 1) (tCons (tTup (tCons (tC (.ty "tuple")) (tCons (tC (.ty "list")) (tNil)))) (tNil))))) (tSeq (tIfS (tOr (tNot (tB (tCB (rIsiT K) (tCons (tVar 0) (tCons (tTup (tCons (tC (.ty "tuple")) (tCons (tC (.ty "list")) (tNil)))) (tNil)))))) (tTest (tOp rNe (tCB (rIsi K) (tCons (tVar 0) (tCons (tC (.ty "list")) (tNil)))) (tCB (rIsi K) (tCons (tVar 1) (tCons (tC (.ty "list")) (tNil))))))) (tRet (tC (.bl false))) (tNext)) (tSeq (tIfS (tTest (tOp rNe (tCB (rLen K) (tCons (tVar 0) (tNil))) (tCB (rLen K) (tCons (tVar 1) (tNil))))) (tRet (tC (.bl false))) (tNext)) (tRet (tOp (rEqD K) (tLc (iRng1 (tCons (tCB (rLen K) (tCons (tVar 1) (tNil))) (tNil))) (gName 2) (tNot (tB (tCal sp E0 (tCons (tOp (rIx K) (tVar 0) (tVar 2)) (tCons (tOp (rIx K) (tVar 1) (tVar 2)) (tNil)))))) (tVar 2) [2]) (tLst (tNil)))))) (tNext)) (tSeq (tIfS (tOr (tTest (tOp rIsN (tVar 1) (tC .non))) (tB (tCB (rIsi K) (tCons (tVar 1) (tCons (tC (.ty "str")) (tNil)))))) (tRet (tAndV (tOp rEq (tVar 0) (tVar 1)) (tOp rEq (tCB (rIsi K) (tCons (tVar 0) (tCons (tC (.ty "str")) (tNil)))) (tCB (rIsi K) (tCons (tVar 1) (tCons (tC (.ty "str")) (tNil))))))) (tNext)) (tRet (tAndV (tCB (rIsi K) (tCons (tVar 0) (tCons (tC (.ty "int")) (tNil)))) (tAndV (tOp rEq (tCB (rIsi K) (tCons (tVar 0) (tCons (tC (.ty "bool")) (tNil)))) (tCB (rIsi K) (tCons (tVar 1) (tCons (tC (.ty "bool")) (tNil))))) (tOp rEq (tVar 0) (tVar 1)))))))
section
variable {K : PySem.W.Frag} {A : Ads}
theorem pure_alikeN (n : Nat) (vs : List V) (H : Hp) (Q : VK) (E : XK) (h : sp_alikeN n vs H Q E) : t_alikeN (spPrev n) K A { nx := fun _ H' => Q .non H', rt := Q } (start ["_law_found", "_law_due", "_law_k"] vs) H := by
  obtain ⟨x, y, rfl, ad, k⟩ := h
  show t_alikeN (spPrev n) K A _ [some x, some y, none] H
  have sc : (x = .non ∧ y = .non) ∨ (∃ i : Int, x = .int i ∧ y = .int i) ∨ (∃ b : Bool, x = .bl b ∧ y = .bl b) ∨ (∃ s : Str, x = .str s ∧ y = .str s) → t_alikeN (spPrev n) K A { nx := fun _ H' => Q .non H', rt := Q } [some x, some y, none] H := by
    rintro (⟨rfl, rfl⟩ | ⟨i, rfl, rfl⟩ | ⟨b, rfl, rfl⟩ | ⟨z, rfl, rfl⟩)
    · unfold t_alikeN
      walk_at "s"
      refine isi_ty (.base .non) (b := false) (by rfl) ?_
      walk_at "s"
      refine tup_n (by walk_at "sz") (Hold.start H) fun p H1 hp hp1 hh1 => ?_
      walk_at "s"
      refine isi_T false false false rfl hp1 (.base .non) (by rfl) (by rfl) ?_
      walk_at "s"
      refine r_ite (fun _ => ?_) (fun c => absurd rfl (of_decide_eq_false c))
      walk_at "s"
      refine r_eq rfl ?_
      rw [decide_eq_true rfl]
      walk_at "s"
      refine isi_ty (.base .non) (b := false) (by rfl) ?_
      walk_at "s"
      refine isi_ty (.base .non) (b := false) (by rfl) ?_
      walk_at "s"
      exact k H1 hh1.ex
    · unfold t_alikeN
      walk_at "s"
      refine isi_ty (.base (.int i)) (b := false) (by rfl) ?_
      walk_at "s"
      refine tup_n (by walk_at "sz") (Hold.start H) fun p H1 hp hp1 hh1 => ?_
      walk_at "s"
      refine isi_T false false false rfl hp1 (.base (.int i)) (by rfl) (by rfl) ?_
      walk_at "s"
      refine r_ite (fun c => absurd (of_decide_eq_true c) (by intro z; cases z)) (fun _ => ?_)
      walk_at "s"
      refine isi_ty (.base (.int i)) (b := false) (by rfl) ?_
      walk_at "s"
      refine isi_ty (.base (.int i)) (b := true) (by rfl) ?_
      walk_at "s"
      refine isi_ty (.base (.int i)) (b := false) (by rfl) ?_
      walk_at "s"
      refine isi_ty (.base (.int i)) (b := false) (by rfl) ?_
      walk_at "s"
      rw [show (false == false) = true from rfl]
      walk_at "s"
      rw [decide_eq_true rfl]
      exact k H1 hh1.ex
    · unfold t_alikeN
      walk_at "s"
      refine isi_ty (.base (.bl b)) (b := false) (by rfl) ?_
      walk_at "s"
      refine tup_n (by walk_at "sz") (Hold.start H) fun p H1 hp hp1 hh1 => ?_
      walk_at "s"
      refine isi_T false false false rfl hp1 (.base (.bl b)) (by rfl) (by rfl) ?_
      walk_at "s"
      refine r_ite (fun c => absurd (of_decide_eq_true c) (by intro z; cases z)) (fun _ => ?_)
      walk_at "s"
      refine isi_ty (.base (.bl b)) (b := false) (by rfl) ?_
      walk_at "s"
      refine isi_ty (.base (.bl b)) (b := true) (by rfl) ?_
      walk_at "s"
      refine isi_ty (.base (.bl b)) (b := true) (by rfl) ?_
      walk_at "s"
      refine isi_ty (.base (.bl b)) (b := true) (by rfl) ?_
      walk_at "s"
      rw [show (true == true) = true from rfl]
      walk_at "s"
      rw [show (b == b) = true by cases b <;> rfl]
      exact k H1 hh1.ex
    · unfold t_alikeN
      walk_at "s"
      refine isi_ty (.base (.str z)) (b := false) (by rfl) ?_
      walk_at "s"
      refine tup_n (by walk_at "sz") (Hold.start H) fun p H1 hp hp1 hh1 => ?_
      walk_at "s"
      refine isi_T false false false rfl hp1 (.base (.str z)) (by rfl) (by rfl) ?_
      walk_at "s"
      refine r_ite (fun c => absurd (of_decide_eq_true c) (by intro z; cases z)) (fun _ => ?_)
      walk_at "s"
      refine isi_ty (.base (.str z)) (b := true) (by rfl) ?_
      walk_at "s"
      refine r_eq rfl ?_
      rw [decide_eq_true rfl]
      walk_at "s"
      refine isi_ty (.base (.str z)) (b := true) (by rfl) ?_
      walk_at "s"
      refine isi_ty (.base (.str z)) (b := true) (by rfl) ?_
      walk_at "s"
      exact k H1 hh1.ex
  cases n with
  | zero => exact sc ad
  | succ n =>
    rcases ad with ad | ⟨p, q, xs, ys, rfl, rfl, hl, hlen, hle, hes⟩
    · exact sc ad
    · clear sc
      unfold t_alikeN
      -- the two kinds are one: T, a tuple or a list
      have kinds : ∃ (T : String) (bt bl : Bool), kitB T "dict" = some false ∧ kitB T "tuple" = some bt ∧ kitB T "list" = some bl ∧ (bt || bl) = true ∧ (∀ H', Ex H H' → TyX K H' (.ref p) (.type T) ∧ TyX K H' (.ref q) (.type T)) ∧ (∀ H', Ex H H' → LenV K (.ref p) H' xs.length) ∧ (∀ H', Ex H H' → LenV K (.ref q) H' ys.length) ∧
          (∀ H' i v Q, Ex H H' → 0 ≤ i → xs[i.toNat]? = some v → Q v H' → rIx K (.ref p) (.int i) H' Q) ∧ (∀ H' i v Q, Ex H H' → 0 ≤ i → ys[i.toNat]? = some v → Q v H' → rIx K (.ref q) (.int i) H' Q) := by
        rcases hl with ⟨h1, h2⟩ | ⟨h1, h2⟩
        · exact ⟨"tuple", true, false, by rfl, by rfl, by rfl, rfl, fun H' e => ⟨.base (.tup (e _ _ h1)), .base (.tup (e _ _ h2))⟩, fun H' e => .inr ⟨xs, SqT.of (e _ _ h1), rfl⟩, fun H' e => .inr ⟨ys, SqT.of (e _ _ h2), rfl⟩,
            fun H' i v Q e i0 hi kk => rix_ht (e _ _ h1) (atI_of i0 hi) kk, fun H' i v Q e i0 hi kk => rix_ht (e _ _ h2) (atI_of i0 hi) kk⟩
        · exact ⟨"list", false, true, by rfl, by rfl, by rfl, rfl, fun H' e => ⟨.base (.lst (e _ _ h1)), .base (.lst (e _ _ h2))⟩, fun H' e => .inl ⟨xs, SqL.of (e _ _ h1), rfl⟩, fun H' e => .inl ⟨ys, SqL.of (e _ _ h2), rfl⟩,
            fun H' i v Q e i0 hi kk => rix_h (e _ _ h1) (atI_of i0 hi) kk, fun H' i v Q e i0 hi kk => rix_h (e _ _ h2) (atI_of i0 hi) kk⟩
      obtain ⟨T, bt, bl, kd, kt, kl, hb, tys, ln1, ln2, ix1, ix2⟩ := kinds
      walk_at "s"
      refine isi_ty (tys H (Ex.refl H)).2 kd ?_
      walk_at "s"
      refine tup_n (by walk_at "sz") (Hold.start H) fun t1 H1 hp hp1 hh1 => ?_
      walk_at "s"
      refine isi_T true bt bl hb hp1 (tys H1 hh1.ex).2 kt kl ?_
      walk_at "s"
      refine tup_n (by walk_at "sz") (Hold.start H1) fun t2 H2 hp2 hp2' hh2 => ?_
      have e2 : Ex H H2 := hh1.ex.trans hh2.ex
      walk_at "s"
      refine isi_T true bt bl hb hp2' (tys H2 e2).1 kt kl ?_
      walk_at "s"
      refine isi_ty (tys H2 e2).1 kl ?_
      walk_at "s"
      refine isi_ty (tys H2 e2).2 kl ?_
      walk_at "s"
      rw [show (bl != bl) = false by cases bl <;> rfl]
      walk_at "s"
      refine ⟨_, _, rfl, ln1 H2 e2, ?_⟩
      walk_at "s"
      refine ⟨_, _, rfl, ln2 H2 e2, ?_⟩
      walk_at "s"
      refine r_dN (by rw [hlen]) ?_
      walk_at "s"
      refine ⟨_, _, rfl, ln2 H2 e2, ?_⟩
      walk_at "s"
      refine lcR1_by (Hold.start H2) (by omega) (by omega) (fun i acc G' mu' => mu' = [] ∧ acc = []) ⟨rfl, rfl⟩ ?_ ?_
      · rintro i D acc G' mu' H3 hi hal exx hhx ⟨rfl, rfl⟩
        have e3 : Ex H H3 := e2.trans (exx.trans hhx.ex)
        obtain ⟨x', hx'⟩ := get_some (l := xs) (i := i) (by omega)
        obtain ⟨y', hy'⟩ := get_some (l := ys) (i := i) (by omega)
        walk_at "s"
        refine ⟨rfl, ?_⟩
        walk_at "s"
        refine ix1 H3 _ x' _ e3 (by omega) (by rw [Int.toNat_natCast]; exact hx') ?_
        walk_at "s"
        refine ix2 H3 _ y' _ e3 (by omega) (by rw [Int.toNat_natCast]; exact hy') ?_
        walk_at "s"
        refine ⟨x', y', rfl, (hes i x' y' hx' hy').up e3, fun H4 ex4 => ?_⟩
        walk_at "s"
        exact lcN (hhx.grow ex4) exx hal ⟨rfl, rfl⟩
      rintro D acc G' mu' H3 hal exx hhx ⟨rfl, rfl⟩
      have hD : H3 D = some (.lst []) := hhx.get (i := 0) rfl
      walk_at "s"
      refine lst_n (by walk_at "sz") (Hold.start H3) fun z H4 hz hz' hh4 => ?_
      refine eqI (xs := []) (ys := []) (SqL.of (hh4.rd hD)) (SqL.of hz') ?_
      rw [decide_eq_true rfl]
      exact k H4 (e2.trans (exx.trans (hhx.ex.trans hh4.ex)))
end
end Wm
end

section
local macro_rules | `(tactic| walk_at "cls") => `(tactic| first | (with_reducible exact Wm.WeatherC.cl (by assumption)) | (with_reducible exact Wm.HeaterC.cl (by assumption)) | (with_reducible exact Wm.RoomC.cl (by assumption)) | (with_reducible exact Wm.RunC.cl (by assumption)) | (with_reducible exact Wm.HistoryC.cl (by assumption)) | (with_reducible exact Wm.ThresholdObserverC.cl (by assumption)) | (with_reducible exact Wm.SettingC.cl (by assumption)) | (with_reducible exact Wm.HourSettingC.cl (by assumption)) | (with_reducible exact Wm.RestSettingC.cl (by assumption)) | (with_reducible exact Wm.PricesC.cl (by assumption)) | (with_reducible exact Wm.MomentC.cl (by assumption)) | (with_reducible exact Wm.LiveRoomC.cl (by assumption)) | (with_reducible exact Wm.AttemptC.cl (by assumption)))
local macro_rules | `(tactic| walk_at "noattr") => `(tactic| first | (with_reducible exact Wm.WeatherC.n_pattern (by assumption)) | (with_reducible exact Wm.HeaterC.n_power (by assumption)) | (with_reducible exact Wm.HeaterC.n_below (by assumption)) | (with_reducible exact Wm.HeaterC.n_above (by assumption)) | (with_reducible exact Wm.RoomC.n_outside (by assumption)) | (with_reducible exact Wm.RoomC.n_inside (by assumption)) | (with_reducible exact Wm.RoomC.n_begin_degrees (by assumption)) | (with_reducible exact Wm.RoomC.n_past (by assumption)) | (with_reducible exact Wm.RoomC.n_repeated (by assumption)) | (with_reducible exact Wm.RoomC.n_share (by assumption)) | (with_reducible exact Wm.RoomC.n_coldest (by assumption)) | (with_reducible exact Wm.RoomC.n_warmest (by assumption)) | (with_reducible exact Wm.RunC.n_begin (by assumption)) | (with_reducible exact Wm.RunC.n_end (by assumption)) | (with_reducible exact Wm.RunC.n_degrees (by assumption)) | (with_reducible exact Wm.RunC.n_is_heating (by assumption)) | (with_reducible exact Wm.RunC.n_sums (by assumption)) | (with_reducible exact Wm.RunC.n_size (by assumption)) | (with_reducible exact Wm.RunC.n_drift (by assumption)) | (with_reducible exact Wm.HistoryC.n_shifts (by assumption)) | (with_reducible exact Wm.HistoryC.n_added (by assumption)) | (with_reducible exact Wm.HistoryC.n_floor (by assumption)) | (with_reducible exact Wm.HistoryC.n_ceiling (by assumption)) | (with_reducible exact Wm.HistoryC.n_was_heating (by assumption)) | (with_reducible exact Wm.HistoryC.n_runs (by assumption)) | (with_reducible exact Wm.HistoryC.n_loop (by assumption)) | (with_reducible exact Wm.ThresholdObserverC.n_outside (by assumption)) | (with_reducible exact Wm.ThresholdObserverC.n_power (by assumption)) | (with_reducible exact Wm.ThresholdObserverC.n_tick (by assumption)) | (with_reducible exact Wm.ThresholdObserverC.n_degrees (by assumption)) | (with_reducible exact Wm.ThresholdObserverC.n_is_heating (by assumption)) | (with_reducible exact Wm.ThresholdObserverC.n_lows (by assumption)) | (with_reducible exact Wm.ThresholdObserverC.n_highs (by assumption)) | (with_reducible exact Wm.ThresholdObserverC.n_noted (by assumption)) | (with_reducible exact Wm.SettingC.n_least (by assumption)) | (with_reducible exact Wm.SettingC.n_most (by assumption)) | (with_reducible exact Wm.HourSettingC.n_least (by assumption)) | (with_reducible exact Wm.HourSettingC.n_most (by assumption)) | (with_reducible exact Wm.HourSettingC.n_length (by assumption)) | (with_reducible exact Wm.HourSettingC.n_hours (by assumption)) | (with_reducible exact Wm.RestSettingC.n_least (by assumption)) | (with_reducible exact Wm.RestSettingC.n_most (by assumption)) | (with_reducible exact Wm.RestSettingC.n_rest (by assumption)) | (with_reducible exact Wm.PricesC.n_table (by assumption)) | (with_reducible exact Wm.MomentC.n_tick (by assumption)) | (with_reducible exact Wm.MomentC.n_heat (by assumption)) | (with_reducible exact Wm.MomentC.n_on (by assumption)) | (with_reducible exact Wm.MomentC.n_burnt (by assumption)) | (with_reducible exact Wm.MomentC.n_sky (by assumption)) | (with_reducible exact Wm.MomentC.n_stove (by assumption)) | (with_reducible exact Wm.LiveRoomC.n_moment (by assumption)) | (with_reducible exact Wm.LiveRoomC.n_earlier (by assumption)) | (with_reducible exact Wm.LiveRoomC.n_done (by assumption)) | (with_reducible exact Wm.AttemptC.n_live (by assumption)) | (with_reducible exact Wm.AttemptC.n_kept (by assumption)) | (with_reducible exact Wm.AttemptC.n_stack (by assumption)) | (with_reducible exact Wm.AttemptC.n_steps (by assumption)))
local macro_rules | `(tactic| walk_at "at") => `(tactic| first | assumption | exact Wm.Hold.rd (by assumption) (by assumption) | exact Wm.Hold.get (i := 0) (by assumption) rfl | exact Wm.Hold.get (i := 1) (by assumption) rfl | exact Wm.Hold.get (i := 2) (by assumption) rfl | exact Wm.Hold.get (i := 3) (by assumption) rfl | exact Wm.Hold.get (i := 4) (by assumption) rfl)
local macro_rules | `(tactic| walk_at "s1") => `(tactic| first
  | (with_reducible refine Wm.r_seq ?_)
  | (with_reducible refine Wm.r_op ?_)
  | ((with_reducible refine' Wm.r_var ?h ?_); (case h => rfl))
  | (with_reducible refine Wm.r_c ?_)
  | (with_reducible refine Wm.r_I0 ?_)
  | (with_reducible refine Wm.r_cons ?_)
  | (with_reducible refine Wm.r_nil ?_)
  | (with_reducible refine Wm.r_asg ?_)
  | (with_reducible refine Wm.r_gname ?_; try simp only [List.set_cons_zero, List.set_cons_succ])
  | (with_reducible refine Wm.r_nx ?_)
  | (with_reducible refine Wm.r_rt ?_)
  | (with_reducible refine Wm.r_ret ?_)
  | (with_reducible refine Wm.r_test ?_)
  | (with_reducible refine Wm.r_bl ?_)
  | (with_reducible refine Wm.r_B ?_)
  | (with_reducible refine Wm.r_eqI ?_)
  | (with_reducible refine Wm.r_neI ?_)
  | (with_reducible refine Wm.r_eqB ?_)
  | (with_reducible refine Wm.r_neB ?_)
  | (with_reducible refine Wm.r_fld ?_)
  | (with_reducible refine Wm.r_call ?_)
  | (with_reducible refine Wm.r_mtd ?_)
  | (with_reducible refine Wm.r_prp ?_)
  | (with_reducible refine Wm.r_mak ?_)
  | (with_reducible refine Wm.r_makKw ?_)
  | (with_reducible refine Wm.r_cb ?_)
  | (with_reducible refine Wm.r_tup ?_)
  | (with_reducible refine Wm.r_lst ?_)
  | (with_reducible refine Wm.r_chain ?_)
  | (with_reducible refine Wm.r_and ?_)
  | (with_reducible refine Wm.r_or ?_)
  | (with_reducible refine Wm.r_not ?_)
  | (with_reducible refine Wm.r_andV ?_)
  | (with_reducible refine Wm.r_orV ?_)
  | (with_reducible refine Wm.r_notV ?_)
  | (with_reducible refine Wm.r_if ?_)
  | (with_reducible refine Wm.r_un ?_)
  | (with_reducible refine Wm.r_U ?_)
  | (with_reducible refine Wm.r_iteT ?_)
  | (with_reducible refine Wm.r_iteF ?_)
  | (with_reducible refine Wm.r_next ?_)
  | (with_reducible refine Wm.r_drop ?_)
  | (with_reducible refine Wm.r_retN ?_)
  | ((with_reducible refine' Wm.r_aug ?h ?_); (case h => rfl))
  | (with_reducible refine Wm.r_ipI ?_)
  | (with_reducible refine Wm.r_par2 ?_)
  | (with_reducible refine Wm.r_two ?_; try simp only [List.set_cons_zero, List.set_cons_succ])
  | (with_reducible refine Wm.r_yes ?_)
  | (with_reducible refine Wm.r_forET ?_)
  | (with_reducible refine Wm.r_chain3 ?_)
  | (with_reducible refine Wm.r_nT ?_)
  | (with_reducible refine Wm.r_nF ?_)
  | (with_reducible refine Wm.r_par3 ?_)
  | (with_reducible refine Wm.r_seenPut ?_)
  | (with_reducible refine Wm.r_seenGet ?_)
  | (with_reducible refine Wm.r_three ?_; try simp only [List.set_cons_zero, List.set_cons_succ])
  | (with_reducible refine Wm.r_sl ?_)
  | (with_reducible refine Wm.r_nopart ?_)
  | (with_reducible refine Wm.r_part ?_)
  | (with_reducible refine Wm.r_xi ?_)
  | (with_reducible refine Wm.r_gcons ?_)
  | (with_reducible refine Wm.r_gnil ?_)
  | (with_reducible refine Wm.r_sub ?_)
  | (with_reducible refine Wm.r_setF ?_)
  | (with_reducible refine Wm.r_app ?_)
  | (with_reducible refine Wm.int_i ?_)
  | (with_reducible refine Wm.int_b ?_)
  | (with_reducible refine Wm.min2 ?_)
  | (with_reducible refine Wm.max2 ?_)
  | (with_reducible refine Wm.abs1 ?_)
  | (with_reducible refine Wm.isN ?_)
  | (with_reducible refine Wm.notN ?_)
  | ((with_reducible refine' Wm.r_ty ?e ?_); (case e => walk_at "at"))
  | ((with_reducible refine' Wm.setF_m ?h 0 ?e ?c ?a ?l ?_); (case h => assumption); (case e => rfl); (case c => walk_at "cls"); (case a => walk_at "noattr"); (case l => exact of_decide_eq_true rfl); intro H1 hh1; simp only [List.set_cons_zero, List.set_cons_succ] at hh1)
  | ((with_reducible refine' Wm.setF_m ?h 1 ?e ?c ?a ?l ?_); (case h => assumption); (case e => rfl); (case c => walk_at "cls"); (case a => walk_at "noattr"); (case l => exact of_decide_eq_true rfl); intro H1 hh1; simp only [List.set_cons_zero, List.set_cons_succ] at hh1)
  | ((with_reducible refine' Wm.setF_m ?h 2 ?e ?c ?a ?l ?_); (case h => assumption); (case e => rfl); (case c => walk_at "cls"); (case a => walk_at "noattr"); (case l => exact of_decide_eq_true rfl); intro H1 hh1; simp only [List.set_cons_zero, List.set_cons_succ] at hh1)
  | ((with_reducible refine' Wm.setF_m ?h 3 ?e ?c ?a ?l ?_); (case h => assumption); (case e => rfl); (case c => walk_at "cls"); (case a => walk_at "noattr"); (case l => exact of_decide_eq_true rfl); intro H1 hh1; simp only [List.set_cons_zero, List.set_cons_succ] at hh1)
  | (with_reducible refine Wm.r_forL ?_)
  | (with_reducible refine Wm.r_forT ?_)
  | (with_reducible refine Wm.r_forR1 ?_)
  | (with_reducible refine Wm.r_forR2 ?_)
  | (with_reducible refine Wm.r_forR3 ?_)
  | (with_reducible refine Wm.r_lcL ?_)
  | (with_reducible refine Wm.r_lcT ?_)
  | (with_reducible refine Wm.r_lcR1 ?_)
  | (with_reducible refine Wm.r_lcR2 ?_)
  | ((with_reducible refine' Wm.fld_h ?e ?c ?n ?l ?_); (case e => walk_at "at"); (case c => walk_at "cls"); (case n => walk_at "noattr"); (case l => rfl))
  | ((with_reducible refine' Wm.mtd_h ?e ?l ?_); (case e => walk_at "at"); (case l => rfl))
  | ((with_reducible refine' Wm.prp_h ?e ?_); (case e => walk_at "at"))
  | ((with_reducible refine' Wm.rix_ht ?a ?b ?_); (case a => walk_at "at"); (case b => rfl))
  | ((with_reducible refine' Wm.rix_h ?a ?b ?_); (case a => walk_at "at"); (case b => rfl))
  | ((with_reducible refine' Wm.len_ht ?a ?_); (case a => walk_at "at"))
  | ((with_reducible refine' Wm.len_h ?a ?_); (case a => walk_at "at"))
  | ((with_reducible refine' Wm.len_l ?a ?b ?_); (case a => assumption); (case b => assumption))
  | ((with_reducible refine' Wm.len_t ?a ?b ?_); (case a => assumption); (case b => assumption))
  | ((with_reducible refine' Wm.gtup_h ?a ?b ?_); (case a => walk_at "at"); (case b => rfl))
  | (with_reducible refine Wm.r_I (Wm.cmulR (by decide)) ?_)
  | (with_reducible refine Wm.r_I (Wm.cmulL (by decide)) ?_)
  | (with_reducible refine Wm.r_I (Wm.cdiv (by decide) (by decide)) ?_)
  | (with_reducible refine Wm.r_I Wm.cpow18 ?_)
  | (with_reducible refine Wm.r_I Wm.cpow12 ?_)
  | (with_reducible refine Wm.r_I (by show (0 : Int) < _; decide) ?_))
local macro_rules | `(tactic| walk_at "s") => `(tactic| repeat (first | walk_at "s1" | (with_reducible refine Wm.r_ifS ?_)))
local macro_rules | `(tactic| walk_at "t") => `(tactic| repeat (walk_at "s1"))
local macro_rules | `(tactic| walk_at "sz") => `(tactic| exact of_decide_eq_true rfl)
local macro_rules | `(tactic| walk_at "d") => `(tactic| first | (with_reducible refine Wm.r_dT (by omega) ?_) | (with_reducible refine Wm.r_dF (by omega) ?_) | (with_reducible refine Wm.r_dN (by omega) ?_) | (with_reducible refine Wm.r_dM (by omega) ?_))
local macro_rules | `(tactic| walk_at "sd") => `(tactic| repeat (first | walk_at "s1" | (with_reducible refine Wm.r_ifS ?_) | walk_at "d"))
namespace Wm
open PySem PySem.Spec PyProof.Rows L2 StX
/-! ## _law_told: the simulation tick by tick -/
def bls (P : Par) (n : Nat) : List V := (List.range n).map fun u : Nat => V.bl (oAt P u)
def dgs (P : Par) (n : Nat) : List V := ((List.range n).map fun u : Nat => dAt P u).map V.int
def sp_law_told (K : PySem.W.Frag) (A : Ads) : Sp := fun vs H Q _ => ∃ (t s : Addr) (cnt : Int) (P : Par) (G : Hp) (mu : Mu), vs = [.ref t, .ref s, .int cnt] ∧ Hold G mu H ∧ G t = some (.tup (P.ch.map V.int)) ∧ G s = some (.tup [.int P.gain, .int P.lo, .int P.hi, .int P.start, .bl P.was]) ∧ ParOk P ∧ 0 ≤ cnt ∧ cnt ≤ 100000 ∧
  ∀ (q l1 l2 : Addr) (G' H' : Hp), Ex G G' → G' q = some (.tup [.ref l1, .ref l2]) → G' l1 = some (.lst (dgs P cnt.toNat)) → G' l2 = some (.lst (bls P cnt.toNat)) → Hold G' mu H' → Q (.ref q) H'
theorem o_prev (P : Par) {u : Int} (h : 0 ≤ u) : oAt P u = P.dec (dAt P u) (prevO P u) := by
  unfold prevO
  by_cases hz : u ≤ 0
  · have : u = 0 := by omega
    subst this
    rw [o_zero, d_zero, if_pos (Int.le_refl 0)]
  · rw [if_neg hz]
    have := o_succ P (show 0 ≤ u - 1 by omega)
    rw [show u - 1 + 1 = u by omega] at this
    exact this
def t_law_told (K : PySem.W.Frag) (A : Ads) : TS := tSeq (tAsg (tVar 1) (gTup K 5 (gCons (gName 3) (gCons (gName 4) (gCons (gName 5) (gCons (gName 6) (gCons (gName 7) (gNil)))))))) (tSeq (tPar 8 9 (tCons (tLst (tNil)) (tCons (tLst (tNil)) (tNil)))) (tSeq (tFor (iRng1 (tCons (tVar 2) (tNil))) (gName 10) (tSeq (tIfS (tTest (tOp (rI0 fun i j => .bl (decide (i < j))) (tVar 6) (tVar 4))) (tAsg (tC (.bl true)) (gName 7)) (tIfS (tTest (tOp (rI0 fun i j => .bl (decide (j < i))) (tVar 6) (tVar 5))) (tAsg (tC (.bl false)) (gName 7)) (tNext))) (tSeq (tDrop (tBM K "list" rAppend (tVar 8) (tCons (tVar 6) (tNil)))) (tSeq (tDrop (tBM K "list" rAppend (tVar 9) (tCons (tVar 7) (tNil)))) (tSeq (tAsg (tOp (rIx K) (tVar 0) (tOp (rI (fun _ j => 0 < j) fun i j => .int (i % j)) (tVar 10) (tCB (rLen K) (tCons (tVar 0) (tNil))))) (gName 11)) (tAsg (tOp (rI0 fun i j => .int (i + j)) (tOp (rI0 fun i j => .int (i + j)) (tVar 6) (tVar 11)) (tOp (rI CMul fun i j => .int (i * j)) (tVar 3) (tCB rInt (tCons (tVar 7) (tNil))))) (gName 6))))))) (tRet (tTup (tCons (tVar 8) (tCons (tVar 9) (tNil)))))))
section
variable {K : PySem.W.Frag} {A : Ads}
theorem pure_law_told (vs : List V) (H : Hp) (Q : VK) (E : XK) (h : sp_law_told K A vs H Q E) : t_law_told K A { nx := fun _ H' => Q .non H', rt := Q } (start ["_law_changes_here", "_law_setting_here", "_law_count", "_law_gain", "_law_low", "_law_high", "_law_degrees", "_law_heating", "_law_found", "_law_states", "_law_tick", "_law_change"] vs) H := by
  obtain ⟨t, s, cnt, P, G, mu, rfl, hh, ht, hs, ok, c0, c1, k⟩ := h
  have hsH := hh.rd hs
  have op := ok.pos
  have hg := ok.g2
  have hg1 := ok.g1
  have lh := ok.lh
  show t_law_told K A _ [some (.ref t), some (.ref s), some (.int cnt), none, none, none, none, none, none, none, none, none] H
  unfold t_law_told
  walk_at "s"
  refine lst_m (by walk_at "sz") hh fun l1 H1 hh1 => ?_
  walk_at "s"
  refine lst_m (by walk_at "sz") hh1 fun l2 H2 hh2 => ?_
  walk_at "s"
  refine forR1_by (by omega) (by omega) (fun i σ H' => ∃ v10 v11 : Option V, σ = [some (.ref t), some (.ref s), some (.int cnt), some (.int P.gain), some (.int P.lo), some (.int P.hi), some (.int (dAt P i)), some (.bl (prevO P i)), some (.ref l1), some (.ref l2), v10, v11] ∧ Hold G ((l2, .lst (bls P i)) :: (l1, .lst (dgs P i)) :: mu) H')
    ⟨none, none, by rw [show ((0 : Nat) : Int) = 0 from rfl, d_zero, show prevO P 0 = P.was from if_pos (Int.le_refl 0)], hh2⟩ ?_ ?_
  · rintro i σ H3 hi ⟨v10, v11, rfl, hh3⟩
    have ht3 := hh3.rd ht
    refine r_gname ?_
    simp only [List.set_cons_zero, List.set_cons_succ]
    -- the heater's state in the tick
    have oi := o_prev P (show 0 ≤ (i : Int) by omega)
    have rest : ∀ (rt : VK) (bk ct : L2.St → Hp → Prop), (tSeq (tDrop (tBM K "list" rAppend (tVar 8) (tCons (tVar 6) (tNil)))) (tSeq (tDrop (tBM K "list" rAppend (tVar 9) (tCons (tVar 7) (tNil)))) (tSeq (tAsg (tOp (rIx K) (tVar 0) (tOp (rI (fun _ j => 0 < j) fun i j => .int (i % j)) (tVar 10) (tCB (rLen K) (tCons (tVar 0) (tNil))))) (gName 11)) (tAsg (tOp (rI0 fun i j => .int (i + j)) (tOp (rI0 fun i j => .int (i + j)) (tVar 6) (tVar 11)) (tOp (rI CMul fun i j => .int (i * j)) (tVar 3) (tCB rInt (tCons (tVar 7) (tNil))))) (gName 6))))) ⟨fun σ H' => ∃ v10 v11 : Option V, σ = [some (.ref t), some (.ref s), some (.int cnt), some (.int P.gain), some (.int P.lo), some (.int P.hi), some (.int (dAt P ((i + 1 : Nat) : Int))), some (.bl (prevO P ((i + 1 : Nat) : Int))), some (.ref l1), some (.ref l2), v10, v11] ∧ Hold G ((l2, .lst (bls P (i + 1))) :: (l1, .lst (dgs P (i + 1))) :: mu) H', rt, bk, ct⟩
        [some (.ref t), some (.ref s), some (.int cnt), some (.int P.gain), some (.int P.lo), some (.int P.hi), some (.int (dAt P i)), some (.bl (oAt P i)), some (.ref l1), some (.ref l2), some (.int i), v11] H3 := by
      intro rt bk ct
      walk_at "s"
      refine app_m hh3 1 rfl (szl (by unfold dgs; rw [List.length_map, List.length_map, List.length_range]; omega)) fun H4 hh4 => ?_
      simp only [List.set_cons_zero, List.set_cons_succ] at hh4
      walk_at "s"
      refine app_m hh4 0 rfl (szl (by unfold bls; rw [List.length_map, List.length_range]; omega)) fun H5 hh5 => ?_
      simp only [List.set_cons_zero, List.set_cons_succ] at hh5
      have ht5 := hh5.rd ht
      walk_at "s"
      refine r_I (show (0 : Int) < ((P.ch.map V.int).length : Nat) by rw [List.length_map]; omega) ?_
      rw [List.length_map]
      have m0 := Int.emod_nonneg (i : Int) (show (P.ch.length : Int) ≠ 0 by omega)
      refine rix_ht ht5 (atI_of m0 (ints_at (ch_some ok i))) ?_
      walk_at "s"
      refine r_I (cmulL (by omega)) ?_
      walk_at "s"
      refine ⟨some (.int i), some (.int (chAt P i)), ?_, ?_⟩
      · have e3 : dAt P ((i + 1 : Nat) : Int) = dAt P i + chAt P i + P.gain * (if oAt P i = true then 1 else 0) := by
          rw [show ((i + 1 : Nat) : Int) = (i : Int) + 1 by omega, d_succ P (by omega)]
          unfold Par.heat
          split <;> omega
        have e4 : prevO P ((i + 1 : Nat) : Int) = oAt P i := by
          unfold prevO
          rw [if_neg (by omega), show ((i + 1 : Nat) : Int) - 1 = i by omega]
        rw [e3, e4]
      · have e1 : bls P i ++ [V.bl (oAt P i)] = bls P (i + 1) := by unfold bls; rw [List.range_succ, List.map_append] <;> rfl
        have e2 : dgs P i ++ [V.int (dAt P i)] = dgs P (i + 1) := by unfold dgs; rw [List.range_succ, List.map_append, List.map_append] <;> rfl
        rw [e1, e2] at hh5
        exact hh5
    refine r_seq ?_
    unfold Par.dec at oi
    refine ifA (ans_lt (fun Q q => r_var rfl q) (fun Q q => r_var rfl q)) (fun c => ?_) (fun c => ?_)
    · have c := of_decide_eq_true c
      rw [if_pos c] at oi
      refine r_asg (r_c (r_gname ?_))
      rw [← oi]
      exact rest _ _ _
    · have c := of_decide_eq_false c
      rw [if_neg c] at oi
      refine ifA (ans_gtI (fun Q q => r_var rfl q) (fun Q q => r_var rfl q)) (fun c2 => ?_) (fun c2 => ?_)
      · have c2 := of_decide_eq_true c2
        rw [decide_eq_false (show ¬ dAt P i ≤ P.hi by omega), Bool.and_false] at oi
        refine r_asg (r_c (r_gname ?_))
        rw [← oi]
        exact rest _ _ _
      · have c2 := of_decide_eq_false c2
        rw [decide_eq_true (show dAt P i ≤ P.hi by omega), Bool.and_true] at oi
        refine r_next ?_
        rw [← oi]
        exact rest _ _ _
  · rintro σ H3 ⟨v10, v11, rfl, hh3⟩
    walk_at "s"
    have e1 := hh3.frz_ex
    have h4 := hh3.frz
    have e2 := h4.frz_ex
    have h5 := h4.frz
    refine tup_G (by walk_at "sz") h5 fun q G4 H4 ex4 hq hh4 => ?_
    exact k q l1 l2 G4 H4 (e1.trans (e2.trans ex4)) hq (ex4 _ _ upd_same) (ex4 _ _ (e2 _ _ upd_same)) hh4
end
end Wm
end

section
/-! ## Rooms that rise or fall for ever; repetition within a window -/
namespace Wm
open PySem
/-- the last run of a room that does not repeat -/
structure EndV (P : Par) (b sl : Int) : Prop where
  b0 : 0 ≤ b
  ne : sl ≠ 0
  step : ∀ u, b ≤ u → dAt P (u + P.ch.length) = dAt P u + sl
  sw : ∀ u v, b < u → b < v → swAt P u = swAt P v
end Wm
end

section
/-! ## Extremes: within the first round; rising for ever -/
namespace Wm
open PySem
end Wm
end

section
/-! ## sum(t) of a tuple of ints -/
namespace PySem
section
variable {prog : Program} {w : World} {A : Around} {E : Value → Shared → Prop} {s : Shared} {l : Addr} {xs : Array (Int × Tok)}
end
end PySem
namespace Wm
open PySem PySem.Spec PyProof.Rows L2 StX
def rSumT (K : PySem.W.Frag) : List V → Hp → VK → Prop := fun vs H Q => ∃ (a : Addr) (ns : List Int), vs = [V.ref a] ∧ SqT K H a (ns.map V.int) ∧ Q (.int ns.sum) H
end Wm
end

section
local macro_rules | `(tactic| walk_at "cls") => `(tactic| first | (with_reducible exact Wm.WeatherC.cl (by assumption)) | (with_reducible exact Wm.HeaterC.cl (by assumption)) | (with_reducible exact Wm.RoomC.cl (by assumption)) | (with_reducible exact Wm.RunC.cl (by assumption)) | (with_reducible exact Wm.HistoryC.cl (by assumption)) | (with_reducible exact Wm.ThresholdObserverC.cl (by assumption)) | (with_reducible exact Wm.SettingC.cl (by assumption)) | (with_reducible exact Wm.HourSettingC.cl (by assumption)) | (with_reducible exact Wm.RestSettingC.cl (by assumption)) | (with_reducible exact Wm.PricesC.cl (by assumption)) | (with_reducible exact Wm.MomentC.cl (by assumption)) | (with_reducible exact Wm.LiveRoomC.cl (by assumption)) | (with_reducible exact Wm.AttemptC.cl (by assumption)))
local macro_rules | `(tactic| walk_at "noattr") => `(tactic| first | (with_reducible exact Wm.WeatherC.n_pattern (by assumption)) | (with_reducible exact Wm.HeaterC.n_power (by assumption)) | (with_reducible exact Wm.HeaterC.n_below (by assumption)) | (with_reducible exact Wm.HeaterC.n_above (by assumption)) | (with_reducible exact Wm.RoomC.n_outside (by assumption)) | (with_reducible exact Wm.RoomC.n_inside (by assumption)) | (with_reducible exact Wm.RoomC.n_begin_degrees (by assumption)) | (with_reducible exact Wm.RoomC.n_past (by assumption)) | (with_reducible exact Wm.RoomC.n_repeated (by assumption)) | (with_reducible exact Wm.RoomC.n_share (by assumption)) | (with_reducible exact Wm.RoomC.n_coldest (by assumption)) | (with_reducible exact Wm.RoomC.n_warmest (by assumption)) | (with_reducible exact Wm.RunC.n_begin (by assumption)) | (with_reducible exact Wm.RunC.n_end (by assumption)) | (with_reducible exact Wm.RunC.n_degrees (by assumption)) | (with_reducible exact Wm.RunC.n_is_heating (by assumption)) | (with_reducible exact Wm.RunC.n_sums (by assumption)) | (with_reducible exact Wm.RunC.n_size (by assumption)) | (with_reducible exact Wm.RunC.n_drift (by assumption)) | (with_reducible exact Wm.HistoryC.n_shifts (by assumption)) | (with_reducible exact Wm.HistoryC.n_added (by assumption)) | (with_reducible exact Wm.HistoryC.n_floor (by assumption)) | (with_reducible exact Wm.HistoryC.n_ceiling (by assumption)) | (with_reducible exact Wm.HistoryC.n_was_heating (by assumption)) | (with_reducible exact Wm.HistoryC.n_runs (by assumption)) | (with_reducible exact Wm.HistoryC.n_loop (by assumption)) | (with_reducible exact Wm.ThresholdObserverC.n_outside (by assumption)) | (with_reducible exact Wm.ThresholdObserverC.n_power (by assumption)) | (with_reducible exact Wm.ThresholdObserverC.n_tick (by assumption)) | (with_reducible exact Wm.ThresholdObserverC.n_degrees (by assumption)) | (with_reducible exact Wm.ThresholdObserverC.n_is_heating (by assumption)) | (with_reducible exact Wm.ThresholdObserverC.n_lows (by assumption)) | (with_reducible exact Wm.ThresholdObserverC.n_highs (by assumption)) | (with_reducible exact Wm.ThresholdObserverC.n_noted (by assumption)) | (with_reducible exact Wm.SettingC.n_least (by assumption)) | (with_reducible exact Wm.SettingC.n_most (by assumption)) | (with_reducible exact Wm.HourSettingC.n_least (by assumption)) | (with_reducible exact Wm.HourSettingC.n_most (by assumption)) | (with_reducible exact Wm.HourSettingC.n_length (by assumption)) | (with_reducible exact Wm.HourSettingC.n_hours (by assumption)) | (with_reducible exact Wm.RestSettingC.n_least (by assumption)) | (with_reducible exact Wm.RestSettingC.n_most (by assumption)) | (with_reducible exact Wm.RestSettingC.n_rest (by assumption)) | (with_reducible exact Wm.PricesC.n_table (by assumption)) | (with_reducible exact Wm.MomentC.n_tick (by assumption)) | (with_reducible exact Wm.MomentC.n_heat (by assumption)) | (with_reducible exact Wm.MomentC.n_on (by assumption)) | (with_reducible exact Wm.MomentC.n_burnt (by assumption)) | (with_reducible exact Wm.MomentC.n_sky (by assumption)) | (with_reducible exact Wm.MomentC.n_stove (by assumption)) | (with_reducible exact Wm.LiveRoomC.n_moment (by assumption)) | (with_reducible exact Wm.LiveRoomC.n_earlier (by assumption)) | (with_reducible exact Wm.LiveRoomC.n_done (by assumption)) | (with_reducible exact Wm.AttemptC.n_live (by assumption)) | (with_reducible exact Wm.AttemptC.n_kept (by assumption)) | (with_reducible exact Wm.AttemptC.n_stack (by assumption)) | (with_reducible exact Wm.AttemptC.n_steps (by assumption)))
local macro_rules | `(tactic| walk_at "at") => `(tactic| first | assumption | exact Wm.Hold.rd (by assumption) (by assumption) | exact Wm.Hold.get (i := 0) (by assumption) rfl | exact Wm.Hold.get (i := 1) (by assumption) rfl | exact Wm.Hold.get (i := 2) (by assumption) rfl | exact Wm.Hold.get (i := 3) (by assumption) rfl | exact Wm.Hold.get (i := 4) (by assumption) rfl)
local macro_rules | `(tactic| walk_at "s1") => `(tactic| first
  | (with_reducible refine Wm.r_seq ?_)
  | (with_reducible refine Wm.r_op ?_)
  | ((with_reducible refine' Wm.r_var ?h ?_); (case h => rfl))
  | (with_reducible refine Wm.r_c ?_)
  | (with_reducible refine Wm.r_I0 ?_)
  | (with_reducible refine Wm.r_cons ?_)
  | (with_reducible refine Wm.r_nil ?_)
  | (with_reducible refine Wm.r_asg ?_)
  | (with_reducible refine Wm.r_gname ?_; try simp only [List.set_cons_zero, List.set_cons_succ])
  | (with_reducible refine Wm.r_nx ?_)
  | (with_reducible refine Wm.r_rt ?_)
  | (with_reducible refine Wm.r_ret ?_)
  | (with_reducible refine Wm.r_test ?_)
  | (with_reducible refine Wm.r_bl ?_)
  | (with_reducible refine Wm.r_B ?_)
  | (with_reducible refine Wm.r_eqI ?_)
  | (with_reducible refine Wm.r_neI ?_)
  | (with_reducible refine Wm.r_eqB ?_)
  | (with_reducible refine Wm.r_neB ?_)
  | (with_reducible refine Wm.r_fld ?_)
  | (with_reducible refine Wm.r_call ?_)
  | (with_reducible refine Wm.r_mtd ?_)
  | (with_reducible refine Wm.r_prp ?_)
  | (with_reducible refine Wm.r_mak ?_)
  | (with_reducible refine Wm.r_makKw ?_)
  | (with_reducible refine Wm.r_cb ?_)
  | (with_reducible refine Wm.r_tup ?_)
  | (with_reducible refine Wm.r_lst ?_)
  | (with_reducible refine Wm.r_chain ?_)
  | (with_reducible refine Wm.r_and ?_)
  | (with_reducible refine Wm.r_or ?_)
  | (with_reducible refine Wm.r_not ?_)
  | (with_reducible refine Wm.r_andV ?_)
  | (with_reducible refine Wm.r_orV ?_)
  | (with_reducible refine Wm.r_notV ?_)
  | (with_reducible refine Wm.r_if ?_)
  | (with_reducible refine Wm.r_un ?_)
  | (with_reducible refine Wm.r_U ?_)
  | (with_reducible refine Wm.r_iteT ?_)
  | (with_reducible refine Wm.r_iteF ?_)
  | (with_reducible refine Wm.r_next ?_)
  | (with_reducible refine Wm.r_drop ?_)
  | (with_reducible refine Wm.r_retN ?_)
  | ((with_reducible refine' Wm.r_aug ?h ?_); (case h => rfl))
  | (with_reducible refine Wm.r_ipI ?_)
  | (with_reducible refine Wm.r_par2 ?_)
  | (with_reducible refine Wm.r_two ?_; try simp only [List.set_cons_zero, List.set_cons_succ])
  | (with_reducible refine Wm.r_yes ?_)
  | (with_reducible refine Wm.r_forET ?_)
  | (with_reducible refine Wm.r_chain3 ?_)
  | (with_reducible refine Wm.r_nT ?_)
  | (with_reducible refine Wm.r_nF ?_)
  | (with_reducible refine Wm.r_par3 ?_)
  | (with_reducible refine Wm.r_seenPut ?_)
  | (with_reducible refine Wm.r_seenGet ?_)
  | (with_reducible refine Wm.r_three ?_; try simp only [List.set_cons_zero, List.set_cons_succ])
  | (with_reducible refine Wm.r_sl ?_)
  | (with_reducible refine Wm.r_nopart ?_)
  | (with_reducible refine Wm.r_part ?_)
  | (with_reducible refine Wm.r_xi ?_)
  | (with_reducible refine Wm.r_gcons ?_)
  | (with_reducible refine Wm.r_gnil ?_)
  | (with_reducible refine Wm.r_sub ?_)
  | (with_reducible refine Wm.r_setF ?_)
  | (with_reducible refine Wm.r_app ?_)
  | (with_reducible refine Wm.int_i ?_)
  | (with_reducible refine Wm.int_b ?_)
  | (with_reducible refine Wm.min2 ?_)
  | (with_reducible refine Wm.max2 ?_)
  | (with_reducible refine Wm.abs1 ?_)
  | (with_reducible refine Wm.isN ?_)
  | (with_reducible refine Wm.notN ?_)
  | ((with_reducible refine' Wm.r_ty ?e ?_); (case e => walk_at "at"))
  | ((with_reducible refine' Wm.setF_m ?h 0 ?e ?c ?a ?l ?_); (case h => assumption); (case e => rfl); (case c => walk_at "cls"); (case a => walk_at "noattr"); (case l => exact of_decide_eq_true rfl); intro H1 hh1; simp only [List.set_cons_zero, List.set_cons_succ] at hh1)
  | ((with_reducible refine' Wm.setF_m ?h 1 ?e ?c ?a ?l ?_); (case h => assumption); (case e => rfl); (case c => walk_at "cls"); (case a => walk_at "noattr"); (case l => exact of_decide_eq_true rfl); intro H1 hh1; simp only [List.set_cons_zero, List.set_cons_succ] at hh1)
  | ((with_reducible refine' Wm.setF_m ?h 2 ?e ?c ?a ?l ?_); (case h => assumption); (case e => rfl); (case c => walk_at "cls"); (case a => walk_at "noattr"); (case l => exact of_decide_eq_true rfl); intro H1 hh1; simp only [List.set_cons_zero, List.set_cons_succ] at hh1)
  | ((with_reducible refine' Wm.setF_m ?h 3 ?e ?c ?a ?l ?_); (case h => assumption); (case e => rfl); (case c => walk_at "cls"); (case a => walk_at "noattr"); (case l => exact of_decide_eq_true rfl); intro H1 hh1; simp only [List.set_cons_zero, List.set_cons_succ] at hh1)
  | (with_reducible refine Wm.r_forL ?_)
  | (with_reducible refine Wm.r_forT ?_)
  | (with_reducible refine Wm.r_forR1 ?_)
  | (with_reducible refine Wm.r_forR2 ?_)
  | (with_reducible refine Wm.r_forR3 ?_)
  | (with_reducible refine Wm.r_lcL ?_)
  | (with_reducible refine Wm.r_lcT ?_)
  | (with_reducible refine Wm.r_lcR1 ?_)
  | (with_reducible refine Wm.r_lcR2 ?_)
  | ((with_reducible refine' Wm.fld_h ?e ?c ?n ?l ?_); (case e => walk_at "at"); (case c => walk_at "cls"); (case n => walk_at "noattr"); (case l => rfl))
  | ((with_reducible refine' Wm.mtd_h ?e ?l ?_); (case e => walk_at "at"); (case l => rfl))
  | ((with_reducible refine' Wm.prp_h ?e ?_); (case e => walk_at "at"))
  | ((with_reducible refine' Wm.rix_ht ?a ?b ?_); (case a => walk_at "at"); (case b => rfl))
  | ((with_reducible refine' Wm.rix_h ?a ?b ?_); (case a => walk_at "at"); (case b => rfl))
  | ((with_reducible refine' Wm.len_ht ?a ?_); (case a => walk_at "at"))
  | ((with_reducible refine' Wm.len_h ?a ?_); (case a => walk_at "at"))
  | ((with_reducible refine' Wm.len_l ?a ?b ?_); (case a => assumption); (case b => assumption))
  | ((with_reducible refine' Wm.len_t ?a ?b ?_); (case a => assumption); (case b => assumption))
  | ((with_reducible refine' Wm.gtup_h ?a ?b ?_); (case a => walk_at "at"); (case b => rfl))
  | (with_reducible refine Wm.r_I (Wm.cmulR (by decide)) ?_)
  | (with_reducible refine Wm.r_I (Wm.cmulL (by decide)) ?_)
  | (with_reducible refine Wm.r_I (Wm.cdiv (by decide) (by decide)) ?_)
  | (with_reducible refine Wm.r_I Wm.cpow18 ?_)
  | (with_reducible refine Wm.r_I Wm.cpow12 ?_)
  | (with_reducible refine Wm.r_I (by show (0 : Int) < _; decide) ?_))
local macro_rules | `(tactic| walk_at "s") => `(tactic| repeat (first | walk_at "s1" | (with_reducible refine Wm.r_ifS ?_)))
local macro_rules | `(tactic| walk_at "t") => `(tactic| repeat (walk_at "s1"))
local macro_rules | `(tactic| walk_at "sz") => `(tactic| exact of_decide_eq_true rfl)
local macro_rules | `(tactic| walk_at "d") => `(tactic| first | (with_reducible refine Wm.r_dT (by omega) ?_) | (with_reducible refine Wm.r_dF (by omega) ?_) | (with_reducible refine Wm.r_dN (by omega) ?_) | (with_reducible refine Wm.r_dM (by omega) ?_))
local macro_rules | `(tactic| walk_at "sd") => `(tactic| repeat (first | walk_at "s1" | (with_reducible refine Wm.r_ifS ?_) | walk_at "d"))
namespace Wm
open PySem PySem.Spec PyProof.Rows L2 StX
/-! ## Facts that are found by their address -/
def Lst (G : Hp) (p : Addr) (xs : List V) : Prop := G p = some (.lst xs)
def Tup (G : Hp) (p : Addr) (xs : List V) : Prop := G p = some (.tup xs)
theorem Lst.at_ {G H : Hp} {p : Addr} {xs : List V} (h : Lst G p xs) (e : Ex G H) : H p = some (.lst xs) := e _ _ h
theorem Tup.at_ {G H : Hp} {p : Addr} {xs : List V} (h : Tup G p xs) (e : Ex G H) : H p = some (.tup xs) := e _ _ h
theorem Lst.up {G H : Hp} {p : Addr} {xs : List V} (h : Lst G p xs) (e : Ex G H) : Lst H p xs := e _ _ h
theorem Tup.up {G H : Hp} {p : Addr} {xs : List V} (h : Tup G p xs) (e : Ex G H) : Tup H p xs := e _ _ h
section
variable {K : PySem.W.Frag} {A : Ads} {G H : Hp} {mu : Mu} {σ : L2.St} {Q : VK} {E : XK} {p q : Addr} {R : RoomD} {t : Int} {xs ys : List V} {v : V} {m : Str} {sp : Sp} {tr : TA}
theorem tup_N (hP : xs.length ≤ sizeLine) (hh : Hold G mu H) (k : ∀ p G' H', Ex G G' → Tup G' p xs → Hold G' mu H' → Q (.ref p) H') : rTup xs H Q := tup_G hP hh k
theorem lst_N (hP : xs.length ≤ sizeLine) (hh : Hold G mu H) (k : ∀ p G' H', Ex G G' → Lst G' p xs → Hold G' mu H' → Q (.ref p) H') : rLst xs H Q := lst_G hP hh k
theorem cat_N (hh : Hold G mu H) (h1 : H p = some (.lst xs)) (h2 : H q = some (.lst ys)) (hz : xs.length + ys.length ≤ 1000000) (k : ∀ q G' H', Ex G G' → Lst G' q (xs ++ ys) → Hold G' mu H' → Q (.ref q) H') : rCat (.ref p) (.ref q) H Q := cat_G hh h1 h2 (sz hz) k
theorem rep_N {i : Int} (hh : Hold G mu H) (h : H p = some (.lst ys)) (h1 : 0 ≤ i) (h2 : i < 100000) (hz : ys.length * i.toNat ≤ 1000000) (k : ∀ l G' H', Ex G G' → Lst G' l (List.replicate i.toNat ys).flatten → Hold G' mu H' → Q (.ref l) H') : rRep (.ref p) (.int i) H Q := rep_G hh h (by omega) (by omega) (sz hz) k
theorem catT_N (hh : Hold G mu H) (h1 : Tup G p xs) (h2 : Tup G q ys) (hz : xs.length + ys.length ≤ 1000000) (k : ∀ r G' H', Ex G G' → Tup G' r (xs ++ ys) → Hold G' mu H' → Q (.ref r) H') : rCatA K (.ref p) (.ref q) H Q := by
  refine ⟨p, q, xs, ys, rfl, rfl, hh.tup (SqT.of_ h1), hh.tup (SqT.of_ h2), sz hz, fun e => ?_, fun _ e => ?_, fun _ _ p hp => k p _ _ (Ex.new (hh.g_none hp)) upd_same (hh.new hp)⟩
  · subst e
    exact k q G H (Ex.refl G) h2 hh
  · subst e
    exact k p G H (Ex.refl G) (by rw [List.append_nil]; exact h1) hh
theorem slT_N {lo hi : Option Int} (hh : Hold G mu H) (h : Tup G p xs) (k : ∀ r G' H', Ex G G' → Tup G' r (cutV xs lo hi) → Hold G' mu H' → Q (.ref r) H') : rSlA K (.ref p) lo hi H Q := by
  refine ⟨p, xs, rfl, hh.tup (SqT.of_ h), fun e => ?_, fun _ p hp => k p _ _ (Ex.new (hh.g_none hp)) upd_same (hh.new hp)⟩
  refine k p G H (Ex.refl G) ?_ hh
  have : cutV xs lo hi = xs := by
    unfold cutV
    rw [e.1, e.2]
    simp
  rw [this]
  exact h
theorem r_mod {i j : Int} (h : 0 < j) (k : Q (.int (i % j)) H) : rI (fun _ j => 0 < j) (fun i j => .int (i % j)) (.int i) (.int j) H Q := ⟨i, j, rfl, rfl, h, k⟩
theorem r_p12 (k : Q (.int (10 ^ 12)) H) : rI CPow (fun i j => .int (i ^ j.toNat)) (.int 10) (.int 12) H Q := ⟨10, 12, rfl, rfl, ⟨by decide, by decide, by decide⟩, k⟩
theorem r_wp {σ' : L2.St} {vs : List Nat} {Z : Prop} (h : wipe σ vs = wipe σ' vs) (k : Z) : wipe σ vs = wipe σ' vs ∧ Z := ⟨h, k⟩
theorem _root_.Wm.Hold.weak {G G' H : Hp} {mu : Mu} (h : Hold G' mu H) (e : Ex G G') : Hold G mu H := by
  refine ⟨e.trans h.ex, h.at_, fun q hq => ?_, h.nd⟩
  cases z : G q.1 with
  | none => rfl
  | some o => have := h.out q hq; rw [e _ _ z] at this; cases this
theorem ap_next1 {a c : Addr} {d : DS} {lim : Int} {x : Addr × HO} (hh : Hold G (x :: dh a c d :: dc c d :: mu) H) (ok : d.Ok) (h0 : 0 < lim) (h1 : lim < 2 ^ 64) (k : ∀ (n : Int) (d' : DS) (H' : Hp), 0 ≤ n → n < lim → d'.Ok → Hold G (x :: dh a c d' :: dc c d' :: mu) H' → Q (.int n) H') : sp_law_next K A [.ref a, .int lim] H Q E :=
  ⟨a, c, d, lim, G, _, rfl, hh.perm perm_in2, ok, h0, h1, fun n d' H' a b c h => k n d' H' a b c (h.perm perm_in2.symm)⟩
end
/-! ## Alike data, place by place -/
inductive ADs (H : Hp) (n : Nat) : List V → List V → Prop
  | nil : ADs H n [] []
  | cons {x y : V} {xs ys : List V} : ADn H n x y → ADs H n xs ys → ADs H n (x :: xs) (y :: ys)
theorem ADs.len {H : Hp} {n : Nat} {xs ys : List V} (h : ADs H n xs ys) : xs.length = ys.length := by
  induction h with
  | nil => rfl
  | cons _ _ ih => simp [ih]
theorem ADs.get {H : Hp} {n : Nat} {xs ys : List V} (h : ADs H n xs ys) : ∀ (i : Nat) (x y : V), xs[i]? = some x → ys[i]? = some y → ADn H n x y := by
  induction h with
  | nil => intro i x y h; cases h
  | cons hx _ ih =>
    intro i x y h1 h2
    cases i with
    | zero => cases h1; cases h2; exact hx
    | succ i => exact ih i x y h1 h2
theorem ad_int {H : Hp} {n : Nat} (i : Int) : ADn H n (.int i) (.int i) := by
  cases n with
  | zero => exact .inr (.inl ⟨i, rfl, rfl⟩)
  | succ n => exact .inl (.inr (.inl ⟨i, rfl, rfl⟩))
theorem ad_str {H : Hp} {n : Nat} (s : Str) : ADn H n (.str s) (.str s) := by
  cases n with
  | zero => exact .inr (.inr (.inr ⟨s, rfl, rfl⟩))
  | succ n => exact .inl (.inr (.inr (.inr ⟨s, rfl, rfl⟩)))
theorem ad_lst {H : Hp} {n : Nat} {p q : Addr} {xs ys : List V} (hp : H p = some (.lst xs)) (hq : H q = some (.lst ys)) (hl : xs.length ≤ 100000) (h : ADs H n xs ys) : ADn H (n + 1) (.ref p) (.ref q) :=
  .inr ⟨p, q, xs, ys, rfl, rfl, .inr ⟨hp, hq⟩, h.len, hl, h.get⟩
theorem ad_tup {H : Hp} {n : Nat} {p q : Addr} {xs ys : List V} (hp : H p = some (.tup xs)) (hq : H q = some (.tup ys)) (hl : xs.length ≤ 100000) (h : ADs H n xs ys) : ADn H (n + 1) (.ref p) (.ref q) :=
  .inr ⟨p, q, xs, ys, rfl, rfl, .inl ⟨hp, hq⟩, h.len, hl, h.get⟩
/-! ## What the room laws have in common -/
structure RoomCs (K : PySem.W.Frag) (A : Ads) : Prop where
  w : WeatherC K A.cWeather
  h : HeaterC K A.cHeater
  r : RoomC K A.cRoom
  p : HistoryC K A.cHistory
  u : RunC K A.cRun
theorem SetOk.ht {g lo hi st : Int} (h : SetOk g lo hi st) : HtOk g lo hi := ⟨h.g1, h.g2, by have := h.l1; omega, h.lh, by have := h.l2; have := h.w; omega⟩
theorem SetOk.st {g lo hi st : Int} (h : SetOk g lo hi st) : -(10 ^ 12) ≤ st ∧ st ≤ 10 ^ 12 := ⟨by have := h.s1; have := h.l1; omega, by have := h.s2; have := h.l2; omega⟩
section
variable {K : PySem.W.Frag} {A : Ads} {G H : Hp} {mu : Mu} {Q : VK} {E : XK} {a c t se p : Addr} {d : DS} {R : RoomD} {most : Int}
theorem ap_changes (hh : Hold G (dh a c d :: dc c d :: mu) H) (ok : d.Ok) (m1 : 1 ≤ most) (m2 : most ≤ 24)
    (k : ∀ (t : Addr) (ch : List Int) (d' : DS) (G' H' : Hp), Ex G G' → Tup G' t (ch.map V.int) → WOk ch → (ch.length : Int) ≤ most → d'.Ok → Hold G' (dh a c d' :: dc c d' :: mu) H' → Q (.ref t) H') : sp_law_changes K A [.ref a, .int most] H Q E :=
  ⟨a, c, most, d, G, mu, rfl, hh, ok, m1, m2, k⟩
theorem ap_setting (hh : Hold G (dh a c d :: dc c d :: mu) H) (ok : d.Ok)
    (k : ∀ (t : Addr) (g lo hi st : Int) (on : Bool) (d' : DS) (G' H' : Hp), Ex G G' → Tup G' t [.int g, .int lo, .int hi, .int st, .bl on] → SetOk g lo hi st → d'.Ok → Hold G' (dh a c d' :: dc c d' :: mu) H' → Q (.ref t) H') : sp_law_setting K A [.ref a] H Q E :=
  ⟨a, c, d, G, mu, rfl, hh, ok, k⟩
theorem ap_alike {x y : V} (hh : Hold G mu H) (h : ADn H 4 x y) (k : ∀ H', Hold G mu H' → Q (.bl true) H') : sp_law_alike K A [x, y] H Q E := ⟨x, y, rfl, h, fun H' e => k H' (hh.grow e)⟩
end
/-! ## Comprehensions: the items' list, told by a filter and a map -/
section
variable {K : PySem.W.Frag} {G H : Hp} {mu : Mu} {σ : L2.St} {Q : VK} {g : TG} {tt : TT} {te : TE} {vs : List Nat} {a : Addr} {α : Type}
theorem Hold.frzL {D : Addr} {acc : List V} (h : Hold G ((D, .lst acc) :: mu) H) : ∃ G', Ex G G' ∧ Lst G' D acc ∧ Hold G' mu H := ⟨_, h.frz_ex, upd_same, h.frz⟩
/-- one turn: LY, LN are what the turn's ends want -/
def LcX (G : Hp) (mu : Mu) (keep : α → Bool) (f : α → V) (e : α → V) (g : TG) (tt : TT) (te : TE) (vs : List Nat) (σ : L2.St) (z : α) : Prop :=
  ∀ (D : Addr) (acc : List V) (G' H' : Hp) (LY : V → Hp → Prop) (LN : Hp → Prop), Ex G G' → Hold G' ((D, .lst acc) :: mu) H' →
    (∀ y H4 G4, keep z = true → y = f z → Ex G' G4 → Hold G4 ((D, .lst acc) :: mu) H4 → LY y H4) → (∀ H4 G4, keep z = false → Ex G' G4 → Hold G4 ((D, .lst acc) :: mu) H4 → LN H4) →
    g (e z) (wipe σ vs) H' fun σ2 H2 => wipe σ2 vs = wipe σ vs ∧ tt σ2 H2 fun b H3 => if b = true then te σ2 H3 LY else LN H3
theorem take_flt {keep : α → Bool} {f : α → V} {l : List α} {i : Nat} {z : α} (h : l[i]? = some z) :
    (keep z = true → ((l.take i).filter keep).map f ++ [f z] = ((l.take (i + 1)).filter keep).map f) ∧ (keep z = false → ((l.take i).filter keep).map f = ((l.take (i + 1)).filter keep).map f) := by
  rw [take_one h, List.filter_append, List.map_append]
  exact ⟨fun k => by rw [List.filter_cons_of_pos k] <;> rfl, fun k => by rw [List.filter_cons_of_neg (by rw [k]; exact Bool.false_ne_true)] <;> simp⟩
theorem lc_fil {J : It} (l : List α) (e : α → V) (keep : α → Bool) (f : α → V) (hl : l.length ≤ 1000000) (hh : Hold G mu H)
    (hstop : ∀ H', Ex G H' → J.stop l.length H') (hgo : ∀ i H', i < l.length → Ex G H' → J.go i H') (hy : ∀ i H' x H'', i < l.length → Ex G H' → J.yld i H' x H'' → H'' = H' ∧ ∃ z, l[i]? = some z ∧ x = e z)
    (hs : ∀ z ∈ l, LcX G mu keep f e g tt te vs σ z)
    (hd : ∀ D G' H', Ex G G' → Lst G' D ((l.filter keep).map f) → Hold G' mu H' → Q (.ref D) H') : LcW J g tt te vs σ H Q := by
  refine lc_go (n := l.length) hh (fun i x => ∃ z, l[i]? = some z ∧ x = e z) (fun i acc G' mu' => mu' = mu ∧ acc = ((l.take i).filter keep).map f) ⟨rfl, rfl⟩ hstop hgo hy ?_ ?_
  · rintro i x D acc G' mu' H' hi ⟨z, hz, rfl⟩ hal ex hh' ⟨rfl, rfl⟩
    refine hs z (List.mem_of_getElem? hz) D _ G' H' _ _ ex hh' (fun y H4 G4 hk hy ex4 hh4 => ?_) (fun H4 G4 hk ex4 hh4 => ?_)
    · subst hy
      exact lcY hh4 (ex.trans ex4) hal (by omega) ⟨rfl, (take_flt hz).1 hk⟩
    · exact lcN hh4 (ex.trans ex4) hal ⟨rfl, (take_flt hz).2 hk⟩
  · rintro D acc G' mu' H' hal ex hh' ⟨rfl, rfl⟩
    obtain ⟨G2, ex2, h2, hh2⟩ := hh'.frzL
    rw [List.take_length] at h2
    exact hd D G2 H' (ex.trans ex2) h2 hh2
def rngI (n : Nat) : List Int := (List.range n).map fun i : Nat => (i : Int)
theorem rngI_len (n : Nat) : (rngI n).length = n := by simp [rngI]
theorem rngI_get {n i : Nat} (h : i < n) : (rngI n)[i]? = some (i : Int) := by
  unfold rngI
  rw [List.getElem?_map, List.getElem?_range h]
  rfl
theorem rngI_mem {n : Nat} {z : Int} (h : z ∈ rngI n) : 0 ≤ z ∧ z < n := by
  obtain ⟨i, hi, rfl⟩ := List.mem_map.mp h
  have := List.mem_range.mp hi
  omega
/-- over range(n) -/
theorem lcR1_fil {n : Int} (keep : Int → Bool) (f : Int → V) (hh : Hold G mu H) (hn : n ≤ 1000000) (hn0 : -(2 ^ 62) ≤ n) (hs : ∀ z, 0 ≤ z → z < n → LcX G mu keep f V.int g tt te vs σ z)
    (hd : ∀ D G' H', Ex G G' → Lst G' D (((rngI n.toNat).filter keep).map f) → Hold G' mu H' → Q (.ref D) H') : LcR1 g tt te vs σ Q [.int n] H := by
  refine ⟨n, rfl, hn0, by omega, lc_fil (rngI n.toNat) V.int keep f (by rw [rngI_len]; omega) hh ?_ ?_ ?_ (fun z hz => ?_) hd⟩
  · intro H' _
    rw [rngI_len]
    exact Nat.le_refl _
  · intro i H' hi _
    rw [rngI_len] at hi
    exact hi
  · intro i H' x H'' hi _ y
    rw [rngI_len] at hi
    exact ⟨y.1, (i : Int), rngI_get hi, by have := y.2; rw [Int.zero_add] at this; exact this⟩
  · have := rngI_mem hz
    exact hs z (by omega) (by omega)
/-- over a list -/
theorem lcL_fil (l : List α) (e : α → V) (keep : α → Bool) (f : α → V) (hh : Hold G mu H) (hl : l.length ≤ 1000000) (h : Lst G a (l.map e)) (hs : ∀ z ∈ l, LcX G mu keep f e g tt te vs σ z)
    (hd : ∀ D G' H', Ex G G' → Lst G' D ((l.filter keep).map f) → Hold G' mu H' → Q (.ref D) H') : LcL K g tt te vs σ Q (.ref a) H := by
  have at_ : ∀ {i : Nat} {x : V}, (l.map e)[i]? = some x → ∃ z, l[i]? = some z ∧ x = e z := fun {i x} hx => by
    rw [List.getElem?_map] at hx
    cases hz : l[i]? with
    | none => rw [hz] at hx; cases hx
    | some z => rw [hz] at hx; exact ⟨z, rfl, (Option.some.inj hx).symm⟩
  refine ⟨a, rfl, ⟨_, SqL.of (hh.rd h)⟩, lc_fil l e keep f hl hh (fun H' ex => ⟨_, SqL.of (h.at_ ex), by rw [List.length_map]; exact Nat.le_refl _⟩) (fun i H' hi ex => ⟨_, e l[i], SqL.of (h.at_ ex), by rw [List.getElem?_map, List.getElem?_eq_getElem hi] <;> rfl⟩) (fun i H' x H'' hi ex y => ⟨y.1, at_ (y.2 _ (SqL.of (h.at_ ex)))⟩) hs hd⟩
/-- over a tuple -/
theorem lcT_fil (l : List α) (e : α → V) (keep : α → Bool) (f : α → V) (hh : Hold G mu H) (hl : l.length ≤ 1000000) (h : Tup G a (l.map e)) (hs : ∀ z ∈ l, LcX G mu keep f e g tt te vs σ z)
    (hd : ∀ D G' H', Ex G G' → Lst G' D ((l.filter keep).map f) → Hold G' mu H' → Q (.ref D) H') : LcT K g tt te vs σ Q (.ref a) H := by
  have at_ : ∀ {i : Nat} {x : V}, (l.map e)[i]? = some x → ∃ z, l[i]? = some z ∧ x = e z := fun {i x} hx => by
    rw [List.getElem?_map] at hx
    cases hz : l[i]? with
    | none => rw [hz] at hx; cases hx
    | some z => rw [hz] at hx; exact ⟨z, rfl, (Option.some.inj hx).symm⟩
  refine ⟨a, rfl, ⟨_, SqT.of (hh.rd h)⟩, lc_fil l e keep f hl hh (fun H' ex => ⟨_, SqT.of (h.at_ ex), by rw [List.length_map]; exact Nat.le_refl _⟩) (fun i H' hi ex => ⟨_, e l[i], SqT.of (h.at_ ex), by rw [List.getElem?_map, List.getElem?_eq_getElem hi] <;> rfl⟩) (fun i H' x H'' hi ex y => ⟨y.1, at_ (y.2 _ (SqT.of (h.at_ ex)))⟩) hs hd⟩
/-- items that are drawn: what all bear -/
def LcS (G : Hp) (St : Mu → Prop) (Pe : V → Prop) (x : V) (g : TG) (tt : TT) (te : TE) (vs : List Nat) (σ : L2.St) : Prop :=
  ∀ (D : Addr) (acc : List V) (G' H' : Hp) (mu' : Mu) (LY : V → Hp → Prop) (LN : Hp → Prop), Ex G G' → St mu' → Hold G' ((D, .lst acc) :: mu') H' →
    (∀ y H4 G4 mu4, Pe y → St mu4 → Ex G' G4 → Hold G4 ((D, .lst acc) :: mu4) H4 → LY y H4) → (∀ H4 G4 mu4, St mu4 → Ex G' G4 → Hold G4 ((D, .lst acc) :: mu4) H4 → LN H4) →
    g x (wipe σ vs) H' fun σ2 H2 => wipe σ2 vs = wipe σ vs ∧ tt σ2 H2 fun b H3 => if b = true then te σ2 H3 LY else LN H3
end
/-! ## Loops by an invariant that does not count -/
section
variable {K : PySem.W.Frag} {σ : L2.St} {H : Hp} {D : Ends} {g : TG} {tb : TS} {a : Addr} {xs : List V}
theorem forT_I (I : L2.St → Hp → Prop) (e : ∀ σ H, I σ H → H a = some (.tup xs)) (h0 : I σ H)
    (hs : ∀ x σ H, x ∈ xs → I σ H → g x σ H fun σ2 H2 => tb { D with nx := I, ct := I, bk := D.nx } σ2 H2) (hd : ∀ σ H, I σ H → D.nx σ H) : ForT K g tb D σ (.ref a) H :=
  forT_by (SqT.of_ (e _ _ h0)) (fun _ => I) h0 (fun _ σ H _ p => SqT.of_ (e σ H p)) (fun i x σ H hx p => hs x σ H (List.mem_of_getElem? hx) p) hd
end
end Wm
end

section
/-! ## Joining: the text's defs and what the top has made of them -/
namespace Wm
open PySem PySem.Spec PyProof.Rows L2 StX
section
variable {P : Program} {w : World} {K : PySem.W.Frag} {mg : Str → Option Value} {base : Heap} {CX : CXT}
theorem okD {x qual : Str} {st : Stmt} {dvs : List V} {kws : List (Str × V)} {f : Addr} {fd : FuncData} {N ps : List Str} {k : Nat} {sp : Sp} (F : FunD K x qual (defArgs st) (defBody st) (defScope st) dvs kws f fd) (S : FnScope N ps (defScope st)) (len : ∀ vs H Q E, sp vs H Q E → vs.length = ps.length)
    (hbody : ∀ (cdv : Value) (A : Around) (outer : List Env) (s : Shared) (H : Hp) (vs : List V) (Q : VK) (E : XK), Room k (A.deeper (envOfC qual (defScope st) s.heap.objs.size f cdv)) → sp vs H Q E →
      ∃ t, PSs (cxOf CX P w K mg base N qual (defScope st) f cdv A outer s H E).nox (defBody st) t ∧ t { nx := fun _ H' => Q .non H', rt := Q } (start N vs) H) : FnOk P w K mg base CX (k + 1) f fd ps sp :=
  F.ok S len fun cdv A outer s H vs Q E hr h => by
    obtain ⟨t, p, q⟩ := hbody cdv A outer s H vs Q E hr h
    exact ⟨t, p.nox, q⟩
/-- def f(a, *v) -/
theorem okStar {x qual p1 pv : Str} {st : Stmt} {kws : List (Str × V)} {f : Addr} {fd : FuncData} {N : List Str} {k : Nat} {sp : Sp} (F : FunD K x qual (defArgs st) (defBody st) (defScope st) [] kws f fd) (S : FnScope N ([p1] ++ [pv]) (defScope st)) (hup : CXUp CX)
    (hb : ∀ (kV doc pm : Value) (an : Option Addr) (cdv ct : Value) (us rest : List Value), us.length = [p1].length → bindArgs (PySem.W.fnOf x qual (defArgs st) (defBody st) (defScope st) .none kV doc pm an cdv ct) ⟨us ++ rest, []⟩ = (newTuple rest >>= fun t => pure ([p1].zip us ++ [(pv, t)])))
    (hbody : ∀ (cdv : Value) (A : Around) (outer : List Env) (s : Shared) (H : Hp) (vs : List V) (Q : VK) (E : XK), Room k (A.deeper (envOfC qual (defScope st) s.heap.objs.size f cdv)) → sp vs H Q E →
      ∃ t, PSs (cxOf CX P w K mg base N qual (defScope st) f cdv A outer s H E).nox (defBody st) t ∧ t { nx := fun _ H' => Q .non H', rt := Q } (start N vs) H) :
    FnR P w K mg base CX (k + 1) f (fun vs H Q E => ∃ ws rest, vs = ws ++ rest ∧ ws.length = [p1].length ∧ rest.length ≤ sizeLine ∧ ∀ p, H p = Option.none → sp (ws ++ [V.ref p]) (upd H p (.tup rest)) Q E) := by
  obtain ⟨oc, od, dV, kV, doc, pm, an, cdv, ct, osl, rfl, lk, hcd, hD, _⟩ := F.ex
  rcases hD with ⟨_, rfl⟩ | ⟨e, _⟩
  case inr => exact absurd rfl e
  exact fn_star lk hcd S hup (hb kV doc pm an cdv ct) fun A outer s H vs Q E hr h => by
    obtain ⟨t, p, q⟩ := hbody cdv A outer s H vs Q E hr h
    exact ⟨t, p.nox, q⟩
/-- C(e, .., k = v, ..) -/
structure MakKR (P : Program) (w : World) (K : PySem.W.Frag) (mg : Str → Option Value) (base : Heap) (CX : CXT) (k : Nat) (x : Str) (C : Addr) (n : Nat) (ks : List Str) (sp : Sp) : Prop where
  ex : ∃ (f : Addr) (fd : FuncData) (ps : List Str) (g : List Value → List Value → List Value), FnOk P w K mg base CX k f fd ps sp ∧ Mk K C f ∧ mg x = some (.ref C) ∧ KBn K fd ps (n + 1) ks g (fun us ws => us ++ ws)
end
section
variable {X : Cx} {CX : CXT} {k j n : Nat} {C : Addr} {sp : Sp} {E : XK} {x : Str} {ks : List Str} {p pos : Pos} {e : Expr} {es : List Expr} {kws : List Keyword} {t tk : TA}
theorem pe_mkKwR (c : MakKR X.prog X.w X.K X.mg X.base CX k x C n ks sp) (hr : Room j X.A) (hk : k + 1 ≤ j) (hx : Passes CX X E) (hg : Gl X x) (ha : PA X (e :: es) t) (hkw : PK X kws tk)
    (hall : (backToKw pos (keywordEach kws X.env)).all (·.1.isSome) = true := by rfl) (hks : (backToKw pos (keywordEach kws X.env)).filterMap (·.1) = ks := by rfl) (hdb : (x == ("__debug__" : Str)) = false := by decide)
    (he : starEach (e :: es) X.env = (false, eval e X.env) :: starEach es X.env := by rfl) (hpl : ((backTo pos (starEach (e :: es) X.env)).any (·.1) || (backToKw pos (keywordEach kws X.env)).any (·.1.isNone)) = false := by rfl) :
    PE X (.Call (.Name x p) (e :: es) kws pos) (tMakKw C n ks.length sp E t tk) := by
  obtain ⟨f, fd, ps, g, F, M, hm, hb⟩ := c.ex
  exact pe_makeK M F (hr.mono hk) hg hm hb hx ha hkw hall hks hdb he hpl
end
/-! ### properties -/
def pAd (K : PySem.W.Frag) (x f : Str) : Addr := He.ma K (He.ga K x) f
def gAd (K : PySem.W.Frag) (x f : Str) : Addr := match PySem.W.recIn K (pAd K x f) "property" with
  | some (.ref g :: _) => g
  | _ => 0
structure PrpD where
  cls : Str
  name : Str
  qual : Str
  params : Arguments
  body : List Stmt
  scope : Scope
def PrpD.val (d : PrpD) : He.FnW := some (d.name, d.qual, d.params, .stmts d.body, d.scope, mainGlobals, [], builtinsNs)
def fnA (K : PySem.W.Frag) (a : Addr) : He.FnW := match K.lookup a with
  | some ⟨_, _, .func fd, _⟩ => some (fd.name, fd.qualname, fd.params, fd.body, fd.scope, fd.globals, fd.closure, fd.builtins)
  | _ => none
def isRec (K : PySem.W.Frag) (p : Addr) : Bool := match PySem.W.recIn K p "property" with
  | some (.ref _ :: _) => true
  | _ => false
def codeB (K : PySem.W.Frag) (a : Addr) (q : Str) : Bool := match K.lookup a with
  | some ⟨_, _, .func fd, _⟩ => PySem.W.codeIn K fd.code q && He.dflB K fd.defaults []
  | _ => false
def PrpD.ok (K : PySem.W.Frag) (d : PrpD) : Bool := He.eqO (PySem.W.findIn K (.ref (He.ga K d.cls)) d.name) (some (some (.ref (pAd K d.cls d.name)))) && (He.eqO (PySem.W.specialIn K (.ref (pAd K d.cls d.name)) "__get__") (some (some (.builtin "property.__get__"))) &&
  (decide (PySem.W.takesIn K (.ref (pAd K d.cls d.name)) = some true) && (isRec K (pAd K d.cls d.name) && (PySem.W.keepIn K (.ref (gAd K d.cls d.name)) && codeB K (gAd K d.cls d.name) d.qual))))
def SaysP (ps : List PrpD) (K : PySem.W.Frag) : Prop := (ps.all fun d => d.ok K) = true ∧ ps.map (fun d => fnA K (gAd K d.cls d.name)) = ps.map PrpD.val
theorem SaysP.get {ps : List PrpD} {K : PySem.W.Frag} (c : SaysP ps K) (i : Nat) {d : PrpD} (h : ps[i]? = some d := by rfl) :
    PropOf K (He.ga K d.cls) d.name (pAd K d.cls d.name) (gAd K d.cls d.name) ∧ ∃ fd, FunD K d.name d.qual d.params d.body d.scope [] [] (gAd K d.cls d.name) fd := by
  have c1 : d.ok K = true := List.all_eq_true.mp c.1 d (List.mem_of_getElem? h)
  have c2 : fnA K (gAd K d.cls d.name) = d.val := by
    have e := congrArg (fun l => l[i]?) c.2
    simp only [List.getElem?_map, h, Option.map_some] at e
    exact Option.some.inj e
  unfold PrpD.ok at c1
  obtain ⟨h1, c1⟩ := He.ba c1
  obtain ⟨h2, c1⟩ := He.ba c1
  obtain ⟨h3, c1⟩ := He.ba c1
  obtain ⟨h4, c1⟩ := He.ba c1
  obtain ⟨h5, h6⟩ := He.ba c1
  refine ⟨⟨He.eqO_ok h1, He.eqO_ok h2, of_decide_eq_true h3, ?_⟩, ?_⟩
  · unfold isRec at h4
    unfold gAd
    split at h4
    · rename_i g rest hq
      rw [hq]
      exact ⟨rest, rfl⟩
    · cases h4
  · unfold fnA at c2
    unfold codeB at h6
    cases q : K.lookup (gAd K d.cls d.name) with
    | none =>
      rw [q] at h6
      cases h6
    | some o =>
      obtain ⟨oc, od, dt, osl⟩ := o
      rw [q] at h6 c2
      cases dt with
      | func fd =>
        obtain ⟨n1, n2, n3, n4, n5, n6, n7, n8, n9, n10, n11, n12, n13, n14, n15⟩ := fd
        have e2 : (some (n1, n2, n3, n4, n5, n6, n7, n15) : He.FnW) = some (d.name, d.qual, d.params, .stmts d.body, d.scope, mainGlobals, [], builtinsNs) := c2
        simp only [Option.some.injEq, Prod.mk.injEq] at e2
        obtain ⟨k1, k2, k3, k4, k5, k6, k7, k8⟩ := e2
        subst k1 k2 k3 k4 k5 k6 k7 k8
        obtain ⟨k1, k2⟩ := He.ba (show (PySem.W.codeIn K n13 d.qual && He.dflB K n8 []) = true from h6)
        exact ⟨_, ⟨oc, od, n8, n9, n10, n11, n12, n13, n14, osl, rfl, q, k1, He.dflB_ok k2, .inl rfl⟩, h5⟩
      | _ => cases h6
/-! ### constants of a class -/
structure CVC (K : PySem.W.Frag) (C : Addr) (f : Str) (v : V) : Prop where
  ex : ∃ mc u, ClX.CRead K C mc ∧ ClX.CVal K C mc f v u
theorem pe_cvC {X : Cx} {e : Expr} {C : Addr} {f : Str} {v : V} {pos : Pos} (he : PE X e (tC (.ref C))) (c : CVC X.K C f v) (hb : attributeBase e f X.env (eval e X.env) = eval e X.env := by rfl) : PE X (.Attribute e f pos) (tC v) := by
  obtain ⟨mc, u, r, k⟩ := c.ex
  exact ⟨fun pins s σ H Q I q => (ClX.pe_cval he hb).run pins s σ H Q I ⟨C, mc, v, u, rfl, r, k, q⟩⟩
def cvB (K : PySem.W.Frag) (x f : Str) (v : V) : Bool := PySem.W.readsIn K (He.ga K x) (.type "type") && (He.eqO (PySem.W.specialIn K (.ref (He.ga K x)) "__getattribute__") (some (some (.builtin "type.__getattribute__"))) && (match PySem.W.findCls K (.ref (He.ga K x)) (.type "type") f with
  | some (.val u) => He.relB v u
  | _ => false))
theorem cvB_ok {K : PySem.W.Frag} {x f : Str} {v : V} (h : cvB K x f v = true) : CVC K (He.ga K x) f v := by
  obtain ⟨h1, h⟩ := He.ba h
  obtain ⟨h2, h⟩ := He.ba h
  split at h
  · rename_i u hu
    exact ⟨_, u, ⟨h1, He.eqO_ok h2⟩, hu, He.relB_ok h⟩
  · cases h
theorem hu65_of {k : Nat} {A : Around} (hr : Room k A) : A.units + 65 < cLine := by have := hr.un; omega
end Wm
end

section
namespace PySem
namespace WmX
open PySem.W PySem.Calls PyProof.Rows PySem.HandSPX
section
variable {M : Model} {A : Around} {E : Value → Shared → Prop} {h : Heap} {g : Array GenState} {d : Drawn} {t : Nat} {os : OsState}
variable {nm q x : Str} {v : Value} {C N : Addr} {bs bm bmB : List Value} {hdct : Bool} {sn : List Str} {sub : List Value} {ab : Bool} {col : Option Bool} {dd : Option Addr} {k0 k1 k2 k3 k5 : Option Value} {B newId initId : String}
end
section
variable {prog : Program} {w : World} {A : Around} {E : Value → Shared → Prop} {R : Result → Shared → Prop} {h : Heap} {g : Array GenState} {d : Drawn} {t : Nat} {os : OsState}
variable {nm q x : Str} {v : Value} {C N : Addr} {bs bm bmB : List Value} {hdct : Bool} {sn : List Str} {sub : List Value} {ab : Bool} {col : Option Bool} {dd : Option Addr} {k0 k1 k2 k3 k5 : Option Value} {B newId initId : String}
end
end WmX
end PySem
/-! ## Errors with one keyword: C(x=e) -/
namespace Wm
open PySem PySem.Spec PyProof.Rows L2 StX
/-- C(x=e), C's own __init__ keeping sp -/
def tMkX (C : Addr) (sp : Sp) (te : TE) : L2.St → Hp → XK → Prop := fun σ H Q => te σ H fun y H1 => ∀ a, H1 a = none → sp [.ref a, y] (upd H1 a (exo a C none))
  (fun v H2 => v = .non ∧ ∃ (d : Addr) (fs : List (Str × V)), H2 a = some (exo a C (some d)) ∧ H2 d = some (exd d fs) ∧ H1 d = none ∧ Q (.ref C) (some d) (upd (del H2 a) d (.xd fs))) (fun _ _ _ => False)
section
variable {X : Cx} {e : Expr} {te : TE}
end
end Wm
end

section
/-! ## Caught errors asked for their class, with fields or without; bools counted -/
namespace Wm
open PySem PySem.Spec PyProof.Rows L2 StX
/-- isinstance(e, c): e the caught error, cls its class, d its fields -/
def rIsX (K : PySem.W.Frag) (a : Addr) (cls : Value) (d : Option Addr) : List V → Hp → VK → Prop := fun xs H Q => ∃ (D : Addr) (c : V) (cv : Value) (b : Bool), cls = .ref D ∧ ExcC K D ∧ xs = [.ref a, c] ∧ (∀ u, RelV c u → u = cv) ∧ PySem.W.kitOne K (.ref D) cv = some b ∧
  (d = none ∨ ∃ dd fs, d = some dd ∧ H dd = some (.xd fs)) ∧ Q (.bl b) H
theorem call_isX {X : Cx} {a : Addr} {oe : Obj} {cls : Value} {d : Option Addr} {pn : List (Addr × Obj)} (hz : Zc cls d oe) (hf : ∃ vs, oe.data = .fields vs) : CallR (X.suite a ((a, oe) :: pn)) (.builtin "isinstance") (rIsX X.K a cls d) := by
  intro pins s σ H xs us Q I r h
  obtain ⟨D, c, cv, b, rfl, C, rfl, hcv, e, hd, q⟩ := h
  cases r with
  | cons rx rr =>
    cases rr with
    | cons rt rr =>
      cases rr
      cases rx
      have ec := hcv _ rt
      subst ec
      obtain ⟨hget, _⟩ := I.pin (a, oe) (List.mem_append.mpr (.inl List.mem_cons_self))
      obtain ⟨vs, hv⟩ := hf
      have J : ∃ od, PySem.W.InstAt s.heap a oe D od := by
        rcases hd with rfl | ⟨dd, fs, rfl, hdd⟩
        · refine ⟨none, hget, hz.1, by unfold PySem.W.notCls; rw [hv] <;> rfl, by rw [hz.2]; trivial⟩
        · have hx : ObjOk X.prog X.w H s.heap dd (.xd fs) := I.hok dd _ hdd
          obtain ⟨mA, hns, hr⟩ := hx
          obtain ⟨od, ho, hl⟩ := lookIn_ns hns
          exact ⟨some od, hget, hz.1, by unfold PySem.W.notCls; rw [hv] <;> rfl, by rw [hz.2]; exact ho⟩
      obtain ⟨od, J⟩ := J
      have hcl : (PySem.W.clsIn X.K D).isSome = true := by
        obtain ⟨cd, hc, _⟩ := PySem.W.any_some C.hd
        rw [hc] <;> rfl
      exact PySem.W.kia_one (PySem.W.kitx_exc hcl C.hg C.hk C.hs C.ha C.hn C.ht C.hm) I.kIn J e (fun z => nomatch z) fun tk => ⟨.bl b, H, I.kept (t' := tk) fun _ _ z => z, rfl, q⟩
/-- xs.count(b), xs a list of bools -/
def rCntB (K : PySem.W.Frag) : V → List V → Hp → VK → Prop := fun x xs H Q => ∃ (p : Addr) (bs : List Bool) (b : Bool), x = .ref p ∧ xs = [.bl b] ∧ SqL K H p (bs.map V.bl) ∧ Q (.int (bs.count b : Nat)) H
theorem cnt_bools (bs : List Bool) (b : Bool) : (bs.map PyData.bool).countP (fun y => PyData.eqv y (.bool b)) = bs.count b := by
  rw [List.countP_map, List.count]
  congr 1
section
variable {X : Cx}
theorem mt_cntB (hu : X.A.units + 65 < cLine) : MtR X "list.count" (rCntB X.K) := by
  intro pins s σ H x xs v us Q I rx rxs h
  obtain ⟨p, bs, b, rfl, rfl, hs, q⟩ := h
  cases rx
  obtain ⟨u, rfl, ru⟩ := rxs.one
  obtain ⟨its, rv, hl, hlen⟩ := I.list hs
  obtain rfl : u = .bool b := ru
  obtain ⟨⟨cls, dd, data, sls⟩, n, ho, hc, hdn, hdt⟩ := hl
  simp only at hc hdt
  subst hc hdt
  have rs : ∀ (l : List Bool) (is : List Value), Vals (l.map V.bl) is → ReadsAll s.heap is (l.map PyData.bool) [] ∧ is = l.map Value.bool := by
    intro l
    induction l with
    | nil => intro is h; cases h; exact ⟨.nil, rfl⟩
    | cons c l ih =>
      intro is h
      cases h with
      | cons r1 r2 =>
        obtain rfl : _ = Value.bool c := r1
        exact ⟨.cons (.bool c) (ih _ r2).1, by rw [(ih _ r2).2]; rfl⟩
  have lay : ∀ l : List Bool, PyData.canLayAll0 (l.map PyData.bool) = true := by
    intro l
    induction l with
    | nil => rfl
    | cons c l ih => simp [PyData.canLayAll0, PyData.canLay0, ih]
  have hroom : X.A.units + 1 + min (PyData.depthAll (bs.map PyData.bool)) (PyData.bool b).depth < cLine := by
    have : (PyData.bool b).depth = 0 := by simp [PyData.depth]
    omega
  obtain ⟨h4, h5⟩ := rs bs its rv
  refine call_meets PySem.F.slot_list_count ⟨_, ho, rfl⟩ PySem.F.entry_list_count (PySem.F.args_list_count_2 _ _)
    (SeqAt.list_countAt p its.toArray n dd sls (.bool b) (fun u => PyData.eqv (SeqAt.readOf s.heap u) (.bool b))) ⟨ho, SeqAt.items_eqAt (vs := its.toArray) (show ReadsAll s.heap its.toArray.toList (bs.map PyData.bool) [] from h4) (.bool b) (lay bs) (by simp [PyData.canLay0]) hroom, ?_⟩
  have ec : its.toArray.toList.countP (fun u => PyData.eqv (SeqAt.readOf s.heap u) (.bool b)) = bs.count b := by
    show its.countP _ = _
    rw [← cnt_bools, ← SeqAt.readsAll_map _ its _ (lay bs) h4, List.countP_map]
    rfl
  refine ⟨.int (bs.count b : Nat), H, I.tok _, ⟨s.toks, ?_⟩, q⟩
  show Value.int ((its.toArray.toList.countP _ : Nat) : Int) s.toks = Value.int ((bs.count b : Nat) : Int) s.toks
  rw [ec]
end
end Wm
end

section
/-! ## Joining: defs that may raise -/
namespace Wm
open PySem PySem.Spec PyProof.Rows L2 StX
section
variable {P : Program} {w : World} {K : PySem.W.Frag} {mg : Str → Option Value} {base : Heap}
/-- what an exception of a callee may be taken as, in a def of its own wish E -/
theorem pass_tk {X : Cx} {E : XK} (tk : Takes X (fun cls d _ H => E cls d H)) : Passes (L2.CX X.prog X.w) X E := passes_call tk fun _ _ _ _ h => h
end
/-! ### raise X("..") and raise X(k = e) -/
def tRz (t : L2.St → Hp → XK → Prop) (E : XK) : TS := fun _ σ H => t σ H E
/-- C(y = e) of an own error class with an own __init__ -/
structure RzK (P : Program) (w : World) (K : PySem.W.Frag) (mg : Str → Option Value) (base : Heap) (CX : CXT) (k : Nat) (x : Str) (C : Addr) (y : Str) (sp : Sp) : Prop where
  ex : ∃ (f : Addr) (fd : FuncData) (ps : List Str), FnOk P w K mg base CX k f fd ps sp ∧ OexC K C ∧ PySem.W.findIn K (.ref C) "__init__" = some (some (.ref f)) ∧ PySem.W.typeIn K (.ref f) = some (.type "function") ∧ mg x = some (.ref C) ∧
    ∀ (s : Shared) (u v : Value), BindsTo s fd ⟨[u], [(y, v)]⟩ (ps.zip [u, v])
/-- C(".."), C an own error class without own __init__ -/
structure RzS (K : PySem.W.Frag) (mg : Str → Option Value) (x : Str) (C : Addr) : Prop where
  ex : PySem.W.excIn K C [.type "ValueError", .type "Exception", .type "BaseException", .type "object"] "ValueError.__new__" = true
  kC : PySem.W.keepIn K (.ref C) = true
  sC : PySem.W.subIn K (.ref C) (.type "BaseException") = some true
  tC : PySem.W.typeIn K (.ref C) = some (.type "type")
  hm : mg x = some (.ref C)
section
variable {X : Cx} {CX : CXT} {k j : Nat} {C : Addr} {sp : Sp} {E : XK} {x y : Str} {p pos pos' : Pos} {kws : List Keyword} {e : Expr} {te : TE}
end
/-! ### what a class of errors says, by one check -/
def oexL (K : PySem.W.Frag) (C : Addr) : Bool := match K.lookup C with
  | some ⟨.type "type", _, .cls ⟨_, _, .ref C' :: bm, _, _, hd, _, _, _, _, del⟩, sl⟩ => (match sl.toList with
    | [_, _, _, _, some (.builtin n), _] => C' == C && n == "ValueError.__new__" && !del && hd && PySem.HandSPX.refsVE bm
    | _ => false)
  | _ => false
def oexB (K : PySem.W.Frag) (C : Addr) : Bool := oexL K C && (decide (PySem.W.findIn K (.ref C) "__setattr__" = some (some (.builtin "object.__setattr__"))) && (decide (PySem.W.subIn K (.ref C) (.type "BaseException") = some true) &&
  (decide (PySem.W.typeIn K (.ref C) = some (.type "type")) && PySem.W.keepIn K (.ref C))))
theorem oexB_ok {K : PySem.W.Frag} {C : Addr} (h : oexB K C = true) : OexC K C := by
  obtain ⟨h1, h⟩ := Bool.and_eq_true_iff.mp h
  obtain ⟨h2, h⟩ := Bool.and_eq_true_iff.mp h
  obtain ⟨h3, h⟩ := Bool.and_eq_true_iff.mp h
  obtain ⟨h4, h5⟩ := Bool.and_eq_true_iff.mp h
  refine ⟨?_, of_decide_eq_true h2, of_decide_eq_true h3, of_decide_eq_true h4, h5⟩
  unfold oexL at h1
  split at h1
  · rename_i dd nm bs C' bm ns qn hd sn sub ab col del sl ho
    split at h1
    · rename_i k0 k1 k2 k3 n k5 hs
      simp only [Bool.and_eq_true, beq_iff_eq, Bool.not_eq_true'] at h1
      obtain ⟨⟨⟨⟨rfl, rfl⟩, rfl⟩, rfl⟩, hb⟩ := h1
      have hsl : sl = #[k0, k1, k2, k3, some (.builtin "ValueError.__new__"), k5] := by
        obtain ⟨l⟩ := sl
        simp only at hs
        rw [hs]
      subst hsl
      exact ⟨nm, qn, ns, bs, bm, sn, sub, ab, col, dd, k0, k1, k2, k3, k5, ho, hb⟩
    · cases h1
  · cases h1
def excB (K : PySem.W.Frag) (D : Addr) : Bool := decide (PySem.W.findIn K (.ref D) "__getattribute__" = some (some (.builtin "BaseException.__getattribute__"))) && (decide (PySem.W.findIn K (.ref D) "__getattr__" = some none) &&
  (decide (PySem.W.subIn K (.ref D) (.type "BaseException") = some true) && (PySem.W.hasDictIn K D && (decide (PySem.W.findIn K (.ref D) "__class__" = some (some (.builtin "object.__class__"))) &&
  (decide (PySem.W.specialIn K (.builtin "object.__class__") "__get__" = some (some (.builtin "getset_descriptor.__get__"))) && (decide (PySem.W.takesIn K (.builtin "object.__class__") = some true) && decide (PySem.W.mroIn K D (.type "object") = some true)))))))
theorem excB_ok {K : PySem.W.Frag} {D : Addr} (h : excB K D = true) : ExcC K D := by
  obtain ⟨h1, h⟩ := Bool.and_eq_true_iff.mp h
  obtain ⟨h2, h⟩ := Bool.and_eq_true_iff.mp h
  obtain ⟨h3, h⟩ := Bool.and_eq_true_iff.mp h
  obtain ⟨h4, h⟩ := Bool.and_eq_true_iff.mp h
  obtain ⟨h5, h⟩ := Bool.and_eq_true_iff.mp h
  obtain ⟨h6, h⟩ := Bool.and_eq_true_iff.mp h
  obtain ⟨h7, h8⟩ := Bool.and_eq_true_iff.mp h
  exact ⟨of_decide_eq_true h1, of_decide_eq_true h2, of_decide_eq_true h3, h4, of_decide_eq_true h5, of_decide_eq_true h6, of_decide_eq_true h7, of_decide_eq_true h8⟩
/-- C(k = e): C's own __init__ is the def at fAd -/
def rzkB (K : PySem.W.Frag) (x : Str) : Bool := oexB K (He.ga K x) && (decide (PySem.W.findIn K (.ref (He.ga K x)) "__init__" = some (some (.ref (He.fAd K (x, some "__init__"))))) && decide (PySem.W.typeIn K (.ref (He.fAd K (x, some "__init__"))) = some (.type "function")))
/-- C("..") of a class without own __init__ -/
def rzsB (K : PySem.W.Frag) (x : Str) : Bool := PySem.W.excIn K (He.ga K x) [.type "ValueError", .type "Exception", .type "BaseException", .type "object"] "ValueError.__new__" && (PySem.W.keepIn K (.ref (He.ga K x)) &&
  (decide (PySem.W.subIn K (.ref (He.ga K x)) (.type "BaseException") = some true) && decide (PySem.W.typeIn K (.ref (He.ga K x)) = some (.type "type"))))
theorem rzsB_ok {K : PySem.W.Frag} {mg : Str → Option Value} {x : Str} (h : rzsB K x = true) (hm : mg x = some (.ref (He.ga K x))) : RzS K mg x (He.ga K x) := by
  obtain ⟨h1, h⟩ := Bool.and_eq_true_iff.mp h
  obtain ⟨h2, h⟩ := Bool.and_eq_true_iff.mp h
  obtain ⟨h3, h4⟩ := Bool.and_eq_true_iff.mp h
  exact ⟨h1, h2, of_decide_eq_true h3, of_decide_eq_true h4, hm⟩
/-- x.__init__(self, ..) -/
structure OwnIni (K : PySem.W.Frag) (mg : Str → Option Value) (x : Str) (C : Addr) : Prop where
  hm : mg x = some (.ref C)
  hr : PySem.W.readsIn K C (.type "type") = true
  hs : PySem.W.specialIn K (.ref C) "__getattribute__" = some (some (.builtin "type.__getattribute__"))
  vV : PySem.W.findCls K (.ref C) (.type "type") "__init__" = some (.val (.builtin "ValueError.__init__"))
def oiB (K : PySem.W.Frag) (x : Str) : Bool := PySem.W.readsIn K (He.ga K x) (.type "type") && (decide (PySem.W.specialIn K (.ref (He.ga K x)) "__getattribute__" = some (some (.builtin "type.__getattribute__"))) &&
  (match PySem.W.findCls K (.ref (He.ga K x)) (.type "type") "__init__" with | some (.val (.builtin n)) => n == "ValueError.__init__" | _ => false))
end Wm
end

section
local macro_rules | `(tactic| walk_at "cls") => `(tactic| first | (with_reducible exact Wm.WeatherC.cl (by assumption)) | (with_reducible exact Wm.HeaterC.cl (by assumption)) | (with_reducible exact Wm.RoomC.cl (by assumption)) | (with_reducible exact Wm.RunC.cl (by assumption)) | (with_reducible exact Wm.HistoryC.cl (by assumption)) | (with_reducible exact Wm.ThresholdObserverC.cl (by assumption)) | (with_reducible exact Wm.SettingC.cl (by assumption)) | (with_reducible exact Wm.HourSettingC.cl (by assumption)) | (with_reducible exact Wm.RestSettingC.cl (by assumption)) | (with_reducible exact Wm.PricesC.cl (by assumption)) | (with_reducible exact Wm.MomentC.cl (by assumption)) | (with_reducible exact Wm.LiveRoomC.cl (by assumption)) | (with_reducible exact Wm.AttemptC.cl (by assumption)))
local macro_rules | `(tactic| walk_at "noattr") => `(tactic| first | (with_reducible exact Wm.WeatherC.n_pattern (by assumption)) | (with_reducible exact Wm.HeaterC.n_power (by assumption)) | (with_reducible exact Wm.HeaterC.n_below (by assumption)) | (with_reducible exact Wm.HeaterC.n_above (by assumption)) | (with_reducible exact Wm.RoomC.n_outside (by assumption)) | (with_reducible exact Wm.RoomC.n_inside (by assumption)) | (with_reducible exact Wm.RoomC.n_begin_degrees (by assumption)) | (with_reducible exact Wm.RoomC.n_past (by assumption)) | (with_reducible exact Wm.RoomC.n_repeated (by assumption)) | (with_reducible exact Wm.RoomC.n_share (by assumption)) | (with_reducible exact Wm.RoomC.n_coldest (by assumption)) | (with_reducible exact Wm.RoomC.n_warmest (by assumption)) | (with_reducible exact Wm.RunC.n_begin (by assumption)) | (with_reducible exact Wm.RunC.n_end (by assumption)) | (with_reducible exact Wm.RunC.n_degrees (by assumption)) | (with_reducible exact Wm.RunC.n_is_heating (by assumption)) | (with_reducible exact Wm.RunC.n_sums (by assumption)) | (with_reducible exact Wm.RunC.n_size (by assumption)) | (with_reducible exact Wm.RunC.n_drift (by assumption)) | (with_reducible exact Wm.HistoryC.n_shifts (by assumption)) | (with_reducible exact Wm.HistoryC.n_added (by assumption)) | (with_reducible exact Wm.HistoryC.n_floor (by assumption)) | (with_reducible exact Wm.HistoryC.n_ceiling (by assumption)) | (with_reducible exact Wm.HistoryC.n_was_heating (by assumption)) | (with_reducible exact Wm.HistoryC.n_runs (by assumption)) | (with_reducible exact Wm.HistoryC.n_loop (by assumption)) | (with_reducible exact Wm.ThresholdObserverC.n_outside (by assumption)) | (with_reducible exact Wm.ThresholdObserverC.n_power (by assumption)) | (with_reducible exact Wm.ThresholdObserverC.n_tick (by assumption)) | (with_reducible exact Wm.ThresholdObserverC.n_degrees (by assumption)) | (with_reducible exact Wm.ThresholdObserverC.n_is_heating (by assumption)) | (with_reducible exact Wm.ThresholdObserverC.n_lows (by assumption)) | (with_reducible exact Wm.ThresholdObserverC.n_highs (by assumption)) | (with_reducible exact Wm.ThresholdObserverC.n_noted (by assumption)) | (with_reducible exact Wm.SettingC.n_least (by assumption)) | (with_reducible exact Wm.SettingC.n_most (by assumption)) | (with_reducible exact Wm.HourSettingC.n_least (by assumption)) | (with_reducible exact Wm.HourSettingC.n_most (by assumption)) | (with_reducible exact Wm.HourSettingC.n_length (by assumption)) | (with_reducible exact Wm.HourSettingC.n_hours (by assumption)) | (with_reducible exact Wm.RestSettingC.n_least (by assumption)) | (with_reducible exact Wm.RestSettingC.n_most (by assumption)) | (with_reducible exact Wm.RestSettingC.n_rest (by assumption)) | (with_reducible exact Wm.PricesC.n_table (by assumption)) | (with_reducible exact Wm.MomentC.n_tick (by assumption)) | (with_reducible exact Wm.MomentC.n_heat (by assumption)) | (with_reducible exact Wm.MomentC.n_on (by assumption)) | (with_reducible exact Wm.MomentC.n_burnt (by assumption)) | (with_reducible exact Wm.MomentC.n_sky (by assumption)) | (with_reducible exact Wm.MomentC.n_stove (by assumption)) | (with_reducible exact Wm.LiveRoomC.n_moment (by assumption)) | (with_reducible exact Wm.LiveRoomC.n_earlier (by assumption)) | (with_reducible exact Wm.LiveRoomC.n_done (by assumption)) | (with_reducible exact Wm.AttemptC.n_live (by assumption)) | (with_reducible exact Wm.AttemptC.n_kept (by assumption)) | (with_reducible exact Wm.AttemptC.n_stack (by assumption)) | (with_reducible exact Wm.AttemptC.n_steps (by assumption)))
local macro_rules | `(tactic| walk_at "at") => `(tactic| first | assumption | exact Wm.Hold.rd (by assumption) (by assumption) | exact Wm.Hold.get (i := 0) (by assumption) rfl | exact Wm.Hold.get (i := 1) (by assumption) rfl | exact Wm.Hold.get (i := 2) (by assumption) rfl | exact Wm.Hold.get (i := 3) (by assumption) rfl | exact Wm.Hold.get (i := 4) (by assumption) rfl)
local macro_rules | `(tactic| walk_at "s1") => `(tactic| first
  | (with_reducible refine Wm.r_seq ?_)
  | (with_reducible refine Wm.r_op ?_)
  | ((with_reducible refine' Wm.r_var ?h ?_); (case h => rfl))
  | (with_reducible refine Wm.r_c ?_)
  | (with_reducible refine Wm.r_I0 ?_)
  | (with_reducible refine Wm.r_cons ?_)
  | (with_reducible refine Wm.r_nil ?_)
  | (with_reducible refine Wm.r_asg ?_)
  | (with_reducible refine Wm.r_gname ?_; try simp only [List.set_cons_zero, List.set_cons_succ])
  | (with_reducible refine Wm.r_nx ?_)
  | (with_reducible refine Wm.r_rt ?_)
  | (with_reducible refine Wm.r_ret ?_)
  | (with_reducible refine Wm.r_test ?_)
  | (with_reducible refine Wm.r_bl ?_)
  | (with_reducible refine Wm.r_B ?_)
  | (with_reducible refine Wm.r_eqI ?_)
  | (with_reducible refine Wm.r_neI ?_)
  | (with_reducible refine Wm.r_eqB ?_)
  | (with_reducible refine Wm.r_neB ?_)
  | (with_reducible refine Wm.r_fld ?_)
  | (with_reducible refine Wm.r_call ?_)
  | (with_reducible refine Wm.r_mtd ?_)
  | (with_reducible refine Wm.r_prp ?_)
  | (with_reducible refine Wm.r_mak ?_)
  | (with_reducible refine Wm.r_makKw ?_)
  | (with_reducible refine Wm.r_cb ?_)
  | (with_reducible refine Wm.r_tup ?_)
  | (with_reducible refine Wm.r_lst ?_)
  | (with_reducible refine Wm.r_chain ?_)
  | (with_reducible refine Wm.r_and ?_)
  | (with_reducible refine Wm.r_or ?_)
  | (with_reducible refine Wm.r_not ?_)
  | (with_reducible refine Wm.r_andV ?_)
  | (with_reducible refine Wm.r_orV ?_)
  | (with_reducible refine Wm.r_notV ?_)
  | (with_reducible refine Wm.r_if ?_)
  | (with_reducible refine Wm.r_un ?_)
  | (with_reducible refine Wm.r_U ?_)
  | (with_reducible refine Wm.r_iteT ?_)
  | (with_reducible refine Wm.r_iteF ?_)
  | (with_reducible refine Wm.r_next ?_)
  | (with_reducible refine Wm.r_drop ?_)
  | (with_reducible refine Wm.r_retN ?_)
  | ((with_reducible refine' Wm.r_aug ?h ?_); (case h => rfl))
  | (with_reducible refine Wm.r_ipI ?_)
  | (with_reducible refine Wm.r_par2 ?_)
  | (with_reducible refine Wm.r_two ?_; try simp only [List.set_cons_zero, List.set_cons_succ])
  | (with_reducible refine Wm.r_yes ?_)
  | (with_reducible refine Wm.r_forET ?_)
  | (with_reducible refine Wm.r_chain3 ?_)
  | (with_reducible refine Wm.r_nT ?_)
  | (with_reducible refine Wm.r_nF ?_)
  | (with_reducible refine Wm.r_par3 ?_)
  | (with_reducible refine Wm.r_seenPut ?_)
  | (with_reducible refine Wm.r_seenGet ?_)
  | (with_reducible refine Wm.r_three ?_; try simp only [List.set_cons_zero, List.set_cons_succ])
  | (with_reducible refine Wm.r_sl ?_)
  | (with_reducible refine Wm.r_nopart ?_)
  | (with_reducible refine Wm.r_part ?_)
  | (with_reducible refine Wm.r_xi ?_)
  | (with_reducible refine Wm.r_gcons ?_)
  | (with_reducible refine Wm.r_gnil ?_)
  | (with_reducible refine Wm.r_sub ?_)
  | (with_reducible refine Wm.r_setF ?_)
  | (with_reducible refine Wm.r_app ?_)
  | (with_reducible refine Wm.int_i ?_)
  | (with_reducible refine Wm.int_b ?_)
  | (with_reducible refine Wm.min2 ?_)
  | (with_reducible refine Wm.max2 ?_)
  | (with_reducible refine Wm.abs1 ?_)
  | (with_reducible refine Wm.isN ?_)
  | (with_reducible refine Wm.notN ?_)
  | ((with_reducible refine' Wm.r_ty ?e ?_); (case e => walk_at "at"))
  | ((with_reducible refine' Wm.setF_m ?h 0 ?e ?c ?a ?l ?_); (case h => assumption); (case e => rfl); (case c => walk_at "cls"); (case a => walk_at "noattr"); (case l => exact of_decide_eq_true rfl); intro H1 hh1; simp only [List.set_cons_zero, List.set_cons_succ] at hh1)
  | ((with_reducible refine' Wm.setF_m ?h 1 ?e ?c ?a ?l ?_); (case h => assumption); (case e => rfl); (case c => walk_at "cls"); (case a => walk_at "noattr"); (case l => exact of_decide_eq_true rfl); intro H1 hh1; simp only [List.set_cons_zero, List.set_cons_succ] at hh1)
  | ((with_reducible refine' Wm.setF_m ?h 2 ?e ?c ?a ?l ?_); (case h => assumption); (case e => rfl); (case c => walk_at "cls"); (case a => walk_at "noattr"); (case l => exact of_decide_eq_true rfl); intro H1 hh1; simp only [List.set_cons_zero, List.set_cons_succ] at hh1)
  | ((with_reducible refine' Wm.setF_m ?h 3 ?e ?c ?a ?l ?_); (case h => assumption); (case e => rfl); (case c => walk_at "cls"); (case a => walk_at "noattr"); (case l => exact of_decide_eq_true rfl); intro H1 hh1; simp only [List.set_cons_zero, List.set_cons_succ] at hh1)
  | (with_reducible refine Wm.r_forL ?_)
  | (with_reducible refine Wm.r_forT ?_)
  | (with_reducible refine Wm.r_forR1 ?_)
  | (with_reducible refine Wm.r_forR2 ?_)
  | (with_reducible refine Wm.r_forR3 ?_)
  | (with_reducible refine Wm.r_lcL ?_)
  | (with_reducible refine Wm.r_lcT ?_)
  | (with_reducible refine Wm.r_lcR1 ?_)
  | (with_reducible refine Wm.r_lcR2 ?_)
  | ((with_reducible refine' Wm.fld_h ?e ?c ?n ?l ?_); (case e => walk_at "at"); (case c => walk_at "cls"); (case n => walk_at "noattr"); (case l => rfl))
  | ((with_reducible refine' Wm.mtd_h ?e ?l ?_); (case e => walk_at "at"); (case l => rfl))
  | ((with_reducible refine' Wm.prp_h ?e ?_); (case e => walk_at "at"))
  | ((with_reducible refine' Wm.rix_ht ?a ?b ?_); (case a => walk_at "at"); (case b => rfl))
  | ((with_reducible refine' Wm.rix_h ?a ?b ?_); (case a => walk_at "at"); (case b => rfl))
  | ((with_reducible refine' Wm.len_ht ?a ?_); (case a => walk_at "at"))
  | ((with_reducible refine' Wm.len_h ?a ?_); (case a => walk_at "at"))
  | ((with_reducible refine' Wm.len_l ?a ?b ?_); (case a => assumption); (case b => assumption))
  | ((with_reducible refine' Wm.len_t ?a ?b ?_); (case a => assumption); (case b => assumption))
  | ((with_reducible refine' Wm.gtup_h ?a ?b ?_); (case a => walk_at "at"); (case b => rfl))
  | (with_reducible refine Wm.r_I (Wm.cmulR (by decide)) ?_)
  | (with_reducible refine Wm.r_I (Wm.cmulL (by decide)) ?_)
  | (with_reducible refine Wm.r_I (Wm.cdiv (by decide) (by decide)) ?_)
  | (with_reducible refine Wm.r_I Wm.cpow18 ?_)
  | (with_reducible refine Wm.r_I Wm.cpow12 ?_)
  | (with_reducible refine Wm.r_I (by show (0 : Int) < _; decide) ?_))
local macro_rules | `(tactic| walk_at "s") => `(tactic| repeat (first | walk_at "s1" | (with_reducible refine Wm.r_ifS ?_)))
local macro_rules | `(tactic| walk_at "t") => `(tactic| repeat (walk_at "s1"))
local macro_rules | `(tactic| walk_at "sz") => `(tactic| exact of_decide_eq_true rfl)
local macro_rules | `(tactic| walk_at "d") => `(tactic| first | (with_reducible refine Wm.r_dT (by omega) ?_) | (with_reducible refine Wm.r_dF (by omega) ?_) | (with_reducible refine Wm.r_dN (by omega) ?_) | (with_reducible refine Wm.r_dM (by omega) ?_))
local macro_rules | `(tactic| walk_at "sd") => `(tactic| repeat (first | walk_at "s1" | (with_reducible refine Wm.r_ifS ?_) | walk_at "d"))
local macro_rules | `(tactic| walk_at "ex") => `(tactic| first
  | assumption
  | exact Wm.Ex.refl _
  | (refine Wm.Ex.trans ?_ (by assumption); walk_at "ex")
  | (refine Wm.Ex.trans ?_ (Wm.Hold.ex (by assumption)); walk_at "ex"))
local macro_rules | `(tactic| walk_at "room") => `(tactic| first
  | assumption
  | (refine' Wm.IsRoom.up ?e ?h; (case h => assumption); (case e => walk_at "ex")))
local macro_rules | `(tactic| walk_at "opt") => `(tactic| first
  | assumption
  | (refine' Wm.OptAt.up ?e ?h; (case h => assumption); (case e => walk_at "ex")))
local macro_rules | `(tactic| walk_at "lst") => `(tactic| first
  | assumption
  | (refine' Wm.Lst.at_ ?h ?e; (case h => assumption); (case e => walk_at "ex"))
  | exact Wm.Hold.get (i := 0) (by assumption) rfl | exact Wm.Hold.get (i := 1) (by assumption) rfl | exact Wm.Hold.get (i := 2) (by assumption) rfl | exact Wm.Hold.get (i := 3) (by assumption) rfl | exact Wm.Hold.get (i := 4) (by assumption) rfl)
local macro_rules | `(tactic| walk_at "tup") => `(tactic| first
  | assumption
  | (refine' Wm.Tup.at_ ?h ?e; (case h => assumption); (case e => walk_at "ex")))
local macro_rules | `(tactic| walk_at "p1") => `(tactic| first
  | (with_reducible refine Wm.r_p18 ?_) | (with_reducible refine Wm.r_p12 ?_) | (with_reducible refine Wm.r_p17 ?_) | (with_reducible refine Wm.r_p15 ?_) | (with_reducible refine Wm.r_p11 ?_) | (with_reducible refine Wm.r_p6 ?_) | (with_reducible refine Wm.r_p5 ?_) | (with_reducible refine Wm.r_p4 ?_) | (with_reducible refine Wm.r_p9 ?_) | (with_reducible refine Wm.r_p13 ?_) | (with_reducible refine Wm.r_p20 ?_) | (with_reducible refine Wm.r_p30 ?_) | (with_reducible refine Wm.r_p16 ?_))
local macro_rules | `(tactic| walk_at "w2") => `(tactic| first
  | ((with_reducible refine' Wm.r_wp ?h ?_); (case h => rfl))
  | ((with_reducible refine' Wm.ap_mtd ?ir ?hl ?_); (case ir => walk_at "room"); (case hl => intros; rfl))
  | ((with_reducible refine' Wm.ap_prp ?ir ?_); (case ir => walk_at "room"))
  | ((with_reducible refine' Wm.ap_temp ?hh ?ir ?t0 ?t1 ?_); (case hh => assumption); (case ir => walk_at "room"); (case t0 => omega); (case t1 => omega); intro H1 hh1)
  | ((with_reducible refine' Wm.ap_on ?hh ?ir ?t0 ?t1 ?_); (case hh => assumption); (case ir => walk_at "room"); (case t0 => omega); (case t1 => omega); intro H1 hh1)
  | ((with_reducible refine' Wm.ap_heats ?hh ?ir ?t0 ?t1 ?_); (case hh => assumption); (case ir => walk_at "room"); (case t0 => omega); (case t1 => omega); intro H1 hh1)
  | ((with_reducible refine' Wm.ap_sws ?hh ?ir ?t0 ?t1 ?_); (case hh => assumption); (case ir => walk_at "room"); (case t0 => omega); (case t1 => omega); intro H1 hh1)
  | ((with_reducible refine' Wm.rix_ht ?a ?b ?_); (case a => walk_at "tup"); (case b => rfl))
  | ((with_reducible refine' Wm.rix_h ?a ?b ?_); (case a => walk_at "lst"); (case b => rfl))
  | ((with_reducible refine' Wm.len_ht ?a ?_); (case a => walk_at "tup"))
  | ((with_reducible refine' Wm.len_h ?a ?_); (case a => walk_at "lst"))
  | ((with_reducible refine' Wm.gtup_h ?a ?b ?_); (case a => walk_at "tup"); (case b => rfl))
  | ((with_reducible refine' Wm.r_I (Wm.cmulL ?h) ?_); (case h => omega))
  | ((with_reducible refine' Wm.r_I (Wm.cmulR ?h) ?_); (case h => omega))
  | ((with_reducible refine' Wm.r_I (Wm.cdiv ?h ?h2) ?_); (case h => omega); (case h2 => omega))
  | ((with_reducible refine' Wm.r_mod ?h ?_); (case h => omega))
  | ((with_reducible refine' Wm.tup_N ?hP ?hh ?_); (case hP => walk_at "sz"); (case hh => assumption); intro p G1 H1 ex1 tp hh1))
local macro_rules | `(tactic| walk_at "w1") => `(tactic| first | walk_at "p1" | walk_at "s1" | walk_at "w2")
local macro_rules | `(tactic| walk_at "w") => `(tactic| repeat (first | walk_at "w1" | (with_reducible refine Wm.r_ifS ?_)))
local macro_rules | `(tactic| walk_at "wl") => `(tactic| ((with_reducible refine' Wm.lst_N ?hP ?hh ?_); (case hP => walk_at "sz"); (case hh => assumption); intro p G1 H1 ex1 tp hh1))
local macro_rules | `(tactic| walk_at "wd") => `(tactic| repeat (first | walk_at "w1" | (with_reducible refine Wm.r_ifS ?_) | walk_at "d" | walk_at "wl"))
local macro_rules | `(tactic| walk_at "v") => `(tactic| repeat (walk_at "w1"))
namespace Wm
open PySem PySem.Spec PyProof.Rows L2 StX
/-! ## Raising defs: errors with an index; Weather; _law_weather -/
/-- what an error class with one field must have -/
structure IdxC (K : PySem.W.Frag) (C : Addr) (f : Str) : Prop where
  oex : OexC K C
  noat : PySem.W.findIn K (.ref C) f = some none
def sp_idx (K : PySem.W.Frag) (C : Addr) (f : Str) : Sp := fun vs H Q _ => ∃ p v, vs = [.ref p, v] ∧ IdxC K C f ∧ H p = some (exo p C none) ∧ ∀ dx, H dx = none → dx ≠ p → Q .non (upd (upd H dx (exd dx [(f, v)])) p (exo p C (some dx)))
def sp_InvalidWeather_init (K : PySem.W.Frag) (A : Ads) : Sp := sp_idx K A.cInvalidWeather "index"
/-- what a def lets out: an error of the class C whose field f is v -/
def LetE (G : Hp) (mu : Mu) (C : Addr) (f : Str) (v : V) (E : XK) : Prop := ∀ d H', Hold G mu H' → H' d = some (.xd [(f, v)]) → E (.ref C) (some d) H'
section
variable {K : PySem.W.Frag} {A : Ads}
/-- the first fault of a weather's changes -/
def badAt (ch : List Int) (i : Nat) : Prop := i = 24 ∨ ∃ z, ch[i]? = some z ∧ ¬ (-100 ≤ z ∧ z ≤ 100)
/-- i is the first one -/
def FirstBad (ch : List Int) (i : Nat) : Prop := (ch = [] ∧ i = 0) ∨ (i < ch.length ∧ badAt ch i ∧ ∀ j < i, ¬ badAt ch j)
def sp_Weather_bodyX (K : PySem.W.Frag) (A : Ads) : Sp := fun vs H Q E => ∃ (p dx t : Addr) (ch : List Int) (G : Hp) (mu : Mu), vs = [.ref p, .ref t] ∧ WeatherC K A.cWeather ∧ IdxC K A.cInvalidWeather "index" ∧ ch.length ≤ 10000 ∧ Hold G ((p, .ins A.cWeather dx []) :: mu) H ∧ G t = some (.tup (ch.map V.int)) ∧
  (WOk ch → ∀ G' H', Ex G G' → IsWeather K A G' p t ch → Hold G' mu H' → Q .non H') ∧ (∀ i : Nat, FirstBad ch i → LetE G mu A.cInvalidWeather "index" (.int i) E)
def sp_Weather_initX (K : PySem.W.Frag) (A : Ads) : Sp := fun vs H Q E => ∃ ws rest, vs = ws ++ rest ∧ ws.length = ["self"].length ∧ rest.length ≤ sizeLine ∧ ∀ p, H p = Option.none → sp_Weather_bodyX K A (ws ++ [V.ref p]) (upd H p (.tup rest)) Q E
def sp_law_weatherX (K : PySem.W.Frag) (A : Ads) : Sp := fun vs H Q E => ∃ (t : Addr) (ch : List Int) (G : Hp) (mu : Mu), vs = [.ref t] ∧ WeatherC K A.cWeather ∧ IdxC K A.cInvalidWeather "index" ∧ Hold G mu H ∧ G t = some (.tup (ch.map V.int)) ∧ 0 < ch.length ∧ ch.length ≤ 6 ∧
  (WOk ch → ∀ w wt G' H', Ex G G' → IsWeather K A G' w wt ch → Hold G' mu H' → Q (.ref w) H') ∧ (∀ i : Nat, FirstBad ch i → LetE G mu A.cInvalidWeather "index" (.int i) E)
def t_InvalidWeather_init (K : PySem.W.Frag) (A : Ads) : TS := tSeq (tDrop (tVeI K (tCons (tVar 0) (tCons (tC (.str "invalid weather")) (tNil))))) (tOst K "index" (tVar 0) (tVar 1))
def t_Weather_initX (K : PySem.W.Frag) (A : Ads) (E : XK) : TS := tSeq (tIfS (tTest (tOp (rEqD K) (tVar 1) (tTup (tNil)))) (tRz (tMkX A.cInvalidWeather (sp_InvalidWeather_init K A) (tC (.int 0))) E) (tNext)) (tSeq (tFor (iEnumT K (tCons (tVar 1) (tNil))) (gTup K 2 (gCons (gName 2) (gCons (gName 3) (gNil)))) (tIfS (tOr (tTest (tOp rEq (tVar 2) (tC (.int 24)))) (tNot (tTest (tChain (rI0 fun i j => .bl (decide (i ≤ j))) (rI0 fun i j => .bl (decide (i ≤ j))) (tOp (rI0 fun i j => .int (i - j)) (tC (.int 0)) (tC (.int 100))) (tVar 3) (tC (.int 100)))))) (tRz (tMkX A.cInvalidWeather (sp_InvalidWeather_init K A) (tVar 2)) E) (tNext))) (sFld K (tVar 0) (tVar 1) "pattern"))
def t_law_weatherX (K : PySem.W.Frag) (A : Ads) (E : XK) : TS := tSeq (tAsg (tOp rCat (tCB (rListOf K) (tCons (tVar 0) (tNil))) (tOp rRep (tLst (tCons (tC (.int 0)) (tNil))) (tC (.int 6)))) (gName 1)) (tSeq (tIfS (tTest (tOp (rI0 fun i j => .bl (decide (i < j))) (tCB (rLen K) (tCons (tVar 0) (tNil))) (tC (.int 3)))) (tRet (tIf (tTest (tOp rEq (tCB (rLen K) (tCons (tVar 0) (tNil))) (tC (.int 1)))) (tMak A.cWeather (sp_Weather_initX K A) E (tCons (tOp (rIx K) (tVar 1) (tC (.int 0))) (tNil))) (tMak A.cWeather (sp_Weather_initX K A) E (tCons (tOp (rIx K) (tVar 1) (tC (.int 0))) (tCons (tOp (rIx K) (tVar 1) (tC (.int 1))) (tNil)))))) (tNext)) (tSeq (tIfS (tTest (tOp (rI0 fun i j => .bl (decide (i < j))) (tCB (rLen K) (tCons (tVar 0) (tNil))) (tC (.int 5)))) (tRet (tIf (tTest (tOp rEq (tCB (rLen K) (tCons (tVar 0) (tNil))) (tC (.int 3)))) (tMak A.cWeather (sp_Weather_initX K A) E (tCons (tOp (rIx K) (tVar 1) (tC (.int 0))) (tCons (tOp (rIx K) (tVar 1) (tC (.int 1))) (tCons (tOp (rIx K) (tVar 1) (tC (.int 2))) (tNil))))) (tMak A.cWeather (sp_Weather_initX K A) E (tCons (tOp (rIx K) (tVar 1) (tC (.int 0))) (tCons (tOp (rIx K) (tVar 1) (tC (.int 1))) (tCons (tOp (rIx K) (tVar 1) (tC (.int 2))) (tCons (tOp (rIx K) (tVar 1) (tC (.int 3))) (tNil)))))))) (tNext)) (tSeq (tIfS (tTest (tOp rEq (tCB (rLen K) (tCons (tVar 0) (tNil))) (tC (.int 5)))) (tRet (tMak A.cWeather (sp_Weather_initX K A) E (tCons (tOp (rIx K) (tVar 1) (tC (.int 0))) (tCons (tOp (rIx K) (tVar 1) (tC (.int 1))) (tCons (tOp (rIx K) (tVar 1) (tC (.int 2))) (tCons (tOp (rIx K) (tVar 1) (tC (.int 3))) (tCons (tOp (rIx K) (tVar 1) (tC (.int 4))) (tNil)))))))) (tNext)) (tRet (tMak A.cWeather (sp_Weather_initX K A) E (tCons (tOp (rIx K) (tVar 1) (tC (.int 0))) (tCons (tOp (rIx K) (tVar 1) (tC (.int 1))) (tCons (tOp (rIx K) (tVar 1) (tC (.int 2))) (tCons (tOp (rIx K) (tVar 1) (tC (.int 3))) (tCons (tOp (rIx K) (tVar 1) (tC (.int 4))) (tCons (tOp (rIx K) (tVar 1) (tC (.int 5))) (tNil))))))))))))
end
end Wm
end

section
/-! ## A def that calls what it got, in a try with a named error -/
namespace Wm
open PySem PySem.Spec PyProof.Rows L2 StX LamX
theorem takes_len {X : Cx} {W : WX} (t : Takes X W) : Takes X (fun cls d σ H => σ.length = X.N.length → W cls d σ H) := fun u s' ⟨a, B, sI, pins, σ, H, cls, d, e, I, nb, up, sky, na, os, ag, w⟩ =>
  t u s' ⟨a, B, sI, pins, σ, H, cls, d, e, I, nb, up, sky, na, os, ag, w I.len⟩
/-- what the def makes of the lambda's reading: ts reads the suite, tret what stands behind the try -/
def TTerr (K : PySem.W.Frag) (CS : Addr) (i : Nat) (Ng : List Str) (ts : Addr → Value → Option Addr → TS) (tret : Ends → Hp → Prop) : (XK → Hp → VK → Prop) → Hp → VK → Prop := fun tl H Q =>
  ∃ Ech : XK, (∀ cls d H', Ech cls d H' → ∀ σ' : L2.St, σ'.length = Ng.length → wAs K (.ref CS) i ts (fun _ _ _ _ => False) { nx := fun _ => tret { nx := fun _ H' => Q .non H', rt := Q }, rt := Q } cls d σ' H') ∧
    tl Ech H fun _ H' => tret { nx := fun _ H' => Q .non H', rt := Q } H'
theorem err_gives {X : Cx} {Ng : List Str} {x a e n q : Str} {sg : Scope} {g CS : Addr} {cdg : Value} {i : Nat} {b₀ ret : Stmt} {suite : List Stmt} {ts : Addr → Value → Option Addr → TS} {tret : Ends → Hp → Prop} {p1 p2 p3 p4 p7 p8 : Pos} (hge : sg.names.lookup e = some .globalImplicit) (hme : X.mg e = some (.ref CS)) (hde : (e == ("__debug__" : Str)) = false)
    (h0 : ∀ f : Addr, (L2.start Ng [V.ref f])[0]? = some (some (V.ref f))) (hN : Ng.Nodup) (hi : Ng[i]? = some n) (hln : sg.names.lookup n = some .local)
    (hsu : ∀ (s : Shared) (H : Hp) (a : Addr) (oe : Obj) (cls : Value) (d : Option Addr) (pn : List (Addr × Obj)), Zc cls d oe → (∃ vs, oe.data = .fields vs) → PSs ((cxOf C8.CX0 X.prog X.w X.K X.mg X.base Ng x sg g cdg X.A X.stack s H C8.E0).nox.suite a ((a, oe) :: pn)) (b₀ :: suite) (ts a cls d))
    (hret : ∀ (s : Shared) (H : Hp), PS (cxOf C8.CX0 X.prog X.w X.K X.mg X.base Ng x sg g cdg X.A X.stack s H C8.E0).nox ret (fun D _ H => tret D H)) :
    GivesTo X Ng x sg g cdg [.Try [.Expr (.Call (.Name a p1) [] [] p2) p3] [.ExceptHandler (some (.Name e p4)) (some n) (b₀ :: suite) p7] [] [] p8, ret] a q (TTerr X.K CS i Ng ts tret) := by
  intro f c' s H Q tl act hc h
  have hgl : Gl (cxOf C8.CX0 X.prog X.w X.K X.mg X.base Ng x sg g cdg X.A X.stack s H C8.E0).nox e := hge
  refine ⟨_, pss_cons (ps_try_as (X := (cxOf C8.CX0 X.prog X.w X.K X.mg X.base Ng x sg g cdg X.A X.stack s H C8.E0).nox) (c := .ref CS) (i := i) (n := n)
      (tb := fun W D σ H => ∃ Ech : XK, (∀ cls d σ' H', Ech cls d H' → σ'.length = Ng.length → W cls d σ' H') ∧ σ[0]? = some (some (.ref f)) ∧ H c' = some (CodeO c' q) ∧ tl Ech H fun _ H' => D.nx σ H')
      rfl rfl hN hi hln ⟨hgl, hde, .inl hme⟩ LamX.takes0 (fun W pn xe tk _ => ?_) (fun a oe cls d pn hz hf => hsu s H a oe cls d pn hz hf)) (pss_one (hret s H)), ?_⟩
  · refine ⟨fun pins s' σ H' D I h' => ?_⟩
    obtain ⟨Ech, hW, h1, h2, h3⟩ := h'
    have hp := act (fun cls d σ' H' => σ'.length = Ng.length → W cls d σ' H') pn xe Ech p1 p2 (takes_len tk) hW
    have hq := pss_one (ps_expr (pos := p3) hp)
    exact hq.run pins s' σ H' D I ⟨h1, h2, h3⟩
  · obtain ⟨Ech, hE, ht⟩ := h
    exact ⟨Ech, fun cls d σ' H' h1 h2 => hE cls d H' h1 σ' h2, h0 f, hc, ht⟩
end Wm
end

section
local macro_rules | `(tactic| walk_at "cls") => `(tactic| first | (with_reducible exact Wm.WeatherC.cl (by assumption)) | (with_reducible exact Wm.HeaterC.cl (by assumption)) | (with_reducible exact Wm.RoomC.cl (by assumption)) | (with_reducible exact Wm.RunC.cl (by assumption)) | (with_reducible exact Wm.HistoryC.cl (by assumption)) | (with_reducible exact Wm.ThresholdObserverC.cl (by assumption)) | (with_reducible exact Wm.SettingC.cl (by assumption)) | (with_reducible exact Wm.HourSettingC.cl (by assumption)) | (with_reducible exact Wm.RestSettingC.cl (by assumption)) | (with_reducible exact Wm.PricesC.cl (by assumption)) | (with_reducible exact Wm.MomentC.cl (by assumption)) | (with_reducible exact Wm.LiveRoomC.cl (by assumption)) | (with_reducible exact Wm.AttemptC.cl (by assumption)))
local macro_rules | `(tactic| walk_at "noattr") => `(tactic| first | (with_reducible exact Wm.WeatherC.n_pattern (by assumption)) | (with_reducible exact Wm.HeaterC.n_power (by assumption)) | (with_reducible exact Wm.HeaterC.n_below (by assumption)) | (with_reducible exact Wm.HeaterC.n_above (by assumption)) | (with_reducible exact Wm.RoomC.n_outside (by assumption)) | (with_reducible exact Wm.RoomC.n_inside (by assumption)) | (with_reducible exact Wm.RoomC.n_begin_degrees (by assumption)) | (with_reducible exact Wm.RoomC.n_past (by assumption)) | (with_reducible exact Wm.RoomC.n_repeated (by assumption)) | (with_reducible exact Wm.RoomC.n_share (by assumption)) | (with_reducible exact Wm.RoomC.n_coldest (by assumption)) | (with_reducible exact Wm.RoomC.n_warmest (by assumption)) | (with_reducible exact Wm.RunC.n_begin (by assumption)) | (with_reducible exact Wm.RunC.n_end (by assumption)) | (with_reducible exact Wm.RunC.n_degrees (by assumption)) | (with_reducible exact Wm.RunC.n_is_heating (by assumption)) | (with_reducible exact Wm.RunC.n_sums (by assumption)) | (with_reducible exact Wm.RunC.n_size (by assumption)) | (with_reducible exact Wm.RunC.n_drift (by assumption)) | (with_reducible exact Wm.HistoryC.n_shifts (by assumption)) | (with_reducible exact Wm.HistoryC.n_added (by assumption)) | (with_reducible exact Wm.HistoryC.n_floor (by assumption)) | (with_reducible exact Wm.HistoryC.n_ceiling (by assumption)) | (with_reducible exact Wm.HistoryC.n_was_heating (by assumption)) | (with_reducible exact Wm.HistoryC.n_runs (by assumption)) | (with_reducible exact Wm.HistoryC.n_loop (by assumption)) | (with_reducible exact Wm.ThresholdObserverC.n_outside (by assumption)) | (with_reducible exact Wm.ThresholdObserverC.n_power (by assumption)) | (with_reducible exact Wm.ThresholdObserverC.n_tick (by assumption)) | (with_reducible exact Wm.ThresholdObserverC.n_degrees (by assumption)) | (with_reducible exact Wm.ThresholdObserverC.n_is_heating (by assumption)) | (with_reducible exact Wm.ThresholdObserverC.n_lows (by assumption)) | (with_reducible exact Wm.ThresholdObserverC.n_highs (by assumption)) | (with_reducible exact Wm.ThresholdObserverC.n_noted (by assumption)) | (with_reducible exact Wm.SettingC.n_least (by assumption)) | (with_reducible exact Wm.SettingC.n_most (by assumption)) | (with_reducible exact Wm.HourSettingC.n_least (by assumption)) | (with_reducible exact Wm.HourSettingC.n_most (by assumption)) | (with_reducible exact Wm.HourSettingC.n_length (by assumption)) | (with_reducible exact Wm.HourSettingC.n_hours (by assumption)) | (with_reducible exact Wm.RestSettingC.n_least (by assumption)) | (with_reducible exact Wm.RestSettingC.n_most (by assumption)) | (with_reducible exact Wm.RestSettingC.n_rest (by assumption)) | (with_reducible exact Wm.PricesC.n_table (by assumption)) | (with_reducible exact Wm.MomentC.n_tick (by assumption)) | (with_reducible exact Wm.MomentC.n_heat (by assumption)) | (with_reducible exact Wm.MomentC.n_on (by assumption)) | (with_reducible exact Wm.MomentC.n_burnt (by assumption)) | (with_reducible exact Wm.MomentC.n_sky (by assumption)) | (with_reducible exact Wm.MomentC.n_stove (by assumption)) | (with_reducible exact Wm.LiveRoomC.n_moment (by assumption)) | (with_reducible exact Wm.LiveRoomC.n_earlier (by assumption)) | (with_reducible exact Wm.LiveRoomC.n_done (by assumption)) | (with_reducible exact Wm.AttemptC.n_live (by assumption)) | (with_reducible exact Wm.AttemptC.n_kept (by assumption)) | (with_reducible exact Wm.AttemptC.n_stack (by assumption)) | (with_reducible exact Wm.AttemptC.n_steps (by assumption)))
local macro_rules | `(tactic| walk_at "at") => `(tactic| first | assumption | exact Wm.Hold.rd (by assumption) (by assumption) | exact Wm.Hold.get (i := 0) (by assumption) rfl | exact Wm.Hold.get (i := 1) (by assumption) rfl | exact Wm.Hold.get (i := 2) (by assumption) rfl | exact Wm.Hold.get (i := 3) (by assumption) rfl | exact Wm.Hold.get (i := 4) (by assumption) rfl)
local macro_rules | `(tactic| walk_at "s1") => `(tactic| first
  | (with_reducible refine Wm.r_seq ?_)
  | (with_reducible refine Wm.r_op ?_)
  | ((with_reducible refine' Wm.r_var ?h ?_); (case h => rfl))
  | (with_reducible refine Wm.r_c ?_)
  | (with_reducible refine Wm.r_I0 ?_)
  | (with_reducible refine Wm.r_cons ?_)
  | (with_reducible refine Wm.r_nil ?_)
  | (with_reducible refine Wm.r_asg ?_)
  | (with_reducible refine Wm.r_gname ?_; try simp only [List.set_cons_zero, List.set_cons_succ])
  | (with_reducible refine Wm.r_nx ?_)
  | (with_reducible refine Wm.r_rt ?_)
  | (with_reducible refine Wm.r_ret ?_)
  | (with_reducible refine Wm.r_test ?_)
  | (with_reducible refine Wm.r_bl ?_)
  | (with_reducible refine Wm.r_B ?_)
  | (with_reducible refine Wm.r_eqI ?_)
  | (with_reducible refine Wm.r_neI ?_)
  | (with_reducible refine Wm.r_eqB ?_)
  | (with_reducible refine Wm.r_neB ?_)
  | (with_reducible refine Wm.r_fld ?_)
  | (with_reducible refine Wm.r_call ?_)
  | (with_reducible refine Wm.r_mtd ?_)
  | (with_reducible refine Wm.r_prp ?_)
  | (with_reducible refine Wm.r_mak ?_)
  | (with_reducible refine Wm.r_makKw ?_)
  | (with_reducible refine Wm.r_cb ?_)
  | (with_reducible refine Wm.r_tup ?_)
  | (with_reducible refine Wm.r_lst ?_)
  | (with_reducible refine Wm.r_chain ?_)
  | (with_reducible refine Wm.r_and ?_)
  | (with_reducible refine Wm.r_or ?_)
  | (with_reducible refine Wm.r_not ?_)
  | (with_reducible refine Wm.r_andV ?_)
  | (with_reducible refine Wm.r_orV ?_)
  | (with_reducible refine Wm.r_notV ?_)
  | (with_reducible refine Wm.r_if ?_)
  | (with_reducible refine Wm.r_un ?_)
  | (with_reducible refine Wm.r_U ?_)
  | (with_reducible refine Wm.r_iteT ?_)
  | (with_reducible refine Wm.r_iteF ?_)
  | (with_reducible refine Wm.r_next ?_)
  | (with_reducible refine Wm.r_drop ?_)
  | (with_reducible refine Wm.r_retN ?_)
  | ((with_reducible refine' Wm.r_aug ?h ?_); (case h => rfl))
  | (with_reducible refine Wm.r_ipI ?_)
  | (with_reducible refine Wm.r_par2 ?_)
  | (with_reducible refine Wm.r_two ?_; try simp only [List.set_cons_zero, List.set_cons_succ])
  | (with_reducible refine Wm.r_yes ?_)
  | (with_reducible refine Wm.r_forET ?_)
  | (with_reducible refine Wm.r_chain3 ?_)
  | (with_reducible refine Wm.r_nT ?_)
  | (with_reducible refine Wm.r_nF ?_)
  | (with_reducible refine Wm.r_par3 ?_)
  | (with_reducible refine Wm.r_seenPut ?_)
  | (with_reducible refine Wm.r_seenGet ?_)
  | (with_reducible refine Wm.r_three ?_; try simp only [List.set_cons_zero, List.set_cons_succ])
  | (with_reducible refine Wm.r_sl ?_)
  | (with_reducible refine Wm.r_nopart ?_)
  | (with_reducible refine Wm.r_part ?_)
  | (with_reducible refine Wm.r_xi ?_)
  | (with_reducible refine Wm.r_gcons ?_)
  | (with_reducible refine Wm.r_gnil ?_)
  | (with_reducible refine Wm.r_sub ?_)
  | (with_reducible refine Wm.r_setF ?_)
  | (with_reducible refine Wm.r_app ?_)
  | (with_reducible refine Wm.int_i ?_)
  | (with_reducible refine Wm.int_b ?_)
  | (with_reducible refine Wm.min2 ?_)
  | (with_reducible refine Wm.max2 ?_)
  | (with_reducible refine Wm.abs1 ?_)
  | (with_reducible refine Wm.isN ?_)
  | (with_reducible refine Wm.notN ?_)
  | ((with_reducible refine' Wm.r_ty ?e ?_); (case e => walk_at "at"))
  | ((with_reducible refine' Wm.setF_m ?h 0 ?e ?c ?a ?l ?_); (case h => assumption); (case e => rfl); (case c => walk_at "cls"); (case a => walk_at "noattr"); (case l => exact of_decide_eq_true rfl); intro H1 hh1; simp only [List.set_cons_zero, List.set_cons_succ] at hh1)
  | ((with_reducible refine' Wm.setF_m ?h 1 ?e ?c ?a ?l ?_); (case h => assumption); (case e => rfl); (case c => walk_at "cls"); (case a => walk_at "noattr"); (case l => exact of_decide_eq_true rfl); intro H1 hh1; simp only [List.set_cons_zero, List.set_cons_succ] at hh1)
  | ((with_reducible refine' Wm.setF_m ?h 2 ?e ?c ?a ?l ?_); (case h => assumption); (case e => rfl); (case c => walk_at "cls"); (case a => walk_at "noattr"); (case l => exact of_decide_eq_true rfl); intro H1 hh1; simp only [List.set_cons_zero, List.set_cons_succ] at hh1)
  | ((with_reducible refine' Wm.setF_m ?h 3 ?e ?c ?a ?l ?_); (case h => assumption); (case e => rfl); (case c => walk_at "cls"); (case a => walk_at "noattr"); (case l => exact of_decide_eq_true rfl); intro H1 hh1; simp only [List.set_cons_zero, List.set_cons_succ] at hh1)
  | (with_reducible refine Wm.r_forL ?_)
  | (with_reducible refine Wm.r_forT ?_)
  | (with_reducible refine Wm.r_forR1 ?_)
  | (with_reducible refine Wm.r_forR2 ?_)
  | (with_reducible refine Wm.r_forR3 ?_)
  | (with_reducible refine Wm.r_lcL ?_)
  | (with_reducible refine Wm.r_lcT ?_)
  | (with_reducible refine Wm.r_lcR1 ?_)
  | (with_reducible refine Wm.r_lcR2 ?_)
  | ((with_reducible refine' Wm.fld_h ?e ?c ?n ?l ?_); (case e => walk_at "at"); (case c => walk_at "cls"); (case n => walk_at "noattr"); (case l => rfl))
  | ((with_reducible refine' Wm.mtd_h ?e ?l ?_); (case e => walk_at "at"); (case l => rfl))
  | ((with_reducible refine' Wm.prp_h ?e ?_); (case e => walk_at "at"))
  | ((with_reducible refine' Wm.rix_ht ?a ?b ?_); (case a => walk_at "at"); (case b => rfl))
  | ((with_reducible refine' Wm.rix_h ?a ?b ?_); (case a => walk_at "at"); (case b => rfl))
  | ((with_reducible refine' Wm.len_ht ?a ?_); (case a => walk_at "at"))
  | ((with_reducible refine' Wm.len_h ?a ?_); (case a => walk_at "at"))
  | ((with_reducible refine' Wm.len_l ?a ?b ?_); (case a => assumption); (case b => assumption))
  | ((with_reducible refine' Wm.len_t ?a ?b ?_); (case a => assumption); (case b => assumption))
  | ((with_reducible refine' Wm.gtup_h ?a ?b ?_); (case a => walk_at "at"); (case b => rfl))
  | (with_reducible refine Wm.r_I (Wm.cmulR (by decide)) ?_)
  | (with_reducible refine Wm.r_I (Wm.cmulL (by decide)) ?_)
  | (with_reducible refine Wm.r_I (Wm.cdiv (by decide) (by decide)) ?_)
  | (with_reducible refine Wm.r_I Wm.cpow18 ?_)
  | (with_reducible refine Wm.r_I Wm.cpow12 ?_)
  | (with_reducible refine Wm.r_I (by show (0 : Int) < _; decide) ?_))
local macro_rules | `(tactic| walk_at "s") => `(tactic| repeat (first | walk_at "s1" | (with_reducible refine Wm.r_ifS ?_)))
local macro_rules | `(tactic| walk_at "t") => `(tactic| repeat (walk_at "s1"))
local macro_rules | `(tactic| walk_at "sz") => `(tactic| exact of_decide_eq_true rfl)
local macro_rules | `(tactic| walk_at "d") => `(tactic| first | (with_reducible refine Wm.r_dT (by omega) ?_) | (with_reducible refine Wm.r_dF (by omega) ?_) | (with_reducible refine Wm.r_dN (by omega) ?_) | (with_reducible refine Wm.r_dM (by omega) ?_))
local macro_rules | `(tactic| walk_at "sd") => `(tactic| repeat (first | walk_at "s1" | (with_reducible refine Wm.r_ifS ?_) | walk_at "d"))
local macro_rules | `(tactic| walk_at "ex") => `(tactic| first
  | assumption
  | exact Wm.Ex.refl _
  | (refine Wm.Ex.trans ?_ (by assumption); walk_at "ex")
  | (refine Wm.Ex.trans ?_ (Wm.Hold.ex (by assumption)); walk_at "ex"))
local macro_rules | `(tactic| walk_at "room") => `(tactic| first
  | assumption
  | (refine' Wm.IsRoom.up ?e ?h; (case h => assumption); (case e => walk_at "ex")))
local macro_rules | `(tactic| walk_at "opt") => `(tactic| first
  | assumption
  | (refine' Wm.OptAt.up ?e ?h; (case h => assumption); (case e => walk_at "ex")))
local macro_rules | `(tactic| walk_at "lst") => `(tactic| first
  | assumption
  | (refine' Wm.Lst.at_ ?h ?e; (case h => assumption); (case e => walk_at "ex"))
  | exact Wm.Hold.get (i := 0) (by assumption) rfl | exact Wm.Hold.get (i := 1) (by assumption) rfl | exact Wm.Hold.get (i := 2) (by assumption) rfl | exact Wm.Hold.get (i := 3) (by assumption) rfl | exact Wm.Hold.get (i := 4) (by assumption) rfl)
local macro_rules | `(tactic| walk_at "tup") => `(tactic| first
  | assumption
  | (refine' Wm.Tup.at_ ?h ?e; (case h => assumption); (case e => walk_at "ex")))
local macro_rules | `(tactic| walk_at "p1") => `(tactic| first
  | (with_reducible refine Wm.r_p18 ?_) | (with_reducible refine Wm.r_p12 ?_) | (with_reducible refine Wm.r_p17 ?_) | (with_reducible refine Wm.r_p15 ?_) | (with_reducible refine Wm.r_p11 ?_) | (with_reducible refine Wm.r_p6 ?_) | (with_reducible refine Wm.r_p5 ?_) | (with_reducible refine Wm.r_p4 ?_) | (with_reducible refine Wm.r_p9 ?_) | (with_reducible refine Wm.r_p13 ?_) | (with_reducible refine Wm.r_p20 ?_) | (with_reducible refine Wm.r_p30 ?_) | (with_reducible refine Wm.r_p16 ?_))
local macro_rules | `(tactic| walk_at "w2") => `(tactic| first
  | ((with_reducible refine' Wm.r_wp ?h ?_); (case h => rfl))
  | ((with_reducible refine' Wm.ap_mtd ?ir ?hl ?_); (case ir => walk_at "room"); (case hl => intros; rfl))
  | ((with_reducible refine' Wm.ap_prp ?ir ?_); (case ir => walk_at "room"))
  | ((with_reducible refine' Wm.ap_temp ?hh ?ir ?t0 ?t1 ?_); (case hh => assumption); (case ir => walk_at "room"); (case t0 => omega); (case t1 => omega); intro H1 hh1)
  | ((with_reducible refine' Wm.ap_on ?hh ?ir ?t0 ?t1 ?_); (case hh => assumption); (case ir => walk_at "room"); (case t0 => omega); (case t1 => omega); intro H1 hh1)
  | ((with_reducible refine' Wm.ap_heats ?hh ?ir ?t0 ?t1 ?_); (case hh => assumption); (case ir => walk_at "room"); (case t0 => omega); (case t1 => omega); intro H1 hh1)
  | ((with_reducible refine' Wm.ap_sws ?hh ?ir ?t0 ?t1 ?_); (case hh => assumption); (case ir => walk_at "room"); (case t0 => omega); (case t1 => omega); intro H1 hh1)
  | ((with_reducible refine' Wm.rix_ht ?a ?b ?_); (case a => walk_at "tup"); (case b => rfl))
  | ((with_reducible refine' Wm.rix_h ?a ?b ?_); (case a => walk_at "lst"); (case b => rfl))
  | ((with_reducible refine' Wm.len_ht ?a ?_); (case a => walk_at "tup"))
  | ((with_reducible refine' Wm.len_h ?a ?_); (case a => walk_at "lst"))
  | ((with_reducible refine' Wm.gtup_h ?a ?b ?_); (case a => walk_at "tup"); (case b => rfl))
  | ((with_reducible refine' Wm.r_I (Wm.cmulL ?h) ?_); (case h => omega))
  | ((with_reducible refine' Wm.r_I (Wm.cmulR ?h) ?_); (case h => omega))
  | ((with_reducible refine' Wm.r_I (Wm.cdiv ?h ?h2) ?_); (case h => omega); (case h2 => omega))
  | ((with_reducible refine' Wm.r_mod ?h ?_); (case h => omega))
  | ((with_reducible refine' Wm.tup_N ?hP ?hh ?_); (case hP => walk_at "sz"); (case hh => assumption); intro p G1 H1 ex1 tp hh1))
local macro_rules | `(tactic| walk_at "w1") => `(tactic| first | walk_at "p1" | walk_at "s1" | walk_at "w2")
local macro_rules | `(tactic| walk_at "w") => `(tactic| repeat (first | walk_at "w1" | (with_reducible refine Wm.r_ifS ?_)))
local macro_rules | `(tactic| walk_at "wl") => `(tactic| ((with_reducible refine' Wm.lst_N ?hP ?hh ?_); (case hP => walk_at "sz"); (case hh => assumption); intro p G1 H1 ex1 tp hh1))
local macro_rules | `(tactic| walk_at "wd") => `(tactic| repeat (first | walk_at "w1" | (with_reducible refine Wm.r_ifS ?_) | walk_at "d" | walk_at "wl"))
local macro_rules | `(tactic| walk_at "v") => `(tactic| repeat (walk_at "w1"))
namespace Wm
open PySem PySem.Spec PyProof.Rows L2 StX
/-! ## _law_error: what its suite answers -/
/-- the class D is the i-th of the laws' list of errors -/
structure ErrC (K : PySem.W.Frag) (A : Ads) (D : Addr) (i : Nat) : Prop where
  ex : ExcC K D
  em : PySem.W.exmOne K (.ref D) (.ref A.cWarmthError) = some true
  k0 : PySem.W.kitOne K (.ref D) (.ref A.cContradiction) = some (i == 0)
  k1 : PySem.W.kitOne K (.ref D) (.ref A.cInvalidHeater) = some (i == 1)
  k2 : PySem.W.kitOne K (.ref D) (.ref A.cInvalidNumber) = some (i == 2)
  k3 : PySem.W.kitOne K (.ref D) (.ref A.cInvalidWeather) = some (i == 3)
  k4 : PySem.W.kitOne K (.ref D) (.ref A.cOtherWeather) = some (i == 4)
  kv : PySem.W.kitOne K (.ref D) (.type "ValueError") = some true
def errNames : List Str := ["contradiction", "heater", "number", "weather", "other weather"]
def t_law_error_sx (K : PySem.W.Frag) (A : Ads) (a : Addr) (cls : Value) (d : Option Addr) : TS := tSeq (tAsg (tLst (tCons (tCB (rIsX K a cls d) (tCons (tVar 1) (tCons (tC (.ref A.cContradiction)) (tNil)))) (tCons (tCB (rIsX K a cls d) (tCons (tVar 1) (tCons (tC (.ref A.cInvalidHeater)) (tNil)))) (tCons (tCB (rIsX K a cls d) (tCons (tVar 1) (tCons (tC (.ref A.cInvalidNumber)) (tNil)))) (tNil))))) (gName 2)) (tSeq (tDrop (tBM K "list" rExtend (tVar 2) (tCons (tLst (tCons (tCB (rIsX K a cls d) (tCons (tVar 1) (tCons (tC (.ref A.cInvalidWeather)) (tNil)))) (tCons (tCB (rIsX K a cls d) (tCons (tVar 1) (tCons (tC (.ref A.cOtherWeather)) (tNil)))) (tNil)))) (tNil)))) (tSeq (tIfS (tOr (tTest (tOp rNe (tBM K "list" (rCntB K) (tVar 2) (tCons (tC (.bl true)) (tNil))) (tC (.int 1)))) (tNot (tB (tCB (rIsX K a cls d) (tCons (tVar 1) (tCons (tC (.ty "ValueError")) (tNil))))))) (tRet (tTup (tCons (tC (.str "other")) (tNil)))) (tNext)) (tSeq (tAsg (tOp (rIx K) (tLst (tCons (tC (.str "contradiction")) (tCons (tC (.str "heater")) (tCons (tC (.str "number")) (tCons (tC (.str "weather")) (tCons (tC (.str "other weather")) (tNil))))))) (tBM K "list" (rIndex K) (tVar 2) (tCons (tC (.bl true)) (tNil)))) (gName 3)) (tRet (tIf (tTest (tOp rEq (tVar 3) (tC (.str "weather")))) (tTup (tCons (tVar 3) (tCons (tXf a cls d A.cInvalidWeather "index" (tVar 1)) (tNil)))) (tTup (tCons (tVar 3) (tNil))))))))
def t_law_error (K : PySem.W.Frag) (A : Ads) : TS := tSeq (tNext) (tRet (tTup (tCons (tC (.str "none")) (tNil))))
section
variable {K : PySem.W.Frag} {A : Ads}
theorem r_isx {a D : Addr} {d : Option Addr} {c : V} {cv : Value} {b : Bool} {H : Hp} {Q : VK} (ec : ExcC K D) (hk : PySem.W.kitOne K (.ref D) cv = some b) (hcv : ∀ u, RelV c u → u = cv) (hd : d = none ∨ ∃ dd fs, d = some dd ∧ H dd = some (.xd fs)) (k : Q (.bl b) H) : rIsX K a (.ref D) d [.ref a, c] H Q :=
  ⟨D, c, cv, b, rfl, ec, rfl, hcv, hk, hd, k⟩
theorem r_xf {a C : Addr} {cls : Value} {d : Option Addr} {f : Str} {te : TE} {σ : L2.St} {H : Hp} {Q : VK} (k : te σ H fun x H1 => x = .ref a ∧ cls = .ref C ∧ ∃ (dd : Addr) (fs : List (Str × V)) (v : V), d = some dd ∧ H1 dd = some (.xd fs) ∧ fs.lookup f = some v ∧ Q v H1) : tXf a cls d C f te σ H Q := k
theorem r_bmx {T : String} {r : V → List V → Hp → VK → Prop} {ta : TE} {tr : TA} {σ : L2.St} {H : Hp} {Q : VK} (k : ta σ H fun x H1 => tyV K T x H1 ∧ tr σ H1 fun vs H2 => r x vs H2 Q) : tBM K T r ta tr σ H Q := k
theorem ext_m {G H : Hp} {mu : Mu} {l b : Addr} {xs zs : List V} {Q : VK} (hh : Hold G mu H) (n : Nat) (e : mu[n]? = some (l, .lst xs)) (hb : H b = some (.lst zs)) (hz : xs.length + zs.length ≤ sizeLine) (k : ∀ H', Hold G (mu.set n (l, .lst (xs ++ zs))) H' → Q .non H') : rExtend (.ref l) [.ref b] H Q :=
  ⟨l, b, xs, zs, rfl, rfl, hh.get e, hb, hz, k _ (hh.set e)⟩
def errKinds (i : Nat) : List Bool := [i == 0, i == 1, i == 2, i == 3, i == 4]
theorem errKinds_count (i : Nat) (hi : i < 5) : (errKinds i).count true = 1 := by
  match i, hi with
  | 0, _ => rfl
  | 1, _ => rfl
  | 2, _ => rfl
  | 3, _ => rfl
  | 4, _ => rfl
theorem errKinds_at (i : Nat) (hi : i < 5) : ((errKinds i).map V.bl)[i]? = some (.bl true) := by
  match i, hi with
  | 0, _ => rfl
  | 1, _ => rfl
  | 2, _ => rfl
  | 3, _ => rfl
  | 4, _ => rfl
theorem errKinds_first (i : Nat) (hi : i < 5) (m : Nat) (hm : m < i) (z' : V) (hz : ((errKinds i).map V.bl)[m]? = some z') : eqV z' (.bl true) = false := by
  match i, hi, m, hm with
  | 1, _, 0, _ => cases hz; rfl
  | 2, _, 0, _ => cases hz; rfl
  | 2, _, 1, _ => cases hz; rfl
  | 3, _, 0, _ => cases hz; rfl
  | 3, _, 1, _ => cases hz; rfl
  | 3, _, 2, _ => cases hz; rfl
  | 4, _, 0, _ => cases hz; rfl
  | 4, _, 1, _ => cases hz; rfl
  | 4, _, 2, _ => cases hz; rfl
  | 4, _, 3, _ => cases hz; rfl
theorem errNames_at (i : Nat) (hi : i < 5) : atI [V.str "contradiction", .str "heater", .str "number", .str "weather", .str "other weather"] (i : Int) = some (.str (errNames.getD i "")) := by
  match i, hi with
  | 0, _ => rfl
  | 1, _ => rfl
  | 2, _ => rfl
  | 3, _ => rfl
  | 4, _ => rfl
theorem errNames_ne (i : Nat) (hi : i < 5) (h : i ≠ 3) : ¬ (V.str (errNames.getD i "") = V.str "weather") := by
  match i, hi, h with
  | 0, _, _ => decide
  | 1, _, _ => decide
  | 2, _, _ => decide
  | 4, _, _ => decide
theorem sx_pure {a D : Addr} {i : Nat} {d : Option Addr} {G H : Hp} {nx bk ct : L2.St → Hp → Prop} {rt : VK} {x0 x2 x3 : Option V} (c : ErrC K A D i) (hi : i < 5) (h3 : i = 3 → D = A.cInvalidWeather ∧ ∃ dd fs v, d = some dd ∧ G dd = some (.xd fs) ∧ fs.lookup ("index" : Str) = some v)
    (hd : d = none ∨ ∃ dd fs, d = some dd ∧ G dd = some (.xd fs)) (hh : Hold G [] H)
    (k : ∀ p G' H' xs, Ex G G' → G' p = some (.tup xs) → Hold G' [] H' → (i ≠ 3 → xs = [.str (errNames.getD i "")]) → (i = 3 → ∀ dd fs v, d = some dd → G dd = some (.xd fs) → fs.lookup ("index" : Str) = some v → xs = [.str "weather", v]) → rt (.ref p) H') :
    t_law_error_sx K A a (.ref D) d ⟨nx, rt, bk, ct⟩ [x0, some (.ref a), x2, x3] H := by
  have hdH : ∀ H', Ex G H' → d = none ∨ ∃ dd fs, d = some dd ∧ H' dd = some (.xd fs) := fun H' e => by
    rcases hd with h | ⟨dd, fs, h1, h2⟩
    · exact .inl h
    · exact .inr ⟨dd, fs, h1, e _ _ h2⟩
  unfold t_law_error_sx
  walk_at "s"
  refine r_isx c.ex c.k0 (fun u h => h) (hdH _ hh.ex) ?_
  walk_at "s"
  refine r_isx c.ex c.k1 (fun u h => h) (hdH _ hh.ex) ?_
  walk_at "s"
  refine r_isx c.ex c.k2 (fun u h => h) (hdH _ hh.ex) ?_
  walk_at "s"
  refine lst_m (by walk_at "sz") hh fun l H1 hh1 => ?_
  walk_at "s"
  refine r_bmx ?_
  walk_at "s"
  refine r_isx c.ex c.k3 (fun u h => h) (hdH _ hh1.ex) ?_
  walk_at "s"
  refine r_isx c.ex c.k4 (fun u h => h) (hdH _ hh1.ex) ?_
  walk_at "s"
  refine lst_G (by walk_at "sz") hh1 fun l2 G2 H2 ex2 hl2 hh2 => ?_
  walk_at "s"
  refine ext_m hh2 0 rfl (hh2.rd hl2) (by show 3 + 2 ≤ sizeLine; rw [sizeLine_eq]; decide) fun H3 hh3 => ?_
  have hh3 : Hold G2 [(l, .lst ((errKinds i).map V.bl))] H3 := hh3
  walk_at "s"
  refine r_bmx ?_
  walk_at "s"
  refine ⟨l, errKinds i, true, rfl, rfl, SqL.of (hh3.get (i := 0) rfl), ?_⟩
  rw [errKinds_count i hi]
  walk_at "sd"
  refine r_isx c.ex c.kv (fun u h => h) (hdH _ (ex2.trans hh3.ex)) ?_
  walk_at "sd"
  refine lst_G (by walk_at "sz") hh3 fun n G4 H4 ex4 hn hh4 => ?_
  walk_at "s"
  refine r_bmx ?_
  walk_at "s"
  refine ⟨l, (errKinds i).map V.bl, .bl true, i, .bl true, rfl, rfl, SqL.of (hh4.get (i := 0) rfl), rfl, rfl, errKinds_at i hi, rfl, fun m z' hm hz => errKinds_first i hi m hm z' hz, ?_⟩
  walk_at "s"
  refine rix_h (hh4.rd hn) (errNames_at i hi) ?_
  walk_at "s"
  refine r_eq rfl ?_
  have eA : Ex G G4 := ex2.trans ex4
  by_cases h : i = 3
  · obtain ⟨rfl, dd, fs, v, e1, e2, e3⟩ := h3 h
    refine ⟨true, by subst h; rfl, ?_⟩
    rw [if_pos rfl]
    walk_at "s"
    refine r_xf ?_
    walk_at "s"
    refine ⟨rfl, rfl, dd, fs, v, e1, hh4.rd (eA _ _ e2), e3, ?_⟩
    walk_at "s"
    refine tup_G (by walk_at "sz") hh4 fun p G5 H5 ex5 hp hh5 => ?_
    walk_at "s"
    refine k p G5 H5 _ (eA.trans ex5) hp hh5.drop (fun q => absurd h q) fun _ dd' fs' v' f1 f2 f3 => ?_
    rw [e1] at f1; cases f1
    rw [e2] at f2; cases f2
    rw [e3] at f3; cases f3
    subst h
    rfl
  · refine ⟨false, by rw [decide_eq_false]; exact errNames_ne i hi h, ?_⟩
    rw [if_neg Bool.false_ne_true]
    walk_at "s"
    refine tup_G (by walk_at "sz") hh4 fun p G5 H5 ex5 hp hh5 => ?_
    walk_at "s"
    exact k p G5 H5 _ (eA.trans ex5) hp hh5.drop (fun _ => rfl) fun q => absurd q h
/-- what a law's def lets out and _law_error catches -/
def EchL (K : PySem.W.Frag) (A : Ads) (Q : VK) : XK := fun cls d H => ∃ (D : Addr) (i : Nat), cls = .ref D ∧ ErrC K A D i ∧ i < 5 ∧ (d = none ∨ ∃ dd fs, d = some dd ∧ H dd = some (.xd fs)) ∧
  (i = 3 → D = A.cInvalidWeather ∧ ∃ dd fs v, d = some dd ∧ H dd = some (.xd fs) ∧ fs.lookup ("index" : Str) = some v) ∧
  ∀ p G' H' xs, Ex H G' → G' p = some (.tup xs) → Hold G' [] H' → (i ≠ 3 → xs = [.str (errNames.getD i "")]) → (i = 3 → ∀ dd fs v, d = some dd → H dd = some (.xd fs) → fs.lookup ("index" : Str) = some v → xs = [.str "weather", v]) → Q (.ref p) H'
abbrev errN : List Str := ["_law_call", "e", "_law_kinds", "_law_name"]
def tErrRet : Ends → Hp → Prop := fun D H => tRet (tTup (tCons (tC (.str "none")) tNil)) D [] H
theorem terr_intro {tl : XK → Hp → VK → Prop} {H : Hp} {Q : VK} (h : tl (EchL K A Q) H (fun _ H' => tErrRet { nx := fun _ H' => Q .non H', rt := Q } H')) : TTerr K A.cWarmthError 1 errN (t_law_error_sx K A) tErrRet tl H Q := by
  refine ⟨EchL K A Q, fun cls d H' hE σ' hl => ?_, h⟩
  obtain ⟨D, i, rfl, c, hi, hd, h3, k⟩ := hE
  refine ⟨true, c.em, fun _ a ha => ?_, fun z => nomatch z⟩
  match σ', hl with
  | [x0, x1, x2, x3], _ => exact sx_pure (x0 := x0) (x2 := x2) (x3 := x3) c hi h3 hd (⟨Ex.refl _, fun _ h => absurd h (by simp), fun _ h => absurd h (by simp), List.nodup_nil⟩ : Hold H' [] H') k
end
end Wm
end

section
/-! ## A lambda handed on: the table of code objects among the mutables -/
namespace Wm
open PySem PySem.Spec PyProof.Rows L2 StX LamX
/-- the table's code objects bear the name q -/
def TabOk (G : Hp) (ps : Array Value) (q : Str) : Prop := TriplesOk ps.toList ∧ ∀ (pos : Pos) (cv : Value), codeAmong pos ps.toList = some cv → ∃ c, cv = .ref c ∧ G c = some (CodeO c q)
theorem TabOk.ex {G G' : Hp} {ps : Array Value} {q : Str} (h : TabOk G ps q) (e : Ex G G') : TabOk G' ps q := ⟨h.1, fun pos cv z => by
  obtain ⟨c, h1, h2⟩ := h.2 pos cv z
  exact ⟨c, h1, e _ _ h2⟩⟩
/-- no table, no code object -/
def plainO : HO → Bool
  | .tbl _ => false
  | .ext _ => false
  | _ => true
section
variable {G H H1 : Hp} {mu : Mu} {P : Addr} {ps : Array Value} {q : Str}
theorem Hold.tabs (hh : Hold G ((P, .tbl ps) :: mu) H) (t : TabOk G ps q) : Tabs [(P, q)] H := fun p hp => by
  obtain rfl := List.mem_singleton.mp hp
  exact ⟨ps, hh.get (i := 0) rfl, t.1, fun pos cv z => by
    obtain ⟨c, h1, h2⟩ := t.2 pos cv z
    exact ⟨c, h1, hh.rd h2⟩⟩
/-- the ghost heap of all but the mutables -/
def ghost (mu : Mu) (H : Hp) : Hp := fun b => if b ∈ mu.map (·.1) then none else H b
/-- without tables -/
def clean (G : Hp) : Hp := fun b => match G b with
  | some (.tbl _) => none
  | o => o
theorem clean_of {b : Addr} {o : HO} (h : G b = some o) (n : ∀ ps', o ≠ .tbl ps') : clean G b = some o := by
  unfold clean
  rw [h]
  cases o <;> first | rfl | exact absurd rfl (n _)
theorem clean_to {b : Addr} {o : HO} (h : clean G b = some o) : G b = some o ∧ ∀ ps', o ≠ .tbl ps' := by
  unfold clean at h
  split at h
  · cases h
  · rename_i hn
    exact ⟨h, fun ps' z => hn ps' (by rw [h, z])⟩
theorem clean_tup {b : Addr} {xs : List V} (h : G b = some (.tup xs)) : clean G b = some (.tup xs) := clean_of h fun _ z => nomatch z
theorem clean_lst {b : Addr} {xs : List V} (h : G b = some (.lst xs)) : clean G b = some (.lst xs) := clean_of h fun _ z => nomatch z
theorem clean_ins {b C dx : Addr} {fs : List (Str × V)} (h : G b = some (.ins C dx fs)) : clean G b = some (.ins C dx fs) := clean_of h fun _ z => nomatch z
theorem Hold.lam (hh : Hold G ((P, .tbl ps) :: mu) H) (e : ExtN H H1) (t1 : Tabs [(P, q)] H1) (hm : mu.all (fun x => plainO x.2) = true) :
    ∃ G1 ps1, Ex (clean G) G1 ∧ TabOk G1 ps1 q ∧ Hold G1 ((P, .tbl ps1) :: mu) H1 := by
  obtain ⟨ps1, h1, h2, h3⟩ := t1 (P, q) (List.mem_singleton.mpr rfl)
  have hmu : ∀ x ∈ mu, H1 x.1 = some x.2 := fun x hx => e _ _ (hh.at_ x (List.mem_cons_of_mem _ hx)) fun ps' z => by
    have := List.all_eq_true.mp hm x hx
    rw [z] at this
    cases this
  refine ⟨ghost ((P, .tbl ps1) :: mu) H1, ps1, fun b o hb => ?_, ⟨h2, fun pos cv z => ?_⟩, ⟨fun b o hb => ?_, fun x hx => ?_, fun x hx => ?_, ?_⟩⟩
  · obtain ⟨hb, hn⟩ := clean_to hb
    have nm : b ∉ (((P, HO.tbl ps1) :: mu) : Mu).map (·.1) := fun z => by
      have z' : b ∈ (((P, HO.tbl ps) :: mu) : Mu).map (·.1) := by simpa using z
      obtain ⟨x, hx, rfl⟩ := List.mem_map.mp z'
      rw [hh.out x hx] at hb
      cases hb
    show (if b ∈ _ then none else H1 b) = some o
    rw [if_neg nm]
    exact e _ _ (hh.rd hb) hn
  · obtain ⟨c, hc, hc1⟩ := h3 pos cv z
    refine ⟨c, hc, ?_⟩
    have nm : c ∉ (((P, HO.tbl ps1) :: mu) : Mu).map (·.1) := fun z => by
      rw [List.map_cons] at z
      rcases List.mem_cons.mp z with z | z
      · rw [z, h1] at hc1; cases hc1
      · obtain ⟨x, hx, rfl⟩ := List.mem_map.mp z
        rw [hmu x hx] at hc1
        have := List.all_eq_true.mp hm x hx
        rw [Option.some.inj hc1] at this
        cases this
    show (if c ∈ _ then none else H1 c) = _
    rw [if_neg nm]
    exact hc1
  · have hb' : (if b ∈ (((P, HO.tbl ps1) :: mu) : Mu).map (·.1) then none else H1 b) = some o := hb
    split at hb'
    · cases hb'
    · exact hb'
  · rcases List.mem_cons.mp hx with rfl | hx
    · exact h1
    · exact hmu x hx
  · show (if x.1 ∈ _ then none else H1 x.1) = none
    rw [if_pos (List.mem_map_of_mem hx)]
  · simpa using hh.nd
/-- x(lambda: ..): the table P is the first of the mutables -/
theorem r_lam {TT : (XK → Hp → VK → Prop) → Hp → VK → Prop} {t : XK → TE} {σ : L2.St} {Q : VK} (hh : Hold G ((P, .tbl ps) :: mu) H) (tb : TabOk G ps q) (hm : mu.all (fun x => plainO x.2) = true)
    (k : ∀ G1 ps1 H1, Ex (clean G) G1 → TabOk G1 ps1 q → Hold G1 ((P, .tbl ps1) :: mu) H1 → TT (fun E H' Q' => t E σ H' Q') H1 Q) : tLam [(P, q)] TT t σ H Q :=
  ⟨hh.tabs tb, fun H1 e t1 => by
    obtain ⟨G1, ps1, a, b, c⟩ := hh.lam e t1 hm
    exact k G1 ps1 H1 a b c⟩
end
end Wm
end

section
/-! ## Joining: x(lambda: ..) -/
namespace Wm
open PySem PySem.Spec PyProof.Rows L2 StX LamX
section
variable {X : Cx}
/-- what the lambda's body may let out is the wish E -/
theorem lam_takes {A : Around} {outer : List Env} {s : Shared} {H : Hp} {E : XK} {scope : Scope} {f c' : Addr} : Takes (lamCx X A outer s H E scope f c') (fun cls d _ H => E cls d H) := by
  refine takes_of rfl rfl rfl rfl
theorem pe_lamF {TT : (XK → Hp → VK → Prop) → Hp → VK → Prop} {x a : Str} {st : Stmt} {fe c P : Addr} {fd : FuncData} {k : Nat} {Ng : List Str} {params : Arguments} {body : Expr} {scope : Scope} {t : XK → TE} {p lpos pos : Pos}
    (F : FunD X.K x x (defArgs st) (defBody st) (defScope st) [] [] fe fd) (hm : X.mg x = some (.ref fe)) (kp : PySem.W.keepIn X.K (.ref fe) = true) (bd : Binds X.K fd [a] []) (S : FnScope Ng [a] (defScope st)) (hN0 : Ng[0]? = some a) (hva : Vis (defScope st) a)
    (hG : ∀ cdv, GivesTo X Ng x (defScope st) fe cdv (defBody st) a (X.env.qual ++ "<lambda>") TT) (hg : Gl X x) (TB : TabB X.base X.mg c P) (hcode : X.env.code = .ref c) (hr : Room (k + 2) X.A) (L : LamS X.env.scope scope) (hdef : defaultsOf params X.env = ([], []))
    (hbind : ∀ (q : Str) (cl : List (Str × Addr)) (pm cv ctv : Value), bindArgs (PySem.W.kla_fn "<lambda>" q params body scope cl pm cv ctv) ⟨[], []⟩ = pure [])
    (hbody : ∀ (A : Around) (outer : List Env) (s : Shared) (H : Hp) (E : XK) (f c' : Addr), Room k (A.deeper (lamEnv X scope s.heap.objs.size f c')) → PE (lamCx X A outer s H E scope f c') body (t E))
    (hdb : (x == ("__debug__" : Str)) = false := by decide) (hd : (a == ("__debug__" : Str)) = false := by decide) (hcd : (a == ("__classdict__" : Str)) = false := by decide) :
    PE X (.Call (.Name x p) [.Lambda params body scope lpos] [] pos) (tLam [(P, X.env.qual ++ "<lambda>")] TT t) := by
  obtain ⟨oc, od, dV, kV, doc, pm, an, cdv, ct, osl, rfl, lk, hcg, hD, _⟩ := F.ex
  exact pe_lamcall hg hm kp lk hcg bd S hN0 hva (hG cdv) TB hcode (List.mem_singleton.mpr rfl) (fun q hq _ => by rw [List.mem_singleton.mp hq]) hr L hdef hbind hbody hdb hd hcd
end
end Wm
end

section
/-! ## A name that holds a class, called; a class without arguments; class methods -/
namespace Wm
open PySem PySem.Spec PyProof.Rows L2 StX ClX
def tMakV (i : Nat) (C : Addr) (sp : Sp) (E : XK) (t : TA) : TE := fun σ H Q => σ[i]? = some (some (.ref C)) ∧ tMak C sp E t σ H Q
section
variable {X : Cx} {CX : CXT} {k j : Nat} {C : Addr} {sp : Sp} {E : XK} {x m f : Str} {p pos apos : Pos} {e o : Expr} {es : List Expr} {ta : TE} {t : TA}
/-- a class method -/
structure CmtR (P : Program) (w : World) (K : PySem.W.Frag) (mg : Str → Option Value) (base : Heap) (CX : CXT) (k : Nat) (C : Addr) (m : Str) (sp : Sp) : Prop where
  ex : ∃ (mc : Value) (p g : Addr), FnR P w K mg base CX k g sp ∧ CRead K C mc ∧ CMet K C mc m p g
end
end Wm
end

section
/-! ## A def that is handed a lambda, as a promise -/
namespace Wm
open PySem PySem.Spec PyProof.Rows L2 StX LamX
structure ErrD (P : Program) (w : World) (K : PySem.W.Frag) (mg : Str → Option Value) (base : Heap) (k : Nat) (x : Str) (Ng : List Str) (a : Str) (TT : (XK → Hp → VK → Prop) → Hp → VK → Prop) : Prop where
  ex : ∃ (st : Stmt) (fe : Addr) (fd : FuncData), FunD K x x (defArgs st) (defBody st) (defScope st) [] [] fe fd ∧ mg x = some (.ref fe) ∧ PySem.W.keepIn K (.ref fe) = true ∧ Binds K fd [a] [] ∧ FnScope Ng [a] (defScope st) ∧ Ng[0]? = some a ∧ Vis (defScope st) a ∧
    ∀ (X : Cx), X.prog = P → X.w = w → X.K = K → X.mg = mg → X.base = base → Room (k + 1) X.A → ∀ (cdv : Value) (q : Str), GivesTo X Ng x (defScope st) fe cdv (defBody st) a q TT
/-- a field of a caught error -/
structure XfI (K : PySem.W.Frag) (C : Addr) (f : Str) : Prop where
  xf : XfC K C
  noat : PySem.W.findIn K (.ref C) f = some none
section
variable {X : Cx}
theorem pe_lamC {TT : (XK → Hp → VK → Prop) → Hp → VK → Prop} {x a : Str} {c P : Addr} {k j : Nat} {Ng : List Str} {params : Arguments} {body : Expr} {scope : Scope} {t : XK → TE} {p lpos pos : Pos}
    (D : ErrD X.prog X.w X.K X.mg X.base k x Ng a TT) (hr : Room j X.A) (hk : k + 2 ≤ j) (hg : Gl X x) (TB : TabB X.base X.mg c P) (hcode : X.env.code = .ref c) (L : LamS X.env.scope scope) (hdef : defaultsOf params X.env = ([], []))
    (hbind : ∀ (q : Str) (cl : List (Str × Addr)) (pm cv ctv : Value), bindArgs (PySem.W.kla_fn "<lambda>" q params body scope cl pm cv ctv) ⟨[], []⟩ = pure [])
    (hbody : ∀ (A : Around) (outer : List Env) (s : Shared) (H : Hp) (E : XK) (f c' : Addr), Room k (A.deeper (lamEnv X scope s.heap.objs.size f c')) → PE (lamCx X A outer s H E scope f c') body (t E))
    (hdb : (x == ("__debug__" : Str)) = false := by decide) (hd : (a == ("__debug__" : Str)) = false := by decide) (hcd : (a == ("__classdict__" : Str)) = false := by decide) :
    PE X (.Call (.Name x p) [.Lambda params body scope lpos] [] pos) (tLam [(P, X.env.qual ++ "<lambda>")] TT t) := by
  obtain ⟨st, fe, fd, F, hm, kp, bd, S, h0, hv, G⟩ := D.ex
  exact pe_lamF F hm kp bd S h0 hv (fun cdv => G X rfl rfl rfl rfl rfl (hr.mono (by omega)) cdv _) hg TB hcode (hr.mono hk) L hdef hbind hbody hdb hd hcd
end
end Wm
end

section
namespace Wm
open PySem PySem.Spec PyProof.Rows L2 StX LamX
/-- the code object of the def at f -/
def cdAt (K : PySem.W.Frag) (f : Addr) : Option Value := match K.lookup f with
  | some ⟨_, _, .func fd, _⟩ => some fd.code
  | _ => none
section
variable {P : Program} {w : World} {K : PySem.W.Frag} {mg : Str → Option Value} {base : Heap}
/-- a def that raises nothing but knows its code object -/
theorem okDL {CX : CXT} {x qual : Str} {st : Stmt} {dvs : List V} {kws : List (Str × V)} {f : Addr} {fd : FuncData} {N ps : List Str} {k : Nat} {sp : Sp} (F : FunD K x qual (defArgs st) (defBody st) (defScope st) dvs kws f fd) (S : FnScope N ps (defScope st)) (len : ∀ vs H Q E, sp vs H Q E → vs.length = ps.length)
    (hbody : ∀ (cdv : Value) (A : Around) (outer : List Env) (s : Shared) (H : Hp) (vs : List V) (Q : VK) (E : XK), cdAt K f = some cdv → Room k (A.deeper (envOfC qual (defScope st) s.heap.objs.size f cdv)) → sp vs H Q E →
      ∃ t, PSs (cxOf CX P w K mg base N qual (defScope st) f cdv A outer s H E).nox (defBody st) t ∧ t { nx := fun _ H' => Q .non H', rt := Q } (start N vs) H) : FnOk P w K mg base CX (k + 1) f fd ps sp := by
  obtain ⟨oc, od, dV, kV, doc, pm, an, cdv, ct, osl, rfl, lk, hcd, _, _⟩ := F.ex
  refine fn_of lk hcd S len fun A outer s H vs Q E hr hsp => ?_
  obtain ⟨t, p, q⟩ := hbody cdv A outer s H vs Q E (by unfold cdAt; rw [lk]) hr hsp
  exact ⟨t, p.nox, q⟩
end
end Wm
end

section
/-! ## Lambdas as values: made, kept in a list, handed on later -/
namespace Wm
open PySem PySem.Spec PyProof.Rows L2 StX LamX
/-- a lambda's words; nm: its parameter with a default -/
structure LSp where
  params : Arguments
  body : Expr
  scope : Scope
  nm : Option Str
/-- a frame's lambdas: the frame's cells, the lambdas' qualified name, their words -/
structure LamZ where
  cells : List (Str × Addr)
  q : Str
  sp : Nat → LSp
def dVal : Option Addr → Value
  | none => .none
  | some t => .ref t
/-- the object at f is the frame's lambda i -/
def LmO (Z : LamZ) (i : Nat) (f c' : Addr) (d : Option Addr) : HO := .ext fun h => ∃ (doc pm ctv : Value), h.get? f = some (PySem.W.kdv_obj "<lambda>" Z.q (Z.sp i).params (.expr (Z.sp i).body) (Z.sp i).scope (cloFrom Z.cells (Z.sp i).scope.names []) (dVal d) doc pm c' ctv)
theorem lmO_ne {Z : LamZ} {i : Nat} {f c' : Addr} {d : Option Addr} (ps : Array Value) : LmO Z i f c' d ≠ .tbl ps := fun z => by
  unfold LmO at z
  cases z
theorem lmO_at {P : Program} {w : World} {H : Hp} {h : Heap} {Z : LamZ} {i : Nat} {f c' : Addr} {d : Option Addr} (hok : HOk P w H h) (e : H f = some (LmO Z i f c' d)) :
    ∃ (doc pm ctv : Value), h.get? f = some (PySem.W.kdv_obj "<lambda>" Z.q (Z.sp i).params (.expr (Z.sp i).body) (Z.sp i).scope (cloFrom Z.cells (Z.sp i).scope.names []) (dVal d) doc pm c' ctv) := by
  obtain ⟨z, _, _⟩ := hok f _ e
  exact z
/-- what stands behind the lambda's default -/
def DflAt (Z : LamZ) (i : Nat) (d : Option Addr) (H : Hp) : Prop := ((Z.sp i).nm = none ∧ d = none) ∨ ∃ x t v, (Z.sp i).nm = some x ∧ d = some t ∧ H t = some (.tup [v])
def IsLam (Z : LamZ) (i : Nat) (f : Addr) (H : Hp) : Prop := ∃ c' d, H f = some (LmO Z i f c' d) ∧ H c' = some (CodeO c' Z.q) ∧ DflAt Z i d H
theorem IsLam.up {Z : LamZ} {i : Nat} {f : Addr} {H H' : Hp} (h : IsLam Z i f H) (e : Ex H H') : IsLam Z i f H' := by
  obtain ⟨c', d, h1, h2, h3⟩ := h
  refine ⟨c', d, e _ _ h1, e _ _ h2, ?_⟩
  rcases h3 with h | ⟨x, t, v, a, b, c⟩
  · exact .inl h
  · exact .inr ⟨x, t, v, a, b, e _ _ c⟩
theorem IsLam.clean {Z : LamZ} {i : Nat} {f : Addr} {H : Hp} (h : IsLam Z i f H) : IsLam Z i f (Wm.clean H) := by
  obtain ⟨c', d, h1, h2, h3⟩ := h
  refine ⟨c', d, clean_of h1 lmO_ne, clean_of h2 codeO_ne, ?_⟩
  rcases h3 with h | ⟨x, t, v, a, b, c⟩
  · exact .inl h
  · exact .inr ⟨x, t, v, a, b, clean_tup c⟩
/-- the lambda's names: captured ones, globals, its parameter -/
structure LamS1 (sc scope : Scope) (nm : Option Str) : Prop where
  kind : scope.kind = .function
  co : scope.isCoroutine = false
  gen : scope.isGenerator = false
  cell : ∀ y ∈ scope.names, y.2 ≠ .cell
  loc : ∀ y ∈ scope.names, y.2 = .local → nm = some y.1
  free : ∀ y ∈ scope.names, y.2 = .free → sc.names.lookup y.1 = some .cell ∨ sc.names.lookup y.1 = some .free
  par : ∀ x, nm = some x → scope.names.lookup x = some .local
def lamS1B (sc scope : Scope) (nm : Option Str) : Bool :=
  decide (scope.kind = .function) && (!scope.isCoroutine && (!scope.isGenerator && ((scope.names.all fun y => !decide (y.2 = .cell) && ((!decide (y.2 = .local) || decide (nm = some y.1)) && (!decide (y.2 = .free) || (decide (sc.names.lookup y.1 = some .cell) || decide (sc.names.lookup y.1 = some .free))))) &&
    (match nm with | none => true | some x => decide (scope.names.lookup x = some .local)))))
theorem lamS1_by {sc scope : Scope} {nm : Option Str} (h : lamS1B sc scope nm = true) : LamS1 sc scope nm := by
  unfold lamS1B at h
  simp only [Bool.and_eq_true, Bool.or_eq_true, Bool.not_eq_true', decide_eq_true_eq, decide_eq_false_iff_not, List.all_eq_true] at h
  obtain ⟨h1, h2, h3, h4, h5⟩ := h
  refine ⟨h1, h2, h3, fun y hy => (h4 y hy).1, fun y hy e => ?_, fun y hy e => ?_, fun x e => ?_⟩
  · rcases (h4 y hy).2.1 with z | z
    · exact absurd e z
    · exact z
  · rcases (h4 y hy).2.2 with z | z
    · exact absurd e z
    · exact z
  · subst e
    exact of_decide_eq_true h5
theorem LamS1.has {X : Cx} {scope : Scope} {nm : Option Str} (L : LamS1 X.env.scope scope nm) (ok : X.Ok) : ∀ y ∈ scope.names, y.2 = .free → ∃ c, X.env.cells.lookup y.1 = some c := fun y hy e => by
  rcases L.free y hy e with k | k
  · exact ok.has _ (.inl k)
  · exact ok.has _ (.inr k)
section
variable {X : Cx} {pins : List (Addr × Obj)} {σ : L2.St} {H HZ : Hp} {s s1 : Shared} {Z : LamZ} {i : Nat}
theorem inv_lm {o : Obj} {t' : Nat} {c' : Addr} {d : Option Addr} {doc pm ctv : Value} (I : Inv X pins σ H s)
    (ho : o = PySem.W.kdv_obj "<lambda>" Z.q (Z.sp i).params (.expr (Z.sp i).body) (Z.sp i).scope (cloFrom Z.cells (Z.sp i).scope.names []) (dVal d) doc pm c' ctv) :
    Inv X pins σ (upd H s.heap.objs.size (LmO Z i s.heap.objs.size c' d)) { s with heap := s.heap.push o, toks := t' } := by
  subst ho
  refine I.laid (a := s.heap.objs.size) (fun b u e => Heap.get?_push_of_some _ e) (Nat.le_refl _) ?_
  have e : (s.heap.push (PySem.W.kdv_obj "<lambda>" Z.q (Z.sp i).params (.expr (Z.sp i).body) (Z.sp i).scope (cloFrom Z.cells (Z.sp i).scope.names []) (dVal d) doc pm c' ctv)).get? s.heap.objs.size = some (PySem.W.kdv_obj "<lambda>" Z.q (Z.sp i).params (.expr (Z.sp i).body) (Z.sp i).scope (cloFrom Z.cells (Z.sp i).scope.names []) (dVal d) doc pm c' ctv) := Heap.get?_push_size _ rfl
  exact ⟨⟨doc, pm, ctv, e⟩, ⟨_, e⟩, fun h1 h2 ⟨d, p, t, z⟩ st => ⟨d, p, t, st _ z⟩⟩
theorem lamv_tail {c P : Addr} {d : Option Addr} {pos : Pos} {E : Value → Shared → Prop} {Q : Value → Shared → Prop} (I : Inv X pins σ H s) (TB : TabB X.base X.mg c P) (hcode : X.env.code = .ref c) (hT : TabS H P Z.q) (hZ : Z.cells = X.env.cells)
    (hfree : ∀ y ∈ (Z.sp i).scope.names, y.2 = .free → ∃ c, X.env.cells.lookup y.1 = some c)
    (h : ∀ (f c' : Addr) (H1 : Hp) (s' : Shared), Inv X pins σ H1 s' → ExtN H H1 → TabS H1 P Z.q → H1 f = some (LmO Z i f c' d) → H1 c' = some (CodeO c' Z.q) → Q (.ref f) s') :
    wpAny (model X.prog X.w) X.A (makeTail "<lambda>" Z.q (Z.sp i).params (.expr (Z.sp i).body) (Z.sp i).scope X.env (dVal d) .none none pos pos.line) Q E s := by
  obtain ⟨ps, hP, ht, ha⟩ := id hT
  have bP : s.heap.BuiltinsAt X.mg P := TB.bm.keeps I.bk
  have hP' : s.heap.get? P = some { cls := .none, data := .fields ps } := I.hok P _ hP
  have ecl : closureFor (Z.sp i).scope X.env = pure (cloFrom Z.cells (Z.sp i).scope.names []) := by
    rw [hZ]
    exact closure_ok hfree
  cases hc : codeAmong pos ps.toList with
  | none =>
    refine PySem.W.kdv_makeTail (mg := X.mg) (c := c) (P := P) (ps := ps) ecl I.ok.glob (I.mod.glob.keeps I.bk) hcode (TB.code.keeps I.bk) hP' ht hc TB.gP bP fun c' ctv doc h' tk hx hge hlt hrec htb => ?_
    obtain ⟨c2, oc, vs, t, e2, hoc, hd, hv⟩ := hrec
    cases e2
    have nC : H c' = none := I.hok.fresh hge
    have I1 := inv_table (t' := tk) (more := #[rawInt pos.line, rawInt pos.col, .ref c']) (h' := h') I hP (fun b o hb e => hx b o hb e) htb hge ⟨oc, vs, t, hoc, hd, hv⟩
    have hE : ExtN H (upd (upd H P (.tbl (ps ++ #[rawInt pos.line, rawInt pos.col, .ref c']))) c' (CodeO c' Z.q)) := fun b o e n => by
      rw [upd_ne (ne_of_none e nC), upd_ne (fun z => n ps (Option.some.inj (e.symm.trans (by rw [z]; exact hP))))]
      exact e
    have eL : (ps ++ #[rawInt pos.line, rawInt pos.col, .ref c']).toList = ps.toList ++ [rawInt pos.line, rawInt pos.col, .ref c'] := by simp
    have T1 : TabS (upd (upd H P (.tbl (ps ++ #[rawInt pos.line, rawInt pos.col, .ref c']))) c' (CodeO c' Z.q)) P Z.q := by
      refine ⟨_, by rw [upd_ne (ne_of_none hP nC), upd_same], by rw [eL]; exact PySem.TriplesOk_snoc _ _ _ _ ht, fun p' cv hcv => ?_⟩
      rw [eL] at hcv
      rcases among_app _ ht hcv with z | z
      · obtain ⟨c0, e1, e2⟩ := ha p' cv z
        exact ⟨c0, e1, hE _ _ e2 codeO_ne⟩
      · exact ⟨c', z, upd_same⟩
    have nF := I1.hok.fresh (Nat.le_refl _)
    have I2 := inv_lm (Z := Z) (i := i) (c' := c') (d := d) (t' := tk) (doc := doc) (pm := (X.mg "__name__").getD .none) (ctv := ctv) I1 rfl
    refine h h'.objs.size c' _ _ I2 (fun b o e n => ?_) (T1.ext fun b o e => ?_) upd_same ?_
    · have e1 := hE b o e n
      exact (upd_ne (ne_of_none e1 nF)).trans e1
    · exact (upd_ne (ne_of_none e nF)).trans e
    · exact (upd_ne (Nat.ne_of_lt hlt)).trans upd_same
  | some cv =>
    obtain ⟨c', e, hco⟩ := ha pos cv hc
    subst e
    refine PySem.W.kdv_makeTailHit (mg := X.mg) (c := c) (P := P) (ps := ps) ecl I.ok.glob (I.mod.glob.keeps I.bk) hcode (TB.code.keeps I.bk) hP' ht hc bP fun ctv doc h' tk hx hsz => ?_
    have I1 : Inv X pins σ H { s with heap := h', toks := tk } := I.kept hx
    have nF : H h'.objs.size = none := I1.hok.fresh (Nat.le_refl _)
    have I2 := inv_lm (Z := Z) (i := i) (c' := c') (d := d) (t' := tk) (doc := doc) (pm := (X.mg "__name__").getD .none) (ctv := ctv) I1 rfl
    refine h h'.objs.size c' _ _ I2 (fun b o e n => ?_) (hT.ext fun b o e => ?_) upd_same ?_
    · exact (upd_ne (ne_of_none e nF)).trans e
    · exact (upd_ne (ne_of_none e nF)).trans e
    · exact (upd_ne (ne_of_none hco nF)).trans hco
end
/-- the reading of a lambda as a value -/
def tLamV (Z : LamZ) (P : Addr) (i : Nat) : TE := fun σ H Q => TabS H P Z.q ∧ ∀ (H1 : Hp) (f : Addr), ExtN H H1 → TabS H1 P Z.q → IsLam Z i f H1 → Q (.ref f) H1
section
variable {X : Cx} {Z : LamZ} {i : Nat} {c P : Addr} {params : Arguments} {body : Expr} {scope : Scope} {pos : Pos}
theorem pe_lamV0 (hs : Z.sp i = ⟨params, body, scope, none⟩) (TB : TabB X.base X.mg c P) (hcode : X.env.code = .ref c) (hZ : Z.cells = X.env.cells) (hq : Z.q = X.env.qual ++ "<lambda>") (L : LamS1 X.env.scope scope none) (hdef : defaultsOf params X.env = ([], [])) :
    PE X (.Lambda params body scope pos) (tLamV Z P i) := by
  refine ⟨fun pins s σ H Q I h => ?_⟩
  obtain ⟨hT, h⟩ := h
  refine PySem.W.kla_eval hdef ?_
  rw [makeFunction_eq]
  simp only [List.zip_nil_right, List.filterMap_nil, List.isEmpty_nil, if_true, pure_bind]
  have e1 : params = (Z.sp i).params := by rw [hs]
  have e2 : body = (Z.sp i).body := by rw [hs]
  have e3 : scope = (Z.sp i).scope := by rw [hs]
  have L' := L.has I.ok
  rw [← hq, e1, e2, e3]
  rw [e3] at L'
  exact lamv_tail (d := none) I TB hcode hT hZ L' fun f c' H1 s' I1 eN T1 hf hco => ⟨.ref f, H1, I1, rfl, h H1 f eN T1 ⟨c', none, hf, hco, .inl ⟨by rw [hs], rfl⟩⟩⟩
end
end Wm
end

section
/-! ## A kept lambda, called by the def that got it -/
namespace Wm
open PySem PySem.Spec PyProof.Rows L2 StX LamX
/-- the frame's cells, kept till s1 -/
def CellsK (X : Cx) (s : Shared) (H : Hp) (s1 : Shared) (HZ : Hp) : Prop := ∀ y c v, X.env.cells.lookup y = some c → s.heap.IsCell c v → s1.heap.IsCell c v ∧ HZ c = none
section
variable {X : Cx} {pins : List (Addr × Obj)} {σ : L2.St} {H HZ : Hp} {s s1 : Shared}
theorem cellsK_by {fs ex : List Addr} (I : Inv X pins σ H s) (un : Un fs ex H HZ s.heap s1.heap) (hx : ∀ b ∈ ex, ∀ y c, X.env.cells.lookup y = some c → c ≠ b) : CellsK X s H s1 HZ := fun y c v e ⟨o, ho, hd⟩ => by
  have nx : c ∉ ex := fun z => hx c z y c e rfl
  obtain ⟨sl, q⟩ := un.any ho (I.freeC y c e) nx
  exact ⟨⟨_, q, hd⟩, un.free c o ho (I.freeC y c e) nx⟩
theorem lam_start3 {A : Around} {outer : List Env} {E : XK} {scope : Scope} {nm : Option Str} {f c' : Addr} {h₁ : Heap} {tk : Nat} {binds : List (Str × Value)} (I : Inv X pins σ H s) (L : LamS1 X.env.scope scope nm) (hN : ∀ x, nm = some x → x ∉ X.N) (e0 : Env0 X.prog X.w X.K X.mg X.base A outer s1 HZ) (hd : A.handled = none)
    (ck : CellsK X s H s1 HZ) (hns : h₁.Ns s1.heap.objs.size fun y => binds.reverse.lookup y) (kp : ∀ b o, s1.heap.get? b = some o → h₁.get? b = some o) :
    Inv (lamCx X A outer s1 HZ E scope f c') [] σ HZ { s1 with heap := h₁, toks := tk } := by
  have hfree := L.has I.ok
  have cm : ∀ {y c}, (cloFrom X.env.cells scope.names []).lookup y = some c → X.env.cells.lookup y = some c := fun {y c} e => by
    rcases cloFrom_mem (PySem.mem_of_lookup e) with hm | ⟨h1, h2⟩
    · cases hm
    · obtain ⟨c1, hc⟩ := hfree _ h1 rfl
      have hc : X.env.cells.lookup y = some c1 := hc
      have e2 : c = c1 := by
        rw [h2, hc] <;> rfl
      rw [e2]
      exact hc
  have look : ∀ {y}, scope.names.lookup y = some .free → ∃ c, (cloFrom X.env.cells scope.names []).lookup y = some c := fun {y} hl => by
    have hy : (y, NameKind.free) ∈ scope.names := PySem.mem_of_lookup hl
    exact mem_lookup (cloFrom_has (cells := X.env.cells) (acc := []) hy)
  have cellK : ∀ {y : Str} {c : Addr} {v : Option Value}, X.env.cells.lookup y = some c → s.heap.IsCell c v → h₁.IsCell c v := fun {y c v} n z => by
    obtain ⟨o, ho, hd⟩ := (ck y c v n z).1
    exact ⟨_, kp _ _ ho, hd⟩
  have noA : ∀ b : Addr, b ∉ (lamCx X A outer s1 HZ E scope f c').ex := fun b z => absurd (show b ∈ ([] : List Addr) from z) (by simp)
  refine ⟨⟨e0.mod, L.kind, rfl, rfl, Nat.le_refl _, fun y z c e1 e2 => I.ok.inj y z c (cm e1) (cm e2), fun y hy => ?_, fun y c z _ => ?_, fun _ => hd, Around.frames_deeper e0.frames, .inr ⟨rfl, rfl⟩, fun b z => absurd z (noA b), e0.bs, e0.bsz, fun b _ _ => noA b,
      fun b z => absurd z (noA b), e0.funs, e0.frf⟩,
    rfl, e0.bare, Un.kept kp, ⟨_, hns, fun i y v e1 e2 e3 => ?_⟩, fun y c e => ?_, e0.hok.fresh (Nat.le_refl _), fun y c e => ?_, fun q hq => absurd (show q ∈ ([] : List (Addr × Obj)) ++ [] from hq) (by simp), e0.hok.kept kp, I.len⟩
  · have hy : scope.names.lookup y = some .cell ∨ scope.names.lookup y = some .free := hy
    rcases hy with hy | hy
    · exact absurd rfl (L.cell _ (PySem.mem_of_lookup hy))
    · exact look hy
  · have z : false = true := z
    cases z
  · have e3 : Vis scope y := e3
    rcases e3 with k | k | k
    · exact absurd (List.mem_of_getElem? e1) (hN y (L.loc _ (PySem.mem_of_lookup k) rfl))
    · exact absurd rfl (L.cell _ (PySem.mem_of_lookup k))
    · obtain ⟨m, hn, hl⟩ := I.loc
      have hvis : Vis X.env.scope y := (L.free _ (PySem.mem_of_lookup k) rfl).elim (fun k => .inr (.inl k)) (fun k => .inr (.inr k))
      obtain ⟨w', r, q⟩ := hl i y v e1 e2 hvis
      obtain ⟨c2, h2⟩ := look k
      refine ⟨w', r, .inr ⟨.inr k, c2, h2, ?_⟩⟩
      have c1 := cm h2
      rcases q with ⟨k', _⟩ | ⟨_, c3, e', z⟩
      · have k' : X.env.scope.names.lookup y = some .local := k'
        rcases L.free _ (PySem.mem_of_lookup k) rfl with k2 | k2 <;> rw [show X.env.scope.names.lookup y = _ from k2] at k' <;> cases k'
      · rw [c1] at e'
        cases e'
        exact cellK c1 z
  · obtain ⟨w', z⟩ := I.cell y c (cm e)
    exact ⟨w', cellK (cm e) z⟩
  · obtain ⟨v, z⟩ := I.cell y c (cm e)
    exact (ck y c v (cm e) z).2
end
/-- what is asked of the frame's lambda i with the reading t -/
structure LamOk (X : Cx) (Z : LamZ) (k i : Nat) (t : XK → TE) : Prop where
  L : LamS1 X.env.scope (Z.sp i).scope (Z.sp i).nm
  nN : ∀ x, (Z.sp i).nm = some x → x ∉ X.N
  bind0 : (Z.sp i).nm = none → ∀ (cl : List (Str × Addr)) (doc pm cdv ctv : Value), bindArgs (PySem.W.kdv_fn "<lambda>" Z.q (Z.sp i).params (.expr (Z.sp i).body) (Z.sp i).scope cl .none doc pm cdv ctv) ⟨[], []⟩ = pure []
  bind1 : ∀ x, (Z.sp i).nm = some x → ∀ (cl : List (Str × Addr)) (doc pm cdv ctv : Value) (T : Addr) (v : Value), ∃ kk, bindArgs (PySem.W.kdv_fn "<lambda>" Z.q (Z.sp i).params (.expr (Z.sp i).body) (Z.sp i).scope cl (.ref T) doc pm cdv ctv) ⟨[], []⟩ = seqItems? (.ref T) >>= kk ∧ kk (some #[v]) = pure [(x, v)]
  body : ∀ (A : Around) (outer : List Env) (s : Shared) (H : Hp) (E : XK) (f c' : Addr), Room k (A.deeper (lamEnv X (Z.sp i).scope s.heap.objs.size f c')) → PE (lamCx X A outer s H E (Z.sp i).scope f c') (Z.sp i).body (t E)
def LamsFrom (X : Cx) (Z : LamZ) (k n : Nat) (ts : List (XK → TE)) : Prop := ∀ i t, ts[i]? = some t → LamOk X Z k (n + i) t
theorem lams_nil {X : Cx} {Z : LamZ} {k n : Nat} : LamsFrom X Z k n [] := fun i t h => by cases h
theorem lams_cons {X : Cx} {Z : LamZ} {k n : Nat} {t : XK → TE} {r : List (XK → TE)} (a : LamOk X Z k n t) (b : LamsFrom X Z k (n + 1) r) : LamsFrom X Z k n (t :: r) := fun i u h => by
  cases i with
  | zero => cases h; exact a
  | succ i =>
    have := b i u h
    rw [show n + 1 + i = n + (i + 1) by omega] at this
    exact this
theorem lamOk0 {X : Cx} {Z : LamZ} {k i : Nat} {t : XK → TE} {params : Arguments} {body : Expr} {scope : Scope} (hs : Z.sp i = ⟨params, body, scope, none⟩) (L : LamS1 X.env.scope scope none)
    (hb : ∀ (cl : List (Str × Addr)) (doc pm cdv ctv : Value), bindArgs (PySem.W.kdv_fn "<lambda>" Z.q params (.expr body) scope cl .none doc pm cdv ctv) ⟨[], []⟩ = pure [])
    (hbody : ∀ (A : Around) (outer : List Env) (s : Shared) (H : Hp) (E : XK) (f c' : Addr), Room k (A.deeper (lamEnv X scope s.heap.objs.size f c')) → PE (lamCx X A outer s H E scope f c') body (t E)) : LamOk X Z k i t := by
  refine ⟨by rw [hs]; exact L, fun x e => ?_, fun _ => by rw [hs]; exact hb, fun x e => ?_, by rw [hs]; exact hbody⟩
  · rw [hs] at e; cases e
  · rw [hs] at e; cases e
section
variable {X : Cx} {pins : List (Addr × Obj)} {σ : L2.St} {H : Hp} {s : Shared} {Z : LamZ} {i k : Nat} {t : XK → TE}
theorem pe_actV {CXg : CXT} {A' : Around} {st' : List Env} {s0 : Shared} {H0 : Hp} {Eg : XK} {Ng : List Str} {qg : Str} {sg : Scope} {g f c' : Addr} {d : Option Addr} {cdg : Value} {j : Nat} {a : Str} {pn : List (Addr × Obj)} {xe : Value → Shared → Prop} {W : WX} {E : XK} {p1 p2 : Pos}
    (I : Inv X pins σ H0 s0) (K : LamOk X Z k i t) (hZ : Z.cells = X.env.cells) (hq : Z.q = X.env.qual ++ "<lambda>")
    (tk : Takes ((cxOf CXg X.prog X.w X.K X.mg X.base Ng qg sg g cdg A' st' s H Eg).tr pn xe) W) (hW : ∀ cls d σ' H', E cls d H' → W cls d σ' H') (hr : Room (k + 1) (A'.deeper (envOfC qg sg s.heap.objs.size g cdg)))
    (ck : ∀ pinsZ σZ HZ s1, Inv ((cxOf CXg X.prog X.w X.K X.mg X.base Ng qg sg g cdg A' st' s H Eg).tr pn xe) pinsZ σZ HZ s1 → CellsK X s0 H0 s1 HZ) (hN : Ng[j]? = some a) (hv : Vis sg a) (hd : (a == ("__debug__" : Str)) = false := by decide) (hcd : (a == ("__classdict__" : Str)) = false := by decide) :
    PE ((cxOf CXg X.prog X.w X.K X.mg X.base Ng qg sg g cdg A' st' s H Eg).tr pn xe) (.Call (.Name a p1) [] [] p2)
      (fun σZ HZ Q => σZ[j]? = some (some (.ref f)) ∧ HZ c' = some (CodeO c' Z.q) ∧ HZ f = some (LmO Z i f c' d) ∧ DflAt Z i d HZ ∧ t E σ HZ Q) := by
  refine ⟨fun pinsZ sZ σZ HZ Q IZ h => ?_⟩
  obtain ⟨hs, hc, hf, hdf, ht⟩ := h
  refine wpAny_Call_Name_kw (thn ((pe_var (pos := p1) (i := j) hN hv hd hcd).run pinsZ sZ σZ HZ (fun v H1 => v = .ref f ∧ H1 = HZ) IZ ⟨.ref f, hs, rfl, rfl⟩) fun u s1 ⟨v, H1, I1, r1, q1⟩ => ?_)
  obtain ⟨ev, eH⟩ := q1
  subst ev
  rw [eH] at I1
  obtain rfl : u = Value.ref f := r1
  obtain ⟨doc, pm, ctv, of1⟩ := lmO_at I1.hok hf
  rw [hq, hZ] at of1
  refine PySem.W.callWith_F0 ⟨_, _, _, _, of1⟩ ?_
  have un := ck _ _ _ _ I1
  obtain ⟨⟨oc, vs, tt, hoc, hdc, hvc⟩, _, _⟩ := I1.hok c' _ hc
  rw [hq] at hvc
  have bnd : ∃ binds, BindsTo s1 (PySem.W.kdv_fn "<lambda>" (X.env.qual ++ "<lambda>") (Z.sp i).params (.expr (Z.sp i).body) (Z.sp i).scope (cloFrom X.env.cells (Z.sp i).scope.names []) (dVal d) doc pm (.ref c') ctv) ⟨[], []⟩ binds ∧ ∀ y ∈ binds, (Z.sp i).scope.names.lookup y.1 = some .local := by
    rcases hdf with ⟨n1, rfl⟩ | ⟨x, T, v, n1, rfl, hT⟩
    · have e := K.bind0 n1 (cloFrom X.env.cells (Z.sp i).scope.names []) doc pm (.ref c') ctv
      rw [hq] at e
      exact ⟨[], BindsTo.of_eq e, fun y hy => by cases hy⟩
    · obtain ⟨_, its, rv, o, ho, _, nn, hdt⟩ := I1.hok T _ hT
      cases rv with
      | cons rx rr =>
        cases rr
        rename_i u0
        obtain ⟨kk, e1, e2⟩ := K.bind1 x n1 (cloFrom X.env.cells (Z.sp i).scope.names []) doc pm (.ref c') ctv T u0
        rw [hq] at e1
        exact ⟨[(x, u0)], BindsTo.of_defaults (k := kk) (T := T) rfl ho hdt e1 e2, fun y hy => by rw [List.mem_singleton.mp hy]; exact K.L.par x n1⟩
  obtain ⟨binds, hbt, hloc⟩ := bnd
  have rc : codeAny (model X.prog X.w) (A'.deeper (envOfC qg sg s.heap.objs.size g cdg)) (.call (.ref f) ⟨[], []⟩) (CR (L2.CX X.prog X.w) (envOfC qg sg s.heap.objs.size g cdg :: st') X.prog X.w HZ s1 Q E) s1 := by
    refine PySem.W.kla_callFunE hr.depth of1 rfl K.L.co K.L.gen rfl ⟨c', oc, vs, tt, rfl, hoc, hdc, hvc⟩ ?_
    refine hbt _ _ _ _ ?_
    refine wpAny_newFunctionEnv K.L.cell hloc (fun h₁ hns hsb => ⟨I1.nolimit.fresh _ hsb, ?_⟩) K.L.kind
    show codeAny _ _ (.expr (Z.sp i).body (lamEnv X (Z.sp i).scope s1.heap.objs.size f c')) _ _
    have kp : ∀ b o, s1.heap.get? b = some o → h₁.get? b = some o := fun b o e => hsb.extBut b o (Nat.ne_of_lt (Heap.lt_size e)) (Heap.get?_push_of_some _ e)
    have J : Inv (lamCx X (A'.deeper (envOfC qg sg s.heap.objs.size g cdg)) (envOfC qg sg s.heap.objs.size g cdg :: st') s1 HZ E (Z.sp i).scope f c') [] σ HZ { s1 with heap := h₁, toks := s1.toks + binds.length } :=
      lam_start3 I K.L K.nN I1.env0 hr.hd un hns kp
    refine PySem.W.kla_codeExpr (wpAny_mono ((K.body _ _ s1 HZ E f c' (hr.deeper _)).run [] _ _ HZ Q J ht) (fun v s' hq => ?_) fun e s' hq => hq)
    obtain ⟨w', H', J', rv, q⟩ := hq
    exact ⟨w', H', J'.os, J'.bare, J'.base, J'.hok, rv, q⟩
  have hx : Passes (L2.CX X.prog X.w) ((cxOf CXg X.prog X.w X.K X.mg X.base Ng qg sg g cdg A' st' s H Eg).tr pn xe) E := passes_call tk hW
  refine wpAny_call (codeAny_mono rc fun r s' hq => ?_)
  cases r with
  | error e => exact hx pinsZ σZ HZ s1 e s' I1 hq
  | ok fl =>
    cases fl with
    | ret u => exact I1.after hq
    | next => exact False.elim hq
    | brk => exact False.elim hq
    | cont => exact False.elim hq
end
/-- x(e), x calls the lambda that e's value is -/
def tErrV (Z : LamZ) (ts : List (XK → TE)) (TT : (XK → Hp → VK → Prop) → Hp → VK → Prop) (te : TE) : TE := fun σ H Q => te σ H fun x H1 => ∃ f i t, x = .ref f ∧ IsLam Z i f H1 ∧ ts[i]? = some t ∧ TT (fun E H' Q' => t E σ H' Q') H1 Q
/-- what a def makes of a lambda is asked at its start alone -/
def TTMono (TT : (XK → Hp → VK → Prop) → Hp → VK → Prop) : Prop := ∀ (tl tl' : XK → Hp → VK → Prop) (H : Hp) (Q : VK), (∀ E Q', tl E H Q' → tl' E H Q') → TT tl H Q → TT tl' H Q
theorem terr_mono {K : PySem.W.Frag} {CS : Addr} {i : Nat} {Ng : List Str} {ts : Addr → Value → Option Addr → TS} {tret : Ends → Hp → Prop} : TTMono (TTerr K CS i Ng ts tret) := fun tl tl' H Q h ⟨Ech, h1, h2⟩ => ⟨Ech, h1, h _ _ h2⟩
section
variable {X : Cx} {Z : LamZ}
theorem pe_errV {TT : (XK → Hp → VK → Prop) → Hp → VK → Prop} {x a : Str} {k j : Nat} {Ng : List Str} {ts : List (XK → TE)} {ea : Expr} {te : TE} {p pos : Pos}
    (D : ErrD X.prog X.w X.K X.mg X.base k x Ng a TT) (hm : TTMono TT) (hr : Room j X.A) (hk : k + 2 ≤ j) (hg : Gl X x) (hZ : Z.cells = X.env.cells) (hq : Z.q = X.env.qual ++ "<lambda>") (ha : PE X ea te) (hL : LamsFrom X Z k 0 ts)
    (he : starEach [ea] X.env = (false, eval ea X.env) :: starEach [] X.env := by rfl)
    (hdb : (x == ("__debug__" : Str)) = false := by decide) (hd : (a == ("__debug__" : Str)) = false := by decide) (hcd : (a == ("__classdict__" : Str)) = false := by decide) :
    PE X (.Call (.Name x p) [ea] [] pos) (tErrV Z ts TT te) := by
  obtain ⟨st, fe, fd, F, hm1, kp, bd, S, h0, hv, G⟩ := D.ex
  obtain ⟨oc, od, dV, kV, doc, pm, an, cdv, ct, osl, rfl, lk, hcg, hD, _⟩ := F.ex
  refine ⟨fun pins s σ H Q I h => ?_⟩
  refine wpAny_Call_Name_kw (ld_glob I hg hm1 ?_ hdb)
  refine PySem.W.callWith_K (h₀ := X.base) I.ok.mod.kin kp ?_ he (by rfl)
  rw [he]
  show wpAny _ _ (spliced ((false, eval ea X.env) :: backTo pos (starEach [] X.env))) _ _ s
  refine Calls.spliced_cons (thn (ha.run pins s σ H _ I h) fun u s1 ⟨v, H1, I1, r1, q1⟩ => ?_)
  obtain ⟨f, i, t, rfl, il, ht, hTT⟩ := q1
  obtain rfl : u = Value.ref f := r1
  refine Calls.spliced_nil ⟨I1.kIn, ?_⟩
  obtain ⟨c', d, hf, hco, hdf⟩ := il
  have LO : LamOk X Z k i t := by
    have := hL i t ht
    rw [Nat.zero_add] at this
    exact this
  have rc : codeAny (model X.prog X.w) X.A (.call (.ref fe) ⟨[.ref f], []⟩) (CR C8.CX0 X.stack X.prog X.w H1 s1 Q C8.E0) s1 := by
    refine run_ofS (N := Ng) (ps := [a]) (us := [.ref f]) (vs := [.ref f]) (k := k + 1) lk hcg S (hr.mono hk) I1.env0 (bd s1 [.ref f] I1.kIn rfl) (.cons rfl .nil) rfl fun hr' => ?_
    obtain ⟨t', ht', hq'⟩ := G X rfl rfl rfl rfl rfl (hr.mono (by omega)) cdv Z.q f c' s1 H1 Q (fun E H' Q' => H' f = some (LmO Z i f c' d) ∧ DflAt Z i d H' ∧ t E σ H' Q')
      (fun W pn xe E p1 p2 tk hW => pe_actV (j := 0) I1 LO hZ hq tk hW hr' (fun _ _ _ s2 I2 => cellsK_by (s1 := s2) I1 I2.base fun b z => by cases z) h0 hv hd hcd) hco (hm _ _ _ _ (fun E Q' z => ⟨hf, hdf, z⟩) hTT)
    exact ⟨t', ht'.nox, hq'⟩
  refine wpAny_call (codeAny_mono rc fun r s2 hq => ?_)
  cases r with
  | error e => exact (show False from hq).elim
  | ok fl =>
    cases fl with
    | ret u => exact I1.after hq
    | next => exact False.elim hq
    | brk => exact False.elim hq
    | cont => exact False.elim hq
end
end Wm
namespace Wm
open PySem PySem.Spec PyProof.Rows L2 StX LamX
def lsp0 : LSp := ⟨⟨[], [], none, [], [], none, []⟩, .Constant .none 0 ⟨0, 0, 0, 0⟩, ⟨.function, [], false, false, []⟩, none⟩
def spL (l : List LSp) : Nat → LSp := fun i => l.getD i lsp0
theorem with_lams {X : Cx} {Z : LamZ} {k : Nat} {ts : List (XK → TE)} {α : Prop} (f : LamsFrom X Z k 0 ts → α) (a : LamsFrom X Z k 0 ts) : α := f a
/-! ### a def of two promises -/
def spOr (a b : Sp) : Sp := fun vs H Q E => a vs H Q E ∨ b vs H Q E
section
variable {P : Program} {w : World} {K : PySem.W.Frag} {mg : Str → Option Value} {base : Heap} {CX : CXT} {k : Nat} {f : Addr} {fd : FuncData} {ps : List Str} {sp1 sp2 : Sp}
theorem FnOk.or (a : FnOk P w K mg base CX k f fd ps sp1) (b : FnOk P w K mg base CX k f fd ps sp2) : FnOk P w K mg base CX k f fd ps (spOr sp1 sp2) :=
  ⟨fun vs H Q E h => h.elim (a.len vs H Q E) (b.len vs H Q E), fun A outer s H args us vs Q E hr e0 hb r h => h.elim (a.run A outer s H args us vs Q E hr e0 hb r) (b.run A outer s H args us vs Q E hr e0 hb r)⟩
end
/-! ### what is never reached -/
theorem pss_never {X : Cx} {sts : List Stmt} : PSs X sts tNever := ⟨fun _ _ _ _ _ _ h => h.elim⟩
def spD (ds : List V) (sp : Sp) : Sp := fun vs H Q E => sp (vs ++ ds) H Q E
end Wm
end

section
/-! ## A kept lambda, called from a list comprehension of the def that made it -/
namespace Wm
open PySem PySem.Spec PyProof.Rows L2 StX LamX
/-- x(e), x calls the lambda that e's value is; σ0: the maker's slots -/
def tErrVA (σ0 : L2.St) (Z : LamZ) (ts : List (XK → TE)) (TT : (XK → Hp → VK → Prop) → Hp → VK → Prop) (te : TE) : TE := fun σ H Q => te σ H fun x H1 => ∃ f i t, x = .ref f ∧ IsLam Z i f H1 ∧ ts[i]? = some t ∧ TT (fun E H' Q' => t E σ0 H' Q') H1 Q
section
variable {X : Cx} {Z : LamZ} {pins0 : List (Addr × Obj)} {σ0 : L2.St} {s0 : Shared} {H0 : Hp} {bs : Scope} {ce : Env} {fp : List Addr}
end
/-! ### a list comprehension whose element looks at the maker's slots -/
def tLcE (wi : TI) (g : TG) (tt : TT) (te : L2.St → TE) (vs : List Nat) : TE := fun σ H Q => tLc wi g tt (te σ) vs σ H Q
section
variable {X : Cx}
end
end Wm
end

section
/-! ## Class methods: what the top has made -/
namespace Wm
open PySem PySem.Spec PyProof.Rows L2 StX ClX
/-- the def behind the class method x.f -/
def cmAd (K : PySem.W.Frag) (x f : Str) : Addr := match PySem.W.recIn K (pAd K x f) "classmethod" with
  | some (.ref g :: _) => g
  | _ => 0
def isCm (K : PySem.W.Frag) (p : Addr) : Bool := match PySem.W.recIn K p "classmethod" with
  | some (.ref _ :: _) => true
  | _ => false
def cmFound (K : PySem.W.Frag) (x f : Str) : Bool := match PySem.W.findCls K (.ref (He.ga K x)) (.type "type") f with
  | some (.get (.builtin n) (.ref p) .none (.ref C)) => n == "classmethod.__get__" && p == pAd K x f && C == He.ga K x
  | _ => false
def cmOk (K : PySem.W.Frag) (d : PrpD) : Bool := PySem.W.readsIn K (He.ga K d.cls) (.type "type") && (He.eqO (PySem.W.specialIn K (.ref (He.ga K d.cls)) "__getattribute__") (some (some (.builtin "type.__getattribute__"))) &&
  (cmFound K d.cls d.name && (isCm K (pAd K d.cls d.name) && (PySem.W.fnIn K (cmAd K d.cls d.name) && (PySem.W.keepIn K (.ref (cmAd K d.cls d.name)) && codeB K (cmAd K d.cls d.name) d.qual)))))
def SaysC (ps : List PrpD) (K : PySem.W.Frag) : Prop := (ps.all fun d => cmOk K d) = true ∧ ps.map (fun d => fnA K (cmAd K d.cls d.name)) = ps.map PrpD.val
end Wm
end

section
/-! ## Operators that an own class defines -/
namespace Wm
open PySem PySem.Spec PyProof.Rows L2 StX
/-- the method behind an operator: a promise, and where it stands -/
structure DunR (P : Program) (w : World) (K : PySem.W.Frag) (mg : Str → Option Value) (base : Heap) (CX : CXT) (k : Nat) (C : Addr) (m : Str) (sp : Sp) : Prop where
  ex : ∃ f, FnR P w K mg base CX k f sp ∧ PySem.W.findIn K (.ref C) m = some (some (.ref f)) ∧ PySem.W.isFn K (.ref f) = true ∧ PySem.W.fnIn K f = true
/-- x op y of two instances of one class; what comes back is an object -/
def rOwn2 (C : Addr) (sp : Sp) (E : XK) : R2 := fun x y H Q => ∃ a b dx dy fs gs, x = .ref a ∧ y = .ref b ∧ H a = some (.ins C dx fs) ∧ H b = some (.ins C dy gs) ∧ sp [x, y] H (fun v H' => (∃ p, v = .ref p) ∧ Q v H') E
/-- x op n, n an int -/
def rOwnI (C : Addr) (sp : Sp) (E : XK) : R2 := fun x y H Q => ∃ a dx fs i, x = .ref a ∧ y = .int i ∧ H a = some (.ins C dx fs) ∧ sp [x, y] H (fun v H' => (∃ p, v = .ref p) ∧ Q v H') E
def rOwn1 (C : Addr) (sp : Sp) (E : XK) : V → Hp → VK → Prop := fun x H Q => ∃ a dx fs, x = .ref a ∧ H a = some (.ins C dx fs) ∧ sp [x] H Q E
def rOwnIx (C : Addr) (sp : Sp) (E : XK) : R2 := fun x y H Q => ∃ a dx fs, x = .ref a ∧ H a = some (.ins C dx fs) ∧ sp [x, y] H Q E
def rOwnLen (C : Addr) (sp : Sp) (E : XK) : List V → Hp → VK → Prop := fun xs H Q => ∃ a dx fs, xs = [.ref a] ∧ H a = some (.ins C dx fs) ∧ sp [.ref a] H (fun v H' => ∃ n : Int, v = .int n ∧ 0 ≤ n ∧ n < 2 ^ 63 ∧ Q v H') E
section
variable {X : Cx} {CX : CXT} {k j : Nat} {C : Addr} {m : Str} {sp : Sp} {E : XK} {op : Operator} {T : String}
/-- x(e, ..), x a name that holds an instance -/
def tCallI (i : Nat) (C : Addr) (sp : Sp) (E : XK) (t : TA) : TE := fun σ H Q => ∃ a, σ[i]? = some (some (.ref a)) ∧ t σ H fun vs H1 => ∃ dx fs, H1 a = some (.ins C dx fs) ∧ sp (.ref a :: vs) H1 Q E
end
end Wm
end

section
local macro_rules | `(tactic| walk_at "cls") => `(tactic| first | (with_reducible exact Wm.WeatherC.cl (by assumption)) | (with_reducible exact Wm.HeaterC.cl (by assumption)) | (with_reducible exact Wm.RoomC.cl (by assumption)) | (with_reducible exact Wm.RunC.cl (by assumption)) | (with_reducible exact Wm.HistoryC.cl (by assumption)) | (with_reducible exact Wm.ThresholdObserverC.cl (by assumption)) | (with_reducible exact Wm.SettingC.cl (by assumption)) | (with_reducible exact Wm.HourSettingC.cl (by assumption)) | (with_reducible exact Wm.RestSettingC.cl (by assumption)) | (with_reducible exact Wm.PricesC.cl (by assumption)) | (with_reducible exact Wm.MomentC.cl (by assumption)) | (with_reducible exact Wm.LiveRoomC.cl (by assumption)) | (with_reducible exact Wm.AttemptC.cl (by assumption)))
local macro_rules | `(tactic| walk_at "noattr") => `(tactic| first | (with_reducible exact Wm.WeatherC.n_pattern (by assumption)) | (with_reducible exact Wm.HeaterC.n_power (by assumption)) | (with_reducible exact Wm.HeaterC.n_below (by assumption)) | (with_reducible exact Wm.HeaterC.n_above (by assumption)) | (with_reducible exact Wm.RoomC.n_outside (by assumption)) | (with_reducible exact Wm.RoomC.n_inside (by assumption)) | (with_reducible exact Wm.RoomC.n_begin_degrees (by assumption)) | (with_reducible exact Wm.RoomC.n_past (by assumption)) | (with_reducible exact Wm.RoomC.n_repeated (by assumption)) | (with_reducible exact Wm.RoomC.n_share (by assumption)) | (with_reducible exact Wm.RoomC.n_coldest (by assumption)) | (with_reducible exact Wm.RoomC.n_warmest (by assumption)) | (with_reducible exact Wm.RunC.n_begin (by assumption)) | (with_reducible exact Wm.RunC.n_end (by assumption)) | (with_reducible exact Wm.RunC.n_degrees (by assumption)) | (with_reducible exact Wm.RunC.n_is_heating (by assumption)) | (with_reducible exact Wm.RunC.n_sums (by assumption)) | (with_reducible exact Wm.RunC.n_size (by assumption)) | (with_reducible exact Wm.RunC.n_drift (by assumption)) | (with_reducible exact Wm.HistoryC.n_shifts (by assumption)) | (with_reducible exact Wm.HistoryC.n_added (by assumption)) | (with_reducible exact Wm.HistoryC.n_floor (by assumption)) | (with_reducible exact Wm.HistoryC.n_ceiling (by assumption)) | (with_reducible exact Wm.HistoryC.n_was_heating (by assumption)) | (with_reducible exact Wm.HistoryC.n_runs (by assumption)) | (with_reducible exact Wm.HistoryC.n_loop (by assumption)) | (with_reducible exact Wm.ThresholdObserverC.n_outside (by assumption)) | (with_reducible exact Wm.ThresholdObserverC.n_power (by assumption)) | (with_reducible exact Wm.ThresholdObserverC.n_tick (by assumption)) | (with_reducible exact Wm.ThresholdObserverC.n_degrees (by assumption)) | (with_reducible exact Wm.ThresholdObserverC.n_is_heating (by assumption)) | (with_reducible exact Wm.ThresholdObserverC.n_lows (by assumption)) | (with_reducible exact Wm.ThresholdObserverC.n_highs (by assumption)) | (with_reducible exact Wm.ThresholdObserverC.n_noted (by assumption)) | (with_reducible exact Wm.SettingC.n_least (by assumption)) | (with_reducible exact Wm.SettingC.n_most (by assumption)) | (with_reducible exact Wm.HourSettingC.n_least (by assumption)) | (with_reducible exact Wm.HourSettingC.n_most (by assumption)) | (with_reducible exact Wm.HourSettingC.n_length (by assumption)) | (with_reducible exact Wm.HourSettingC.n_hours (by assumption)) | (with_reducible exact Wm.RestSettingC.n_least (by assumption)) | (with_reducible exact Wm.RestSettingC.n_most (by assumption)) | (with_reducible exact Wm.RestSettingC.n_rest (by assumption)) | (with_reducible exact Wm.PricesC.n_table (by assumption)) | (with_reducible exact Wm.MomentC.n_tick (by assumption)) | (with_reducible exact Wm.MomentC.n_heat (by assumption)) | (with_reducible exact Wm.MomentC.n_on (by assumption)) | (with_reducible exact Wm.MomentC.n_burnt (by assumption)) | (with_reducible exact Wm.MomentC.n_sky (by assumption)) | (with_reducible exact Wm.MomentC.n_stove (by assumption)) | (with_reducible exact Wm.LiveRoomC.n_moment (by assumption)) | (with_reducible exact Wm.LiveRoomC.n_earlier (by assumption)) | (with_reducible exact Wm.LiveRoomC.n_done (by assumption)) | (with_reducible exact Wm.AttemptC.n_live (by assumption)) | (with_reducible exact Wm.AttemptC.n_kept (by assumption)) | (with_reducible exact Wm.AttemptC.n_stack (by assumption)) | (with_reducible exact Wm.AttemptC.n_steps (by assumption)))
local macro_rules | `(tactic| walk_at "at") => `(tactic| first | assumption | exact Wm.Hold.rd (by assumption) (by assumption) | exact Wm.Hold.get (i := 0) (by assumption) rfl | exact Wm.Hold.get (i := 1) (by assumption) rfl | exact Wm.Hold.get (i := 2) (by assumption) rfl | exact Wm.Hold.get (i := 3) (by assumption) rfl | exact Wm.Hold.get (i := 4) (by assumption) rfl)
local macro_rules | `(tactic| walk_at "s1") => `(tactic| first
  | (with_reducible refine Wm.r_seq ?_)
  | (with_reducible refine Wm.r_op ?_)
  | ((with_reducible refine' Wm.r_var ?h ?_); (case h => rfl))
  | (with_reducible refine Wm.r_c ?_)
  | (with_reducible refine Wm.r_I0 ?_)
  | (with_reducible refine Wm.r_cons ?_)
  | (with_reducible refine Wm.r_nil ?_)
  | (with_reducible refine Wm.r_asg ?_)
  | (with_reducible refine Wm.r_gname ?_; try simp only [List.set_cons_zero, List.set_cons_succ])
  | (with_reducible refine Wm.r_nx ?_)
  | (with_reducible refine Wm.r_rt ?_)
  | (with_reducible refine Wm.r_ret ?_)
  | (with_reducible refine Wm.r_test ?_)
  | (with_reducible refine Wm.r_bl ?_)
  | (with_reducible refine Wm.r_B ?_)
  | (with_reducible refine Wm.r_eqI ?_)
  | (with_reducible refine Wm.r_neI ?_)
  | (with_reducible refine Wm.r_eqB ?_)
  | (with_reducible refine Wm.r_neB ?_)
  | (with_reducible refine Wm.r_fld ?_)
  | (with_reducible refine Wm.r_call ?_)
  | (with_reducible refine Wm.r_mtd ?_)
  | (with_reducible refine Wm.r_prp ?_)
  | (with_reducible refine Wm.r_mak ?_)
  | (with_reducible refine Wm.r_makKw ?_)
  | (with_reducible refine Wm.r_cb ?_)
  | (with_reducible refine Wm.r_tup ?_)
  | (with_reducible refine Wm.r_lst ?_)
  | (with_reducible refine Wm.r_chain ?_)
  | (with_reducible refine Wm.r_and ?_)
  | (with_reducible refine Wm.r_or ?_)
  | (with_reducible refine Wm.r_not ?_)
  | (with_reducible refine Wm.r_andV ?_)
  | (with_reducible refine Wm.r_orV ?_)
  | (with_reducible refine Wm.r_notV ?_)
  | (with_reducible refine Wm.r_if ?_)
  | (with_reducible refine Wm.r_un ?_)
  | (with_reducible refine Wm.r_U ?_)
  | (with_reducible refine Wm.r_iteT ?_)
  | (with_reducible refine Wm.r_iteF ?_)
  | (with_reducible refine Wm.r_next ?_)
  | (with_reducible refine Wm.r_drop ?_)
  | (with_reducible refine Wm.r_retN ?_)
  | ((with_reducible refine' Wm.r_aug ?h ?_); (case h => rfl))
  | (with_reducible refine Wm.r_ipI ?_)
  | (with_reducible refine Wm.r_par2 ?_)
  | (with_reducible refine Wm.r_two ?_; try simp only [List.set_cons_zero, List.set_cons_succ])
  | (with_reducible refine Wm.r_yes ?_)
  | (with_reducible refine Wm.r_forET ?_)
  | (with_reducible refine Wm.r_chain3 ?_)
  | (with_reducible refine Wm.r_nT ?_)
  | (with_reducible refine Wm.r_nF ?_)
  | (with_reducible refine Wm.r_par3 ?_)
  | (with_reducible refine Wm.r_seenPut ?_)
  | (with_reducible refine Wm.r_seenGet ?_)
  | (with_reducible refine Wm.r_three ?_; try simp only [List.set_cons_zero, List.set_cons_succ])
  | (with_reducible refine Wm.r_sl ?_)
  | (with_reducible refine Wm.r_nopart ?_)
  | (with_reducible refine Wm.r_part ?_)
  | (with_reducible refine Wm.r_xi ?_)
  | (with_reducible refine Wm.r_gcons ?_)
  | (with_reducible refine Wm.r_gnil ?_)
  | (with_reducible refine Wm.r_sub ?_)
  | (with_reducible refine Wm.r_setF ?_)
  | (with_reducible refine Wm.r_app ?_)
  | (with_reducible refine Wm.int_i ?_)
  | (with_reducible refine Wm.int_b ?_)
  | (with_reducible refine Wm.min2 ?_)
  | (with_reducible refine Wm.max2 ?_)
  | (with_reducible refine Wm.abs1 ?_)
  | (with_reducible refine Wm.isN ?_)
  | (with_reducible refine Wm.notN ?_)
  | ((with_reducible refine' Wm.r_ty ?e ?_); (case e => walk_at "at"))
  | ((with_reducible refine' Wm.setF_m ?h 0 ?e ?c ?a ?l ?_); (case h => assumption); (case e => rfl); (case c => walk_at "cls"); (case a => walk_at "noattr"); (case l => exact of_decide_eq_true rfl); intro H1 hh1; simp only [List.set_cons_zero, List.set_cons_succ] at hh1)
  | ((with_reducible refine' Wm.setF_m ?h 1 ?e ?c ?a ?l ?_); (case h => assumption); (case e => rfl); (case c => walk_at "cls"); (case a => walk_at "noattr"); (case l => exact of_decide_eq_true rfl); intro H1 hh1; simp only [List.set_cons_zero, List.set_cons_succ] at hh1)
  | ((with_reducible refine' Wm.setF_m ?h 2 ?e ?c ?a ?l ?_); (case h => assumption); (case e => rfl); (case c => walk_at "cls"); (case a => walk_at "noattr"); (case l => exact of_decide_eq_true rfl); intro H1 hh1; simp only [List.set_cons_zero, List.set_cons_succ] at hh1)
  | ((with_reducible refine' Wm.setF_m ?h 3 ?e ?c ?a ?l ?_); (case h => assumption); (case e => rfl); (case c => walk_at "cls"); (case a => walk_at "noattr"); (case l => exact of_decide_eq_true rfl); intro H1 hh1; simp only [List.set_cons_zero, List.set_cons_succ] at hh1)
  | (with_reducible refine Wm.r_forL ?_)
  | (with_reducible refine Wm.r_forT ?_)
  | (with_reducible refine Wm.r_forR1 ?_)
  | (with_reducible refine Wm.r_forR2 ?_)
  | (with_reducible refine Wm.r_forR3 ?_)
  | (with_reducible refine Wm.r_lcL ?_)
  | (with_reducible refine Wm.r_lcT ?_)
  | (with_reducible refine Wm.r_lcR1 ?_)
  | (with_reducible refine Wm.r_lcR2 ?_)
  | ((with_reducible refine' Wm.fld_h ?e ?c ?n ?l ?_); (case e => walk_at "at"); (case c => walk_at "cls"); (case n => walk_at "noattr"); (case l => rfl))
  | ((with_reducible refine' Wm.mtd_h ?e ?l ?_); (case e => walk_at "at"); (case l => rfl))
  | ((with_reducible refine' Wm.prp_h ?e ?_); (case e => walk_at "at"))
  | ((with_reducible refine' Wm.rix_ht ?a ?b ?_); (case a => walk_at "at"); (case b => rfl))
  | ((with_reducible refine' Wm.rix_h ?a ?b ?_); (case a => walk_at "at"); (case b => rfl))
  | ((with_reducible refine' Wm.len_ht ?a ?_); (case a => walk_at "at"))
  | ((with_reducible refine' Wm.len_h ?a ?_); (case a => walk_at "at"))
  | ((with_reducible refine' Wm.len_l ?a ?b ?_); (case a => assumption); (case b => assumption))
  | ((with_reducible refine' Wm.len_t ?a ?b ?_); (case a => assumption); (case b => assumption))
  | ((with_reducible refine' Wm.gtup_h ?a ?b ?_); (case a => walk_at "at"); (case b => rfl))
  | (with_reducible refine Wm.r_I (Wm.cmulR (by decide)) ?_)
  | (with_reducible refine Wm.r_I (Wm.cmulL (by decide)) ?_)
  | (with_reducible refine Wm.r_I (Wm.cdiv (by decide) (by decide)) ?_)
  | (with_reducible refine Wm.r_I Wm.cpow18 ?_)
  | (with_reducible refine Wm.r_I Wm.cpow12 ?_)
  | (with_reducible refine Wm.r_I (by show (0 : Int) < _; decide) ?_))
local macro_rules | `(tactic| walk_at "s") => `(tactic| repeat (first | walk_at "s1" | (with_reducible refine Wm.r_ifS ?_)))
local macro_rules | `(tactic| walk_at "t") => `(tactic| repeat (walk_at "s1"))
local macro_rules | `(tactic| walk_at "sz") => `(tactic| exact of_decide_eq_true rfl)
local macro_rules | `(tactic| walk_at "d") => `(tactic| first | (with_reducible refine Wm.r_dT (by omega) ?_) | (with_reducible refine Wm.r_dF (by omega) ?_) | (with_reducible refine Wm.r_dN (by omega) ?_) | (with_reducible refine Wm.r_dM (by omega) ?_))
local macro_rules | `(tactic| walk_at "sd") => `(tactic| repeat (first | walk_at "s1" | (with_reducible refine Wm.r_ifS ?_) | walk_at "d"))
local macro_rules | `(tactic| walk_at "ex") => `(tactic| first
  | assumption
  | exact Wm.Ex.refl _
  | (refine Wm.Ex.trans ?_ (by assumption); walk_at "ex")
  | (refine Wm.Ex.trans ?_ (Wm.Hold.ex (by assumption)); walk_at "ex"))
local macro_rules | `(tactic| walk_at "room") => `(tactic| first
  | assumption
  | (refine' Wm.IsRoom.up ?e ?h; (case h => assumption); (case e => walk_at "ex")))
local macro_rules | `(tactic| walk_at "opt") => `(tactic| first
  | assumption
  | (refine' Wm.OptAt.up ?e ?h; (case h => assumption); (case e => walk_at "ex")))
local macro_rules | `(tactic| walk_at "lst") => `(tactic| first
  | assumption
  | (refine' Wm.Lst.at_ ?h ?e; (case h => assumption); (case e => walk_at "ex"))
  | exact Wm.Hold.get (i := 0) (by assumption) rfl | exact Wm.Hold.get (i := 1) (by assumption) rfl | exact Wm.Hold.get (i := 2) (by assumption) rfl | exact Wm.Hold.get (i := 3) (by assumption) rfl | exact Wm.Hold.get (i := 4) (by assumption) rfl)
local macro_rules | `(tactic| walk_at "tup") => `(tactic| first
  | assumption
  | (refine' Wm.Tup.at_ ?h ?e; (case h => assumption); (case e => walk_at "ex")))
local macro_rules | `(tactic| walk_at "p1") => `(tactic| first
  | (with_reducible refine Wm.r_p18 ?_) | (with_reducible refine Wm.r_p12 ?_) | (with_reducible refine Wm.r_p17 ?_) | (with_reducible refine Wm.r_p15 ?_) | (with_reducible refine Wm.r_p11 ?_) | (with_reducible refine Wm.r_p6 ?_) | (with_reducible refine Wm.r_p5 ?_) | (with_reducible refine Wm.r_p4 ?_) | (with_reducible refine Wm.r_p9 ?_) | (with_reducible refine Wm.r_p13 ?_) | (with_reducible refine Wm.r_p20 ?_) | (with_reducible refine Wm.r_p30 ?_) | (with_reducible refine Wm.r_p16 ?_))
local macro_rules | `(tactic| walk_at "w2") => `(tactic| first
  | ((with_reducible refine' Wm.r_wp ?h ?_); (case h => rfl))
  | ((with_reducible refine' Wm.ap_mtd ?ir ?hl ?_); (case ir => walk_at "room"); (case hl => intros; rfl))
  | ((with_reducible refine' Wm.ap_prp ?ir ?_); (case ir => walk_at "room"))
  | ((with_reducible refine' Wm.ap_temp ?hh ?ir ?t0 ?t1 ?_); (case hh => assumption); (case ir => walk_at "room"); (case t0 => omega); (case t1 => omega); intro H1 hh1)
  | ((with_reducible refine' Wm.ap_on ?hh ?ir ?t0 ?t1 ?_); (case hh => assumption); (case ir => walk_at "room"); (case t0 => omega); (case t1 => omega); intro H1 hh1)
  | ((with_reducible refine' Wm.ap_heats ?hh ?ir ?t0 ?t1 ?_); (case hh => assumption); (case ir => walk_at "room"); (case t0 => omega); (case t1 => omega); intro H1 hh1)
  | ((with_reducible refine' Wm.ap_sws ?hh ?ir ?t0 ?t1 ?_); (case hh => assumption); (case ir => walk_at "room"); (case t0 => omega); (case t1 => omega); intro H1 hh1)
  | ((with_reducible refine' Wm.rix_ht ?a ?b ?_); (case a => walk_at "tup"); (case b => rfl))
  | ((with_reducible refine' Wm.rix_h ?a ?b ?_); (case a => walk_at "lst"); (case b => rfl))
  | ((with_reducible refine' Wm.len_ht ?a ?_); (case a => walk_at "tup"))
  | ((with_reducible refine' Wm.len_h ?a ?_); (case a => walk_at "lst"))
  | ((with_reducible refine' Wm.gtup_h ?a ?b ?_); (case a => walk_at "tup"); (case b => rfl))
  | ((with_reducible refine' Wm.r_I (Wm.cmulL ?h) ?_); (case h => omega))
  | ((with_reducible refine' Wm.r_I (Wm.cmulR ?h) ?_); (case h => omega))
  | ((with_reducible refine' Wm.r_I (Wm.cdiv ?h ?h2) ?_); (case h => omega); (case h2 => omega))
  | ((with_reducible refine' Wm.r_mod ?h ?_); (case h => omega))
  | ((with_reducible refine' Wm.tup_N ?hP ?hh ?_); (case hP => walk_at "sz"); (case hh => assumption); intro p G1 H1 ex1 tp hh1))
local macro_rules | `(tactic| walk_at "w1") => `(tactic| first | walk_at "p1" | walk_at "s1" | walk_at "w2")
local macro_rules | `(tactic| walk_at "w") => `(tactic| repeat (first | walk_at "w1" | (with_reducible refine Wm.r_ifS ?_)))
local macro_rules | `(tactic| walk_at "wl") => `(tactic| ((with_reducible refine' Wm.lst_N ?hP ?hh ?_); (case hP => walk_at "sz"); (case hh => assumption); intro p G1 H1 ex1 tp hh1))
local macro_rules | `(tactic| walk_at "wd") => `(tactic| repeat (first | walk_at "w1" | (with_reducible refine Wm.r_ifS ?_) | walk_at "d" | walk_at "wl"))
local macro_rules | `(tactic| walk_at "v") => `(tactic| repeat (walk_at "w1"))
namespace Wm
open PySem PySem.Spec PyProof.Rows L2 StX
/-! ## Weather.constant that may raise -/
def sp_Weather_constantX (K : PySem.W.Frag) (A : Ads) : Sp := fun vs H Q E => ∃ (c : Int) (G : Hp) (mu : Mu), vs = [.ref A.cWeather, .int c] ∧ WeatherC K A.cWeather ∧ IdxC K A.cInvalidWeather "index" ∧ Hold G mu H ∧
  (-100 ≤ c ∧ c ≤ 100 → ∀ w wt G' H', Ex G G' → IsWeather K A G' w wt [c] → Hold G' mu H' → Q (.ref w) H') ∧ (¬ (-100 ≤ c ∧ c ≤ 100) → LetE G mu A.cInvalidWeather "index" (.int 0) E)
def t_Weather_constantX (K : PySem.W.Frag) (A : Ads) (E : XK) : TS := tRet (tMakV 0 A.cWeather (sp_Weather_initX K A) E (tCons (tVar 1) (tNil)))
section
variable {K : PySem.W.Frag} {A : Ads}
end
end Wm
end

section
local macro_rules | `(tactic| walk_at "cls") => `(tactic| first | (with_reducible exact Wm.WeatherC.cl (by assumption)) | (with_reducible exact Wm.HeaterC.cl (by assumption)) | (with_reducible exact Wm.RoomC.cl (by assumption)) | (with_reducible exact Wm.RunC.cl (by assumption)) | (with_reducible exact Wm.HistoryC.cl (by assumption)) | (with_reducible exact Wm.ThresholdObserverC.cl (by assumption)) | (with_reducible exact Wm.SettingC.cl (by assumption)) | (with_reducible exact Wm.HourSettingC.cl (by assumption)) | (with_reducible exact Wm.RestSettingC.cl (by assumption)) | (with_reducible exact Wm.PricesC.cl (by assumption)) | (with_reducible exact Wm.MomentC.cl (by assumption)) | (with_reducible exact Wm.LiveRoomC.cl (by assumption)) | (with_reducible exact Wm.AttemptC.cl (by assumption)))
local macro_rules | `(tactic| walk_at "noattr") => `(tactic| first | (with_reducible exact Wm.WeatherC.n_pattern (by assumption)) | (with_reducible exact Wm.HeaterC.n_power (by assumption)) | (with_reducible exact Wm.HeaterC.n_below (by assumption)) | (with_reducible exact Wm.HeaterC.n_above (by assumption)) | (with_reducible exact Wm.RoomC.n_outside (by assumption)) | (with_reducible exact Wm.RoomC.n_inside (by assumption)) | (with_reducible exact Wm.RoomC.n_begin_degrees (by assumption)) | (with_reducible exact Wm.RoomC.n_past (by assumption)) | (with_reducible exact Wm.RoomC.n_repeated (by assumption)) | (with_reducible exact Wm.RoomC.n_share (by assumption)) | (with_reducible exact Wm.RoomC.n_coldest (by assumption)) | (with_reducible exact Wm.RoomC.n_warmest (by assumption)) | (with_reducible exact Wm.RunC.n_begin (by assumption)) | (with_reducible exact Wm.RunC.n_end (by assumption)) | (with_reducible exact Wm.RunC.n_degrees (by assumption)) | (with_reducible exact Wm.RunC.n_is_heating (by assumption)) | (with_reducible exact Wm.RunC.n_sums (by assumption)) | (with_reducible exact Wm.RunC.n_size (by assumption)) | (with_reducible exact Wm.RunC.n_drift (by assumption)) | (with_reducible exact Wm.HistoryC.n_shifts (by assumption)) | (with_reducible exact Wm.HistoryC.n_added (by assumption)) | (with_reducible exact Wm.HistoryC.n_floor (by assumption)) | (with_reducible exact Wm.HistoryC.n_ceiling (by assumption)) | (with_reducible exact Wm.HistoryC.n_was_heating (by assumption)) | (with_reducible exact Wm.HistoryC.n_runs (by assumption)) | (with_reducible exact Wm.HistoryC.n_loop (by assumption)) | (with_reducible exact Wm.ThresholdObserverC.n_outside (by assumption)) | (with_reducible exact Wm.ThresholdObserverC.n_power (by assumption)) | (with_reducible exact Wm.ThresholdObserverC.n_tick (by assumption)) | (with_reducible exact Wm.ThresholdObserverC.n_degrees (by assumption)) | (with_reducible exact Wm.ThresholdObserverC.n_is_heating (by assumption)) | (with_reducible exact Wm.ThresholdObserverC.n_lows (by assumption)) | (with_reducible exact Wm.ThresholdObserverC.n_highs (by assumption)) | (with_reducible exact Wm.ThresholdObserverC.n_noted (by assumption)) | (with_reducible exact Wm.SettingC.n_least (by assumption)) | (with_reducible exact Wm.SettingC.n_most (by assumption)) | (with_reducible exact Wm.HourSettingC.n_least (by assumption)) | (with_reducible exact Wm.HourSettingC.n_most (by assumption)) | (with_reducible exact Wm.HourSettingC.n_length (by assumption)) | (with_reducible exact Wm.HourSettingC.n_hours (by assumption)) | (with_reducible exact Wm.RestSettingC.n_least (by assumption)) | (with_reducible exact Wm.RestSettingC.n_most (by assumption)) | (with_reducible exact Wm.RestSettingC.n_rest (by assumption)) | (with_reducible exact Wm.PricesC.n_table (by assumption)) | (with_reducible exact Wm.MomentC.n_tick (by assumption)) | (with_reducible exact Wm.MomentC.n_heat (by assumption)) | (with_reducible exact Wm.MomentC.n_on (by assumption)) | (with_reducible exact Wm.MomentC.n_burnt (by assumption)) | (with_reducible exact Wm.MomentC.n_sky (by assumption)) | (with_reducible exact Wm.MomentC.n_stove (by assumption)) | (with_reducible exact Wm.LiveRoomC.n_moment (by assumption)) | (with_reducible exact Wm.LiveRoomC.n_earlier (by assumption)) | (with_reducible exact Wm.LiveRoomC.n_done (by assumption)) | (with_reducible exact Wm.AttemptC.n_live (by assumption)) | (with_reducible exact Wm.AttemptC.n_kept (by assumption)) | (with_reducible exact Wm.AttemptC.n_stack (by assumption)) | (with_reducible exact Wm.AttemptC.n_steps (by assumption)))
local macro_rules | `(tactic| walk_at "at") => `(tactic| first | assumption | exact Wm.Hold.rd (by assumption) (by assumption) | exact Wm.Hold.get (i := 0) (by assumption) rfl | exact Wm.Hold.get (i := 1) (by assumption) rfl | exact Wm.Hold.get (i := 2) (by assumption) rfl | exact Wm.Hold.get (i := 3) (by assumption) rfl | exact Wm.Hold.get (i := 4) (by assumption) rfl)
local macro_rules | `(tactic| walk_at "s1") => `(tactic| first
  | (with_reducible refine Wm.r_seq ?_)
  | (with_reducible refine Wm.r_op ?_)
  | ((with_reducible refine' Wm.r_var ?h ?_); (case h => rfl))
  | (with_reducible refine Wm.r_c ?_)
  | (with_reducible refine Wm.r_I0 ?_)
  | (with_reducible refine Wm.r_cons ?_)
  | (with_reducible refine Wm.r_nil ?_)
  | (with_reducible refine Wm.r_asg ?_)
  | (with_reducible refine Wm.r_gname ?_; try simp only [List.set_cons_zero, List.set_cons_succ])
  | (with_reducible refine Wm.r_nx ?_)
  | (with_reducible refine Wm.r_rt ?_)
  | (with_reducible refine Wm.r_ret ?_)
  | (with_reducible refine Wm.r_test ?_)
  | (with_reducible refine Wm.r_bl ?_)
  | (with_reducible refine Wm.r_B ?_)
  | (with_reducible refine Wm.r_eqI ?_)
  | (with_reducible refine Wm.r_neI ?_)
  | (with_reducible refine Wm.r_eqB ?_)
  | (with_reducible refine Wm.r_neB ?_)
  | (with_reducible refine Wm.r_fld ?_)
  | (with_reducible refine Wm.r_call ?_)
  | (with_reducible refine Wm.r_mtd ?_)
  | (with_reducible refine Wm.r_prp ?_)
  | (with_reducible refine Wm.r_mak ?_)
  | (with_reducible refine Wm.r_makKw ?_)
  | (with_reducible refine Wm.r_cb ?_)
  | (with_reducible refine Wm.r_tup ?_)
  | (with_reducible refine Wm.r_lst ?_)
  | (with_reducible refine Wm.r_chain ?_)
  | (with_reducible refine Wm.r_and ?_)
  | (with_reducible refine Wm.r_or ?_)
  | (with_reducible refine Wm.r_not ?_)
  | (with_reducible refine Wm.r_andV ?_)
  | (with_reducible refine Wm.r_orV ?_)
  | (with_reducible refine Wm.r_notV ?_)
  | (with_reducible refine Wm.r_if ?_)
  | (with_reducible refine Wm.r_un ?_)
  | (with_reducible refine Wm.r_U ?_)
  | (with_reducible refine Wm.r_iteT ?_)
  | (with_reducible refine Wm.r_iteF ?_)
  | (with_reducible refine Wm.r_next ?_)
  | (with_reducible refine Wm.r_drop ?_)
  | (with_reducible refine Wm.r_retN ?_)
  | ((with_reducible refine' Wm.r_aug ?h ?_); (case h => rfl))
  | (with_reducible refine Wm.r_ipI ?_)
  | (with_reducible refine Wm.r_par2 ?_)
  | (with_reducible refine Wm.r_two ?_; try simp only [List.set_cons_zero, List.set_cons_succ])
  | (with_reducible refine Wm.r_yes ?_)
  | (with_reducible refine Wm.r_forET ?_)
  | (with_reducible refine Wm.r_chain3 ?_)
  | (with_reducible refine Wm.r_nT ?_)
  | (with_reducible refine Wm.r_nF ?_)
  | (with_reducible refine Wm.r_par3 ?_)
  | (with_reducible refine Wm.r_seenPut ?_)
  | (with_reducible refine Wm.r_seenGet ?_)
  | (with_reducible refine Wm.r_three ?_; try simp only [List.set_cons_zero, List.set_cons_succ])
  | (with_reducible refine Wm.r_sl ?_)
  | (with_reducible refine Wm.r_nopart ?_)
  | (with_reducible refine Wm.r_part ?_)
  | (with_reducible refine Wm.r_xi ?_)
  | (with_reducible refine Wm.r_gcons ?_)
  | (with_reducible refine Wm.r_gnil ?_)
  | (with_reducible refine Wm.r_sub ?_)
  | (with_reducible refine Wm.r_setF ?_)
  | (with_reducible refine Wm.r_app ?_)
  | (with_reducible refine Wm.int_i ?_)
  | (with_reducible refine Wm.int_b ?_)
  | (with_reducible refine Wm.min2 ?_)
  | (with_reducible refine Wm.max2 ?_)
  | (with_reducible refine Wm.abs1 ?_)
  | (with_reducible refine Wm.isN ?_)
  | (with_reducible refine Wm.notN ?_)
  | ((with_reducible refine' Wm.r_ty ?e ?_); (case e => walk_at "at"))
  | ((with_reducible refine' Wm.setF_m ?h 0 ?e ?c ?a ?l ?_); (case h => assumption); (case e => rfl); (case c => walk_at "cls"); (case a => walk_at "noattr"); (case l => exact of_decide_eq_true rfl); intro H1 hh1; simp only [List.set_cons_zero, List.set_cons_succ] at hh1)
  | ((with_reducible refine' Wm.setF_m ?h 1 ?e ?c ?a ?l ?_); (case h => assumption); (case e => rfl); (case c => walk_at "cls"); (case a => walk_at "noattr"); (case l => exact of_decide_eq_true rfl); intro H1 hh1; simp only [List.set_cons_zero, List.set_cons_succ] at hh1)
  | ((with_reducible refine' Wm.setF_m ?h 2 ?e ?c ?a ?l ?_); (case h => assumption); (case e => rfl); (case c => walk_at "cls"); (case a => walk_at "noattr"); (case l => exact of_decide_eq_true rfl); intro H1 hh1; simp only [List.set_cons_zero, List.set_cons_succ] at hh1)
  | ((with_reducible refine' Wm.setF_m ?h 3 ?e ?c ?a ?l ?_); (case h => assumption); (case e => rfl); (case c => walk_at "cls"); (case a => walk_at "noattr"); (case l => exact of_decide_eq_true rfl); intro H1 hh1; simp only [List.set_cons_zero, List.set_cons_succ] at hh1)
  | (with_reducible refine Wm.r_forL ?_)
  | (with_reducible refine Wm.r_forT ?_)
  | (with_reducible refine Wm.r_forR1 ?_)
  | (with_reducible refine Wm.r_forR2 ?_)
  | (with_reducible refine Wm.r_forR3 ?_)
  | (with_reducible refine Wm.r_lcL ?_)
  | (with_reducible refine Wm.r_lcT ?_)
  | (with_reducible refine Wm.r_lcR1 ?_)
  | (with_reducible refine Wm.r_lcR2 ?_)
  | ((with_reducible refine' Wm.fld_h ?e ?c ?n ?l ?_); (case e => walk_at "at"); (case c => walk_at "cls"); (case n => walk_at "noattr"); (case l => rfl))
  | ((with_reducible refine' Wm.mtd_h ?e ?l ?_); (case e => walk_at "at"); (case l => rfl))
  | ((with_reducible refine' Wm.prp_h ?e ?_); (case e => walk_at "at"))
  | ((with_reducible refine' Wm.rix_ht ?a ?b ?_); (case a => walk_at "at"); (case b => rfl))
  | ((with_reducible refine' Wm.rix_h ?a ?b ?_); (case a => walk_at "at"); (case b => rfl))
  | ((with_reducible refine' Wm.len_ht ?a ?_); (case a => walk_at "at"))
  | ((with_reducible refine' Wm.len_h ?a ?_); (case a => walk_at "at"))
  | ((with_reducible refine' Wm.len_l ?a ?b ?_); (case a => assumption); (case b => assumption))
  | ((with_reducible refine' Wm.len_t ?a ?b ?_); (case a => assumption); (case b => assumption))
  | ((with_reducible refine' Wm.gtup_h ?a ?b ?_); (case a => walk_at "at"); (case b => rfl))
  | (with_reducible refine Wm.r_I (Wm.cmulR (by decide)) ?_)
  | (with_reducible refine Wm.r_I (Wm.cmulL (by decide)) ?_)
  | (with_reducible refine Wm.r_I (Wm.cdiv (by decide) (by decide)) ?_)
  | (with_reducible refine Wm.r_I Wm.cpow18 ?_)
  | (with_reducible refine Wm.r_I Wm.cpow12 ?_)
  | (with_reducible refine Wm.r_I (by show (0 : Int) < _; decide) ?_))
local macro_rules | `(tactic| walk_at "s") => `(tactic| repeat (first | walk_at "s1" | (with_reducible refine Wm.r_ifS ?_)))
local macro_rules | `(tactic| walk_at "t") => `(tactic| repeat (walk_at "s1"))
local macro_rules | `(tactic| walk_at "sz") => `(tactic| exact of_decide_eq_true rfl)
local macro_rules | `(tactic| walk_at "d") => `(tactic| first | (with_reducible refine Wm.r_dT (by omega) ?_) | (with_reducible refine Wm.r_dF (by omega) ?_) | (with_reducible refine Wm.r_dN (by omega) ?_) | (with_reducible refine Wm.r_dM (by omega) ?_))
local macro_rules | `(tactic| walk_at "sd") => `(tactic| repeat (first | walk_at "s1" | (with_reducible refine Wm.r_ifS ?_) | walk_at "d"))
local macro_rules | `(tactic| walk_at "ex") => `(tactic| first
  | assumption
  | exact Wm.Ex.refl _
  | (refine Wm.Ex.trans ?_ (by assumption); walk_at "ex")
  | (refine Wm.Ex.trans ?_ (Wm.Hold.ex (by assumption)); walk_at "ex"))
local macro_rules | `(tactic| walk_at "room") => `(tactic| first
  | assumption
  | (refine' Wm.IsRoom.up ?e ?h; (case h => assumption); (case e => walk_at "ex")))
local macro_rules | `(tactic| walk_at "opt") => `(tactic| first
  | assumption
  | (refine' Wm.OptAt.up ?e ?h; (case h => assumption); (case e => walk_at "ex")))
local macro_rules | `(tactic| walk_at "lst") => `(tactic| first
  | assumption
  | (refine' Wm.Lst.at_ ?h ?e; (case h => assumption); (case e => walk_at "ex"))
  | exact Wm.Hold.get (i := 0) (by assumption) rfl | exact Wm.Hold.get (i := 1) (by assumption) rfl | exact Wm.Hold.get (i := 2) (by assumption) rfl | exact Wm.Hold.get (i := 3) (by assumption) rfl | exact Wm.Hold.get (i := 4) (by assumption) rfl)
local macro_rules | `(tactic| walk_at "tup") => `(tactic| first
  | assumption
  | (refine' Wm.Tup.at_ ?h ?e; (case h => assumption); (case e => walk_at "ex")))
local macro_rules | `(tactic| walk_at "p1") => `(tactic| first
  | (with_reducible refine Wm.r_p18 ?_) | (with_reducible refine Wm.r_p12 ?_) | (with_reducible refine Wm.r_p17 ?_) | (with_reducible refine Wm.r_p15 ?_) | (with_reducible refine Wm.r_p11 ?_) | (with_reducible refine Wm.r_p6 ?_) | (with_reducible refine Wm.r_p5 ?_) | (with_reducible refine Wm.r_p4 ?_) | (with_reducible refine Wm.r_p9 ?_) | (with_reducible refine Wm.r_p13 ?_) | (with_reducible refine Wm.r_p20 ?_) | (with_reducible refine Wm.r_p30 ?_) | (with_reducible refine Wm.r_p16 ?_))
local macro_rules | `(tactic| walk_at "w2") => `(tactic| first
  | ((with_reducible refine' Wm.r_wp ?h ?_); (case h => rfl))
  | ((with_reducible refine' Wm.ap_mtd ?ir ?hl ?_); (case ir => walk_at "room"); (case hl => intros; rfl))
  | ((with_reducible refine' Wm.ap_prp ?ir ?_); (case ir => walk_at "room"))
  | ((with_reducible refine' Wm.ap_temp ?hh ?ir ?t0 ?t1 ?_); (case hh => assumption); (case ir => walk_at "room"); (case t0 => omega); (case t1 => omega); intro H1 hh1)
  | ((with_reducible refine' Wm.ap_on ?hh ?ir ?t0 ?t1 ?_); (case hh => assumption); (case ir => walk_at "room"); (case t0 => omega); (case t1 => omega); intro H1 hh1)
  | ((with_reducible refine' Wm.ap_heats ?hh ?ir ?t0 ?t1 ?_); (case hh => assumption); (case ir => walk_at "room"); (case t0 => omega); (case t1 => omega); intro H1 hh1)
  | ((with_reducible refine' Wm.ap_sws ?hh ?ir ?t0 ?t1 ?_); (case hh => assumption); (case ir => walk_at "room"); (case t0 => omega); (case t1 => omega); intro H1 hh1)
  | ((with_reducible refine' Wm.rix_ht ?a ?b ?_); (case a => walk_at "tup"); (case b => rfl))
  | ((with_reducible refine' Wm.rix_h ?a ?b ?_); (case a => walk_at "lst"); (case b => rfl))
  | ((with_reducible refine' Wm.len_ht ?a ?_); (case a => walk_at "tup"))
  | ((with_reducible refine' Wm.len_h ?a ?_); (case a => walk_at "lst"))
  | ((with_reducible refine' Wm.gtup_h ?a ?b ?_); (case a => walk_at "tup"); (case b => rfl))
  | ((with_reducible refine' Wm.r_I (Wm.cmulL ?h) ?_); (case h => omega))
  | ((with_reducible refine' Wm.r_I (Wm.cmulR ?h) ?_); (case h => omega))
  | ((with_reducible refine' Wm.r_I (Wm.cdiv ?h ?h2) ?_); (case h => omega); (case h2 => omega))
  | ((with_reducible refine' Wm.r_mod ?h ?_); (case h => omega))
  | ((with_reducible refine' Wm.tup_N ?hP ?hh ?_); (case hP => walk_at "sz"); (case hh => assumption); intro p G1 H1 ex1 tp hh1))
local macro_rules | `(tactic| walk_at "w1") => `(tactic| first | walk_at "p1" | walk_at "s1" | walk_at "w2")
local macro_rules | `(tactic| walk_at "w") => `(tactic| repeat (first | walk_at "w1" | (with_reducible refine Wm.r_ifS ?_)))
local macro_rules | `(tactic| walk_at "wl") => `(tactic| ((with_reducible refine' Wm.lst_N ?hP ?hh ?_); (case hP => walk_at "sz"); (case hh => assumption); intro p G1 H1 ex1 tp hh1))
local macro_rules | `(tactic| walk_at "wd") => `(tactic| repeat (first | walk_at "w1" | (with_reducible refine Wm.r_ifS ?_) | walk_at "d" | walk_at "wl"))
local macro_rules | `(tactic| walk_at "v") => `(tactic| repeat (walk_at "w1"))
namespace Wm
open PySem PySem.Spec PyProof.Rows L2 StX
/-! ## Weather.__add__ that may raise -/
def addN (a b : List Int) : Nat := a.length / Nat.gcd a.length b.length * b.length
def addCh (a b : List Int) : List Int := (List.range (addN a b)).map fun k => a.getD (k % a.length) 0 + b.getD (k % b.length) 0
def sp_Weather___addX (K : PySem.W.Frag) (A : Ads) : Sp := fun vs H Q E => ∃ (p1 t1 p2 t2 : Addr) (c1 c2 : List Int) (G : Hp) (mu : Mu), vs = [.ref p1, .ref p2] ∧ IsWeather K A G p1 t1 c1 ∧ IsWeather K A G p2 t2 c2 ∧ IdxC K A.cInvalidWeather "index" ∧ Hold G mu H ∧
  (WOk (addCh c1 c2) → ∀ w wt G' H', Ex G G' → IsWeather K A G' w wt (addCh c1 c2) → Hold G' mu H' → Q (.ref w) H') ∧ (∀ i : Nat, FirstBad (addCh c1 c2) i → LetE G mu A.cInvalidWeather "index" (.int i) E)
def t_Weather___addX (K : PySem.W.Frag) (A : Ads) (E : XK) : TS := tSeq (tAsg (tTup (tCons (tFld K (tVar 0) "pattern") (tCons (tFld K (tVar 1) "pattern") (tNil)))) (gTup K 2 (gCons (gName 2) (gCons (gName 3) (gNil))))) (tSeq (tAsg (tOp (rI CMul fun i j => .int (i * j)) (tOp (rI CDivW fun i j => .int (i / j)) (tCB (rLen K) (tCons (tVar 2) (tNil))) (tCal (sp_common_divisor K A) E0 (tCons (tCB (rLen K) (tCons (tVar 2) (tNil))) (tCons (tCB (rLen K) (tCons (tVar 3) (tNil))) (tNil))))) (tCB (rLen K) (tCons (tVar 3) (tNil)))) (gName 4)) (tSeq (tAsg (tLc (iRng1 (tCons (tVar 4) (tNil))) (gName 6) (tYes) (tOp (rI0 fun i j => .int (i + j)) (tOp (rIx K) (tVar 2) (tOp (rI (fun _ j => 0 < j) fun i j => .int (i % j)) (tCB rInt (tCons (tVar 6) (tNil))) (tCB (rLen K) (tCons (tVar 2) (tNil))))) (tOp (rIx K) (tVar 3) (tOp (rI (fun _ j => 0 < j) fun i j => .int (i % j)) (tCB rInt (tCons (tVar 6) (tNil))) (tCB (rLen K) (tCons (tVar 3) (tNil)))))) [6]) (gName 5)) (tRet (tMakS K A.cWeather (sp_Weather_initX K A) E (tVar 5)))))
section
variable {K : PySem.W.Frag} {A : Ads}
end
end Wm
end

section
/-! ## Joining a law that hands lambdas on -/
namespace Wm
open PySem PySem.Spec PyProof.Rows L2 StX LamX
/-- the code object of the def at f, and the table of its own code objects -/
def lawCP (K : PySem.W.Frag) (f : Addr) : Option (Addr × Addr) := match K.lookup f with
  | some ⟨_, _, .func fd, _⟩ => (match fd.code with
    | .ref c => (match K.lookup c with
      | some ⟨_, _, .fields vs, _⟩ => (match (vs[11]? : Option Value) with
        | some (.ref P) => some (c, P)
        | _ => none)
      | _ => none)
    | _ => none)
  | _ => none
def cLawAd (K : PySem.W.Frag) (x : Str) : Addr := match lawCP K (He.ga K x) with
  | some q => q.1
  | none => 0
def tLawAd (K : PySem.W.Frag) (x : Str) : Addr := match lawCP K (He.ga K x) with
  | some q => q.2
  | none => 0
def tabB (K : PySem.W.Frag) (x : Str) : Bool := match lawCP K (He.ga K x) with
  | some q => PySem.W.codeHdIn K q.1 q.2 && (K.lookup q.2).isNone
  | none => false
theorem tabB_ok {K : PySem.W.Frag} {x : Str} {h : Heap} (c : tabB K x = true) (X : K.In h) (own : OwnTab K (He.ga K x) h) :
    cdAt K (He.ga K x) = some (.ref (cLawAd K x)) ∧ h.get? (tLawAd K x) = some { cls := .none, data := .fields #[] } ∧ K.lookup (tLawAd K x) = none ∧ PySem.W.CodeHd h (cLawAd K x) (tLawAd K x) := by
  cases e : lawCP K (He.ga K x) with
  | none =>
    unfold tabB at c
    rw [e] at c
    cases c
  | some q =>
    obtain ⟨cc, P⟩ := q
    have ec : cLawAd K x = cc := by unfold cLawAd; rw [e]
    have ep : tLawAd K x = P := by unfold tLawAd; rw [e]
    rw [ec, ep]
    unfold tabB at c
    rw [e] at c
    obtain ⟨h1, h2⟩ := He.ba c
    unfold lawCP at e
    split at e
    · rename_i a1 a2 fd a3 hf
      split at e
      · rename_i c0 hc
        split at e
        · rename_i b1 b2 vs b3 hv
          split at e
          · rename_i P0 hP
            cases e
            refine ⟨by unfold cdAt; rw [hf]; exact congrArg some hc, own _ _ _ _ _ _ _ _ hf rfl hc hv hP, by simpa using h2, PySem.W.codeHd_of_K X h1⟩
          · cases e
        · cases e
      · cases e
    · cases e
/-! ### the errors' classes -/
structure ErrsC (K : PySem.W.Frag) (A : Ads) : Prop where
  e0 : ErrC K A A.cContradiction 0
  e1 : ErrC K A A.cInvalidHeater 1
  e2 : ErrC K A A.cInvalidNumber 2
  e3 : ErrC K A A.cInvalidWeather 3
  e4 : ErrC K A A.cOtherWeather 4
  ix : IdxC K A.cInvalidWeather "index"
  xfi : XfI K A.cInvalidWeather "index"
  ns : PySem.W.subIn K (.ref A.cInvalidNumber) (.type "StopIteration") = some false
def errB (K : PySem.W.Frag) (x : Str) (i : Nat) : Bool := excB K (He.ga K x) && (decide (PySem.W.exmOne K (.ref (He.ga K x)) (.ref (He.ga K "WarmthError")) = some true) && (decide (PySem.W.kitOne K (.ref (He.ga K x)) (.ref (He.ga K "Contradiction")) = some (i == 0)) &&
  (decide (PySem.W.kitOne K (.ref (He.ga K x)) (.ref (He.ga K "InvalidHeater")) = some (i == 1)) && (decide (PySem.W.kitOne K (.ref (He.ga K x)) (.ref (He.ga K "InvalidNumber")) = some (i == 2)) && (decide (PySem.W.kitOne K (.ref (He.ga K x)) (.ref (He.ga K "InvalidWeather")) = some (i == 3)) &&
  (decide (PySem.W.kitOne K (.ref (He.ga K x)) (.ref (He.ga K "OtherWeather")) = some (i == 4)) && decide (PySem.W.kitOne K (.ref (He.ga K x)) (.type "ValueError") = some true)))))))
def errsB (K : PySem.W.Frag) : Bool := errB K "Contradiction" 0 && (errB K "InvalidHeater" 1 && (errB K "InvalidNumber" 2 && (errB K "InvalidWeather" 3 && (errB K "OtherWeather" 4 && (oexB K (He.ga K "InvalidWeather") && (decide (PySem.W.findIn K (.ref (He.ga K "InvalidWeather")) "index" = some none) && (xfB K (He.ga K "InvalidWeather") && decide (PySem.W.subIn K (.ref (He.ga K "InvalidNumber")) (.type "StopIteration") = some false))))))))
theorem errB_ok {K : PySem.W.Frag} {A : Ads} {x : Str} {D : Addr} {i : Nat} (h : errB K x i = true) (eD : D = He.ga K x)
    (e : A.cContradiction = He.ga K "Contradiction" ∧ A.cInvalidHeater = He.ga K "InvalidHeater" ∧ A.cInvalidNumber = He.ga K "InvalidNumber" ∧ A.cInvalidWeather = He.ga K "InvalidWeather" ∧ A.cOtherWeather = He.ga K "OtherWeather" ∧ A.cWarmthError = He.ga K "WarmthError") : ErrC K A D i := by
  subst eD
  obtain ⟨e0, e1, e2, e3, e4, e5⟩ := e
  obtain ⟨h1, h⟩ := He.ba h
  obtain ⟨h2, h⟩ := He.ba h
  obtain ⟨h3, h⟩ := He.ba h
  obtain ⟨h4, h⟩ := He.ba h
  obtain ⟨h5, h⟩ := He.ba h
  obtain ⟨h6, h⟩ := He.ba h
  obtain ⟨h7, h8⟩ := He.ba h
  exact ⟨excB_ok h1, by rw [e5]; exact of_decide_eq_true h2, by rw [e0]; exact of_decide_eq_true h3, by rw [e1]; exact of_decide_eq_true h4, by rw [e2]; exact of_decide_eq_true h5, by rw [e3]; exact of_decide_eq_true h6, by rw [e4]; exact of_decide_eq_true h7, of_decide_eq_true h8⟩
theorem errsB_ok {K : PySem.W.Frag} {A : Ads} (h : errsB K = true)
    (e : A.cContradiction = He.ga K "Contradiction" ∧ A.cInvalidHeater = He.ga K "InvalidHeater" ∧ A.cInvalidNumber = He.ga K "InvalidNumber" ∧ A.cInvalidWeather = He.ga K "InvalidWeather" ∧ A.cOtherWeather = He.ga K "OtherWeather" ∧ A.cWarmthError = He.ga K "WarmthError") : ErrsC K A := by
  have e' := e
  obtain ⟨e0, e1, e2, e3, e4, e5⟩ := e'
  obtain ⟨h0, h⟩ := He.ba h
  obtain ⟨h1, h⟩ := He.ba h
  obtain ⟨h2, h⟩ := He.ba h
  obtain ⟨h3, h⟩ := He.ba h
  obtain ⟨h4, h⟩ := He.ba h
  obtain ⟨h5, h⟩ := He.ba h
  obtain ⟨h6, h⟩ := He.ba h
  obtain ⟨h7, h8⟩ := He.ba h
  exact ⟨errB_ok h0 e0 e, errB_ok h1 e1 e, errB_ok h2 e2 e, errB_ok h3 e3 e, errB_ok h4 e4 e, ⟨by rw [e3]; exact oexB_ok h5, by rw [e3]; exact of_decide_eq_true h6⟩, ⟨by rw [e3]; exact xfB_ok h7, by rw [e3]; exact of_decide_eq_true h6⟩, by rw [e2]; exact of_decide_eq_true h8⟩
/-! ### the table among the mutables -/
section
variable {K : PySem.W.Frag} {A : Ads} {G H : Hp} {mu : Mu} {P : Addr} {ps : Array Value} {q : Str}
theorem Hold.totab (hh : Hold G mu H) (e : G P = some (.tbl ps)) : Hold (del G P) ((P, .tbl ps) :: mu) H := by
  have nm : P ∉ mu.map (·.1) := fun z => by
    obtain ⟨x, hx, rfl⟩ := List.mem_map.mp z
    rw [hh.out x hx] at e
    cases e
  refine ⟨fun b o hb => ?_, fun x hx => ?_, fun x hx => ?_, ?_⟩
  · by_cases h : b = P
    · rw [h, del_same] at hb; cases hb
    · rw [del_ne h] at hb; exact hh.rd hb
  · rcases List.mem_cons.mp hx with rfl | hx
    · exact hh.rd e
    · exact hh.at_ x hx
  · rcases List.mem_cons.mp hx with rfl | hx
    · exact del_same
    · have ne : x.1 ≠ P := fun z => nm (by rw [← z]; exact List.mem_map_of_mem hx)
      rw [del_ne ne]; exact hh.out x hx
  · rw [List.map_cons, List.nodup_cons]; exact ⟨nm, hh.nd⟩
theorem tab0 : TabOk G #[] q := ⟨trivial, fun pos cv z => by cases z⟩
theorem Tup.clean {p : Addr} {xs : List V} (h : Tup G p xs) : Tup (Wm.clean G) p xs := clean_tup h
theorem Lst.clean {p : Addr} {xs : List V} (h : Lst G p xs) : Lst (Wm.clean G) p xs := clean_lst h
end
/-! ### what _law_error answers -/
section
variable {K : PySem.W.Frag} {A : Ads} {G H : Hp} {mu : Mu} {P p q : Addr} {ps : Array Value} {xs : List V} {Q : VK} {v w : V} {D : Addr} {i : Nat}
def notTup : HO → Bool
  | .tup _ => false
  | _ => true
theorem Hold.own (hh : Hold G mu H) (e : H p = some (.tup xs)) (hm : mu.all (fun x => notTup x.2) = true) : Ex G (upd G p (.tup xs)) ∧ Hold (upd G p (.tup xs)) mu H := by
  have nm : ∀ x ∈ mu, x.1 ≠ p := fun x hx z => by
    have h1 := hh.at_ x hx
    rw [z, e] at h1
    have h2 := List.all_eq_true.mp hm x hx
    rw [← Option.some.inj h1] at h2
    cases h2
  refine ⟨fun b o hb => ?_, fun b o hb => ?_, hh.at_, fun x hx => ?_, hh.nd⟩
  · by_cases h : b = p
    · subst h
      have := hh.rd hb
      rw [e] at this
      rw [upd_same]; exact this
    · rw [upd_ne h]; exact hb
  · by_cases h : b = p
    · subst h
      rw [upd_same] at hb
      rw [e]; exact hb
    · rw [upd_ne h] at hb; exact hh.rd hb
  · rw [upd_ne (nm x hx)]; exact hh.out x hx
/-- the answer is a tuple xs -/
def ErrQ (G : Hp) (mu : Mu) (xs : List V) (Q : VK) : Prop := ∀ p G' H', Ex G G' → Tup G' p xs → Hold G' mu H' → Q (.ref p) H'
theorem ech_no (er : ErrC K A D i) (hi : i < 5) (h3 : i ≠ 3) (hh : Hold G mu H) (hm : mu.all (fun x => notTup x.2) = true) (k : ErrQ G mu [.str (errNames.getD i "")] Q) : EchL K A Q (.ref D) none H :=
  ⟨D, i, rfl, er, hi, .inl rfl, fun z => absurd z h3, fun p G' H' xs ex hp hh' e1 _ => by
    obtain rfl := e1 h3
    obtain ⟨h1, h2⟩ := (hh.grow (ex.trans hh'.ex)).own (hh'.rd hp) hm
    exact k p _ H' h1 upd_same h2⟩
theorem err_none (hh : Hold G mu H) (k : ErrQ G mu [.str "none"] Q) : tErrRet { nx := fun _ H' => Q .non H', rt := Q } H := by
  show tErrRet ⟨_, _, _, _⟩ H
  unfold tErrRet
  refine r_ret ?_
  refine ⟨by exact of_decide_eq_true rfl, fun p hp => ?_⟩
  exact k p _ _ (Ex.new (hh.g_none hp)) upd_same (hh.new hp)
/-- _law_error(lambda: ..) -/
theorem r_err {t : XK → TE} {σ : L2.St} (hh : Hold G ((P, .tbl ps) :: mu) H) (tb : TabOk G ps "law.<locals>.<lambda>") (hm : mu.all (fun x => plainO x.2) = true)
    (k : ∀ G1 ps1 H1, Ex (clean G) G1 → TabOk G1 ps1 "law.<locals>.<lambda>" → Hold G1 ((P, .tbl ps1) :: mu) H1 → t (EchL K A Q) σ H1 fun _ H' => tErrRet { nx := fun _ H' => Q .non H', rt := Q } H') :
    tLam [(P, "law.<locals>.<lambda>")] (TTerr K A.cWarmthError 1 errN (t_law_error_sx K A) tErrRet) t σ H Q :=
  r_lam hh tb hm fun G1 ps1 H1 e t1 h1 => terr_intro (k G1 ps1 H1 e t1 h1)
/-- equal data -/
theorem neD_same {d : PyData} (h1 : Dp K H v d) (h2 : Dp K H w d) (hs : SeqAt.shaped d = true) (k : Q (.bl false) H) : rNeD K v w H Q := by
  have e : PyData.eqv d d = true := SeqAt.eqv_refl _ (by have := hs; unfold SeqAt.shaped at this; rw [Bool.and_eq_true] at this; exact this.1)
  exact ⟨d, d, h1, h2, hs, hs, by rw [e]; exact k⟩
theorem shaped_s1 {s : Str} (hs : PyData.strOk s = true) : SeqAt.shaped (.tuple [.str s]) = true := by
  unfold SeqAt.shaped
  simp [PyData.canLay0, PyData.canLayAll0, PyData.depth, PyData.depthAll, hs]
theorem ne_s1 {s : Str} (h1 : H p = some (.tup [.str s])) (h2 : H q = some (.tup [.str s])) (k : Q (.bl false) H) (hs : PyData.strOk s = true := by decide +kernel) : rNeD K (.ref p) (.ref q) H Q :=
  neD_same (d := .tuple [.str s]) (.tup (SqT.of h1) (.cons (.str s) .nil)) (.tup (SqT.of h2) (.cons (.str s) .nil)) (shaped_s1 hs) k
theorem IsWeather.clean {t : Addr} {ch : List Int} (h : IsWeather K A G p t ch) : IsWeather K A (Wm.clean G) p t ch := by
  obtain ⟨h1, h2, dx, h3, h4⟩ := h
  exact ⟨h1, h2, dx, clean_ins h3, clean_tup h4⟩
end
/-! ### draws, the table ahead -/
section
variable {K : PySem.W.Frag} {A : Ads} {G H : Hp} {mu : Mu} {Q : VK} {E : XK} {a c t se p : Addr} {d : DS} {most : Int} {x : Addr × HO}
theorem ap_changes1 (hh : Hold G (x :: dh a c d :: dc c d :: mu) H) (ok : d.Ok) (m1 : 1 ≤ most) (m2 : most ≤ 24)
    (k : ∀ (t : Addr) (ch : List Int) (d' : DS) (G' H' : Hp), Ex G G' → Tup G' t (ch.map V.int) → WOk ch → (ch.length : Int) ≤ most → d'.Ok → Hold G' (x :: dh a c d' :: dc c d' :: mu) H' → Q (.ref t) H') : sp_law_changes K A [.ref a, .int most] H Q E :=
  ap_changes (hh.perm perm_in2) ok m1 m2 fun t ch d' G' H' e h1 h2 h3 h4 hh' => k t ch d' G' H' e h1 h2 h3 h4 (hh'.perm perm_in2.symm)
end
end Wm
end

section
/-! ## Kept lambdas: rules over the ghost heap -/
namespace Wm
open PySem PySem.Spec PyProof.Rows L2 StX LamX
section
variable {K : PySem.W.Frag} {A : Ads} {G H H1 : Hp} {mu : Mu} {P a p q : Addr} {ps : Array Value} {Q : VK} {σ : L2.St} {Z : LamZ} {i : Nat}
/-- neither a table nor a code object nor a tuple -/
def flatO : HO → Bool
  | .tbl _ => false
  | .ext _ => false
  | .tup _ => false
  | _ => true
theorem flat_plain {mu : Mu} (h : mu.all (fun x => flatO x.2) = true) : mu.all (fun x => plainO x.2) = true := List.all_eq_true.mpr fun x hx => by
  have := List.all_eq_true.mp h x hx
  revert this
  cases x.2 <;> simp [flatO, plainO]
/-- a lambda made; the table is the first of the mutables -/
theorem r_lamV (hh : Hold G ((P, .tbl ps) :: mu) H) (tb : TabOk G ps Z.q) (hm : mu.all (fun x => flatO x.2) = true)
    (k : ∀ G1 ps1 H1 f, Ex (clean G) G1 → Hold G1 ((P, .tbl ps1) :: mu) H1 → TabOk G1 ps1 Z.q → IsLam Z i f G1 → Q (.ref f) H1) : tLamV Z P i σ H Q := by
  refine ⟨(hh.tabs tb) (P, Z.q) (List.mem_singleton.mpr rfl), fun H1 f e t1 il => ?_⟩
  obtain ⟨ps1, h1, h2, h3⟩ := id t1
  have hmp := flat_plain hm
  have hmu : ∀ x ∈ mu, H1 x.1 = some x.2 := fun x hx => e _ _ (hh.at_ x (List.mem_cons_of_mem _ hx)) fun ps' z => by
    have := List.all_eq_true.mp hmp x hx
    rw [z] at this
    cases this
  have out : ∀ b o, H1 b = some o → flatO o = false → (∀ ps', o ≠ .tbl ps') → ghost ((P, .tbl ps1) :: mu) H1 b = some o := fun b o hb hf hn => by
    have nm : b ∉ (((P, HO.tbl ps1) :: mu) : Mu).map (·.1) := fun z => by
      rw [List.map_cons] at z
      rcases List.mem_cons.mp z with z | z
      · rw [z, h1] at hb; exact hn ps1 (Option.some.inj hb).symm
      · obtain ⟨x, hx, rfl⟩ := List.mem_map.mp z
        rw [hmu x hx] at hb
        have := List.all_eq_true.mp hm x hx
        rw [Option.some.inj hb] at this
        rw [this] at hf
        cases hf
    show (if b ∈ _ then none else H1 b) = some o
    rw [if_neg nm]
    exact hb
  refine k (ghost ((P, .tbl ps1) :: mu) H1) ps1 H1 f (fun b o hb => ?_) ⟨fun b o hb => ?_, fun x hx => ?_, fun x hx => ?_, ?_⟩ ⟨h2, fun pos cv z => ?_⟩ ?_
  · obtain ⟨hb, hn⟩ := clean_to hb
    have nm : b ∉ (((P, HO.tbl ps1) :: mu) : Mu).map (·.1) := fun z => by
      have z' : b ∈ (((P, HO.tbl ps) :: mu) : Mu).map (·.1) := by simpa using z
      obtain ⟨x, hx, rfl⟩ := List.mem_map.mp z'
      rw [hh.out x hx] at hb
      cases hb
    show (if b ∈ _ then none else H1 b) = some o
    rw [if_neg nm]
    exact e _ _ (hh.rd hb) hn
  · have hb' : (if b ∈ (((P, HO.tbl ps1) :: mu) : Mu).map (·.1) then none else H1 b) = some o := hb
    split at hb'
    · cases hb'
    · exact hb'
  · rcases List.mem_cons.mp hx with rfl | hx
    · exact h1
    · exact hmu x hx
  · show (if x.1 ∈ _ then none else H1 x.1) = none
    rw [if_pos (List.mem_map_of_mem hx)]
  · simpa using hh.nd
  · obtain ⟨c, hc, hc1⟩ := h3 pos cv z
    exact ⟨c, hc, out c _ hc1 rfl codeO_ne⟩
  · obtain ⟨c', d, g1, g2, g3⟩ := il
    refine ⟨c', d, out f _ g1 rfl lmO_ne, out c' _ g2 rfl codeO_ne, ?_⟩
    rcases g3 with h | ⟨x, t, v, b1, b2, b3⟩
    · exact .inl h
    · exact .inr ⟨x, t, v, b1, b2, out t _ b3 rfl fun ps' z => by cases z⟩
/-- _law_error(f), f a kept lambda -/
theorem r_errV {ts : List (XK → TE)} {t : XK → TE} {te : TE} {f : Addr} (il : IsLam Z i f H) (ht : ts[i]? = some t) (k : t (EchL K A Q) σ H fun _ H' => tErrRet { nx := fun _ H' => Q .non H', rt := Q } H') (he : ∀ R : VK, R (.ref f) H → te σ H R) :
    tErrV Z ts (TTerr K A.cWarmthError 1 errN (t_law_error_sx K A) tErrRet) te σ H Q := by
  refine he _ ?_
  exact ⟨f, i, t, rfl, il, ht, terr_intro k⟩
/-- the answers of some calls: (n,) each -/
def ErrTs (G : Hp) (ps : List Addr) (ns : List Str) : Prop := ps.length = ns.length ∧ ∀ (i : Nat) (p : Addr) (n : Str), ps[i]? = some p → ns[i]? = some n → Tup G p [.str n]
/-- some lambdas made, one behind another -/
def lamA (Z : LamZ) (P : Addr) : List Nat → TA
  | [] => tNil
  | i :: r => tCons (tLamV Z P i) (lamA Z P r)
def LamsAt (Z : LamZ) (is : List Nat) (fs : List Addr) (G : Hp) : Prop := fs.length = is.length ∧ ∀ (k : Nat) (f : Addr) (i : Nat), fs[k]? = some f → is[k]? = some i → IsLam Z i f G
theorem cle {G1 G2 : Hp} (a : Ex (Wm.clean G) G1) (b : Ex (Wm.clean G1) G2) : Ex (Wm.clean G) G2 := fun x o h => b _ _ (clean_of (a _ _ h) (clean_to h).2)
/-- a new list, the last of the mutables -/
theorem lst_mE {xs : List V} (hP : xs.length ≤ sizeLine) (hh : Hold G mu H) (k : ∀ p H', Hold G (mu ++ [(p, .lst xs)]) H' → Q (.ref p) H') : rLst xs H Q :=
  ⟨hP, fun p hp => k p _ ((hh.newm hp).perm (List.perm_append_comm (l₁ := [(p, HO.lst xs)]) (l₂ := mu)))⟩
end
/-! ### facts behind a lambda's making -/
section
variable {K : PySem.W.Frag} {A : Ads} {G : Hp} {p : Addr}
end
end Wm
end

section
/-! ## A for in a generator's body -/
namespace Wm
open PySem PySem.Spec PyProof.Rows L2 GenW
def tGFor (wi : TI) (g : TG) (tb : TGn) : TGn := fun D ys σ H => wi σ H fun J H1 => ∃ W : Nat → Nat → List V → L2.St → Hp → Prop, (∃ m, W 0 m ys σ H1) ∧ ∀ i m ys σ H, W i m ys σ H →
  (J.stop i H ∧ D.nx ys σ H) ∨ (J.go i H ∧ ∃ N : List V → L2.St → Hp → Prop, (∀ ys' σ' H', N ys' σ' H' → ∃ m', m' < m ∧ W (i + 1) m' ys' σ' H') ∧
    ∀ x H', J.yld i H x H' → g x σ H' fun σ2 H2 => tb { D with nx := N, ct := N, bk := D.nx } ys σ2 H2)
section
variable {X : Cx} {S : Addr} {ip : List (Addr × Obj)} {A : Around} {c c' : Code} {fs : List Frame} {gd : Bool → Bool} {l kp : List Value} {p : Pos}
/-- what the loop's code does with an exception of its own -/
def ownEnd (env : Env) (x : Value) : Sem PySem.Fin := (do noteFrame x env; theTreesLotGoes x : Sem Unit).wrap (fun _ => .raise x) .raise id id
end
end Wm
end

section
/-! ## Joining: generator defs -/
namespace Wm
open PySem PySem.Spec PyProof.Rows L2 StX
section
variable {P : Program} {w : World} {K : PySem.W.Frag} {mg : Str → Option Value} {base : Heap}
/-- a generator method -/
structure MetG (P : Program) (w : World) (K : PySem.W.Frag) (mg : Str → Option Value) (base : Heap) (k : Nat) (C : Addr) (m : Str) (sp : SpG) : Prop where
  ex : ∃ (f : Addr) (fd : FuncData) (ps : List Str), GFn P w K mg base k f fd ps sp ∧ Cls K C ∧ Meth K C m f ∧ Binds K fd ps []
end
section
variable {X : Cx} {k j : Nat} {C : Addr} {m x : Str} {sp : SpG} {p pos pos' apos : Pos} {e o : Expr} {es : List Expr} {ta : TE} {t : TA}
end
/-- what a raising generator may let out -/
def ENS (K : PySem.W.Frag) (E : XK) : XK := fun cls d H => E cls d H ∧ PySem.W.subIn K cls (.type "StopIteration") = some false
section
variable {X : Cx} {k j : Nat} {C : Addr} {m x : Str} {sp : SpG} {p pos pos' apos : Pos} {e o : Expr} {es : List Expr} {ta : TE} {t : TA} {E : XK}
end
def spGOr (a b : SpG) : SpG := fun vs H Q E => a vs H Q E ∨ b vs H Q E
/-! ### rules for the readings -/
section
variable {ys : List V} {σ : L2.St} {H : Hp} {D : GEnds} {t u : TGn} {tp : TS} {te : TE} {g : TG} {tr : TA} {Q : VK}
end
def tGNever : TGn := fun _ _ _ _ => False
end Wm
end

section
local macro_rules | `(tactic| walk_at "cls") => `(tactic| first | (with_reducible exact Wm.WeatherC.cl (by assumption)) | (with_reducible exact Wm.HeaterC.cl (by assumption)) | (with_reducible exact Wm.RoomC.cl (by assumption)) | (with_reducible exact Wm.RunC.cl (by assumption)) | (with_reducible exact Wm.HistoryC.cl (by assumption)) | (with_reducible exact Wm.ThresholdObserverC.cl (by assumption)) | (with_reducible exact Wm.SettingC.cl (by assumption)) | (with_reducible exact Wm.HourSettingC.cl (by assumption)) | (with_reducible exact Wm.RestSettingC.cl (by assumption)) | (with_reducible exact Wm.PricesC.cl (by assumption)) | (with_reducible exact Wm.MomentC.cl (by assumption)) | (with_reducible exact Wm.LiveRoomC.cl (by assumption)) | (with_reducible exact Wm.AttemptC.cl (by assumption)))
local macro_rules | `(tactic| walk_at "noattr") => `(tactic| first | (with_reducible exact Wm.WeatherC.n_pattern (by assumption)) | (with_reducible exact Wm.HeaterC.n_power (by assumption)) | (with_reducible exact Wm.HeaterC.n_below (by assumption)) | (with_reducible exact Wm.HeaterC.n_above (by assumption)) | (with_reducible exact Wm.RoomC.n_outside (by assumption)) | (with_reducible exact Wm.RoomC.n_inside (by assumption)) | (with_reducible exact Wm.RoomC.n_begin_degrees (by assumption)) | (with_reducible exact Wm.RoomC.n_past (by assumption)) | (with_reducible exact Wm.RoomC.n_repeated (by assumption)) | (with_reducible exact Wm.RoomC.n_share (by assumption)) | (with_reducible exact Wm.RoomC.n_coldest (by assumption)) | (with_reducible exact Wm.RoomC.n_warmest (by assumption)) | (with_reducible exact Wm.RunC.n_begin (by assumption)) | (with_reducible exact Wm.RunC.n_end (by assumption)) | (with_reducible exact Wm.RunC.n_degrees (by assumption)) | (with_reducible exact Wm.RunC.n_is_heating (by assumption)) | (with_reducible exact Wm.RunC.n_sums (by assumption)) | (with_reducible exact Wm.RunC.n_size (by assumption)) | (with_reducible exact Wm.RunC.n_drift (by assumption)) | (with_reducible exact Wm.HistoryC.n_shifts (by assumption)) | (with_reducible exact Wm.HistoryC.n_added (by assumption)) | (with_reducible exact Wm.HistoryC.n_floor (by assumption)) | (with_reducible exact Wm.HistoryC.n_ceiling (by assumption)) | (with_reducible exact Wm.HistoryC.n_was_heating (by assumption)) | (with_reducible exact Wm.HistoryC.n_runs (by assumption)) | (with_reducible exact Wm.HistoryC.n_loop (by assumption)) | (with_reducible exact Wm.ThresholdObserverC.n_outside (by assumption)) | (with_reducible exact Wm.ThresholdObserverC.n_power (by assumption)) | (with_reducible exact Wm.ThresholdObserverC.n_tick (by assumption)) | (with_reducible exact Wm.ThresholdObserverC.n_degrees (by assumption)) | (with_reducible exact Wm.ThresholdObserverC.n_is_heating (by assumption)) | (with_reducible exact Wm.ThresholdObserverC.n_lows (by assumption)) | (with_reducible exact Wm.ThresholdObserverC.n_highs (by assumption)) | (with_reducible exact Wm.ThresholdObserverC.n_noted (by assumption)) | (with_reducible exact Wm.SettingC.n_least (by assumption)) | (with_reducible exact Wm.SettingC.n_most (by assumption)) | (with_reducible exact Wm.HourSettingC.n_least (by assumption)) | (with_reducible exact Wm.HourSettingC.n_most (by assumption)) | (with_reducible exact Wm.HourSettingC.n_length (by assumption)) | (with_reducible exact Wm.HourSettingC.n_hours (by assumption)) | (with_reducible exact Wm.RestSettingC.n_least (by assumption)) | (with_reducible exact Wm.RestSettingC.n_most (by assumption)) | (with_reducible exact Wm.RestSettingC.n_rest (by assumption)) | (with_reducible exact Wm.PricesC.n_table (by assumption)) | (with_reducible exact Wm.MomentC.n_tick (by assumption)) | (with_reducible exact Wm.MomentC.n_heat (by assumption)) | (with_reducible exact Wm.MomentC.n_on (by assumption)) | (with_reducible exact Wm.MomentC.n_burnt (by assumption)) | (with_reducible exact Wm.MomentC.n_sky (by assumption)) | (with_reducible exact Wm.MomentC.n_stove (by assumption)) | (with_reducible exact Wm.LiveRoomC.n_moment (by assumption)) | (with_reducible exact Wm.LiveRoomC.n_earlier (by assumption)) | (with_reducible exact Wm.LiveRoomC.n_done (by assumption)) | (with_reducible exact Wm.AttemptC.n_live (by assumption)) | (with_reducible exact Wm.AttemptC.n_kept (by assumption)) | (with_reducible exact Wm.AttemptC.n_stack (by assumption)) | (with_reducible exact Wm.AttemptC.n_steps (by assumption)))
local macro_rules | `(tactic| walk_at "at") => `(tactic| first | assumption | exact Wm.Hold.rd (by assumption) (by assumption) | exact Wm.Hold.get (i := 0) (by assumption) rfl | exact Wm.Hold.get (i := 1) (by assumption) rfl | exact Wm.Hold.get (i := 2) (by assumption) rfl | exact Wm.Hold.get (i := 3) (by assumption) rfl | exact Wm.Hold.get (i := 4) (by assumption) rfl)
local macro_rules | `(tactic| walk_at "s1") => `(tactic| first
  | (with_reducible refine Wm.r_seq ?_)
  | (with_reducible refine Wm.r_op ?_)
  | ((with_reducible refine' Wm.r_var ?h ?_); (case h => rfl))
  | (with_reducible refine Wm.r_c ?_)
  | (with_reducible refine Wm.r_I0 ?_)
  | (with_reducible refine Wm.r_cons ?_)
  | (with_reducible refine Wm.r_nil ?_)
  | (with_reducible refine Wm.r_asg ?_)
  | (with_reducible refine Wm.r_gname ?_; try simp only [List.set_cons_zero, List.set_cons_succ])
  | (with_reducible refine Wm.r_nx ?_)
  | (with_reducible refine Wm.r_rt ?_)
  | (with_reducible refine Wm.r_ret ?_)
  | (with_reducible refine Wm.r_test ?_)
  | (with_reducible refine Wm.r_bl ?_)
  | (with_reducible refine Wm.r_B ?_)
  | (with_reducible refine Wm.r_eqI ?_)
  | (with_reducible refine Wm.r_neI ?_)
  | (with_reducible refine Wm.r_eqB ?_)
  | (with_reducible refine Wm.r_neB ?_)
  | (with_reducible refine Wm.r_fld ?_)
  | (with_reducible refine Wm.r_call ?_)
  | (with_reducible refine Wm.r_mtd ?_)
  | (with_reducible refine Wm.r_prp ?_)
  | (with_reducible refine Wm.r_mak ?_)
  | (with_reducible refine Wm.r_makKw ?_)
  | (with_reducible refine Wm.r_cb ?_)
  | (with_reducible refine Wm.r_tup ?_)
  | (with_reducible refine Wm.r_lst ?_)
  | (with_reducible refine Wm.r_chain ?_)
  | (with_reducible refine Wm.r_and ?_)
  | (with_reducible refine Wm.r_or ?_)
  | (with_reducible refine Wm.r_not ?_)
  | (with_reducible refine Wm.r_andV ?_)
  | (with_reducible refine Wm.r_orV ?_)
  | (with_reducible refine Wm.r_notV ?_)
  | (with_reducible refine Wm.r_if ?_)
  | (with_reducible refine Wm.r_un ?_)
  | (with_reducible refine Wm.r_U ?_)
  | (with_reducible refine Wm.r_iteT ?_)
  | (with_reducible refine Wm.r_iteF ?_)
  | (with_reducible refine Wm.r_next ?_)
  | (with_reducible refine Wm.r_drop ?_)
  | (with_reducible refine Wm.r_retN ?_)
  | ((with_reducible refine' Wm.r_aug ?h ?_); (case h => rfl))
  | (with_reducible refine Wm.r_ipI ?_)
  | (with_reducible refine Wm.r_par2 ?_)
  | (with_reducible refine Wm.r_two ?_; try simp only [List.set_cons_zero, List.set_cons_succ])
  | (with_reducible refine Wm.r_yes ?_)
  | (with_reducible refine Wm.r_forET ?_)
  | (with_reducible refine Wm.r_chain3 ?_)
  | (with_reducible refine Wm.r_nT ?_)
  | (with_reducible refine Wm.r_nF ?_)
  | (with_reducible refine Wm.r_par3 ?_)
  | (with_reducible refine Wm.r_seenPut ?_)
  | (with_reducible refine Wm.r_seenGet ?_)
  | (with_reducible refine Wm.r_three ?_; try simp only [List.set_cons_zero, List.set_cons_succ])
  | (with_reducible refine Wm.r_sl ?_)
  | (with_reducible refine Wm.r_nopart ?_)
  | (with_reducible refine Wm.r_part ?_)
  | (with_reducible refine Wm.r_xi ?_)
  | (with_reducible refine Wm.r_gcons ?_)
  | (with_reducible refine Wm.r_gnil ?_)
  | (with_reducible refine Wm.r_sub ?_)
  | (with_reducible refine Wm.r_setF ?_)
  | (with_reducible refine Wm.r_app ?_)
  | (with_reducible refine Wm.int_i ?_)
  | (with_reducible refine Wm.int_b ?_)
  | (with_reducible refine Wm.min2 ?_)
  | (with_reducible refine Wm.max2 ?_)
  | (with_reducible refine Wm.abs1 ?_)
  | (with_reducible refine Wm.isN ?_)
  | (with_reducible refine Wm.notN ?_)
  | ((with_reducible refine' Wm.r_ty ?e ?_); (case e => walk_at "at"))
  | ((with_reducible refine' Wm.setF_m ?h 0 ?e ?c ?a ?l ?_); (case h => assumption); (case e => rfl); (case c => walk_at "cls"); (case a => walk_at "noattr"); (case l => exact of_decide_eq_true rfl); intro H1 hh1; simp only [List.set_cons_zero, List.set_cons_succ] at hh1)
  | ((with_reducible refine' Wm.setF_m ?h 1 ?e ?c ?a ?l ?_); (case h => assumption); (case e => rfl); (case c => walk_at "cls"); (case a => walk_at "noattr"); (case l => exact of_decide_eq_true rfl); intro H1 hh1; simp only [List.set_cons_zero, List.set_cons_succ] at hh1)
  | ((with_reducible refine' Wm.setF_m ?h 2 ?e ?c ?a ?l ?_); (case h => assumption); (case e => rfl); (case c => walk_at "cls"); (case a => walk_at "noattr"); (case l => exact of_decide_eq_true rfl); intro H1 hh1; simp only [List.set_cons_zero, List.set_cons_succ] at hh1)
  | ((with_reducible refine' Wm.setF_m ?h 3 ?e ?c ?a ?l ?_); (case h => assumption); (case e => rfl); (case c => walk_at "cls"); (case a => walk_at "noattr"); (case l => exact of_decide_eq_true rfl); intro H1 hh1; simp only [List.set_cons_zero, List.set_cons_succ] at hh1)
  | (with_reducible refine Wm.r_forL ?_)
  | (with_reducible refine Wm.r_forT ?_)
  | (with_reducible refine Wm.r_forR1 ?_)
  | (with_reducible refine Wm.r_forR2 ?_)
  | (with_reducible refine Wm.r_forR3 ?_)
  | (with_reducible refine Wm.r_lcL ?_)
  | (with_reducible refine Wm.r_lcT ?_)
  | (with_reducible refine Wm.r_lcR1 ?_)
  | (with_reducible refine Wm.r_lcR2 ?_)
  | ((with_reducible refine' Wm.fld_h ?e ?c ?n ?l ?_); (case e => walk_at "at"); (case c => walk_at "cls"); (case n => walk_at "noattr"); (case l => rfl))
  | ((with_reducible refine' Wm.mtd_h ?e ?l ?_); (case e => walk_at "at"); (case l => rfl))
  | ((with_reducible refine' Wm.prp_h ?e ?_); (case e => walk_at "at"))
  | ((with_reducible refine' Wm.rix_ht ?a ?b ?_); (case a => walk_at "at"); (case b => rfl))
  | ((with_reducible refine' Wm.rix_h ?a ?b ?_); (case a => walk_at "at"); (case b => rfl))
  | ((with_reducible refine' Wm.len_ht ?a ?_); (case a => walk_at "at"))
  | ((with_reducible refine' Wm.len_h ?a ?_); (case a => walk_at "at"))
  | ((with_reducible refine' Wm.len_l ?a ?b ?_); (case a => assumption); (case b => assumption))
  | ((with_reducible refine' Wm.len_t ?a ?b ?_); (case a => assumption); (case b => assumption))
  | ((with_reducible refine' Wm.gtup_h ?a ?b ?_); (case a => walk_at "at"); (case b => rfl))
  | (with_reducible refine Wm.r_I (Wm.cmulR (by decide)) ?_)
  | (with_reducible refine Wm.r_I (Wm.cmulL (by decide)) ?_)
  | (with_reducible refine Wm.r_I (Wm.cdiv (by decide) (by decide)) ?_)
  | (with_reducible refine Wm.r_I Wm.cpow18 ?_)
  | (with_reducible refine Wm.r_I Wm.cpow12 ?_)
  | (with_reducible refine Wm.r_I (by show (0 : Int) < _; decide) ?_))
local macro_rules | `(tactic| walk_at "s") => `(tactic| repeat (first | walk_at "s1" | (with_reducible refine Wm.r_ifS ?_)))
local macro_rules | `(tactic| walk_at "t") => `(tactic| repeat (walk_at "s1"))
local macro_rules | `(tactic| walk_at "sz") => `(tactic| exact of_decide_eq_true rfl)
local macro_rules | `(tactic| walk_at "d") => `(tactic| first | (with_reducible refine Wm.r_dT (by omega) ?_) | (with_reducible refine Wm.r_dF (by omega) ?_) | (with_reducible refine Wm.r_dN (by omega) ?_) | (with_reducible refine Wm.r_dM (by omega) ?_))
local macro_rules | `(tactic| walk_at "sd") => `(tactic| repeat (first | walk_at "s1" | (with_reducible refine Wm.r_ifS ?_) | walk_at "d"))
local macro_rules | `(tactic| walk_at "ex") => `(tactic| first
  | assumption
  | exact Wm.Ex.refl _
  | (refine Wm.Ex.trans ?_ (by assumption); walk_at "ex")
  | (refine Wm.Ex.trans ?_ (Wm.Hold.ex (by assumption)); walk_at "ex"))
local macro_rules | `(tactic| walk_at "room") => `(tactic| first
  | assumption
  | (refine' Wm.IsRoom.up ?e ?h; (case h => assumption); (case e => walk_at "ex")))
local macro_rules | `(tactic| walk_at "opt") => `(tactic| first
  | assumption
  | (refine' Wm.OptAt.up ?e ?h; (case h => assumption); (case e => walk_at "ex")))
local macro_rules | `(tactic| walk_at "lst") => `(tactic| first
  | assumption
  | (refine' Wm.Lst.at_ ?h ?e; (case h => assumption); (case e => walk_at "ex"))
  | exact Wm.Hold.get (i := 0) (by assumption) rfl | exact Wm.Hold.get (i := 1) (by assumption) rfl | exact Wm.Hold.get (i := 2) (by assumption) rfl | exact Wm.Hold.get (i := 3) (by assumption) rfl | exact Wm.Hold.get (i := 4) (by assumption) rfl)
local macro_rules | `(tactic| walk_at "tup") => `(tactic| first
  | assumption
  | (refine' Wm.Tup.at_ ?h ?e; (case h => assumption); (case e => walk_at "ex")))
local macro_rules | `(tactic| walk_at "p1") => `(tactic| first
  | (with_reducible refine Wm.r_p18 ?_) | (with_reducible refine Wm.r_p12 ?_) | (with_reducible refine Wm.r_p17 ?_) | (with_reducible refine Wm.r_p15 ?_) | (with_reducible refine Wm.r_p11 ?_) | (with_reducible refine Wm.r_p6 ?_) | (with_reducible refine Wm.r_p5 ?_) | (with_reducible refine Wm.r_p4 ?_) | (with_reducible refine Wm.r_p9 ?_) | (with_reducible refine Wm.r_p13 ?_) | (with_reducible refine Wm.r_p20 ?_) | (with_reducible refine Wm.r_p30 ?_) | (with_reducible refine Wm.r_p16 ?_))
local macro_rules | `(tactic| walk_at "w2") => `(tactic| first
  | ((with_reducible refine' Wm.r_wp ?h ?_); (case h => rfl))
  | ((with_reducible refine' Wm.ap_mtd ?ir ?hl ?_); (case ir => walk_at "room"); (case hl => intros; rfl))
  | ((with_reducible refine' Wm.ap_prp ?ir ?_); (case ir => walk_at "room"))
  | ((with_reducible refine' Wm.ap_temp ?hh ?ir ?t0 ?t1 ?_); (case hh => assumption); (case ir => walk_at "room"); (case t0 => omega); (case t1 => omega); intro H1 hh1)
  | ((with_reducible refine' Wm.ap_on ?hh ?ir ?t0 ?t1 ?_); (case hh => assumption); (case ir => walk_at "room"); (case t0 => omega); (case t1 => omega); intro H1 hh1)
  | ((with_reducible refine' Wm.ap_heats ?hh ?ir ?t0 ?t1 ?_); (case hh => assumption); (case ir => walk_at "room"); (case t0 => omega); (case t1 => omega); intro H1 hh1)
  | ((with_reducible refine' Wm.ap_sws ?hh ?ir ?t0 ?t1 ?_); (case hh => assumption); (case ir => walk_at "room"); (case t0 => omega); (case t1 => omega); intro H1 hh1)
  | ((with_reducible refine' Wm.rix_ht ?a ?b ?_); (case a => walk_at "tup"); (case b => rfl))
  | ((with_reducible refine' Wm.rix_h ?a ?b ?_); (case a => walk_at "lst"); (case b => rfl))
  | ((with_reducible refine' Wm.len_ht ?a ?_); (case a => walk_at "tup"))
  | ((with_reducible refine' Wm.len_h ?a ?_); (case a => walk_at "lst"))
  | ((with_reducible refine' Wm.gtup_h ?a ?b ?_); (case a => walk_at "tup"); (case b => rfl))
  | ((with_reducible refine' Wm.r_I (Wm.cmulL ?h) ?_); (case h => omega))
  | ((with_reducible refine' Wm.r_I (Wm.cmulR ?h) ?_); (case h => omega))
  | ((with_reducible refine' Wm.r_I (Wm.cdiv ?h ?h2) ?_); (case h => omega); (case h2 => omega))
  | ((with_reducible refine' Wm.r_mod ?h ?_); (case h => omega))
  | ((with_reducible refine' Wm.tup_N ?hP ?hh ?_); (case hP => walk_at "sz"); (case hh => assumption); intro p G1 H1 ex1 tp hh1))
local macro_rules | `(tactic| walk_at "w1") => `(tactic| first | walk_at "p1" | walk_at "s1" | walk_at "w2")
local macro_rules | `(tactic| walk_at "w") => `(tactic| repeat (first | walk_at "w1" | (with_reducible refine Wm.r_ifS ?_)))
local macro_rules | `(tactic| walk_at "wl") => `(tactic| ((with_reducible refine' Wm.lst_N ?hP ?hh ?_); (case hP => walk_at "sz"); (case hh => assumption); intro p G1 H1 ex1 tp hh1))
local macro_rules | `(tactic| walk_at "wd") => `(tactic| repeat (first | walk_at "w1" | (with_reducible refine Wm.r_ifS ?_) | walk_at "d" | walk_at "wl"))
local macro_rules | `(tactic| walk_at "v") => `(tactic| repeat (walk_at "w1"))
namespace Wm
open PySem PySem.Spec PyProof.Rows L2 StX
/-! ## Later weather, moved heaters -/
def rotW (ch : List Int) (t : Int) : List Int := ch.drop (t % ch.length).toNat ++ ch.take (t % ch.length).toNat
theorem rotW_len (ch : List Int) (t : Int) (h : 0 < ch.length) : (rotW ch t).length = ch.length := by
  have := Int.emod_lt_of_pos t (show (0 : Int) < ch.length by omega)
  have := Int.emod_nonneg t (show (ch.length : Int) ≠ 0 by omega)
  unfold rotW
  rw [List.length_append, List.length_drop, List.length_take]
  omega
def sp_Weather_later (K : PySem.W.Frag) (A : Ads) : Sp := fun vs H Q _ => ∃ (p wt : Addr) (t : Int) (ch : List Int) (G : Hp) (mu : Mu), vs = [.ref p, .int t] ∧ Hold G mu H ∧ IsWeather K A G p wt ch ∧ 0 ≤ t ∧ t ≤ 10 ^ 18 ∧
  ∀ (q qt : Addr) (G' H' : Hp), Ex G G' → IsWeather K A G' q qt (rotW ch t) → Hold G' mu H' → Q (.ref q) H'
def sp_Heater_moved (K : PySem.W.Frag) (A : Ads) : Sp := fun vs H Q _ => ∃ (p : Addr) (d g lo hi : Int) (G : Hp) (mu : Mu), vs = [.ref p, .int d] ∧ Hold G mu H ∧ IsHeater K A G p g lo hi ∧ HtOk g (lo + d) (hi + d) ∧
  ∀ (q : Addr) (G' H' : Hp), Ex G G' → IsHeater K A G' q g (lo + d) (hi + d) → Hold G' mu H' → Q (.ref q) H'
def t_Weather_later (K : PySem.W.Frag) (A : Ads) : TS := tSeq (tDrop (tCal (sp_validate_number K A) E0 (tCons (tVar 1) (tCons (tC (.int 0)) (tCons (tC (.int 1000000000000000000)) (tNil)))))) (tSeq (tAsg (tOp (rI (fun _ j => 0 < j) fun i j => .int (i % j)) (tCB rInt (tCons (tVar 1) (tNil))) (tCB (rLen K) (tCons (tFld K (tVar 0) "pattern") (tNil)))) (gName 2)) (tSeq (tAsg (tOp (rCatA K) (tSl (rSlA K) (tFld K (tVar 0) "pattern") (tPart (tVar 2)) (tNoPart)) (tSl (rSlA K) (tFld K (tVar 0) "pattern") (tNoPart) (tPart (tVar 2)))) (gName 3)) (tRet (tMakS K A.cWeather (sp_Weather_init K A) E0 (tVar 3)))))
def t_Heater_moved (K : PySem.W.Frag) (A : Ads) : TS := tRet (tMak A.cHeater (sp_Heater_init K A) E0 (tCons (tFld K (tVar 0) "power") (tCons (tOp (rI0 fun i j => .int (i + j)) (tFld K (tVar 0) "below") (tVar 1)) (tCons (tOp (rI0 fun i j => .int (i + j)) (tFld K (tVar 0) "above") (tVar 1)) (tNil)))))
section
variable {K : PySem.W.Frag} {A : Ads} {G H : Hp} {mu : Mu} {Q : VK} {E : XK} {p q w wt h : Addr} {R : RoomD} {t d g lo hi st : Int} {ch : List Int} {on : Bool} {xs : List V}
end
section
variable {K : PySem.W.Frag} {A : Ads}
end
section
variable {K : PySem.W.Frag} {A : Ads} {G H : Hp} {mu : Mu} {Q : VK} {E : XK} {σ : L2.St} {p q w wt h : Addr} {R : RoomD} {t d g lo hi st : Int} {ch : List Int} {on : Bool} {tr : TA}
theorem ap_prpW {sp : Sp} (iw : IsWeather K A H w wt ch) (k : sp [.ref w] H Q E) : rPrp A.cWeather sp E (.ref w) H Q := by
  obtain ⟨_, _, dx, h1, _⟩ := iw
  exact ⟨w, dx, _, rfl, h1, k⟩
end
end Wm
end

section
local macro_rules | `(tactic| walk_at "cls") => `(tactic| first | (with_reducible exact Wm.WeatherC.cl (by assumption)) | (with_reducible exact Wm.HeaterC.cl (by assumption)) | (with_reducible exact Wm.RoomC.cl (by assumption)) | (with_reducible exact Wm.RunC.cl (by assumption)) | (with_reducible exact Wm.HistoryC.cl (by assumption)) | (with_reducible exact Wm.ThresholdObserverC.cl (by assumption)) | (with_reducible exact Wm.SettingC.cl (by assumption)) | (with_reducible exact Wm.HourSettingC.cl (by assumption)) | (with_reducible exact Wm.RestSettingC.cl (by assumption)) | (with_reducible exact Wm.PricesC.cl (by assumption)) | (with_reducible exact Wm.MomentC.cl (by assumption)) | (with_reducible exact Wm.LiveRoomC.cl (by assumption)) | (with_reducible exact Wm.AttemptC.cl (by assumption)))
local macro_rules | `(tactic| walk_at "noattr") => `(tactic| first | (with_reducible exact Wm.WeatherC.n_pattern (by assumption)) | (with_reducible exact Wm.HeaterC.n_power (by assumption)) | (with_reducible exact Wm.HeaterC.n_below (by assumption)) | (with_reducible exact Wm.HeaterC.n_above (by assumption)) | (with_reducible exact Wm.RoomC.n_outside (by assumption)) | (with_reducible exact Wm.RoomC.n_inside (by assumption)) | (with_reducible exact Wm.RoomC.n_begin_degrees (by assumption)) | (with_reducible exact Wm.RoomC.n_past (by assumption)) | (with_reducible exact Wm.RoomC.n_repeated (by assumption)) | (with_reducible exact Wm.RoomC.n_share (by assumption)) | (with_reducible exact Wm.RoomC.n_coldest (by assumption)) | (with_reducible exact Wm.RoomC.n_warmest (by assumption)) | (with_reducible exact Wm.RunC.n_begin (by assumption)) | (with_reducible exact Wm.RunC.n_end (by assumption)) | (with_reducible exact Wm.RunC.n_degrees (by assumption)) | (with_reducible exact Wm.RunC.n_is_heating (by assumption)) | (with_reducible exact Wm.RunC.n_sums (by assumption)) | (with_reducible exact Wm.RunC.n_size (by assumption)) | (with_reducible exact Wm.RunC.n_drift (by assumption)) | (with_reducible exact Wm.HistoryC.n_shifts (by assumption)) | (with_reducible exact Wm.HistoryC.n_added (by assumption)) | (with_reducible exact Wm.HistoryC.n_floor (by assumption)) | (with_reducible exact Wm.HistoryC.n_ceiling (by assumption)) | (with_reducible exact Wm.HistoryC.n_was_heating (by assumption)) | (with_reducible exact Wm.HistoryC.n_runs (by assumption)) | (with_reducible exact Wm.HistoryC.n_loop (by assumption)) | (with_reducible exact Wm.ThresholdObserverC.n_outside (by assumption)) | (with_reducible exact Wm.ThresholdObserverC.n_power (by assumption)) | (with_reducible exact Wm.ThresholdObserverC.n_tick (by assumption)) | (with_reducible exact Wm.ThresholdObserverC.n_degrees (by assumption)) | (with_reducible exact Wm.ThresholdObserverC.n_is_heating (by assumption)) | (with_reducible exact Wm.ThresholdObserverC.n_lows (by assumption)) | (with_reducible exact Wm.ThresholdObserverC.n_highs (by assumption)) | (with_reducible exact Wm.ThresholdObserverC.n_noted (by assumption)) | (with_reducible exact Wm.SettingC.n_least (by assumption)) | (with_reducible exact Wm.SettingC.n_most (by assumption)) | (with_reducible exact Wm.HourSettingC.n_least (by assumption)) | (with_reducible exact Wm.HourSettingC.n_most (by assumption)) | (with_reducible exact Wm.HourSettingC.n_length (by assumption)) | (with_reducible exact Wm.HourSettingC.n_hours (by assumption)) | (with_reducible exact Wm.RestSettingC.n_least (by assumption)) | (with_reducible exact Wm.RestSettingC.n_most (by assumption)) | (with_reducible exact Wm.RestSettingC.n_rest (by assumption)) | (with_reducible exact Wm.PricesC.n_table (by assumption)) | (with_reducible exact Wm.MomentC.n_tick (by assumption)) | (with_reducible exact Wm.MomentC.n_heat (by assumption)) | (with_reducible exact Wm.MomentC.n_on (by assumption)) | (with_reducible exact Wm.MomentC.n_burnt (by assumption)) | (with_reducible exact Wm.MomentC.n_sky (by assumption)) | (with_reducible exact Wm.MomentC.n_stove (by assumption)) | (with_reducible exact Wm.LiveRoomC.n_moment (by assumption)) | (with_reducible exact Wm.LiveRoomC.n_earlier (by assumption)) | (with_reducible exact Wm.LiveRoomC.n_done (by assumption)) | (with_reducible exact Wm.AttemptC.n_live (by assumption)) | (with_reducible exact Wm.AttemptC.n_kept (by assumption)) | (with_reducible exact Wm.AttemptC.n_stack (by assumption)) | (with_reducible exact Wm.AttemptC.n_steps (by assumption)))
local macro_rules | `(tactic| walk_at "at") => `(tactic| first | assumption | exact Wm.Hold.rd (by assumption) (by assumption) | exact Wm.Hold.get (i := 0) (by assumption) rfl | exact Wm.Hold.get (i := 1) (by assumption) rfl | exact Wm.Hold.get (i := 2) (by assumption) rfl | exact Wm.Hold.get (i := 3) (by assumption) rfl | exact Wm.Hold.get (i := 4) (by assumption) rfl)
local macro_rules | `(tactic| walk_at "s1") => `(tactic| first
  | (with_reducible refine Wm.r_seq ?_)
  | (with_reducible refine Wm.r_op ?_)
  | ((with_reducible refine' Wm.r_var ?h ?_); (case h => rfl))
  | (with_reducible refine Wm.r_c ?_)
  | (with_reducible refine Wm.r_I0 ?_)
  | (with_reducible refine Wm.r_cons ?_)
  | (with_reducible refine Wm.r_nil ?_)
  | (with_reducible refine Wm.r_asg ?_)
  | (with_reducible refine Wm.r_gname ?_; try simp only [List.set_cons_zero, List.set_cons_succ])
  | (with_reducible refine Wm.r_nx ?_)
  | (with_reducible refine Wm.r_rt ?_)
  | (with_reducible refine Wm.r_ret ?_)
  | (with_reducible refine Wm.r_test ?_)
  | (with_reducible refine Wm.r_bl ?_)
  | (with_reducible refine Wm.r_B ?_)
  | (with_reducible refine Wm.r_eqI ?_)
  | (with_reducible refine Wm.r_neI ?_)
  | (with_reducible refine Wm.r_eqB ?_)
  | (with_reducible refine Wm.r_neB ?_)
  | (with_reducible refine Wm.r_fld ?_)
  | (with_reducible refine Wm.r_call ?_)
  | (with_reducible refine Wm.r_mtd ?_)
  | (with_reducible refine Wm.r_prp ?_)
  | (with_reducible refine Wm.r_mak ?_)
  | (with_reducible refine Wm.r_makKw ?_)
  | (with_reducible refine Wm.r_cb ?_)
  | (with_reducible refine Wm.r_tup ?_)
  | (with_reducible refine Wm.r_lst ?_)
  | (with_reducible refine Wm.r_chain ?_)
  | (with_reducible refine Wm.r_and ?_)
  | (with_reducible refine Wm.r_or ?_)
  | (with_reducible refine Wm.r_not ?_)
  | (with_reducible refine Wm.r_andV ?_)
  | (with_reducible refine Wm.r_orV ?_)
  | (with_reducible refine Wm.r_notV ?_)
  | (with_reducible refine Wm.r_if ?_)
  | (with_reducible refine Wm.r_un ?_)
  | (with_reducible refine Wm.r_U ?_)
  | (with_reducible refine Wm.r_iteT ?_)
  | (with_reducible refine Wm.r_iteF ?_)
  | (with_reducible refine Wm.r_next ?_)
  | (with_reducible refine Wm.r_drop ?_)
  | (with_reducible refine Wm.r_retN ?_)
  | ((with_reducible refine' Wm.r_aug ?h ?_); (case h => rfl))
  | (with_reducible refine Wm.r_ipI ?_)
  | (with_reducible refine Wm.r_par2 ?_)
  | (with_reducible refine Wm.r_two ?_; try simp only [List.set_cons_zero, List.set_cons_succ])
  | (with_reducible refine Wm.r_yes ?_)
  | (with_reducible refine Wm.r_forET ?_)
  | (with_reducible refine Wm.r_chain3 ?_)
  | (with_reducible refine Wm.r_nT ?_)
  | (with_reducible refine Wm.r_nF ?_)
  | (with_reducible refine Wm.r_par3 ?_)
  | (with_reducible refine Wm.r_seenPut ?_)
  | (with_reducible refine Wm.r_seenGet ?_)
  | (with_reducible refine Wm.r_three ?_; try simp only [List.set_cons_zero, List.set_cons_succ])
  | (with_reducible refine Wm.r_sl ?_)
  | (with_reducible refine Wm.r_nopart ?_)
  | (with_reducible refine Wm.r_part ?_)
  | (with_reducible refine Wm.r_xi ?_)
  | (with_reducible refine Wm.r_gcons ?_)
  | (with_reducible refine Wm.r_gnil ?_)
  | (with_reducible refine Wm.r_sub ?_)
  | (with_reducible refine Wm.r_setF ?_)
  | (with_reducible refine Wm.r_app ?_)
  | (with_reducible refine Wm.int_i ?_)
  | (with_reducible refine Wm.int_b ?_)
  | (with_reducible refine Wm.min2 ?_)
  | (with_reducible refine Wm.max2 ?_)
  | (with_reducible refine Wm.abs1 ?_)
  | (with_reducible refine Wm.isN ?_)
  | (with_reducible refine Wm.notN ?_)
  | ((with_reducible refine' Wm.r_ty ?e ?_); (case e => walk_at "at"))
  | ((with_reducible refine' Wm.setF_m ?h 0 ?e ?c ?a ?l ?_); (case h => assumption); (case e => rfl); (case c => walk_at "cls"); (case a => walk_at "noattr"); (case l => exact of_decide_eq_true rfl); intro H1 hh1; simp only [List.set_cons_zero, List.set_cons_succ] at hh1)
  | ((with_reducible refine' Wm.setF_m ?h 1 ?e ?c ?a ?l ?_); (case h => assumption); (case e => rfl); (case c => walk_at "cls"); (case a => walk_at "noattr"); (case l => exact of_decide_eq_true rfl); intro H1 hh1; simp only [List.set_cons_zero, List.set_cons_succ] at hh1)
  | ((with_reducible refine' Wm.setF_m ?h 2 ?e ?c ?a ?l ?_); (case h => assumption); (case e => rfl); (case c => walk_at "cls"); (case a => walk_at "noattr"); (case l => exact of_decide_eq_true rfl); intro H1 hh1; simp only [List.set_cons_zero, List.set_cons_succ] at hh1)
  | ((with_reducible refine' Wm.setF_m ?h 3 ?e ?c ?a ?l ?_); (case h => assumption); (case e => rfl); (case c => walk_at "cls"); (case a => walk_at "noattr"); (case l => exact of_decide_eq_true rfl); intro H1 hh1; simp only [List.set_cons_zero, List.set_cons_succ] at hh1)
  | (with_reducible refine Wm.r_forL ?_)
  | (with_reducible refine Wm.r_forT ?_)
  | (with_reducible refine Wm.r_forR1 ?_)
  | (with_reducible refine Wm.r_forR2 ?_)
  | (with_reducible refine Wm.r_forR3 ?_)
  | (with_reducible refine Wm.r_lcL ?_)
  | (with_reducible refine Wm.r_lcT ?_)
  | (with_reducible refine Wm.r_lcR1 ?_)
  | (with_reducible refine Wm.r_lcR2 ?_)
  | ((with_reducible refine' Wm.fld_h ?e ?c ?n ?l ?_); (case e => walk_at "at"); (case c => walk_at "cls"); (case n => walk_at "noattr"); (case l => rfl))
  | ((with_reducible refine' Wm.mtd_h ?e ?l ?_); (case e => walk_at "at"); (case l => rfl))
  | ((with_reducible refine' Wm.prp_h ?e ?_); (case e => walk_at "at"))
  | ((with_reducible refine' Wm.rix_ht ?a ?b ?_); (case a => walk_at "at"); (case b => rfl))
  | ((with_reducible refine' Wm.rix_h ?a ?b ?_); (case a => walk_at "at"); (case b => rfl))
  | ((with_reducible refine' Wm.len_ht ?a ?_); (case a => walk_at "at"))
  | ((with_reducible refine' Wm.len_h ?a ?_); (case a => walk_at "at"))
  | ((with_reducible refine' Wm.len_l ?a ?b ?_); (case a => assumption); (case b => assumption))
  | ((with_reducible refine' Wm.len_t ?a ?b ?_); (case a => assumption); (case b => assumption))
  | ((with_reducible refine' Wm.gtup_h ?a ?b ?_); (case a => walk_at "at"); (case b => rfl))
  | (with_reducible refine Wm.r_I (Wm.cmulR (by decide)) ?_)
  | (with_reducible refine Wm.r_I (Wm.cmulL (by decide)) ?_)
  | (with_reducible refine Wm.r_I (Wm.cdiv (by decide) (by decide)) ?_)
  | (with_reducible refine Wm.r_I Wm.cpow18 ?_)
  | (with_reducible refine Wm.r_I Wm.cpow12 ?_)
  | (with_reducible refine Wm.r_I (by show (0 : Int) < _; decide) ?_))
local macro_rules | `(tactic| walk_at "s") => `(tactic| repeat (first | walk_at "s1" | (with_reducible refine Wm.r_ifS ?_)))
local macro_rules | `(tactic| walk_at "t") => `(tactic| repeat (walk_at "s1"))
local macro_rules | `(tactic| walk_at "sz") => `(tactic| exact of_decide_eq_true rfl)
local macro_rules | `(tactic| walk_at "d") => `(tactic| first | (with_reducible refine Wm.r_dT (by omega) ?_) | (with_reducible refine Wm.r_dF (by omega) ?_) | (with_reducible refine Wm.r_dN (by omega) ?_) | (with_reducible refine Wm.r_dM (by omega) ?_))
local macro_rules | `(tactic| walk_at "sd") => `(tactic| repeat (first | walk_at "s1" | (with_reducible refine Wm.r_ifS ?_) | walk_at "d"))
local macro_rules | `(tactic| walk_at "ex") => `(tactic| first
  | assumption
  | exact Wm.Ex.refl _
  | (refine Wm.Ex.trans ?_ (by assumption); walk_at "ex")
  | (refine Wm.Ex.trans ?_ (Wm.Hold.ex (by assumption)); walk_at "ex"))
local macro_rules | `(tactic| walk_at "room") => `(tactic| first
  | assumption
  | (refine' Wm.IsRoom.up ?e ?h; (case h => assumption); (case e => walk_at "ex")))
local macro_rules | `(tactic| walk_at "opt") => `(tactic| first
  | assumption
  | (refine' Wm.OptAt.up ?e ?h; (case h => assumption); (case e => walk_at "ex")))
local macro_rules | `(tactic| walk_at "lst") => `(tactic| first
  | assumption
  | (refine' Wm.Lst.at_ ?h ?e; (case h => assumption); (case e => walk_at "ex"))
  | exact Wm.Hold.get (i := 0) (by assumption) rfl | exact Wm.Hold.get (i := 1) (by assumption) rfl | exact Wm.Hold.get (i := 2) (by assumption) rfl | exact Wm.Hold.get (i := 3) (by assumption) rfl | exact Wm.Hold.get (i := 4) (by assumption) rfl)
local macro_rules | `(tactic| walk_at "tup") => `(tactic| first
  | assumption
  | (refine' Wm.Tup.at_ ?h ?e; (case h => assumption); (case e => walk_at "ex")))
local macro_rules | `(tactic| walk_at "p1") => `(tactic| first
  | (with_reducible refine Wm.r_p18 ?_) | (with_reducible refine Wm.r_p12 ?_) | (with_reducible refine Wm.r_p17 ?_) | (with_reducible refine Wm.r_p15 ?_) | (with_reducible refine Wm.r_p11 ?_) | (with_reducible refine Wm.r_p6 ?_) | (with_reducible refine Wm.r_p5 ?_) | (with_reducible refine Wm.r_p4 ?_) | (with_reducible refine Wm.r_p9 ?_) | (with_reducible refine Wm.r_p13 ?_) | (with_reducible refine Wm.r_p20 ?_) | (with_reducible refine Wm.r_p30 ?_) | (with_reducible refine Wm.r_p16 ?_))
local macro_rules | `(tactic| walk_at "w2") => `(tactic| first
  | ((with_reducible refine' Wm.r_wp ?h ?_); (case h => rfl))
  | ((with_reducible refine' Wm.ap_mtd ?ir ?hl ?_); (case ir => walk_at "room"); (case hl => intros; rfl))
  | ((with_reducible refine' Wm.ap_prp ?ir ?_); (case ir => walk_at "room"))
  | ((with_reducible refine' Wm.ap_temp ?hh ?ir ?t0 ?t1 ?_); (case hh => assumption); (case ir => walk_at "room"); (case t0 => omega); (case t1 => omega); intro H1 hh1)
  | ((with_reducible refine' Wm.ap_on ?hh ?ir ?t0 ?t1 ?_); (case hh => assumption); (case ir => walk_at "room"); (case t0 => omega); (case t1 => omega); intro H1 hh1)
  | ((with_reducible refine' Wm.ap_heats ?hh ?ir ?t0 ?t1 ?_); (case hh => assumption); (case ir => walk_at "room"); (case t0 => omega); (case t1 => omega); intro H1 hh1)
  | ((with_reducible refine' Wm.ap_sws ?hh ?ir ?t0 ?t1 ?_); (case hh => assumption); (case ir => walk_at "room"); (case t0 => omega); (case t1 => omega); intro H1 hh1)
  | ((with_reducible refine' Wm.rix_ht ?a ?b ?_); (case a => walk_at "tup"); (case b => rfl))
  | ((with_reducible refine' Wm.rix_h ?a ?b ?_); (case a => walk_at "lst"); (case b => rfl))
  | ((with_reducible refine' Wm.len_ht ?a ?_); (case a => walk_at "tup"))
  | ((with_reducible refine' Wm.len_h ?a ?_); (case a => walk_at "lst"))
  | ((with_reducible refine' Wm.gtup_h ?a ?b ?_); (case a => walk_at "tup"); (case b => rfl))
  | ((with_reducible refine' Wm.r_I (Wm.cmulL ?h) ?_); (case h => omega))
  | ((with_reducible refine' Wm.r_I (Wm.cmulR ?h) ?_); (case h => omega))
  | ((with_reducible refine' Wm.r_I (Wm.cdiv ?h ?h2) ?_); (case h => omega); (case h2 => omega))
  | ((with_reducible refine' Wm.r_mod ?h ?_); (case h => omega))
  | ((with_reducible refine' Wm.tup_N ?hP ?hh ?_); (case hP => walk_at "sz"); (case hh => assumption); intro p G1 H1 ex1 tp hh1))
local macro_rules | `(tactic| walk_at "w1") => `(tactic| first | walk_at "p1" | walk_at "s1" | walk_at "w2")
local macro_rules | `(tactic| walk_at "w") => `(tactic| repeat (first | walk_at "w1" | (with_reducible refine Wm.r_ifS ?_)))
local macro_rules | `(tactic| walk_at "wl") => `(tactic| ((with_reducible refine' Wm.lst_N ?hP ?hh ?_); (case hP => walk_at "sz"); (case hh => assumption); intro p G1 H1 ex1 tp hh1))
local macro_rules | `(tactic| walk_at "wd") => `(tactic| repeat (first | walk_at "w1" | (with_reducible refine Wm.r_ifS ?_) | walk_at "d" | walk_at "wl"))
local macro_rules | `(tactic| walk_at "v") => `(tactic| repeat (walk_at "w1"))
namespace Wm
open PySem PySem.Spec PyProof.Rows L2 StX
/-! ## Room.temperatures -/
def tempsOf (P : Par) (a : Int) (n : Nat) : List V := ((List.range n).map fun i : Nat => dAt P (a + i)).map V.int
def sp_Room_temperatures (K : PySem.W.Frag) (A : Ads) : SpG := fun vs H Q _ => ∃ (p : Addr) (R : RoomD) (a b : Int), vs = [.ref p, .int a, .int b] ∧ IsRoom K A H p R ∧ 0 ≤ a ∧ a ≤ b ∧ b ≤ 10 ^ 18 ∧ b ≤ a + 9999 ∧ ∀ H', Ex H H' → Q (tempsOf R.P a (b - a + 1).toNat) H'
def t_Room_temperatures (K : PySem.W.Frag) (A : Ads) : TGn := tGThen (tPlain (tDrop (tCal (sp_validate_number K A) E0 (tCons (tVar 1) (tCons (tC (.int 0)) (tCons (tC (.int 1000000000000000000)) (tNil))))))) (tGThen (tPlain (tDrop (tCal (sp_validate_number K A) E0 (tCons (tVar 2) (tCons (tVar 1) (tCons (tCB rMin2 (tCons (tC (.int 1000000000000000000)) (tCons (tOp (rI0 fun i j => .int (i - j)) (tOp (rI0 fun i j => .int (i + j)) (tVar 1) (tC (.int 10000))) (tC (.int 1))) (tNil)))) (tNil))))))) (tGThen (tGFor (iRng2 (tCons (tVar 1) (tCons (tOp (rI0 fun i j => .int (i + j)) (tVar 2) (tC (.int 1))) (tNil)))) (gName 3) (tGThen (tGYield (tMtd A.cRoom "temperature" (sp_Room_temperature K A) E0 (tVar 0) (tCons (tVar 3) (tNil)))) (tG0))) (tG0)))
section
variable {K : PySem.W.Frag} {A : Ads}
end
section
variable {K : PySem.W.Frag} {A : Ads} {G H : Hp} {mu : Mu} {Q : VK} {σ : L2.St} {p : Addr} {R : RoomD} {a b : Int} {xs : List V} {ta : TE} {t : TA} {C : Addr} {m : Str} {sp : SpG} {E : XK}
def rLgQ (sp : SpG) (vs : List V) (H : Hp) (Q : VK) (E : XK) : Prop := sp vs H (fun out H3 => ∀ p, H3 p = none → Q (.ref p) (upd H3 p (.lst out))) E
def rMtG (C : Addr) (m : Str) (sp : SpG) (E : XK) (t : TA) (σ : L2.St) (x : V) (H1 : Hp) (Q : VK) : Prop := ∃ a dx fs, x = .ref a ∧ H1 a = some (.ins C dx fs) ∧ fs.lookup m = none ∧ t σ H1 fun vs H2 => rLgQ sp (x :: (vs ++ [])) H2 Q E
end
end Wm
end

section
local macro_rules | `(tactic| walk_at "cls") => `(tactic| first | (with_reducible exact Wm.WeatherC.cl (by assumption)) | (with_reducible exact Wm.HeaterC.cl (by assumption)) | (with_reducible exact Wm.RoomC.cl (by assumption)) | (with_reducible exact Wm.RunC.cl (by assumption)) | (with_reducible exact Wm.HistoryC.cl (by assumption)) | (with_reducible exact Wm.ThresholdObserverC.cl (by assumption)) | (with_reducible exact Wm.SettingC.cl (by assumption)) | (with_reducible exact Wm.HourSettingC.cl (by assumption)) | (with_reducible exact Wm.RestSettingC.cl (by assumption)) | (with_reducible exact Wm.PricesC.cl (by assumption)) | (with_reducible exact Wm.MomentC.cl (by assumption)) | (with_reducible exact Wm.LiveRoomC.cl (by assumption)) | (with_reducible exact Wm.AttemptC.cl (by assumption)))
local macro_rules | `(tactic| walk_at "noattr") => `(tactic| first | (with_reducible exact Wm.WeatherC.n_pattern (by assumption)) | (with_reducible exact Wm.HeaterC.n_power (by assumption)) | (with_reducible exact Wm.HeaterC.n_below (by assumption)) | (with_reducible exact Wm.HeaterC.n_above (by assumption)) | (with_reducible exact Wm.RoomC.n_outside (by assumption)) | (with_reducible exact Wm.RoomC.n_inside (by assumption)) | (with_reducible exact Wm.RoomC.n_begin_degrees (by assumption)) | (with_reducible exact Wm.RoomC.n_past (by assumption)) | (with_reducible exact Wm.RoomC.n_repeated (by assumption)) | (with_reducible exact Wm.RoomC.n_share (by assumption)) | (with_reducible exact Wm.RoomC.n_coldest (by assumption)) | (with_reducible exact Wm.RoomC.n_warmest (by assumption)) | (with_reducible exact Wm.RunC.n_begin (by assumption)) | (with_reducible exact Wm.RunC.n_end (by assumption)) | (with_reducible exact Wm.RunC.n_degrees (by assumption)) | (with_reducible exact Wm.RunC.n_is_heating (by assumption)) | (with_reducible exact Wm.RunC.n_sums (by assumption)) | (with_reducible exact Wm.RunC.n_size (by assumption)) | (with_reducible exact Wm.RunC.n_drift (by assumption)) | (with_reducible exact Wm.HistoryC.n_shifts (by assumption)) | (with_reducible exact Wm.HistoryC.n_added (by assumption)) | (with_reducible exact Wm.HistoryC.n_floor (by assumption)) | (with_reducible exact Wm.HistoryC.n_ceiling (by assumption)) | (with_reducible exact Wm.HistoryC.n_was_heating (by assumption)) | (with_reducible exact Wm.HistoryC.n_runs (by assumption)) | (with_reducible exact Wm.HistoryC.n_loop (by assumption)) | (with_reducible exact Wm.ThresholdObserverC.n_outside (by assumption)) | (with_reducible exact Wm.ThresholdObserverC.n_power (by assumption)) | (with_reducible exact Wm.ThresholdObserverC.n_tick (by assumption)) | (with_reducible exact Wm.ThresholdObserverC.n_degrees (by assumption)) | (with_reducible exact Wm.ThresholdObserverC.n_is_heating (by assumption)) | (with_reducible exact Wm.ThresholdObserverC.n_lows (by assumption)) | (with_reducible exact Wm.ThresholdObserverC.n_highs (by assumption)) | (with_reducible exact Wm.ThresholdObserverC.n_noted (by assumption)) | (with_reducible exact Wm.SettingC.n_least (by assumption)) | (with_reducible exact Wm.SettingC.n_most (by assumption)) | (with_reducible exact Wm.HourSettingC.n_least (by assumption)) | (with_reducible exact Wm.HourSettingC.n_most (by assumption)) | (with_reducible exact Wm.HourSettingC.n_length (by assumption)) | (with_reducible exact Wm.HourSettingC.n_hours (by assumption)) | (with_reducible exact Wm.RestSettingC.n_least (by assumption)) | (with_reducible exact Wm.RestSettingC.n_most (by assumption)) | (with_reducible exact Wm.RestSettingC.n_rest (by assumption)) | (with_reducible exact Wm.PricesC.n_table (by assumption)) | (with_reducible exact Wm.MomentC.n_tick (by assumption)) | (with_reducible exact Wm.MomentC.n_heat (by assumption)) | (with_reducible exact Wm.MomentC.n_on (by assumption)) | (with_reducible exact Wm.MomentC.n_burnt (by assumption)) | (with_reducible exact Wm.MomentC.n_sky (by assumption)) | (with_reducible exact Wm.MomentC.n_stove (by assumption)) | (with_reducible exact Wm.LiveRoomC.n_moment (by assumption)) | (with_reducible exact Wm.LiveRoomC.n_earlier (by assumption)) | (with_reducible exact Wm.LiveRoomC.n_done (by assumption)) | (with_reducible exact Wm.AttemptC.n_live (by assumption)) | (with_reducible exact Wm.AttemptC.n_kept (by assumption)) | (with_reducible exact Wm.AttemptC.n_stack (by assumption)) | (with_reducible exact Wm.AttemptC.n_steps (by assumption)))
local macro_rules | `(tactic| walk_at "at") => `(tactic| first | assumption | exact Wm.Hold.rd (by assumption) (by assumption) | exact Wm.Hold.get (i := 0) (by assumption) rfl | exact Wm.Hold.get (i := 1) (by assumption) rfl | exact Wm.Hold.get (i := 2) (by assumption) rfl | exact Wm.Hold.get (i := 3) (by assumption) rfl | exact Wm.Hold.get (i := 4) (by assumption) rfl)
local macro_rules | `(tactic| walk_at "s1") => `(tactic| first
  | (with_reducible refine Wm.r_seq ?_)
  | (with_reducible refine Wm.r_op ?_)
  | ((with_reducible refine' Wm.r_var ?h ?_); (case h => rfl))
  | (with_reducible refine Wm.r_c ?_)
  | (with_reducible refine Wm.r_I0 ?_)
  | (with_reducible refine Wm.r_cons ?_)
  | (with_reducible refine Wm.r_nil ?_)
  | (with_reducible refine Wm.r_asg ?_)
  | (with_reducible refine Wm.r_gname ?_; try simp only [List.set_cons_zero, List.set_cons_succ])
  | (with_reducible refine Wm.r_nx ?_)
  | (with_reducible refine Wm.r_rt ?_)
  | (with_reducible refine Wm.r_ret ?_)
  | (with_reducible refine Wm.r_test ?_)
  | (with_reducible refine Wm.r_bl ?_)
  | (with_reducible refine Wm.r_B ?_)
  | (with_reducible refine Wm.r_eqI ?_)
  | (with_reducible refine Wm.r_neI ?_)
  | (with_reducible refine Wm.r_eqB ?_)
  | (with_reducible refine Wm.r_neB ?_)
  | (with_reducible refine Wm.r_fld ?_)
  | (with_reducible refine Wm.r_call ?_)
  | (with_reducible refine Wm.r_mtd ?_)
  | (with_reducible refine Wm.r_prp ?_)
  | (with_reducible refine Wm.r_mak ?_)
  | (with_reducible refine Wm.r_makKw ?_)
  | (with_reducible refine Wm.r_cb ?_)
  | (with_reducible refine Wm.r_tup ?_)
  | (with_reducible refine Wm.r_lst ?_)
  | (with_reducible refine Wm.r_chain ?_)
  | (with_reducible refine Wm.r_and ?_)
  | (with_reducible refine Wm.r_or ?_)
  | (with_reducible refine Wm.r_not ?_)
  | (with_reducible refine Wm.r_andV ?_)
  | (with_reducible refine Wm.r_orV ?_)
  | (with_reducible refine Wm.r_notV ?_)
  | (with_reducible refine Wm.r_if ?_)
  | (with_reducible refine Wm.r_un ?_)
  | (with_reducible refine Wm.r_U ?_)
  | (with_reducible refine Wm.r_iteT ?_)
  | (with_reducible refine Wm.r_iteF ?_)
  | (with_reducible refine Wm.r_next ?_)
  | (with_reducible refine Wm.r_drop ?_)
  | (with_reducible refine Wm.r_retN ?_)
  | ((with_reducible refine' Wm.r_aug ?h ?_); (case h => rfl))
  | (with_reducible refine Wm.r_ipI ?_)
  | (with_reducible refine Wm.r_par2 ?_)
  | (with_reducible refine Wm.r_two ?_; try simp only [List.set_cons_zero, List.set_cons_succ])
  | (with_reducible refine Wm.r_yes ?_)
  | (with_reducible refine Wm.r_forET ?_)
  | (with_reducible refine Wm.r_chain3 ?_)
  | (with_reducible refine Wm.r_nT ?_)
  | (with_reducible refine Wm.r_nF ?_)
  | (with_reducible refine Wm.r_par3 ?_)
  | (with_reducible refine Wm.r_seenPut ?_)
  | (with_reducible refine Wm.r_seenGet ?_)
  | (with_reducible refine Wm.r_three ?_; try simp only [List.set_cons_zero, List.set_cons_succ])
  | (with_reducible refine Wm.r_sl ?_)
  | (with_reducible refine Wm.r_nopart ?_)
  | (with_reducible refine Wm.r_part ?_)
  | (with_reducible refine Wm.r_xi ?_)
  | (with_reducible refine Wm.r_gcons ?_)
  | (with_reducible refine Wm.r_gnil ?_)
  | (with_reducible refine Wm.r_sub ?_)
  | (with_reducible refine Wm.r_setF ?_)
  | (with_reducible refine Wm.r_app ?_)
  | (with_reducible refine Wm.int_i ?_)
  | (with_reducible refine Wm.int_b ?_)
  | (with_reducible refine Wm.min2 ?_)
  | (with_reducible refine Wm.max2 ?_)
  | (with_reducible refine Wm.abs1 ?_)
  | (with_reducible refine Wm.isN ?_)
  | (with_reducible refine Wm.notN ?_)
  | ((with_reducible refine' Wm.r_ty ?e ?_); (case e => walk_at "at"))
  | ((with_reducible refine' Wm.setF_m ?h 0 ?e ?c ?a ?l ?_); (case h => assumption); (case e => rfl); (case c => walk_at "cls"); (case a => walk_at "noattr"); (case l => exact of_decide_eq_true rfl); intro H1 hh1; simp only [List.set_cons_zero, List.set_cons_succ] at hh1)
  | ((with_reducible refine' Wm.setF_m ?h 1 ?e ?c ?a ?l ?_); (case h => assumption); (case e => rfl); (case c => walk_at "cls"); (case a => walk_at "noattr"); (case l => exact of_decide_eq_true rfl); intro H1 hh1; simp only [List.set_cons_zero, List.set_cons_succ] at hh1)
  | ((with_reducible refine' Wm.setF_m ?h 2 ?e ?c ?a ?l ?_); (case h => assumption); (case e => rfl); (case c => walk_at "cls"); (case a => walk_at "noattr"); (case l => exact of_decide_eq_true rfl); intro H1 hh1; simp only [List.set_cons_zero, List.set_cons_succ] at hh1)
  | ((with_reducible refine' Wm.setF_m ?h 3 ?e ?c ?a ?l ?_); (case h => assumption); (case e => rfl); (case c => walk_at "cls"); (case a => walk_at "noattr"); (case l => exact of_decide_eq_true rfl); intro H1 hh1; simp only [List.set_cons_zero, List.set_cons_succ] at hh1)
  | (with_reducible refine Wm.r_forL ?_)
  | (with_reducible refine Wm.r_forT ?_)
  | (with_reducible refine Wm.r_forR1 ?_)
  | (with_reducible refine Wm.r_forR2 ?_)
  | (with_reducible refine Wm.r_forR3 ?_)
  | (with_reducible refine Wm.r_lcL ?_)
  | (with_reducible refine Wm.r_lcE ?_)
  | (with_reducible refine Wm.r_lcT ?_)
  | (with_reducible refine Wm.r_lcR1 ?_)
  | (with_reducible refine Wm.r_lcR2 ?_)
  | ((with_reducible refine' Wm.fld_h ?e ?c ?n ?l ?_); (case e => walk_at "at"); (case c => walk_at "cls"); (case n => walk_at "noattr"); (case l => rfl))
  | ((with_reducible refine' Wm.mtd_h ?e ?l ?_); (case e => walk_at "at"); (case l => rfl))
  | ((with_reducible refine' Wm.prp_h ?e ?_); (case e => walk_at "at"))
  | ((with_reducible refine' Wm.rix_ht ?a ?b ?_); (case a => walk_at "at"); (case b => rfl))
  | ((with_reducible refine' Wm.rix_h ?a ?b ?_); (case a => walk_at "at"); (case b => rfl))
  | ((with_reducible refine' Wm.len_ht ?a ?_); (case a => walk_at "at"))
  | ((with_reducible refine' Wm.len_h ?a ?_); (case a => walk_at "at"))
  | ((with_reducible refine' Wm.len_l ?a ?b ?_); (case a => assumption); (case b => assumption))
  | ((with_reducible refine' Wm.len_t ?a ?b ?_); (case a => assumption); (case b => assumption))
  | ((with_reducible refine' Wm.gtup_h ?a ?b ?_); (case a => walk_at "at"); (case b => rfl))
  | (with_reducible refine Wm.r_I (Wm.cmulR (by decide)) ?_)
  | (with_reducible refine Wm.r_I (Wm.cmulL (by decide)) ?_)
  | (with_reducible refine Wm.r_I (Wm.cdiv (by decide) (by decide)) ?_)
  | (with_reducible refine Wm.r_I Wm.cpow18 ?_)
  | (with_reducible refine Wm.r_I Wm.cpow12 ?_)
  | (with_reducible refine Wm.r_I (by show (0 : Int) < _; decide) ?_))
local macro_rules | `(tactic| walk_at "s") => `(tactic| repeat (first | walk_at "s1" | (with_reducible refine Wm.r_ifS ?_)))
local macro_rules | `(tactic| walk_at "t") => `(tactic| repeat (walk_at "s1"))
local macro_rules | `(tactic| walk_at "sz") => `(tactic| exact of_decide_eq_true rfl)
local macro_rules | `(tactic| walk_at "d") => `(tactic| first | (with_reducible refine Wm.r_dT (by omega) ?_) | (with_reducible refine Wm.r_dF (by omega) ?_) | (with_reducible refine Wm.r_dN (by omega) ?_) | (with_reducible refine Wm.r_dM (by omega) ?_))
local macro_rules | `(tactic| walk_at "sd") => `(tactic| repeat (first | walk_at "s1" | (with_reducible refine Wm.r_ifS ?_) | walk_at "d"))
local macro_rules | `(tactic| walk_at "ex") => `(tactic| first
  | assumption
  | exact Wm.Ex.refl _
  | (refine Wm.Ex.trans ?_ (by assumption); walk_at "ex")
  | (refine Wm.Ex.trans ?_ (Wm.Hold.ex (by assumption)); walk_at "ex"))
local macro_rules | `(tactic| walk_at "room") => `(tactic| first
  | assumption
  | (refine' Wm.IsRoom.up ?e ?h; (case h => assumption); (case e => walk_at "ex")))
local macro_rules | `(tactic| walk_at "opt") => `(tactic| first
  | assumption
  | (refine' Wm.OptAt.up ?e ?h; (case h => assumption); (case e => walk_at "ex")))
local macro_rules | `(tactic| walk_at "lst") => `(tactic| first
  | assumption
  | (refine' Wm.Lst.at_ ?h ?e; (case h => assumption); (case e => walk_at "ex"))
  | exact Wm.Hold.get (i := 0) (by assumption) rfl | exact Wm.Hold.get (i := 1) (by assumption) rfl | exact Wm.Hold.get (i := 2) (by assumption) rfl | exact Wm.Hold.get (i := 3) (by assumption) rfl | exact Wm.Hold.get (i := 4) (by assumption) rfl)
local macro_rules | `(tactic| walk_at "tup") => `(tactic| first
  | assumption
  | (refine' Wm.Tup.at_ ?h ?e; (case h => assumption); (case e => walk_at "ex")))
local macro_rules | `(tactic| walk_at "p1") => `(tactic| first
  | (with_reducible refine Wm.r_p18 ?_) | (with_reducible refine Wm.r_p12 ?_) | (with_reducible refine Wm.r_p17 ?_) | (with_reducible refine Wm.r_p15 ?_) | (with_reducible refine Wm.r_p11 ?_) | (with_reducible refine Wm.r_p6 ?_) | (with_reducible refine Wm.r_p5 ?_) | (with_reducible refine Wm.r_p4 ?_) | (with_reducible refine Wm.r_p9 ?_) | (with_reducible refine Wm.r_p13 ?_) | (with_reducible refine Wm.r_p20 ?_) | (with_reducible refine Wm.r_p30 ?_) | (with_reducible refine Wm.r_p16 ?_))
local macro_rules | `(tactic| walk_at "w2") => `(tactic| first
  | ((with_reducible refine' Wm.r_wp ?h ?_); (case h => rfl))
  | ((with_reducible refine' Wm.ap_mtd ?ir ?hl ?_); (case ir => walk_at "room"); (case hl => intros; rfl))
  | ((with_reducible refine' Wm.ap_prp ?ir ?_); (case ir => walk_at "room"))
  | ((with_reducible refine' Wm.ap_temp ?hh ?ir ?t0 ?t1 ?_); (case hh => assumption); (case ir => walk_at "room"); (case t0 => omega); (case t1 => omega); intro H1 hh1)
  | ((with_reducible refine' Wm.ap_on ?hh ?ir ?t0 ?t1 ?_); (case hh => assumption); (case ir => walk_at "room"); (case t0 => omega); (case t1 => omega); intro H1 hh1)
  | ((with_reducible refine' Wm.ap_heats ?hh ?ir ?t0 ?t1 ?_); (case hh => assumption); (case ir => walk_at "room"); (case t0 => omega); (case t1 => omega); intro H1 hh1)
  | ((with_reducible refine' Wm.ap_sws ?hh ?ir ?t0 ?t1 ?_); (case hh => assumption); (case ir => walk_at "room"); (case t0 => omega); (case t1 => omega); intro H1 hh1)
  | ((with_reducible refine' Wm.rix_ht ?a ?b ?_); (case a => walk_at "tup"); (case b => rfl))
  | ((with_reducible refine' Wm.rix_h ?a ?b ?_); (case a => walk_at "lst"); (case b => rfl))
  | ((with_reducible refine' Wm.len_ht ?a ?_); (case a => walk_at "tup"))
  | ((with_reducible refine' Wm.len_h ?a ?_); (case a => walk_at "lst"))
  | ((with_reducible refine' Wm.gtup_h ?a ?b ?_); (case a => walk_at "tup"); (case b => rfl))
  | ((with_reducible refine' Wm.r_I (Wm.cmulL ?h) ?_); (case h => omega))
  | ((with_reducible refine' Wm.r_I (Wm.cmulR ?h) ?_); (case h => omega))
  | ((with_reducible refine' Wm.r_I (Wm.cdiv ?h ?h2) ?_); (case h => omega); (case h2 => omega))
  | ((with_reducible refine' Wm.r_mod ?h ?_); (case h => omega))
  | ((with_reducible refine' Wm.tup_N ?hP ?hh ?_); (case hP => walk_at "sz"); (case hh => assumption); intro p G1 H1 ex1 tp hh1))
local macro_rules | `(tactic| walk_at "w1") => `(tactic| first | walk_at "p1" | walk_at "s1" | walk_at "w2")
local macro_rules | `(tactic| walk_at "w") => `(tactic| repeat (first | walk_at "w1" | (with_reducible refine Wm.r_ifS ?_)))
local macro_rules | `(tactic| walk_at "wl") => `(tactic| ((with_reducible refine' Wm.lst_N ?hP ?hh ?_); (case hP => walk_at "sz"); (case hh => assumption); intro p G1 H1 ex1 tp hh1))
local macro_rules | `(tactic| walk_at "wd") => `(tactic| repeat (first | walk_at "w1" | (with_reducible refine Wm.r_ifS ?_) | walk_at "d" | walk_at "wl"))
local macro_rules | `(tactic| walk_at "v") => `(tactic| repeat (walk_at "w1"))
namespace Wm
open PySem PySem.Spec PyProof.Rows L2 StX
open LamX
/-! ## Defs that raise: the promises that only raise -/
/-- an error without fields is wished, whatever was made on the way -/
def RzN (C : Addr) (H : Hp) (E : XK) : Prop := ∀ H', Ex H H' → E (.ref C) none H'
def sp_validate_numberR (K : PySem.W.Frag) (A : Ads) : Sp := fun vs H _ E => ∃ n lo hi : Int, vs = [.int n, .int lo, .int hi] ∧ ¬ (lo ≤ n ∧ n ≤ hi) ∧ E (.ref A.cInvalidNumber) none H
def sp_validate_numberX (K : PySem.W.Frag) (A : Ads) : Sp := spOr (sp_validate_number K A) (sp_validate_numberR K A)
def sp_Heater_initR (K : PySem.W.Frag) (A : Ads) : Sp := fun vs H _ E => ∃ (p : Addr) (g lo hi : Int), vs = [.ref p, .int g, .int lo, .int hi] ∧ ¬ HtOk g lo hi ∧ E (.ref A.cInvalidHeater) none H
def sp_Heater_initX (K : PySem.W.Frag) (A : Ads) : Sp := spOr (sp_Heater_init K A) (sp_Heater_initR K A)
def sp_Heater_movedR (K : PySem.W.Frag) (A : Ads) : Sp := fun vs H _ E => ∃ (p : Addr) (d g lo hi : Int), vs = [.ref p, .int d] ∧ IsHeater K A H p g lo hi ∧ ¬ HtOk g (lo + d) (hi + d) ∧ RzN A.cInvalidHeater H E
def sp_Heater_movedX (K : PySem.W.Frag) (A : Ads) : Sp := spOr (sp_Heater_moved K A) (sp_Heater_movedR K A)
def sp_Room_initR (K : PySem.W.Frag) (A : Ads) : Sp := fun vs H _ E => ∃ (p : Addr) (w h on : V) (st : Int), vs = [.ref p, w, h, .int st, on] ∧ ¬ (-(10 ^ 12) ≤ st ∧ st ≤ 10 ^ 12) ∧ E (.ref A.cInvalidNumber) none H
def sp_Room_initX (K : PySem.W.Frag) (A : Ads) : Sp := spOr (sp_Room_init K A) (sp_Room_initR K A)
/-- a method whose tick is out of range -/
def spTick (A : Ads) (lo : Int) : Sp := fun vs H _ E => ∃ (p : Addr) (t : Int), vs = [.ref p, .int t] ∧ ¬ (lo ≤ t ∧ t ≤ 10 ^ 18) ∧ E (.ref A.cInvalidNumber) none H
def sp_Room_temperatureR (K : PySem.W.Frag) (A : Ads) : Sp := fun vs H _ E => ∃ (p : Addr) (t : Int), vs = [.ref p, .int t] ∧ ¬ (0 ≤ t ∧ t ≤ 10 ^ 18) ∧ E (.ref A.cInvalidNumber) none H
def sp_Room_temperatureX (K : PySem.W.Frag) (A : Ads) : Sp := spOr (sp_Room_temperature K A) (sp_Room_temperatureR K A)
def sp_Room_is_onR (K : PySem.W.Frag) (A : Ads) : Sp := fun vs H _ E => ∃ (p : Addr) (t : Int), vs = [.ref p, .int t] ∧ ¬ (0 ≤ t ∧ t ≤ 10 ^ 18) ∧ E (.ref A.cInvalidNumber) none H
def sp_Room_is_onX (K : PySem.W.Frag) (A : Ads) : Sp := spOr (sp_Room_is_on K A) (sp_Room_is_onR K A)
def sp_Room_heating_ticksR (K : PySem.W.Frag) (A : Ads) : Sp := fun vs H _ E => ∃ (p : Addr) (t : Int), vs = [.ref p, .int t] ∧ ¬ (0 ≤ t ∧ t ≤ 10 ^ 18) ∧ E (.ref A.cInvalidNumber) none H
def sp_Room_heating_ticksX (K : PySem.W.Frag) (A : Ads) : Sp := spOr (sp_Room_heating_ticks K A) (sp_Room_heating_ticksR K A)
def sp_Room_switchingsR (K : PySem.W.Frag) (A : Ads) : Sp := fun vs H _ E => ∃ (p : Addr) (t : Int), vs = [.ref p, .int t] ∧ ¬ (0 ≤ t ∧ t ≤ 10 ^ 18) ∧ E (.ref A.cInvalidNumber) none H
def sp_Room_switchingsX (K : PySem.W.Frag) (A : Ads) : Sp := spOr (sp_Room_switchings K A) (sp_Room_switchingsR K A)
def sp_Room_nth_switchingR (K : PySem.W.Frag) (A : Ads) : Sp := fun vs H _ E => ∃ (p : Addr) (t : Int), vs = [.ref p, .int t] ∧ ¬ (1 ≤ t ∧ t ≤ 10 ^ 18) ∧ E (.ref A.cInvalidNumber) none H
def sp_Room_nth_switchingX (K : PySem.W.Frag) (A : Ads) : Sp := spOr (sp_Room_nth_switching K A) (sp_Room_nth_switchingR K A)
def sp_Room_temperaturesR (K : PySem.W.Frag) (A : Ads) : SpG := fun vs H _ E => ∃ (p : Addr) (a b : Int), vs = [.ref p, .int a, .int b] ∧ (¬ (0 ≤ a ∧ a ≤ 10 ^ 18) ∨ ¬ (a ≤ b ∧ b ≤ 10 ^ 18 ∧ b ≤ a + 9999)) ∧ E (.ref A.cInvalidNumber) none H
def sp_Room_temperaturesX (K : PySem.W.Frag) (A : Ads) : SpG := spGOr (sp_Room_temperatures K A) (sp_Room_temperaturesR K A)
/-- an observer's fields -/
def obsF (w : V) (g t d : Int) (on : Bool) (lo hi no : V) : List (Str × V) := [("outside", w), ("power", .int g), ("tick", .int t), ("degrees", .int d), ("is_heating", .bl on), ("lows", lo), ("highs", hi), ("noted", no)]
def sp_ThresholdObserver_init (K : PySem.W.Frag) (A : Ads) : Sp := fun vs H Q _ => ∃ (p dx : Addr) (w : V) (g st : Int) (on : Bool) (G : Hp) (mu : Mu), vs = [.ref p, w, .int g, .int st, .bl on] ∧ ThresholdObserverC K A.cThresholdObserver ∧ 1 ≤ g ∧ g ≤ 200 ∧ -(10 ^ 12) ≤ st ∧ st ≤ 10 ^ 12 ∧
  Hold G ((p, .ins A.cThresholdObserver dx []) :: mu) H ∧ ∀ (t1 t2 l : Addr) (G' H' : Hp), Ex G G' → Tup G' t1 [.int (0 - 1000000000000), .int 1000000000000] → Tup G' t2 [.int (0 - 1000000000000), .int 1000000000000] → Lst G' l [] →
    Hold G' ((p, .ins A.cThresholdObserver dx (obsF w g 0 st on (.ref t1) (.ref t2) (.ref l))) :: mu) H' → Q .non H'
def sp_ThresholdObserver_initR (K : PySem.W.Frag) (A : Ads) : Sp := fun vs H _ E => ∃ (p : Addr) (w on : V) (g st : Int), vs = [.ref p, w, .int g, .int st, on] ∧ ((¬ (1 ≤ g ∧ g ≤ 200) ∧ E (.ref A.cInvalidHeater) none H) ∨ ((1 ≤ g ∧ g ≤ 200) ∧ ¬ (-(10 ^ 12) ≤ st ∧ st ≤ 10 ^ 12) ∧ E (.ref A.cInvalidNumber) none H))
def sp_ThresholdObserver_initX (K : PySem.W.Frag) (A : Ads) : Sp := spOr (sp_ThresholdObserver_init K A) (sp_ThresholdObserver_initR K A)
def sp_ThresholdObserver_see_restR (K : PySem.W.Frag) (A : Ads) : Sp := fun vs H _ E => ∃ (p dx : Addr) (w lo hi no : V) (g t d : Int) (on : Bool) (z : Int), vs = [.ref p, .int z] ∧ ThresholdObserverC K A.cThresholdObserver ∧ H p = some (.ins A.cThresholdObserver dx (obsF w g t d on lo hi no)) ∧ ¬ (t ≤ z ∧ z ≤ 10 ^ 18) ∧ E (.ref A.cInvalidNumber) none H
def sp_ThresholdObserver_see_switchingR (K : PySem.W.Frag) (A : Ads) : Sp := fun vs H _ E => ∃ (p dx : Addr) (w lo hi no : V) (g t d : Int) (on : Bool) (z : Int), vs = [.ref p, .int z] ∧ ThresholdObserverC K A.cThresholdObserver ∧ H p = some (.ins A.cThresholdObserver dx (obsF w g t d on lo hi no)) ∧ ¬ (t ≤ z ∧ z ≤ 10 ^ 18) ∧ E (.ref A.cInvalidNumber) none H
def t_validate_numberR (K : PySem.W.Frag) (A : Ads) (E : XK) : TS := tSeq (tIfS (tNot (tTest (tChain (rI0 fun i j => .bl (decide (i ≤ j))) (rI0 fun i j => .bl (decide (i ≤ j))) (tVar 1) (tVar 0) (tVar 2)))) (tRz (fun _ H Q => Q (.ref A.cInvalidNumber) none H) E) (tNext)) (tNever)
def t_Heater_initR (K : PySem.W.Frag) (A : Ads) (E : XK) : TS := tSeq (tIfS (tOr (tNot (tTest (tChain (rI0 fun i j => .bl (decide (i ≤ j))) (rI0 fun i j => .bl (decide (i ≤ j))) (tC (.int 1)) (tVar 1) (tC (.int 200))))) (tNot (tTest (tChain3 (rI0 fun i j => .bl (decide (i ≤ j))) (rI0 fun i j => .bl (decide (i ≤ j))) (rI0 fun i j => .bl (decide (i ≤ j))) (tOp (rI0 fun i j => .int (i - j)) (tC (.int 0)) (tC (.int 1000000000000))) (tVar 2) (tVar 3) (tC (.int 1000000000000)))))) (tRz (fun _ H Q => Q (.ref A.cInvalidHeater) none H) E) (tNext)) (tNever)
def t_Heater_movedR (K : PySem.W.Frag) (A : Ads) (E : XK) : TS := tSeq (tRet (tMak A.cHeater (sp_Heater_initX K A) E (tCons (tFld K (tVar 0) "power") (tCons (tOp (rI0 fun i j => .int (i + j)) (tFld K (tVar 0) "below") (tVar 1)) (tCons (tOp (rI0 fun i j => .int (i + j)) (tFld K (tVar 0) "above") (tVar 1)) (tNil)))))) (tNever)
def t_Room_initR (K : PySem.W.Frag) (A : Ads) (E : XK) : TS := tSeq (tDrop (tCal (sp_validate_numberX K A) E (tCons (tVar 3) (tCons (tOp (rI0 fun i j => .int (i - j)) (tC (.int 0)) (tC (.int 1000000000000))) (tCons (tC (.int 1000000000000)) (tNil)))))) (tNever)
def t_Room_temperatureR (K : PySem.W.Frag) (A : Ads) (E : XK) : TS := tSeq (tDrop (tCal (sp_validate_numberX K A) E (tCons (tVar 1) (tCons (tC (.int 0)) (tCons (tC (.int 1000000000000000000)) (tNil)))))) (tNever)
def t_Room_is_onR (K : PySem.W.Frag) (A : Ads) (E : XK) : TS := tSeq (tDrop (tCal (sp_validate_numberX K A) E (tCons (tVar 1) (tCons (tC (.int 0)) (tCons (tC (.int 1000000000000000000)) (tNil)))))) (tNever)
def t_Room_heating_ticksR (K : PySem.W.Frag) (A : Ads) (E : XK) : TS := tSeq (tDrop (tCal (sp_validate_numberX K A) E (tCons (tVar 1) (tCons (tC (.int 0)) (tCons (tC (.int 1000000000000000000)) (tNil)))))) (tNever)
def t_Room_switchingsR (K : PySem.W.Frag) (A : Ads) (E : XK) : TS := tSeq (tDrop (tCal (sp_validate_numberX K A) E (tCons (tVar 1) (tCons (tC (.int 0)) (tCons (tC (.int 1000000000000000000)) (tNil)))))) (tNever)
def t_Room_nth_switchingR (K : PySem.W.Frag) (A : Ads) (E : XK) : TS := tSeq (tDrop (tCal (sp_validate_numberX K A) E (tCons (tVar 1) (tCons (tC (.int 1)) (tCons (tC (.int 1000000000000000000)) (tNil)))))) (tNever)
def t_Room_temperaturesR (K : PySem.W.Frag) (A : Ads) (E : XK) : TGn := tGThen (tPlain (tDrop (tCal (sp_validate_numberX K A) E (tCons (tVar 1) (tCons (tC (.int 0)) (tCons (tC (.int 1000000000000000000)) (tNil))))))) (tGThen (tPlain (tDrop (tCal (sp_validate_numberX K A) E (tCons (tVar 2) (tCons (tVar 1) (tCons (tCB rMin2 (tCons (tC (.int 1000000000000000000)) (tCons (tOp (rI0 fun i j => .int (i - j)) (tOp (rI0 fun i j => .int (i + j)) (tVar 1) (tC (.int 10000))) (tC (.int 1))) (tNil)))) (tNil))))))) (tGNever))
def t_ThresholdObserver_init (K : PySem.W.Frag) (A : Ads) : TS := tSeq (tIfS (tNot (tTest (tChain (rI0 fun i j => .bl (decide (i ≤ j))) (rI0 fun i j => .bl (decide (i ≤ j))) (tC (.int 1)) (tVar 2) (tC (.int 200))))) (tNever) (tNext)) (tSeq (tDrop (tCal (sp_validate_number K A) E0 (tCons (tVar 3) (tCons (tOp (rI0 fun i j => .int (i - j)) (tC (.int 0)) (tC (.int 1000000000000))) (tCons (tC (.int 1000000000000)) (tNil)))))) (tSeq (sFld K (tVar 0) (tVar 1) "outside") (tSeq (sFld K (tVar 0) (tVar 2) "power") (tSeq (sFld K (tVar 0) (tC (.int 0)) "tick") (tSeq (sFld K (tVar 0) (tVar 3) "degrees") (tSeq (sFld K (tVar 0) (tVar 4) "is_heating") (tSeq (sFld K (tVar 0) (tTup (tCons (tOp (rI0 fun i j => .int (i - j)) (tC (.int 0)) (tC (.int 1000000000000))) (tCons (tC (.int 1000000000000)) (tNil)))) "lows") (tSeq (sFld K (tVar 0) (tTup (tCons (tOp (rI0 fun i j => .int (i - j)) (tC (.int 0)) (tC (.int 1000000000000))) (tCons (tC (.int 1000000000000)) (tNil)))) "highs") (sFld K (tVar 0) (tLst (tNil)) "noted")))))))))
def t_ThresholdObserver_initR (K : PySem.W.Frag) (A : Ads) (E : XK) : TS := tSeq (tIfS (tNot (tTest (tChain (rI0 fun i j => .bl (decide (i ≤ j))) (rI0 fun i j => .bl (decide (i ≤ j))) (tC (.int 1)) (tVar 2) (tC (.int 200))))) (tRz (fun _ H Q => Q (.ref A.cInvalidHeater) none H) E) (tNext)) (tSeq (tDrop (tCal (sp_validate_numberX K A) E (tCons (tVar 3) (tCons (tOp (rI0 fun i j => .int (i - j)) (tC (.int 0)) (tC (.int 1000000000000))) (tCons (tC (.int 1000000000000)) (tNil)))))) (tNever))
def t_ThresholdObserver_see_restR (K : PySem.W.Frag) (A : Ads) (E : XK) : TS := tSeq (tDrop (tCal (sp_validate_numberX K A) E (tCons (tVar 1) (tCons (tFld K (tVar 0) "tick") (tCons (tC (.int 1000000000000000000)) (tNil)))))) (tNever)
def t_ThresholdObserver_see_switchingR (K : PySem.W.Frag) (A : Ads) (E : XK) : TS := tSeq (tDrop (tCal (sp_validate_numberX K A) E (tCons (tVar 1) (tCons (tFld K (tVar 0) "tick") (tCons (tC (.int 1000000000000000000)) (tNil)))))) (tNever)
section
variable {K : PySem.W.Frag} {A : Ads}
theorem r_rzs {C : Addr} {E : XK} {D : Ends} {σ : L2.St} {H : Hp} (h : E (.ref C) none H) : tRz (fun _ H Q => Q (.ref C) none H) E D σ H := h
theorem vnR {n lo hi : Int} {H : Hp} {Q : VK} {E : XK} (h : ¬ (lo ≤ n ∧ n ≤ hi)) (k : E (.ref A.cInvalidNumber) none H) : sp_validate_numberX K A [.int n, .int lo, .int hi] H Q E := .inr ⟨n, lo, hi, rfl, h, k⟩
theorem pure_validate_numberR (vs : List V) (H : Hp) (Q : VK) (E : XK) (h : sp_validate_numberR K A vs H Q E) : t_validate_numberR K A E { nx := fun _ H' => Q .non H', rt := Q } (start ["number", "smallest", "largest"] vs) H := by
  obtain ⟨n, lo, hi, rfl, hn, k⟩ := h
  show t_validate_numberR K A E _ [some (.int n), some (.int lo), some (.int hi)] H
  unfold t_validate_numberR
  walk_at "s"
  by_cases h1 : lo ≤ n
  · refine r_dT h1 ?_
    walk_at "s"
    rw [decide_eq_false (show ¬ n ≤ hi from fun z => hn ⟨h1, z⟩)]
    walk_at "s"
    exact r_rzs k
  · refine r_dF h1 ?_
    walk_at "s"
    exact r_rzs k
theorem pure_ThresholdObserver_init (vs : List V) (H : Hp) (Q : VK) (E : XK) (h : sp_ThresholdObserver_init K A vs H Q E) : t_ThresholdObserver_init K A { nx := fun _ H' => Q .non H', rt := Q } (start ["self", "weather", "gain", "start", "on"] vs) H := by
  obtain ⟨p, dx, w, g, st, on, G, mu, rfl, TC, g1, g2, s1, s2, hh, k⟩ := h
  show t_ThresholdObserver_init K A _ [some (.ref p), some w, some (.int g), some (.int st), some (.bl on)] H
  unfold t_ThresholdObserver_init
  walk_at "wd"
  refine ⟨st, _, _, rfl, by omega, by omega, ?_⟩
  walk_at "w"
  rename_i t1 G1 H1 ex1 tp1 hh1 H2 hh2 t2 G3 H3 ex3 tp3 hh3 H4 hh4
  walk_at "wl"
  rename_i l G5 H5 ex5 hl5 hh5
  walk_at "w"
  rename_i H6 hh6
  exact k t1 t2 l G5 H6 (ex1.trans (ex3.trans ex5)) (tp1.up (ex3.trans ex5)) (tp3.up ex5) hl5 hh6
/-! ### calls that raise, within _law_error -/
section
variable {G H : Hp} {mu : Mu} {Q Q' : VK} {E : XK} {g lo hi : Int} {q p w : Addr} {R : RoomD}
end
end
end Wm
end

section
/-! ## try: .. except C: one statement; raise -/
namespace Wm
open PySem PySem.Spec PyProof.Rows L2 StX HotX L2H
section
variable {X : Cx} {pins : List (Addr × Obj)} {σ : L2.St} {H : Hp} {s : Shared}
/-- objects that are none of ours are left out of the heap -/
theorem inv_cut {S : List Addr} (I : Inv X pins σ H s) (h0 : ∀ b ∈ S, X.s_0.heap.get? b = none) (hH : ∀ b ∈ S, H b = none) (hL : X.env.locals ∉ S) (hC : ∀ x c, X.env.cells.lookup x = some c → c ∉ S) (hp : ∀ p ∈ X.pn ++ pins, p.1 ∉ S) :
    ∃ G : Heap, (∀ b o, G.get? b = some o → s.heap.get? b = some o) ∧ (∀ b ∈ S, G.get? b = none) ∧ (∀ b, b ∉ S → G.get? b = s.heap.get? b) ∧ Inv X pins σ H { s with heap := G } := by
  obtain ⟨G, g1, g2⟩ := restrict s.heap fun b => decide (b ∉ S)
  have inn : ∀ b ∈ S, G.get? b = none := fun b hb => g2 b (decide_eq_false fun z => z hb)
  have out : ∀ b, b ∉ S → G.get? b = s.heap.get? b := fun b hb => g1 b (decide_eq_true hb)
  have back : ∀ b o, G.get? b = some o → s.heap.get? b = some o := fun b o e => by
    by_cases hb : b ∈ S
    · rw [inn b hb] at e; cases e
    · rw [← out b hb]; exact e
  have old : ∀ b o, X.s_0.heap.get? b = some o → b ∉ S := fun b o e hb => by rw [h0 b hb] at e; cases e
  have mine : ∀ b u, H b = some u → b ∉ S := fun b u e hb => by rw [hH b hb] at e; cases e
  have cell : ∀ x c, X.env.cells.lookup x = some c → ∀ v, s.heap.IsCell c v → G.IsCell c v := fun x c e v ⟨o, ho, hd⟩ => ⟨o, (out c (hC x c e)).trans ho, hd⟩
  refine ⟨G, back, inn, out, ?_⟩
  refine { ok := I.ok, os := I.os, bare := I.bare, free := I.free, freeC := I.freeC, len := I.len, base := ?_, loc := ?_, cell := ?_, pin := ?_, hok := ?_ }
  · exact { keep := fun b o e n h1 h2 => (out b (old b o e)).trans (I.base.keep b o e n h1 h2)
            slot := fun b o e n h1 h2 => by
              obtain ⟨sl, q⟩ := I.base.slot b o e n h1 h2
              exact ⟨sl, (out b (old b o e)).trans q⟩
            free := I.base.free
            there := fun b o e h => by
              obtain ⟨o', q⟩ := I.base.there b o e h
              exact ⟨o', (out b (old b o e)).trans q⟩
            tups := I.base.tups, frzs := I.base.frzs, tbls := I.base.tbls }
  · obtain ⟨m, ⟨o, es, ep, ho, r⟩, look⟩ := I.loc
    refine ⟨m, ⟨o, es, ep, (out _ hL).trans ho, r⟩, fun i x v a1 a2 a3 => ?_⟩
    obtain ⟨u, ru, l⟩ := look i x v a1 a2 a3
    exact ⟨u, ru, l.imp id fun ⟨k, c, ec, z⟩ => ⟨k, c, ec, cell x c ec _ z⟩⟩
  · intro x c e
    obtain ⟨v, z⟩ := I.cell x c e
    exact ⟨v, cell x c e v z⟩
  · intro p h
    obtain ⟨a1, a2⟩ := I.pin p h
    exact ⟨(out _ (hp p h)).trans a1, a2⟩
  · intro b u e
    refine (I.hok b u e).stay (fun c v hc q => (out c ?_).trans q) (fun c q => q) fun c xs q => q
    rcases hc with z | z
    · rw [z]; exact mine b u e
    · exact mine c _ z
end
/-! ### a tuple unpacked where an exception is handled -/
section
variable {prog : Program} {w : World} {A : Around} {E : Value → Shared → Prop} {s : Shared}
theorem next_tup_hot {it t x1 : Addr} {i : Nat} {items : Array Value} {Q : Option Value → Shared → Prop} (hot : HotAt A x1 s.heap) (n1 : x1 ≠ it)
    (hit : IsTupIter s.heap it t i) (ht : IsTup s.heap t items) (hx : items[i]? = none)
    (hQ : ∀ h', Heap.ExtBut it s.heap h' → Q none { s with heap := h' }) : wpAny (model prog w) A (pyNext (.ref it)) Q E s := by
  obtain ⟨o, ho, hc, hd⟩ := id hit
  obtain ⟨ol, hol, _, nl, hdl⟩ := ht
  obtain ⟨hh, o1, vs1, h1, d1, c1⟩ := hot
  unfold pyNext
  refine wpAny_bind (wpAny_attempt (wpAny_callSpecial?_slot (name := Str.ofString "__next__") hit.typeIs slot_tupleiter_next
    (wpAny_call_entry slot_tupleiter_next hit.typeIs entry_tupleiter_next ?_ (args_tupleiter_next _))))
  show wpAny _ _ (field (.ref it) 0 >>= _) _ _ s
  refine wpAny_bind (wpAny_field ho hd (x := .ref t) rfl ?_)
  show wpAny _ _ (if (Value.ref t == Value.none) = true then _ else _) _ _ s
  rw [if_neg (show ¬ ((Value.ref t == Value.none) = true) from Bool.false_ne_true)]
  show wpAny _ _ (field (.ref it) 1 >>= _) _ _ s
  refine wpAny_bind (wpAny_field ho hd (x := .int i 0) rfl ?_)
  show wpAny _ _ (seqItems? (.ref t) >>= _) _ _ s
  refine wpAny_bind (wpAny_seqItems hol hdl ?_)
  simp only [Int.toNat_natCast, hx]
  refine wpAny_bind (wpAny_rule (wpAny_bind (wpAny_setField ho hd (by simp) ?_)))
  show wpAny _ _ (newExc (.type "StopIteration") [] >>= _) _ _ _
  refine wpAny_bind ?_
  simp only [newExc, newTuple]
  refine wpAny_bind (wpAny_newObj_type ?_ (by size_fits))
  refine wpAny_bind (m := firstArgMember _ _) (wpAny_of_eq (a := Value.none) (by first | rfl | (simp only [firstArgMember]; rfl)) ?_)
  refine wpAny_newObj_type ?_ (by size_fits)
  have h1' := (Heap.get?_update_other s.heap (Obj.mapFields (·.setIfInBounds 0 Value.none)) (Ne.symm n1)).trans h1
  refine raiseNew_hot ⟨hh, o1, vs1, Heap.get?_push_of_some _ (Heap.get?_push_of_some _ h1'), d1, c1⟩ (Nat.ne_of_lt (Heap.lt_size (Heap.get?_push_of_some _ h1'))) (Heap.get?_push_size _ rfl) rfl (by first | (simp; done) | (simp; omega) | (simp only [Array.size_append]; simp; omega)) ?_
  refine wpAny_bind (wpAny_isInstance (T := "StopIteration") (b := true) ⟨_, Heap.get?_update_self _ (Heap.get?_push_size _ rfl) rfl, rfl⟩ isSubtype_stop ?_)
  refine wpAny_pure (hQ _ fun b o2 hb e => ?_)
  have e' := (Heap.get?_update_other s.heap (Obj.mapFields (·.setIfInBounds 0 Value.none)) (Ne.symm hb)).trans e
  rw [Heap.get?_update_other _ _ (Nat.ne_of_gt (Heap.lt_size (Heap.get?_push_of_some _ e')))]
  exact Heap.get?_push_of_some _ (Heap.get?_push_of_some _ e')
theorem unpack_hot {t x1 : Addr} {items : Array Value} {targets : List (Bool × (Value → Sem Unit))} {Q : Unit → Shared → Prop} (hot : HotAt A x1 s.heap) (ht : IsTup s.heap t items)
    (hn : targets.length = items.size) (hstar : targets.findIdx? (·.1) = none)
    (h : ∀ h', Heap.ExtBut s.heap.objs.size s.heap h' → wpAny (model prog w) A (assignInOrder (targets.map (·.2)) items.toList) Q E { s with heap := h' }) :
    wpAny (model prog w) A (unpack (.ref t) targets) Q E s := by
  have hlt : t ≠ s.heap.objs.size := by obtain ⟨o, ho, _⟩ := ht; exact Nat.ne_of_lt (Heap.lt_size ho)
  obtain ⟨hh, o1, vs1, h1, d1, c1⟩ := hot
  have h1lt : x1 ≠ s.heap.objs.size := Nat.ne_of_lt (Heap.lt_size h1)
  unfold unpack
  rw [hn, hstar]
  refine wpAny_bind (wpAny_holding ?_)
  unfold unpackItems
  refine wpAny_bind ?_
  unfold notIterableAtAll
  refine wpAny_bind (wpAny_specialOf ht.typeIs slot_tuple_iter.lookup (wpAny_pure ?_))
  simp only [Bool.false_eq_true, if_false]
  refine wpAny_bind (wpAny_holding (iter_tuple ht ?_))
  refine wpAny_bind (wpAny_holding (draw_tuple hlt items.size 0 _ _ ⟨_, Heap.get?_push_size _ rfl, rfl, rfl⟩ (ht.push _) (by omega) fun h₁ hit₁ hs₁ => ?_))
  have hall : List.take items.size (List.drop 0 items.toList) = items.toList := by
    rw [List.drop_zero]; exact List.take_of_length_le (by simp)
  rw [hall, if_neg (by simp)]
  have ht₁ : IsTup h₁ t items := (ht.push _).extBut hs₁.extBut hlt
  have h1₁ : h₁.get? x1 = some o1 := hs₁.extBut x1 o1 h1lt (Heap.get?_push_of_some _ h1)
  refine wpAny_bind (wpAny_holding (next_tup_hot (x1 := x1) ⟨hh, o1, vs1, h1₁, d1, c1⟩ h1lt hit₁ ht₁ (by simp) fun h₂ he₂ => ?_))
  simp only [Option.isSome_none, Bool.false_eq_true, if_false]
  exact wpAny_pure (h h₂ fun b o hb e => he₂ b o hb (hs₁.extBut b o hb (Heap.get?_push_of_some _ e)))
end
section
variable {X : Cx} {pos : Pos}
theorem pg_tupH {es : List Expr} {k : Nat} {t : TGs} {n : Nat} (hc : HotC X) (h : PGs X es t)
    (hn : (assignEach es X.env).length = n := by rfl) (hst : (assignEach es X.env).findIdx? (·.1) = none := by rfl) : PG X (.Tuple es k pos) (gTup X.K n t) := by
  refine ⟨fun pins s σ H v u Q I r hw => ?_⟩
  obtain ⟨a, xs, rfl, hq, hl, hw⟩ := hw
  cases r
  obtain ⟨its, rv, ht, hz⟩ := I.tuple hq
  obtain ⟨x1, hot⟩ := hc.at I
  rw [assign_Tuple]
  refine wpAny_bind (wpAny_standAt (unpack_hot hot ht (by simp [hn, ← hl, rv.length]) hst fun h' hx => ?_))
  have I1 : Inv X pins σ H { s with heap := h' } := I.kept (t' := s.toks) fun b o e => hx b o (Nat.ne_of_lt (Heap.lt_size e)) e
  exact h.run pins _ σ H xs _ Q I1 (by simpa using rv) hw
/-- a target o.f -/
def gFld (K : PySem.W.Frag) (to : TE) (f : Str) : TG := fun v σ H Q => to σ H fun x H1 => rSetF K f v x H1 fun H2 => Q σ H2
theorem pg_fld {o : Expr} {f : Str} {to : TE} (ho : PE X o to) : PG X (.Attribute o f pos) (gFld X.K to f) := by
  refine ⟨fun pins s σ H v u Q I r h => ?_⟩
  rw [assign_Attribute]
  refine wpAny_bind (wpAny_holding (thn (ho.run pins s σ H _ I h) fun ov s1 hq => ?_))
  obtain ⟨x, H1, I1, r1, a, C, dx, fs, rfl, ea, c, n, l, q⟩ := hq
  obtain rfl : ov = Value.ref a := r1
  refine wpAny_bind (wpAny_standAt (wpAny_bind (wpAny_holding (setattr_ok I1 ea c n l r fun s3 I3 => ?_))))
  exact wpAny_release ⟨σ, _, I3, q⟩
end
theorem r_gfld {K : PySem.W.Frag} {to : TE} {f : Str} {v : V} {σ : L2.St} {H : Hp} {Q : L2.St → Hp → Prop} (k : to σ H fun x H1 => rSetF K f v x H1 fun H2 => Q σ H2) : gFld K to f v σ H Q := k
/-! ### try .. except .. raise -/
def tTryRe (tb : WX → TS) (W : WX) : TS := tb W
/-- what 'except c: st; raise' wishes of an exception of the body -/
def wRe (K : PySem.W.Frag) (c : Value) (ts : TS) (Wout : WX) : WX := fun cls d σ H =>
  ∃ b, PySem.W.exmOne K cls c = some b ∧ (b = true → ts { nx := fun σ' H' => Wout cls d σ' H', rt := fun _ _ => False, bk := fun _ _ => False, ct := fun _ _ => False } σ H) ∧ (b = false → Wout cls d σ H)
section
variable {X : Cx} {x : Str} {c : Value} {body : List Stmt} {b₀ : Stmt} {np pos pos' rp : Pos} {tb : WX → TS} {ts : TS} {Wout : WX}
theorem ps_try_re (hs : X.stack = X.env :: X.outer) (hf : X.env.frame = some X.env.locals) (hx : X.ex = []) (hc : Names X x c) (hpa : ∀ hd : Option Value, PassesOwnAt (model X.prog X.w) (X.A.mark hd) X.A X.env X.xe) (tk : L2N.Takes X Wout)
    (hb : ∀ (W : WX) (pn : List (Addr × Obj)) (xe : Value → Shared → Prop), L2N.Takes (X.tr pn xe) W → PassesOwn (model X.prog X.w) X.A X.env xe → PSs (X.tr pn xe) body (tb W))
    (hsu : ∀ (a : Addr) (oe : Obj) (pn : List (Addr × Obj)), HotC (X.suite a ((a, oe) :: pn)) → PS (X.suite a ((a, oe) :: pn)) b₀ ts) :
    PS X (.Try body [.ExceptHandler (some (.Name x np)) none [b₀, .Raise none none rp] pos'] [] [] pos) (tTryRe tb (wRe X.K c ts Wout)) := by
  refine ⟨fun pins s σ H D I h => ?_⟩
  have ok := I.ok
  have hfr : X.A.frames = some (X.env :: X.outer) := by rw [ok.frames, hs]
  refine wpAny_Try_except ?_
  refine wpAny_mono ((hb (wRe X.K c ts Wout) (X.pn ++ pins) _ (fun u s' xx => ?_) PassesOwn.looking).run [] s σ H D (I.toTry _) h) (fun f s1 hsp => ?_) (fun e s1 he => he)
  · obtain ⟨a, B, sI, pins', σ', H', cls, d, rfl, J', nb, up, sky, na, os, ag, b, hb1, hyes, hno⟩ := xx
    have J : Inv X pins σ' H' sI := J'.ofTry ok
    rw [show (X.tr (X.pn ++ pins) _).stack = X.env :: X.outer from hs] at sky
    show wpAny (model X.prog X.w) X.A (noteFrame (.ref a) X.env) _ _ _
    refine L2N.Sky.land L2N.Zn.steady hfr hf sky fun h3 fl3 up3 => ?_
    have J3 : Inv X pins σ' H' { s' with heap := h3 } := J.landed nb fl3.1 (up.trans up3) os ag
    obtain ⟨oe3, vs3, he3, hz3, hd3⟩ := fl3.there
    have noFr : ∀ {h : Heap} {b : Addr} {o : Obj} {vs : Array Value}, h.FunFrames B (X.env :: X.outer) → h.get? b = some o → o.data = .fields vs → b ∉ frs (X.env :: X.outer) := fun {h b o vs} ff e dd hm => by
      obtain ⟨_, o', e', hnf⟩ := ff.mem hm
      rw [e] at e'
      cases e'
      exact hnf _ dd
    have offL : ∀ {b : Addr}, b ∉ frs (X.env :: X.outer) → b ≠ X.env.locals := fun {b} n z => n (List.mem_filterMap.mpr ⟨X.env, List.mem_cons_self, by rw [hf, z]⟩)
    have offF : ∀ {b : Addr}, b ∉ frs (X.env :: X.outer) → b ∉ X.fs := fun {b} n hm => by
      obtain ⟨e, he, q⟩ := List.mem_filterMap.mp hm
      exact n (List.mem_filterMap.mpr ⟨e, List.mem_cons_of_mem _ he, q⟩)
    have nfr := noFr fl3.2.2.1 he3 hd3
    have S3 := J3.suite he3 hd3 na (offL nfr) (offF nfr)
    refine wpAny_handleBy_cons (codeAny_handlers_test ?_) (by intro q; cases q)
    have LT : PySem.W.Looks (model X.prog X.w) h3 (typeOf (.ref a)) cls := fun A Q E s k q => wpAny_typeOf_ref (k _ _ he3) (by rw [hz3.1]; exact q)
    have LM := PySem.W.exm_one (M := model X.prog X.w) (J3.kIn) LT hb1
    have test : ∀ {Q : Value → Shared → Prop} {E : Value → Shared → Prop}, Q c { s' with heap := h3 } → wpAny (model X.prog X.w) (X.A.mark (some (.ref a))) (eval (.Name x np) X.env) Q E { s' with heap := h3 } := fun {Q E} q => by
      obtain ⟨hg, hdbg, hm | ⟨hm, hv, hnn⟩⟩ := hc
      · exact ld_glob (X := X.suite a ((a, oe3) :: (X.pn ++ pins))) S3 hg hm q hdbg
      · exact ld_blt (X := X.suite a ((a, oe3) :: (X.pn ++ pins))) S3 hg hm hv q hnn hdbg
    refine test (LM.here ?_)
    cases b with
    | true =>
      refine codeAny_handlers_suite ?_
      refine HandSPX.lands_againZ fl3 fun h4 fl4 up4 => ?_
      have J4 : Inv X pins σ' H' { s' with heap := h4 } := J.landed nb fl4.1 ((up.trans up3).trans up4) os ag
      obtain ⟨k1, k2, k3, oe4, vs4, T, oT, ts4, he4, hz4, hd4, hv4, bT, neT, hT, dT, hts⟩ := id fl4
      have nfT := noFr k3 hT dT
      -- what is not in the ground is not in the state without the exception
      have gone : ∀ b, b ∉ frs (X.env :: X.outer) → B.get? b = none → sI.heap.get? b = none := fun b n e => by
        cases q : sI.heap.get? b with
        | none => rfl
        | some o =>
          have := nb b o q (by show b ∉ frs X.stack; rw [hs]; exact n)
          rw [e] at this
          cases this
      have goneA := gone a nfr k2
      have goneT := gone T nfT bT
      have gone0 : ∀ b, sI.heap.get? b = none → X.s_0.heap.get? b = none := fun b e => by
        cases q : X.s_0.heap.get? b with
        | none => rfl
        | some o =>
          obtain ⟨o', z⟩ := J.base.there b o q (by rw [hx]; exact fun z => nomatch z)
          rw [e] at z
          cases z
      have nT : H' T = none := J.hok.gone goneT
      have freeCell : ∀ b, sI.heap.get? b = none → ∀ y c, X.env.cells.lookup y = some c → c ≠ b := fun b e y c hy z => by
        obtain ⟨v, o, ho, _⟩ := J.cell y c hy
        rw [z, e] at ho
        cases ho
      have freePin : ∀ b, sI.heap.get? b = none → ∀ p ∈ X.pn ++ pins, p.1 ≠ b := fun b e p hp z => by
        have := (J.pin p hp).1
        rw [z, e] at this
        cases this
      have S4 : Inv (X.suite a ((a, oe4) :: (X.pn ++ pins))) [(T, oT)] σ' H' { s' with heap := h4 } := by
        have S := J4.suite he4 hd4 na (offL nfr) (offF nfr)
        refine ⟨S.ok, S.os, S.bare, S.base, S.loc, S.cell, S.free, S.freeC, fun p hp => ?_, S.hok, S.len⟩
        rcases List.mem_append.mp hp with z | z
        · exact S.pin p (List.mem_append_left _ z)
        · rw [List.mem_singleton.mp z]
          exact ⟨hT, nT, offL nfT, offF nfT, fun v e => by rw [show oT.data = _ from e] at dT; cases dT⟩
      refine wpAny_execs_cons (wpAny_mono ((hsu a oe4 (X.pn ++ pins) ⟨(a, oe4), ⟨rfl, vs4, hd4, hz4.2.2 vs4 hd4⟩, List.mem_cons_self⟩).run [(T, oT)] _ _ H' _ S4 (hyes rfl)) (fun f s6 hsp => ?_) fun _ _ z => False.elim z)
      cases f with
      | ret u =>
        obtain ⟨_, _, _, _, _, z⟩ := hsp
        exact z.elim
      | brk =>
        obtain ⟨_, _, _, z⟩ := hsp
        exact z.elim
      | cont =>
        obtain ⟨_, _, _, z⟩ := hsp
        exact z.elim
      | next =>
        obtain ⟨σ6, H6, S6, w6⟩ := hsp
        have pa := S6.pin (a, oe4) (List.mem_append_left _ List.mem_cons_self)
        have pT := S6.pin (T, oT) (List.mem_append_right _ (List.mem_singleton.mpr rfl))
        have I6 : Inv X pins σ6 H6 s6 := Inv.unsuite S6 ok
        obtain ⟨G, back, inn, out, I7⟩ := inv_cut (S := [a, T]) I6 (fun b hb => by
            rcases List.mem_cons.mp hb with z | z
            · rw [z]; exact gone0 a goneA
            · rw [List.mem_singleton.mp z]; exact gone0 T goneT)
          (fun b hb => by
            rcases List.mem_cons.mp hb with z | z
            · rw [z]; exact pa.2.1
            · rw [List.mem_singleton.mp z]; exact pT.2.1)
          (fun hb => by
            rcases List.mem_cons.mp hb with z | z
            · exact offL nfr z.symm
            · exact offL nfT (List.mem_singleton.mp z).symm)
          (fun y c hy hb => by
            rcases List.mem_cons.mp hb with z | z
            · exact freeCell a goneA y c hy z
            · exact freeCell T goneT y c hy (List.mem_singleton.mp z))
          (fun p hp hb => by
            rcases List.mem_cons.mp hb with z | z
            · exact freePin a goneA p hp z
            · exact freePin T goneT p hp (List.mem_singleton.mp z))
        -- the ground: all but the exception, its traceback and the frames
        obtain ⟨B2, b1, b2⟩ := restrict G fun b => decide (b ∉ frs (X.env :: X.outer))
        have inB : ∀ b o, B2.get? b = some o → G.get? b = some o := fun b o e => by
          by_cases hb : b ∈ frs (X.env :: X.outer)
          · rw [b2 b (decide_eq_false fun z => z hb)] at e
            cases e
          · rw [← b1 b (decide_eq_true hb)]
            exact e
        have outB : ∀ b, G.get? b = none → B2.get? b = none := fun b e => by
          cases q : B2.get? b with
          | none => rfl
          | some o =>
            have := inB b o q
            rw [e] at this
            cases this
        have ff : s6.heap.FunFrames B2 (X.env :: X.outer) := by
          have z := I6.stack
          rw [hs] at z
          exact funFrames_none z fun L hL => b2 L (decide_eq_false fun n => n hL)
        have fly : HandSPX.FlyingZ B2 (X.env :: X.outer) a (L2N.Zn cls d) s6.heap :=
          ⟨fun b o e => back b o (inB b o e), outB a (inn a List.mem_cons_self), ff, oe4, vs4, T, oT, ts4, pa.1, hz4, hd4, hv4, outB T (inn T (List.mem_cons_of_mem _ List.mem_cons_self)), neT, pT.1, dT, hts⟩
        refine wpAny_execs_cons (wpAny_Raise_bare ?_)
        unfold raiseBare raiseStmt
        dsimp only
        refine wpAny_bind (wpAny_handled ?_)
        dsimp only [Around.mark]
        refine wpAny_bind (wpAny_rule ?_)
        refine wpAny_bind (wpAny_field pa.1 hd4 hv4 ?_)
        rw [if_neg (show ¬ ((Value.ref T == Value.none) = true) from by simp), hf]
        refine wpAny_bind (HandSPX.setFlight_upZ fly fun h7 held up7 => wpAny_throw (hpa (some (.ref a)) _ _ (tk _ _ ?_)))
        refine ⟨a, B2, { s6 with heap := G }, pins, σ6, H6, cls, d, rfl, I7, fun b o e n => ?_, fun b o e => up7 b o (back b o e), .inr (.inr (by rw [hs]; exact held)), pa.2.1, rfl, I6.bare, w6⟩
        rw [b1 b (decide_eq_true (by rw [← hs]; exact n))]
        exact e
    | false =>
      show wpAny _ X.A (handleBy (.ref a) X.env []) _ _ _
      refine wpAny_handleBy_nil ?_
      obtain ⟨k1, k2, k3, oe, vs, T, oT, ts', he, hz, hd, h1, hr⟩ := id fl3
      unfold PySem.passOn
      refine wpAny_bind (wpAny_field he hd h1 ?_)
      rw [if_neg (show ¬ ((Value.ref T == Value.none) = true) from by simp)]
      have fin : wpAny (model X.prog X.w) X.A (setFlight (.ref a) X.env.frame) (fun _ s4 => wpAny (model X.prog X.w) X.A (throw (.ref a) : Sem Flow) (SP X pins D) X.xe s4) X.xe { s' with heap := h3 } := by
        rw [hf]
        refine HandSPX.setFlight_upZ fl3 fun h4 hh4 up4 => wpAny_throw (tk _ _ ?_)
        exact ⟨a, B, sI, pins, σ', H', cls, d, rfl, J, nb, (up.trans up3).trans up4, .inr (.inr (by rw [hs]; exact hh4)), na, os, ag, hno rfl⟩
      first
        | exact wpAny_bind (wpAny_pure (wpAny_bind fin))
        | exact wpAny_bind fin
  · cases f with
    | next =>
      obtain ⟨σ', H', J', q⟩ := hsp
      exact wpAny_execs_nil ⟨σ', H', J'.ofTry ok, q⟩
    | brk =>
      obtain ⟨σ', H', J', q⟩ := hsp
      exact ⟨σ', H', J'.ofTry ok, q⟩
    | cont =>
      obtain ⟨σ', H', J', q⟩ := hsp
      exact ⟨σ', H', J'.ofTry ok, q⟩
    | ret u =>
      obtain ⟨v, σ', H', J', r, q⟩ := hsp
      exact ⟨v, σ', H', J'.ofTry ok, r, q⟩
end
/-! ### a method's call, what it lets out wished for at the caller's slots -/
def tMtdS (C : Addr) (m : Str) (sp : Sp) (E : L2.St → XK) (ta : TE) (t : TA) : TE := fun σ H Q => ta σ H fun x H1 => rMtd C m sp (E σ) t σ x H1 Q
section
variable {X : Cx} {CX : CXT} {k j : Nat} {C : Addr} {m : Str} {sp : Sp} {E : L2.St → XK} {o e : Expr} {es : List Expr} {ta : TE} {t : TA} {apos pos : Pos}
theorem pe_mtRS {pl : Sem Bool} (c : MetR X.prog X.w X.K X.mg X.base CX k C m sp) (hr : Room j X.A) (hk : k ≤ j) (hx : ∀ σ, PassesAt CX X σ (E σ)) (he : PE X o ta) (ha : PA X (e :: es) t)
    (hst : starEach (e :: es) X.env = (false, eval e X.env) :: starEach es X.env := by rfl) (hpl : (backTo pos (starEach es X.env)).any (·.1) = false := by rfl)
    (ht : eval (.Call (.Attribute o m apos) (e :: es) [] pos) X.env = (do
      let ov ← eval o X.env
      standAt apos.atName
      let (f, first) ← holding [ov] (getMethod ov m pl)
      callWith pos f first (backTo pos (starEach (e :: es) X.env)) (backToKw pos (keywordEach [] X.env))) := by rfl) :
    PE X (.Call (.Attribute o m apos) (e :: es) [] pos) (tMtdS C m sp E ta t) := by
  obtain ⟨f, F, hC, hm⟩ := c.ex
  refine ⟨fun pins s σ H Q I h => ?_⟩
  refine PySem.W.methodCall_KW (pl := pl) (thn (he.run pins s σ H _ I h) fun u s1 hu => ?_) ht
  obtain ⟨x, H1, I1, rx, a, dx, fs, rfl, ea, l, q⟩ := hu
  obtain rfl : u = Value.ref a := rx
  refine getmeth_ok I1 ea hC hm l (PySem.W.callWith_K (first := [.ref a]) (h₀ := X.base) I.ok.mod.kin hm.kp (thn (ha.run pos pins s1 σ H1 _ I1 q) fun us s2 hu2 => ?_) hst hpl)
  obtain ⟨vs, H2, I2, r, q2⟩ := hu2
  refine ⟨I2.kIn, wpAny_call (codeAny_mono (F X.A X.stack s2 H2 (.ref a :: us) (.ref a :: vs) Q (E σ) (hr.mono hk) I2.env0 (.cons rfl r) q2) fun res s3 hq => ?_)⟩
  cases res with
  | error ex => exact hx σ pins H2 s2 ex s3 I2 hq
  | ok fl =>
    cases fl with
    | ret u => exact I2.after hq
    | next => exact False.elim hq
    | brk => exact False.elim hq
    | cont => exact False.elim hq
end
end Wm
end

section
local macro_rules | `(tactic| walk_at "cls") => `(tactic| first | (with_reducible exact Wm.WeatherC.cl (by assumption)) | (with_reducible exact Wm.HeaterC.cl (by assumption)) | (with_reducible exact Wm.RoomC.cl (by assumption)) | (with_reducible exact Wm.RunC.cl (by assumption)) | (with_reducible exact Wm.HistoryC.cl (by assumption)) | (with_reducible exact Wm.ThresholdObserverC.cl (by assumption)) | (with_reducible exact Wm.SettingC.cl (by assumption)) | (with_reducible exact Wm.HourSettingC.cl (by assumption)) | (with_reducible exact Wm.RestSettingC.cl (by assumption)) | (with_reducible exact Wm.PricesC.cl (by assumption)) | (with_reducible exact Wm.MomentC.cl (by assumption)) | (with_reducible exact Wm.LiveRoomC.cl (by assumption)) | (with_reducible exact Wm.AttemptC.cl (by assumption)))
local macro_rules | `(tactic| walk_at "noattr") => `(tactic| first | (with_reducible exact Wm.WeatherC.n_pattern (by assumption)) | (with_reducible exact Wm.HeaterC.n_power (by assumption)) | (with_reducible exact Wm.HeaterC.n_below (by assumption)) | (with_reducible exact Wm.HeaterC.n_above (by assumption)) | (with_reducible exact Wm.RoomC.n_outside (by assumption)) | (with_reducible exact Wm.RoomC.n_inside (by assumption)) | (with_reducible exact Wm.RoomC.n_begin_degrees (by assumption)) | (with_reducible exact Wm.RoomC.n_past (by assumption)) | (with_reducible exact Wm.RoomC.n_repeated (by assumption)) | (with_reducible exact Wm.RoomC.n_share (by assumption)) | (with_reducible exact Wm.RoomC.n_coldest (by assumption)) | (with_reducible exact Wm.RoomC.n_warmest (by assumption)) | (with_reducible exact Wm.RunC.n_begin (by assumption)) | (with_reducible exact Wm.RunC.n_end (by assumption)) | (with_reducible exact Wm.RunC.n_degrees (by assumption)) | (with_reducible exact Wm.RunC.n_is_heating (by assumption)) | (with_reducible exact Wm.RunC.n_sums (by assumption)) | (with_reducible exact Wm.RunC.n_size (by assumption)) | (with_reducible exact Wm.RunC.n_drift (by assumption)) | (with_reducible exact Wm.HistoryC.n_shifts (by assumption)) | (with_reducible exact Wm.HistoryC.n_added (by assumption)) | (with_reducible exact Wm.HistoryC.n_floor (by assumption)) | (with_reducible exact Wm.HistoryC.n_ceiling (by assumption)) | (with_reducible exact Wm.HistoryC.n_was_heating (by assumption)) | (with_reducible exact Wm.HistoryC.n_runs (by assumption)) | (with_reducible exact Wm.HistoryC.n_loop (by assumption)) | (with_reducible exact Wm.ThresholdObserverC.n_outside (by assumption)) | (with_reducible exact Wm.ThresholdObserverC.n_power (by assumption)) | (with_reducible exact Wm.ThresholdObserverC.n_tick (by assumption)) | (with_reducible exact Wm.ThresholdObserverC.n_degrees (by assumption)) | (with_reducible exact Wm.ThresholdObserverC.n_is_heating (by assumption)) | (with_reducible exact Wm.ThresholdObserverC.n_lows (by assumption)) | (with_reducible exact Wm.ThresholdObserverC.n_highs (by assumption)) | (with_reducible exact Wm.ThresholdObserverC.n_noted (by assumption)) | (with_reducible exact Wm.SettingC.n_least (by assumption)) | (with_reducible exact Wm.SettingC.n_most (by assumption)) | (with_reducible exact Wm.HourSettingC.n_least (by assumption)) | (with_reducible exact Wm.HourSettingC.n_most (by assumption)) | (with_reducible exact Wm.HourSettingC.n_length (by assumption)) | (with_reducible exact Wm.HourSettingC.n_hours (by assumption)) | (with_reducible exact Wm.RestSettingC.n_least (by assumption)) | (with_reducible exact Wm.RestSettingC.n_most (by assumption)) | (with_reducible exact Wm.RestSettingC.n_rest (by assumption)) | (with_reducible exact Wm.PricesC.n_table (by assumption)) | (with_reducible exact Wm.MomentC.n_tick (by assumption)) | (with_reducible exact Wm.MomentC.n_heat (by assumption)) | (with_reducible exact Wm.MomentC.n_on (by assumption)) | (with_reducible exact Wm.MomentC.n_burnt (by assumption)) | (with_reducible exact Wm.MomentC.n_sky (by assumption)) | (with_reducible exact Wm.MomentC.n_stove (by assumption)) | (with_reducible exact Wm.LiveRoomC.n_moment (by assumption)) | (with_reducible exact Wm.LiveRoomC.n_earlier (by assumption)) | (with_reducible exact Wm.LiveRoomC.n_done (by assumption)) | (with_reducible exact Wm.AttemptC.n_live (by assumption)) | (with_reducible exact Wm.AttemptC.n_kept (by assumption)) | (with_reducible exact Wm.AttemptC.n_stack (by assumption)) | (with_reducible exact Wm.AttemptC.n_steps (by assumption)))
local macro_rules | `(tactic| walk_at "at") => `(tactic| first | assumption | exact Wm.Hold.rd (by assumption) (by assumption) | exact Wm.Hold.get (i := 0) (by assumption) rfl | exact Wm.Hold.get (i := 1) (by assumption) rfl | exact Wm.Hold.get (i := 2) (by assumption) rfl | exact Wm.Hold.get (i := 3) (by assumption) rfl | exact Wm.Hold.get (i := 4) (by assumption) rfl)
local macro_rules | `(tactic| walk_at "s1") => `(tactic| first
  | (with_reducible refine Wm.r_seq ?_)
  | (with_reducible refine Wm.r_op ?_)
  | ((with_reducible refine' Wm.r_var ?h ?_); (case h => rfl))
  | (with_reducible refine Wm.r_c ?_)
  | (with_reducible refine Wm.r_I0 ?_)
  | (with_reducible refine Wm.r_cons ?_)
  | (with_reducible refine Wm.r_nil ?_)
  | (with_reducible refine Wm.r_asg ?_)
  | (with_reducible refine Wm.r_gname ?_; try simp only [List.set_cons_zero, List.set_cons_succ])
  | (with_reducible refine Wm.r_nx ?_)
  | (with_reducible refine Wm.r_rt ?_)
  | (with_reducible refine Wm.r_ret ?_)
  | (with_reducible refine Wm.r_test ?_)
  | (with_reducible refine Wm.r_bl ?_)
  | (with_reducible refine Wm.r_B ?_)
  | (with_reducible refine Wm.r_eqI ?_)
  | (with_reducible refine Wm.r_neI ?_)
  | (with_reducible refine Wm.r_eqB ?_)
  | (with_reducible refine Wm.r_neB ?_)
  | (with_reducible refine Wm.r_fld ?_)
  | (with_reducible refine Wm.r_call ?_)
  | (with_reducible refine Wm.r_mtd ?_)
  | (with_reducible refine Wm.r_prp ?_)
  | (with_reducible refine Wm.r_mak ?_)
  | (with_reducible refine Wm.r_makKw ?_)
  | (with_reducible refine Wm.r_cb ?_)
  | (with_reducible refine Wm.r_tup ?_)
  | (with_reducible refine Wm.r_lst ?_)
  | (with_reducible refine Wm.r_chain ?_)
  | (with_reducible refine Wm.r_and ?_)
  | (with_reducible refine Wm.r_or ?_)
  | (with_reducible refine Wm.r_not ?_)
  | (with_reducible refine Wm.r_andV ?_)
  | (with_reducible refine Wm.r_orV ?_)
  | (with_reducible refine Wm.r_notV ?_)
  | (with_reducible refine Wm.r_if ?_)
  | (with_reducible refine Wm.r_un ?_)
  | (with_reducible refine Wm.r_U ?_)
  | (with_reducible refine Wm.r_iteT ?_)
  | (with_reducible refine Wm.r_iteF ?_)
  | (with_reducible refine Wm.r_next ?_)
  | (with_reducible refine Wm.r_drop ?_)
  | (with_reducible refine Wm.r_retN ?_)
  | ((with_reducible refine' Wm.r_aug ?h ?_); (case h => rfl))
  | (with_reducible refine Wm.r_ipI ?_)
  | (with_reducible refine Wm.r_par2 ?_)
  | (with_reducible refine Wm.r_two ?_; try simp only [List.set_cons_zero, List.set_cons_succ])
  | (with_reducible refine Wm.r_yes ?_)
  | (with_reducible refine Wm.r_forET ?_)
  | (with_reducible refine Wm.r_chain3 ?_)
  | (with_reducible refine Wm.r_nT ?_)
  | (with_reducible refine Wm.r_nF ?_)
  | (with_reducible refine Wm.r_par3 ?_)
  | (with_reducible refine Wm.r_seenPut ?_)
  | (with_reducible refine Wm.r_seenGet ?_)
  | (with_reducible refine Wm.r_three ?_; try simp only [List.set_cons_zero, List.set_cons_succ])
  | (with_reducible refine Wm.r_sl ?_)
  | (with_reducible refine Wm.r_nopart ?_)
  | (with_reducible refine Wm.r_part ?_)
  | (with_reducible refine Wm.r_xi ?_)
  | (with_reducible refine Wm.r_gcons ?_)
  | (with_reducible refine Wm.r_gnil ?_)
  | (with_reducible refine Wm.r_sub ?_)
  | (with_reducible refine Wm.r_setF ?_)
  | (with_reducible refine Wm.r_app ?_)
  | (with_reducible refine Wm.int_i ?_)
  | (with_reducible refine Wm.int_b ?_)
  | (with_reducible refine Wm.min2 ?_)
  | (with_reducible refine Wm.max2 ?_)
  | (with_reducible refine Wm.abs1 ?_)
  | (with_reducible refine Wm.isN ?_)
  | (with_reducible refine Wm.notN ?_)
  | ((with_reducible refine' Wm.r_ty ?e ?_); (case e => walk_at "at"))
  | ((with_reducible refine' Wm.setF_m ?h 0 ?e ?c ?a ?l ?_); (case h => assumption); (case e => rfl); (case c => walk_at "cls"); (case a => walk_at "noattr"); (case l => exact of_decide_eq_true rfl); intro H1 hh1; simp only [List.set_cons_zero, List.set_cons_succ] at hh1)
  | ((with_reducible refine' Wm.setF_m ?h 1 ?e ?c ?a ?l ?_); (case h => assumption); (case e => rfl); (case c => walk_at "cls"); (case a => walk_at "noattr"); (case l => exact of_decide_eq_true rfl); intro H1 hh1; simp only [List.set_cons_zero, List.set_cons_succ] at hh1)
  | ((with_reducible refine' Wm.setF_m ?h 2 ?e ?c ?a ?l ?_); (case h => assumption); (case e => rfl); (case c => walk_at "cls"); (case a => walk_at "noattr"); (case l => exact of_decide_eq_true rfl); intro H1 hh1; simp only [List.set_cons_zero, List.set_cons_succ] at hh1)
  | ((with_reducible refine' Wm.setF_m ?h 3 ?e ?c ?a ?l ?_); (case h => assumption); (case e => rfl); (case c => walk_at "cls"); (case a => walk_at "noattr"); (case l => exact of_decide_eq_true rfl); intro H1 hh1; simp only [List.set_cons_zero, List.set_cons_succ] at hh1)
  | (with_reducible refine Wm.r_forL ?_)
  | (with_reducible refine Wm.r_forT ?_)
  | (with_reducible refine Wm.r_forR1 ?_)
  | (with_reducible refine Wm.r_forR2 ?_)
  | (with_reducible refine Wm.r_forR3 ?_)
  | (with_reducible refine Wm.r_lcL ?_)
  | (with_reducible refine Wm.r_lcE ?_)
  | (with_reducible refine Wm.r_gfld ?_)
  | (with_reducible refine Wm.r_lcT ?_)
  | (with_reducible refine Wm.r_lcR1 ?_)
  | (with_reducible refine Wm.r_lcR2 ?_)
  | ((with_reducible refine' Wm.fld_h ?e ?c ?n ?l ?_); (case e => walk_at "at"); (case c => walk_at "cls"); (case n => walk_at "noattr"); (case l => rfl))
  | ((with_reducible refine' Wm.mtd_h ?e ?l ?_); (case e => walk_at "at"); (case l => rfl))
  | ((with_reducible refine' Wm.prp_h ?e ?_); (case e => walk_at "at"))
  | ((with_reducible refine' Wm.rix_ht ?a ?b ?_); (case a => walk_at "at"); (case b => rfl))
  | ((with_reducible refine' Wm.rix_h ?a ?b ?_); (case a => walk_at "at"); (case b => rfl))
  | ((with_reducible refine' Wm.len_ht ?a ?_); (case a => walk_at "at"))
  | ((with_reducible refine' Wm.len_h ?a ?_); (case a => walk_at "at"))
  | ((with_reducible refine' Wm.len_l ?a ?b ?_); (case a => assumption); (case b => assumption))
  | ((with_reducible refine' Wm.len_t ?a ?b ?_); (case a => assumption); (case b => assumption))
  | ((with_reducible refine' Wm.gtup_h ?a ?b ?_); (case a => walk_at "at"); (case b => rfl))
  | (with_reducible refine Wm.r_I (Wm.cmulR (by decide)) ?_)
  | (with_reducible refine Wm.r_I (Wm.cmulL (by decide)) ?_)
  | (with_reducible refine Wm.r_I (Wm.cdiv (by decide) (by decide)) ?_)
  | (with_reducible refine Wm.r_I Wm.cpow18 ?_)
  | (with_reducible refine Wm.r_I Wm.cpow12 ?_)
  | (with_reducible refine Wm.r_I (by show (0 : Int) < _; decide) ?_))
local macro_rules | `(tactic| walk_at "s") => `(tactic| repeat (first | walk_at "s1" | (with_reducible refine Wm.r_ifS ?_)))
local macro_rules | `(tactic| walk_at "t") => `(tactic| repeat (walk_at "s1"))
local macro_rules | `(tactic| walk_at "sz") => `(tactic| exact of_decide_eq_true rfl)
local macro_rules | `(tactic| walk_at "d") => `(tactic| first | (with_reducible refine Wm.r_dT (by omega) ?_) | (with_reducible refine Wm.r_dF (by omega) ?_) | (with_reducible refine Wm.r_dN (by omega) ?_) | (with_reducible refine Wm.r_dM (by omega) ?_))
local macro_rules | `(tactic| walk_at "sd") => `(tactic| repeat (first | walk_at "s1" | (with_reducible refine Wm.r_ifS ?_) | walk_at "d"))
local macro_rules | `(tactic| walk_at "ex") => `(tactic| first
  | assumption
  | exact Wm.Ex.refl _
  | (refine Wm.Ex.trans ?_ (by assumption); walk_at "ex")
  | (refine Wm.Ex.trans ?_ (Wm.Hold.ex (by assumption)); walk_at "ex"))
local macro_rules | `(tactic| walk_at "room") => `(tactic| first
  | assumption
  | (refine' Wm.IsRoom.up ?e ?h; (case h => assumption); (case e => walk_at "ex")))
local macro_rules | `(tactic| walk_at "opt") => `(tactic| first
  | assumption
  | (refine' Wm.OptAt.up ?e ?h; (case h => assumption); (case e => walk_at "ex")))
local macro_rules | `(tactic| walk_at "lst") => `(tactic| first
  | assumption
  | (refine' Wm.Lst.at_ ?h ?e; (case h => assumption); (case e => walk_at "ex"))
  | exact Wm.Hold.get (i := 0) (by assumption) rfl | exact Wm.Hold.get (i := 1) (by assumption) rfl | exact Wm.Hold.get (i := 2) (by assumption) rfl | exact Wm.Hold.get (i := 3) (by assumption) rfl | exact Wm.Hold.get (i := 4) (by assumption) rfl)
local macro_rules | `(tactic| walk_at "tup") => `(tactic| first
  | assumption
  | (refine' Wm.Tup.at_ ?h ?e; (case h => assumption); (case e => walk_at "ex")))
local macro_rules | `(tactic| walk_at "p1") => `(tactic| first
  | (with_reducible refine Wm.r_p18 ?_) | (with_reducible refine Wm.r_p12 ?_) | (with_reducible refine Wm.r_p17 ?_) | (with_reducible refine Wm.r_p15 ?_) | (with_reducible refine Wm.r_p11 ?_) | (with_reducible refine Wm.r_p6 ?_) | (with_reducible refine Wm.r_p5 ?_) | (with_reducible refine Wm.r_p4 ?_) | (with_reducible refine Wm.r_p9 ?_) | (with_reducible refine Wm.r_p13 ?_) | (with_reducible refine Wm.r_p20 ?_) | (with_reducible refine Wm.r_p30 ?_) | (with_reducible refine Wm.r_p16 ?_))
local macro_rules | `(tactic| walk_at "w2") => `(tactic| first
  | ((with_reducible refine' Wm.r_wp ?h ?_); (case h => rfl))
  | ((with_reducible refine' Wm.ap_mtd ?ir ?hl ?_); (case ir => walk_at "room"); (case hl => intros; rfl))
  | ((with_reducible refine' Wm.ap_prp ?ir ?_); (case ir => walk_at "room"))
  | ((with_reducible refine' Wm.ap_temp ?hh ?ir ?t0 ?t1 ?_); (case hh => assumption); (case ir => walk_at "room"); (case t0 => omega); (case t1 => omega); intro H1 hh1)
  | ((with_reducible refine' Wm.ap_on ?hh ?ir ?t0 ?t1 ?_); (case hh => assumption); (case ir => walk_at "room"); (case t0 => omega); (case t1 => omega); intro H1 hh1)
  | ((with_reducible refine' Wm.ap_heats ?hh ?ir ?t0 ?t1 ?_); (case hh => assumption); (case ir => walk_at "room"); (case t0 => omega); (case t1 => omega); intro H1 hh1)
  | ((with_reducible refine' Wm.ap_sws ?hh ?ir ?t0 ?t1 ?_); (case hh => assumption); (case ir => walk_at "room"); (case t0 => omega); (case t1 => omega); intro H1 hh1)
  | ((with_reducible refine' Wm.rix_ht ?a ?b ?_); (case a => walk_at "tup"); (case b => rfl))
  | ((with_reducible refine' Wm.rix_h ?a ?b ?_); (case a => walk_at "lst"); (case b => rfl))
  | ((with_reducible refine' Wm.len_ht ?a ?_); (case a => walk_at "tup"))
  | ((with_reducible refine' Wm.len_h ?a ?_); (case a => walk_at "lst"))
  | ((with_reducible refine' Wm.gtup_h ?a ?b ?_); (case a => walk_at "tup"); (case b => rfl))
  | ((with_reducible refine' Wm.r_I (Wm.cmulL ?h) ?_); (case h => omega))
  | ((with_reducible refine' Wm.r_I (Wm.cmulR ?h) ?_); (case h => omega))
  | ((with_reducible refine' Wm.r_I (Wm.cdiv ?h ?h2) ?_); (case h => omega); (case h2 => omega))
  | ((with_reducible refine' Wm.r_mod ?h ?_); (case h => omega))
  | ((with_reducible refine' Wm.tup_N ?hP ?hh ?_); (case hP => walk_at "sz"); (case hh => assumption); intro p G1 H1 ex1 tp hh1))
local macro_rules | `(tactic| walk_at "w1") => `(tactic| first | walk_at "p1" | walk_at "s1" | walk_at "w2")
local macro_rules | `(tactic| walk_at "w") => `(tactic| repeat (first | walk_at "w1" | (with_reducible refine Wm.r_ifS ?_)))
local macro_rules | `(tactic| walk_at "wl") => `(tactic| ((with_reducible refine' Wm.lst_N ?hP ?hh ?_); (case hP => walk_at "sz"); (case hh => assumption); intro p G1 H1 ex1 tp hh1))
local macro_rules | `(tactic| walk_at "wd") => `(tactic| repeat (first | walk_at "w1" | (with_reducible refine Wm.r_ifS ?_) | walk_at "d" | walk_at "wl"))
local macro_rules | `(tactic| walk_at "v") => `(tactic| repeat (walk_at "w1"))
namespace Wm
open PySem PySem.Spec PyProof.Rows L2 StX
open LamX
/-! ## Observers -/
/-- an observer: what it holds and what that says -/
structure ObD where
  w : Addr
  wt : Addr
  pl : Addr
  ph : Addr
  l : Addr
  dx : Addr
  ch : List Int
  g : Int
  t : Int
  d : Int
  on : Bool
  lo : Int × Int
  hi : Int × Int
  no : List (Str × Int)
def ObD.ho (A : Ads) (O : ObD) : HO := .ins A.cThresholdObserver O.dx (obsF (.ref O.w) O.g O.t O.d O.on (.ref O.pl) (.ref O.ph) (.ref O.l))
def NotesAt (G : Hp) (l : Addr) (no : List (Str × Int)) : Prop := ∃ ps : List Addr, Lst G l (ps.map V.ref) ∧ ps.length = no.length ∧ ∀ (i : Nat) (p : Addr) (n : Str × Int), ps[i]? = some p → no[i]? = some n → Tup G p [.str n.1, .int n.2]
theorem NotesAt.up {G H : Hp} {l : Addr} {no : List (Str × Int)} (h : NotesAt G l no) (e : Ex G H) : NotesAt H l no := by
  obtain ⟨ps, h1, h2, h3⟩ := h
  exact ⟨ps, h1.up e, h2, fun i p n a b => (h3 i p n a b).up e⟩
structure ObOk (K : PySem.W.Frag) (A : Ads) (G : Hp) (O : ObD) : Prop where
  cl : ThresholdObserverC K A.cThresholdObserver
  ru : RunC K A.cRun
  iw : IsWeather K A G O.w O.wt O.ch
  g1 : 1 ≤ O.g
  g2 : O.g ≤ 200
  t0 : 0 ≤ O.t
  pl : Tup G O.pl [.int O.lo.1, .int O.lo.2]
  ph : Tup G O.ph [.int O.hi.1, .int O.hi.2]
  no : NotesAt G O.l O.no
  le : O.no.length ≤ 1000
theorem ObOk.up {K : PySem.W.Frag} {A : Ads} {G H : Hp} {O : ObD} (h : ObOk K A G O) (e : Ex G H) : ObOk K A H O := ⟨h.cl, h.ru, h.iw.up e, h.g1, h.g2, h.t0, h.pl.up e, h.ph.up e, h.no.up e, h.le⟩
def obRun (ch : List Int) (g t d : Int) (on : Bool) : RunD := ⟨t, none, d, on, (rotW ch t).map (· + if on = true then g else 0)⟩
def ObD.run (O : ObD) : RunD := obRun O.ch O.g O.t O.d O.on
def narP (r : Int × Int) (b : Int) (m : Bool) : Int × Int := if m = true then ((if b > r.1 then b else r.1), r.2) else (r.1, if b < r.2 then b else r.2)
def nar (on : Bool) (lo hi : Int × Int) (b : Int) (m : Bool) : (Int × Int) × (Int × Int) := if on = true then (lo, narP hi b m) else (narP lo b m, hi)
def okR (x : (Int × Int) × (Int × Int)) : Prop := x.1.1 ≤ x.1.2 ∧ x.2.1 ≤ x.2.2 ∧ x.1.1 ≤ x.2.2
instance (x : (Int × Int) × (Int × Int)) : Decidable (okR x) := by unfold okR; exact inferInstance
def sp_ThresholdObserver_low_range (K : PySem.W.Frag) (A : Ads) : Sp := fun vs H Q _ => ∃ (x : Addr) (O : ObD), vs = [.ref x] ∧ ThresholdObserverC K A.cThresholdObserver ∧ H x = some (O.ho A) ∧ Q (.ref O.pl) H
def sp_ThresholdObserver_high_range (K : PySem.W.Frag) (A : Ads) : Sp := fun vs H Q _ => ∃ (x : Addr) (O : ObD), vs = [.ref x] ∧ ThresholdObserverC K A.cThresholdObserver ∧ H x = some (O.ho A) ∧ Q (.ref O.ph) H
def sp_ThresholdObserver_seen_ticks (K : PySem.W.Frag) (A : Ads) : Sp := fun vs H Q _ => ∃ (x : Addr) (O : ObD), vs = [.ref x] ∧ ThresholdObserverC K A.cThresholdObserver ∧ H x = some (O.ho A) ∧ Q (.int O.t) H
def sp_ThresholdObserver_records (K : PySem.W.Frag) (A : Ads) : Sp := fun vs H Q _ => ∃ (x : Addr) (O : ObD) (G : Hp) (mu : Mu), vs = [.ref x] ∧ ObOk K A G O ∧ Hold G ((x, O.ho A) :: mu) H ∧ ∀ q G' H', Ex G G' → G q = none → NotesAt G' q O.no → Hold G' ((x, O.ho A) :: mu) H' → Q (.ref q) H'
def sp_ThresholdObserver_run_on (K : PySem.W.Frag) (A : Ads) : Sp := fun vs H Q _ => ∃ (x : Addr) (t d : Int) (on : Bool) (O : ObD) (G : Hp) (mu : Mu), vs = [.ref x, .int t, .int d, .bl on] ∧ ThresholdObserverC K A.cThresholdObserver ∧ RunC K A.cRun ∧ Hold G ((x, O.ho A) :: mu) H ∧
  IsWeather K A G O.w O.wt O.ch ∧ 1 ≤ O.g ∧ O.g ≤ 200 ∧ ∀ q G' H', Ex G G' → IsRun K A G' q (obRun O.ch O.g t d on) → Hold G' ((x, O.ho A) :: mu) H' → Q (.ref q) H'
def sp_ThresholdObserver_narrowed (K : PySem.W.Frag) (A : Ads) : Sp := fun vs H Q _ => ∃ (x : Addr) (b : Int) (m : Bool) (O : ObD) (G : Hp) (mu : Mu), vs = [.ref x, .int b, .bl m] ∧ ThresholdObserverC K A.cThresholdObserver ∧ Hold G ((x, O.ho A) :: mu) H ∧
  Tup G O.pl [.int O.lo.1, .int O.lo.2] ∧ Tup G O.ph [.int O.hi.1, .int O.hi.2] ∧ ∀ (r q1 q2 : Addr) (G' H' : Hp), Ex G G' → Tup G' r [.ref q1, .ref q2] → Tup G' q1 [.int (nar O.on O.lo O.hi b m).1.1, .int (nar O.on O.lo O.hi b m).1.2] →
    Tup G' q2 [.int (nar O.on O.lo O.hi b m).2.1, .int (nar O.on O.lo O.hi b m).2.2] → Hold G' ((x, O.ho A) :: mu) H' → Q (.ref r) H'
def sp_ThresholdObserver_keepX (K : PySem.W.Frag) (A : Ads) : Sp := fun vs H Q E => ∃ (x r q1 q2 : Addr) (O : ObD) (n : (Int × Int) × (Int × Int)) (G : Hp) (mu : Mu), vs = [.ref x, .ref r] ∧ ThresholdObserverC K A.cThresholdObserver ∧ Hold G ((x, O.ho A) :: mu) H ∧ Tup G r [.ref q1, .ref q2] ∧
  Tup G q1 [.int n.1.1, .int n.1.2] ∧ Tup G q2 [.int n.2.1, .int n.2.2] ∧ (okR n → ∀ H', Hold G ((x, { O with pl := q1, ph := q2, lo := n.1, hi := n.2 }.ho A) :: mu) H' → Q .non H') ∧ (¬ okR n → ∀ H', Hold G ((x, O.ho A) :: mu) H' → E (.ref A.cContradiction) none H')
def sp_ThresholdObserver_rest_untilX (K : PySem.W.Frag) (A : Ads) : Sp := fun vs H Q E => ∃ (x q : Addr) (last : Int) (O : ObD) (r : RunD) (G : Hp) (mu : Mu), vs = [.ref x, .ref q, .int last] ∧ ObOk K A G O ∧ IsRun K A G q r ∧ Hold G ((x, O.ho A) :: mu) H ∧
  (last < r.beg → ∀ H', Hold G ((x, O.ho A) :: mu) H' → Q .non H') ∧
  (r.beg ≤ last → ∀ e u, XT r (some last) (sgn O.on) r.steps.length e u →
    (okR (nar O.on O.lo O.hi e O.on) → ∀ q1 q2 G' H', Ex G G' → ObOk K A G' { O with pl := q1, ph := q2, lo := (nar O.on O.lo O.hi e O.on).1, hi := (nar O.on O.lo O.hi e O.on).2 } →
      Hold G' ((x, { O with pl := q1, ph := q2, lo := (nar O.on O.lo O.hi e O.on).1, hi := (nar O.on O.lo O.hi e O.on).2 }.ho A) :: mu) H' → Q .non H') ∧
    (¬ okR (nar O.on O.lo O.hi e O.on) → ∀ G' H', Ex G G' → Hold G' ((x, O.ho A) :: mu) H' → E (.ref A.cContradiction) none H'))
def sizesV (O : ObD) : List V := [.int (O.lo.2 - O.lo.1 + 1), .int (O.hi.2 - O.hi.1 + 1)]
def sp_ThresholdObserver_sizes (K : PySem.W.Frag) (A : Ads) : Sp := fun vs H Q _ => ∃ (x : Addr) (O : ObD) (G : Hp) (mu : Mu), vs = [.ref x] ∧ ObOk K A G O ∧ Hold G ((x, O.ho A) :: mu) H ∧ ∀ q G' H', Ex G G' → Tup G' q (sizesV O) → Hold G' ((x, O.ho A) :: mu) H' → Q (.ref q) H'
def t_ThresholdObserver_low_range (K : PySem.W.Frag) (A : Ads) : TS := tRet (tFld K (tVar 0) "lows")
def t_ThresholdObserver_high_range (K : PySem.W.Frag) (A : Ads) : TS := tRet (tFld K (tVar 0) "highs")
def t_ThresholdObserver_seen_ticks (K : PySem.W.Frag) (A : Ads) : TS := tRet (tFld K (tVar 0) "tick")
def t_ThresholdObserver_records (K : PySem.W.Frag) (A : Ads) : TS := tRet (tCB (rListOf K) (tCons (tFld K (tVar 0) "noted") (tNil)))
def t_ThresholdObserver_run_on (K : PySem.W.Frag) (A : Ads) : TS := tSeq (tAsg (tTup (tCons (tPrp A.cWeather (sp_Weather_changes K A) E0 (tFld K (tVar 0) "outside")) (tCons (tIf (tB (tVar 3)) (tFld K (tVar 0) "power") (tC (.int 0))) (tNil)))) (gTup K 2 (gCons (gName 4) (gCons (gName 5) (gNil))))) (tSeq (tAsg (tOp (rI (fun _ j => 0 < j) fun i j => .int (i % j)) (tCB rInt (tCons (tVar 1) (tNil))) (tCB (rLen K) (tCons (tVar 4) (tNil)))) (gName 6)) (tRet (tMak A.cRun (sp_Run_init K A) E0 (tCons (tVar 1) (tCons (tVar 2) (tCons (tVar 3) (tCons (tLc (iTup K (tOp (rCatA K) (tSl (rSlA K) (tVar 4) (tPart (tVar 6)) (tNoPart)) (tSl (rSlA K) (tVar 4) (tNoPart) (tPart (tVar 6))))) (gName 7) (tYes) (tOp (rI0 fun i j => .int (i + j)) (tVar 7) (tVar 5)) [7]) (tNil))))))))
def t_ThresholdObserver_narrowed (K : PySem.W.Frag) (A : Ads) : TS := tSeq (tAsg (tIf (tB (tFld K (tVar 0) "is_heating")) (tFld K (tVar 0) "highs") (tFld K (tVar 0) "lows")) (gTup K 2 (gCons (gName 3) (gCons (gName 4) (gNil))))) (tSeq (tAsg (tIf (tB (tVar 2)) (tTup (tCons (tCB rMax2 (tCons (tVar 3) (tCons (tVar 1) (tNil)))) (tCons (tVar 4) (tNil)))) (tTup (tCons (tVar 3) (tCons (tCB rMin2 (tCons (tVar 4) (tCons (tVar 1) (tNil)))) (tNil))))) (gName 5)) (tRet (tIf (tB (tFld K (tVar 0) "is_heating")) (tTup (tCons (tFld K (tVar 0) "lows") (tCons (tVar 5) (tNil)))) (tTup (tCons (tVar 5) (tCons (tFld K (tVar 0) "highs") (tNil)))))))
def t_ThresholdObserver_keepX (K : PySem.W.Frag) (A : Ads) (E : XK) : TS := tSeq (tAsg (tVar 1) (gTup K 2 (gCons (gTup K 2 (gCons (gName 2) (gCons (gName 3) (gNil)))) (gCons (gTup K 2 (gCons (gName 4) (gCons (gName 5) (gNil)))) (gNil))))) (tSeq (tIfS (tOr (tTest (tOp (rI0 fun i j => .bl (decide (j < i))) (tVar 2) (tVar 3))) (tOr (tTest (tOp (rI0 fun i j => .bl (decide (j < i))) (tVar 4) (tVar 5))) (tTest (tOp (rI0 fun i j => .bl (decide (j < i))) (tVar 2) (tVar 5))))) (tRz (fun _ H Q => Q (.ref A.cContradiction) none H) E) (tNext)) (tAsg (tVar 1) (gTup K 2 (gCons (gFld K (tVar 0) "lows") (gCons (gFld K (tVar 0) "highs") (gNil))))))
def t_ThresholdObserver_sizes (K : PySem.W.Frag) (A : Ads) : TS := tRet (tTup (tCons (tOp (rI0 fun i j => .int (i + j)) (tOp (rI0 fun i j => .int (i - j)) (tOp (rIx K) (tFld K (tVar 0) "lows") (tC (.int 1))) (tOp (rIx K) (tFld K (tVar 0) "lows") (tC (.int 0)))) (tC (.int 1))) (tCons (tOp (rI0 fun i j => .int (i + j)) (tOp (rI0 fun i j => .int (i - j)) (tOp (rIx K) (tFld K (tVar 0) "highs") (tC (.int 1))) (tOp (rIx K) (tFld K (tVar 0) "highs") (tC (.int 0)))) (tC (.int 1))) (tNil))))
section
variable {K : PySem.W.Frag} {A : Ads}
theorem pure_ThresholdObserver_low_range (vs : List V) (H : Hp) (Q : VK) (E : XK) (h : sp_ThresholdObserver_low_range K A vs H Q E) : t_ThresholdObserver_low_range K A { nx := fun _ H' => Q .non H', rt := Q } (start ["self"] vs) H := by
  obtain ⟨x, O, rfl, TC, h1, k⟩ := h
  show t_ThresholdObserver_low_range K A _ [some (.ref x)] H
  unfold t_ThresholdObserver_low_range
  unfold ObD.ho obsF at h1
  walk_at "w"
  exact k
theorem pure_ThresholdObserver_high_range (vs : List V) (H : Hp) (Q : VK) (E : XK) (h : sp_ThresholdObserver_high_range K A vs H Q E) : t_ThresholdObserver_high_range K A { nx := fun _ H' => Q .non H', rt := Q } (start ["self"] vs) H := by
  obtain ⟨x, O, rfl, TC, h1, k⟩ := h
  show t_ThresholdObserver_high_range K A _ [some (.ref x)] H
  unfold t_ThresholdObserver_high_range
  unfold ObD.ho obsF at h1
  walk_at "w"
  exact k
theorem pure_ThresholdObserver_seen_ticks (vs : List V) (H : Hp) (Q : VK) (E : XK) (h : sp_ThresholdObserver_seen_ticks K A vs H Q E) : t_ThresholdObserver_seen_ticks K A { nx := fun _ H' => Q .non H', rt := Q } (start ["self"] vs) H := by
  obtain ⟨x, O, rfl, TC, h1, k⟩ := h
  show t_ThresholdObserver_seen_ticks K A _ [some (.ref x)] H
  unfold t_ThresholdObserver_seen_ticks
  unfold ObD.ho obsF at h1
  walk_at "w"
  exact k
theorem obs_tail {G H : Hp} {mu : Mu} {ad t d g : Int} {on : Bool} {ch : List Int} {wt x : Addr} {Q : VK} (e : ad = if on = true then g else 0) (hh : Hold G mu H) (RC : RunC K A.cRun) (wok : WOk ch) (ht : Tup G wt (ch.map V.int)) (g1 : 1 ≤ g) (g2 : g ≤ 200)
    (k : ∀ q G' H', Ex G G' → IsRun K A G' q (obRun ch g t d on) → Hold G' mu H' → Q (.ref q) H') :
    rSlA K (.ref wt) (some (t % (ch.length : Int))) none H fun x1 H1 => tSl (rSlA K) (tVar 4) tNoPart (tPart (tVar 6)) [some (.ref x), some (.int t), some (.int d), some (.bl on), some (.ref wt), some (.int ad), some (.int (t % (ch.length : Int))), none] H1 fun y H2 =>
      rCatA K x1 y H2 fun x2 H1 => LcT K (gName 7) tYes (tOp (rI0 fun i j => .int (i + j)) (tVar 7) (tVar 5)) [7] [some (.ref x), some (.int t), some (.int d), some (.bl on), some (.ref wt), some (.int ad), some (.int (t % (ch.length : Int))), none]
        (fun x3 H1 => tNil [some (.ref x), some (.int t), some (.int d), some (.bl on), some (.ref wt), some (.int ad), some (.int (t % (ch.length : Int))), none] H1 fun xs H2 => rMak A.cRun (sp_Run_init K A) E0 (.int t :: .int d :: .bl on :: x3 :: xs) H2 Q) x2 H1 := by
  have hpos := wok.1
  have h24 := wok.2.1
  have m0 := Int.emod_nonneg t (show (ch.length : Int) ≠ 0 by omega)
  have m1 := Int.emod_lt_of_pos t (show (0 : Int) < ch.length by omega)
  have em : t % (ch.length : Int) = ((t % (ch.length : Int)).toNat : Nat) := by omega
  refine slT_N hh ht fun q1 G1 H1 ex1 hq1 hh1 => ?_
  walk_at "w"
  refine slT_N hh1 (ht.up ex1) fun q2 G2 H2 ex2 hq2 hh2 => ?_
  rw [cut_from _ em (by rw [List.length_map]; omega)] at hq1
  rw [cut_to _ em (by rw [List.length_map]; omega)] at hq2
  refine catT_N hh2 (hq1.up ex2) hq2 (by rw [List.length_drop, List.length_take, List.length_map]; omega) fun q3 G3 H3 ex3 hq3 hh3 => ?_
  have e3 : (ch.map V.int).drop (t % (ch.length : Int)).toNat ++ (ch.map V.int).take (t % (ch.length : Int)).toNat = (rotW ch t).map V.int := by
    unfold rotW
    rw [List.map_append, List.map_drop, List.map_take]
  rw [e3] at hq3
  have rl : (rotW ch t).length = ch.length := rotW_len _ _ hpos
  refine lcT_fil (rotW ch t) V.int (fun _ => true) (fun z => .int (z + ad)) hh3 (by omega) hq3 (fun z hz D acc G4 H4 LY LN ex4 hh4 hY hN => ?_) fun D G4 H4 ex4 hD hh4 => ?_
  · walk_at "w"
    exact hY _ _ _ rfl rfl (Ex.refl _) (by assumption)
  walk_at "w"
  have hst : (rotW ch t).map (· + ad) = (obRun ch g t d on).steps := by rw [e]; rfl
  have hD : Lst G4 D ((obRun ch g t d on).steps.map V.int) := by
    rw [← hst, List.map_map]
    rw [List.filter_eq_self.mpr (fun _ _ => rfl)] at hD
    exact hD
  have rok : RunOk (obRun ch g t d on) := by
    have hm : ∀ s ∈ rotW ch t, -100 ≤ s ∧ s ≤ 100 := fun s hs => wok.2.2 s (by
      unfold rotW at hs
      rcases List.mem_append.mp hs with z | z
      · exact List.mem_of_mem_drop z
      · exact List.mem_of_mem_take z)
    refine ⟨by rw [← hst, List.length_map]; omega, by rw [← hst, List.length_map]; omega, fun s hs => ?_, fun s hs => ?_⟩
    · rw [← hst] at hs
      obtain ⟨z, hz, rfl⟩ := List.mem_map.mp hs
      have := hm z hz
      rw [e]
      split <;> omega
    · rw [← hst] at hs
      obtain ⟨z, hz, rfl⟩ := List.mem_map.mp hs
      have := hm z hz
      rw [e]
      split <;> omega
  refine make_m hh4 fun x' dx' H5 hh5 => ⟨x', dx', D, t, d, on, (obRun ch g t d on).steps, G4, _, rfl, RC, hh5, SqL.of_ hD, rok.len, fun sm G6 H6 ex6 hs6 hh6 => ⟨rfl, ?_⟩⟩
  have e7 := hh6.frz_ex
  exact k x' _ H6 (ex1.trans (ex2.trans (ex3.trans (ex4.trans (ex6.trans e7))))) ⟨RC, rok, dx', sm, upd_same, e7 _ _ hs6⟩ hh6.frz
theorem pure_ThresholdObserver_run_on (vs : List V) (H : Hp) (Q : VK) (E : XK) (h : sp_ThresholdObserver_run_on K A vs H Q E) : t_ThresholdObserver_run_on K A { nx := fun _ H' => Q .non H', rt := Q } (start ["self", "tick", "degrees", "is_heating", "shifts", "added", "phase", "shift"] vs) H := by
  obtain ⟨x, t, d, on, O, G, mu, rfl, TC, RC, hh, iw, g1, g2, k⟩ := h
  show t_ThresholdObserver_run_on K A _ [some (.ref x), some (.int t), some (.int d), some (.bl on), none, none, none, none] H
  unfold t_ThresholdObserver_run_on
  unfold ObD.ho obsF at hh k
  walk_at "w"
  refine ap_prpW (iw.up hh.ex) ?_
  refine ⟨O.w, O.wt, O.ch, rfl, iw.up hh.ex, ?_⟩
  obtain ⟨_, wok, dxw, hw1, hw2⟩ := id iw
  have ht : Tup G O.wt (O.ch.map V.int) := hw2
  have hpos := wok.1
  have h24 := wok.2.1
  walk_at "w"
  have m0 := Int.emod_nonneg t (show (O.ch.length : Int) ≠ 0 by omega)
  have m1 := Int.emod_lt_of_pos t (show (0 : Int) < O.ch.length by omega)
  have em : t % (O.ch.length : Int) = ((t % (O.ch.length : Int)).toNat : Nat) := by omega
  cases on with
  | true =>
    rw [if_pos rfl]
    walk_at "w"
    rw [List.length_map]
    walk_at "w"
    rename_i p1 G1 H1 ex1 tp1 hh1
    exact obs_tail rfl hh1 RC wok (ht.up ex1) g1 g2 fun q G' H' e => k q G' H' (ex1.trans e)
  | false =>
    rw [if_neg (by simp)]
    walk_at "w"
    rw [List.length_map]
    walk_at "w"
    rename_i p1 G1 H1 ex1 tp1 hh1
    exact obs_tail rfl hh1 RC wok (ht.up ex1) g1 g2 fun q G' H' e => k q G' H' (ex1.trans e)
theorem pure_ThresholdObserver_sizes (vs : List V) (H : Hp) (Q : VK) (E : XK) (h : sp_ThresholdObserver_sizes K A vs H Q E) : t_ThresholdObserver_sizes K A { nx := fun _ H' => Q .non H', rt := Q } (start ["self"] vs) H := by
  obtain ⟨x, O, G, mu, rfl, ok, hh, k⟩ := h
  have TC := ok.cl
  have hpl := ok.pl
  have hph := ok.ph
  show t_ThresholdObserver_sizes K A _ [some (.ref x)] H
  unfold t_ThresholdObserver_sizes
  unfold ObD.ho obsF at hh k
  walk_at "w"
  rename_i p1 G1 H1 ex1 tp1 hh1
  exact k p1 G1 H1 ex1 tp1 hh1
theorem pure_ThresholdObserver_records (vs : List V) (H : Hp) (Q : VK) (E : XK) (h : sp_ThresholdObserver_records K A vs H Q E) : t_ThresholdObserver_records K A { nx := fun _ H' => Q .non H', rt := Q } (start ["self"] vs) H := by
  obtain ⟨x, O, G, mu, rfl, ok, hh, k⟩ := h
  have TC := ok.cl
  obtain ⟨ps, n1, n2, n3⟩ := ok.no
  show t_ThresholdObserver_records K A _ [some (.ref x)] H
  unfold t_ThresholdObserver_records
  unfold ObD.ho obsF at hh k
  walk_at "w"
  refine ⟨O.l, ps.map V.ref, rfl, .inl (SqL.of (n1.at_ hh.ex)), fun q hq0 => ?_⟩
  obtain ⟨G1, ex1, hq, hh1⟩ : ∃ G1, Ex G G1 ∧ Lst G1 q (ps.map V.ref) ∧ Hold G1 _ (upd H q (.lst (ps.map V.ref))) := ⟨_, Ex.new (hh.g_none hq0), upd_same, hh.new hq0⟩
  exact k q G1 _ ex1 (hh.g_none hq0) ⟨ps, hq, n2, fun i p n a b => (n3 i p n a b).up ex1⟩ hh1
theorem pure_ThresholdObserver_narrowed (vs : List V) (H : Hp) (Q : VK) (E : XK) (h : sp_ThresholdObserver_narrowed K A vs H Q E) : t_ThresholdObserver_narrowed K A { nx := fun _ H' => Q .non H', rt := Q } (start ["self", "bound", "is_more", "least", "greatest", "found"] vs) H := by
  obtain ⟨x, b, m, O, G, mu, rfl, TC, hh, hpl, hph, k⟩ := h
  show t_ThresholdObserver_narrowed K A _ [some (.ref x), some (.int b), some (.bl m), none, none, none] H
  unfold t_ThresholdObserver_narrowed
  unfold ObD.ho obsF at hh k
  obtain ⟨w, wt, pl, ph, l, dx, ch, g, t, d, on, lo, hi, no⟩ := O
  dsimp only at hh hpl hph k
  cases on <;> cases m
  · walk_at "w"
    rename_i p1 G1 H1 ex1 tp1 hh1 p2 G2 H2 ex2 tp2 hh2
    exact k p2 p1 ph G2 H2 (ex1.trans ex2) tp2 (tp1.up ex2) (hph.up (ex1.trans ex2)) hh2
  · walk_at "w"
    rename_i p1 G1 H1 ex1 tp1 hh1 p2 G2 H2 ex2 tp2 hh2
    exact k p2 p1 ph G2 H2 (ex1.trans ex2) tp2 (tp1.up ex2) (hph.up (ex1.trans ex2)) hh2
  · walk_at "w"
    rename_i p1 G1 H1 ex1 tp1 hh1 p2 G2 H2 ex2 tp2 hh2
    exact k p2 pl p1 G2 H2 (ex1.trans ex2) tp2 (hpl.up (ex1.trans ex2)) (tp1.up ex2) hh2
  · walk_at "w"
    rename_i p1 G1 H1 ex1 tp1 hh1 p2 G2 H2 ex2 tp2 hh2
    exact k p2 pl p1 G2 H2 (ex1.trans ex2) tp2 (hpl.up (ex1.trans ex2)) (tp1.up ex2) hh2
theorem pure_ThresholdObserver_keepX (vs : List V) (H : Hp) (Q : VK) (E : XK) (h : sp_ThresholdObserver_keepX K A vs H Q E) : t_ThresholdObserver_keepX K A E { nx := fun _ H' => Q .non H', rt := Q } (start ["self", "ranges", "low", "low_end", "high", "high_end"] vs) H := by
  obtain ⟨x, r, q1, q2, O, n, G, mu, rfl, TC, hh, hr, h1, h2, k1, k2⟩ := h
  show t_ThresholdObserver_keepX K A E _ [some (.ref x), some (.ref r), none, none, none, none] H
  unfold t_ThresholdObserver_keepX
  walk_at "w"
  have bad : ¬ okR n → E (.ref A.cContradiction) none H := fun z => k2 z H hh
  by_cases c1 : n.1.2 < n.1.1
  · rw [if_pos (decide_eq_true c1), if_pos rfl]
    exact r_rzs (bad fun z => absurd z.1 (by omega))
  rw [if_neg (fun z => c1 (of_decide_eq_true z))]
  walk_at "w"
  by_cases c2 : n.2.2 < n.2.1
  · rw [if_pos (decide_eq_true c2), if_pos rfl]
    exact r_rzs (bad fun z => absurd z.2.1 (by omega))
  rw [if_neg (fun z => c2 (of_decide_eq_true z))]
  walk_at "w"
  by_cases c3 : n.2.2 < n.1.1
  · rw [if_pos (decide_eq_true c3)]
    exact r_rzs (bad fun z => absurd z.2.2 (by omega))
  rw [if_neg (fun z => c3 (of_decide_eq_true z))]
  have good : okR n := ⟨by omega, by omega, by omega⟩
  unfold ObD.ho obsF at hh
  walk_at "w"
  exact k1 good _ (by assumption)
end
end Wm
end

section
local macro_rules | `(tactic| walk_at "cls") => `(tactic| first | (with_reducible exact Wm.WeatherC.cl (by assumption)) | (with_reducible exact Wm.HeaterC.cl (by assumption)) | (with_reducible exact Wm.RoomC.cl (by assumption)) | (with_reducible exact Wm.RunC.cl (by assumption)) | (with_reducible exact Wm.HistoryC.cl (by assumption)) | (with_reducible exact Wm.ThresholdObserverC.cl (by assumption)) | (with_reducible exact Wm.SettingC.cl (by assumption)) | (with_reducible exact Wm.HourSettingC.cl (by assumption)) | (with_reducible exact Wm.RestSettingC.cl (by assumption)) | (with_reducible exact Wm.PricesC.cl (by assumption)) | (with_reducible exact Wm.MomentC.cl (by assumption)) | (with_reducible exact Wm.LiveRoomC.cl (by assumption)) | (with_reducible exact Wm.AttemptC.cl (by assumption)))
local macro_rules | `(tactic| walk_at "noattr") => `(tactic| first | (with_reducible exact Wm.WeatherC.n_pattern (by assumption)) | (with_reducible exact Wm.HeaterC.n_power (by assumption)) | (with_reducible exact Wm.HeaterC.n_below (by assumption)) | (with_reducible exact Wm.HeaterC.n_above (by assumption)) | (with_reducible exact Wm.RoomC.n_outside (by assumption)) | (with_reducible exact Wm.RoomC.n_inside (by assumption)) | (with_reducible exact Wm.RoomC.n_begin_degrees (by assumption)) | (with_reducible exact Wm.RoomC.n_past (by assumption)) | (with_reducible exact Wm.RoomC.n_repeated (by assumption)) | (with_reducible exact Wm.RoomC.n_share (by assumption)) | (with_reducible exact Wm.RoomC.n_coldest (by assumption)) | (with_reducible exact Wm.RoomC.n_warmest (by assumption)) | (with_reducible exact Wm.RunC.n_begin (by assumption)) | (with_reducible exact Wm.RunC.n_end (by assumption)) | (with_reducible exact Wm.RunC.n_degrees (by assumption)) | (with_reducible exact Wm.RunC.n_is_heating (by assumption)) | (with_reducible exact Wm.RunC.n_sums (by assumption)) | (with_reducible exact Wm.RunC.n_size (by assumption)) | (with_reducible exact Wm.RunC.n_drift (by assumption)) | (with_reducible exact Wm.HistoryC.n_shifts (by assumption)) | (with_reducible exact Wm.HistoryC.n_added (by assumption)) | (with_reducible exact Wm.HistoryC.n_floor (by assumption)) | (with_reducible exact Wm.HistoryC.n_ceiling (by assumption)) | (with_reducible exact Wm.HistoryC.n_was_heating (by assumption)) | (with_reducible exact Wm.HistoryC.n_runs (by assumption)) | (with_reducible exact Wm.HistoryC.n_loop (by assumption)) | (with_reducible exact Wm.ThresholdObserverC.n_outside (by assumption)) | (with_reducible exact Wm.ThresholdObserverC.n_power (by assumption)) | (with_reducible exact Wm.ThresholdObserverC.n_tick (by assumption)) | (with_reducible exact Wm.ThresholdObserverC.n_degrees (by assumption)) | (with_reducible exact Wm.ThresholdObserverC.n_is_heating (by assumption)) | (with_reducible exact Wm.ThresholdObserverC.n_lows (by assumption)) | (with_reducible exact Wm.ThresholdObserverC.n_highs (by assumption)) | (with_reducible exact Wm.ThresholdObserverC.n_noted (by assumption)) | (with_reducible exact Wm.SettingC.n_least (by assumption)) | (with_reducible exact Wm.SettingC.n_most (by assumption)) | (with_reducible exact Wm.HourSettingC.n_least (by assumption)) | (with_reducible exact Wm.HourSettingC.n_most (by assumption)) | (with_reducible exact Wm.HourSettingC.n_length (by assumption)) | (with_reducible exact Wm.HourSettingC.n_hours (by assumption)) | (with_reducible exact Wm.RestSettingC.n_least (by assumption)) | (with_reducible exact Wm.RestSettingC.n_most (by assumption)) | (with_reducible exact Wm.RestSettingC.n_rest (by assumption)) | (with_reducible exact Wm.PricesC.n_table (by assumption)) | (with_reducible exact Wm.MomentC.n_tick (by assumption)) | (with_reducible exact Wm.MomentC.n_heat (by assumption)) | (with_reducible exact Wm.MomentC.n_on (by assumption)) | (with_reducible exact Wm.MomentC.n_burnt (by assumption)) | (with_reducible exact Wm.MomentC.n_sky (by assumption)) | (with_reducible exact Wm.MomentC.n_stove (by assumption)) | (with_reducible exact Wm.LiveRoomC.n_moment (by assumption)) | (with_reducible exact Wm.LiveRoomC.n_earlier (by assumption)) | (with_reducible exact Wm.LiveRoomC.n_done (by assumption)) | (with_reducible exact Wm.AttemptC.n_live (by assumption)) | (with_reducible exact Wm.AttemptC.n_kept (by assumption)) | (with_reducible exact Wm.AttemptC.n_stack (by assumption)) | (with_reducible exact Wm.AttemptC.n_steps (by assumption)))
local macro_rules | `(tactic| walk_at "at") => `(tactic| first | assumption | exact Wm.Hold.rd (by assumption) (by assumption) | exact Wm.Hold.get (i := 0) (by assumption) rfl | exact Wm.Hold.get (i := 1) (by assumption) rfl | exact Wm.Hold.get (i := 2) (by assumption) rfl | exact Wm.Hold.get (i := 3) (by assumption) rfl | exact Wm.Hold.get (i := 4) (by assumption) rfl)
local macro_rules | `(tactic| walk_at "s1") => `(tactic| first
  | (with_reducible refine Wm.r_seq ?_)
  | (with_reducible refine Wm.r_op ?_)
  | ((with_reducible refine' Wm.r_var ?h ?_); (case h => rfl))
  | (with_reducible refine Wm.r_c ?_)
  | (with_reducible refine Wm.r_I0 ?_)
  | (with_reducible refine Wm.r_cons ?_)
  | (with_reducible refine Wm.r_nil ?_)
  | (with_reducible refine Wm.r_asg ?_)
  | (with_reducible refine Wm.r_gname ?_; try simp only [List.set_cons_zero, List.set_cons_succ])
  | (with_reducible refine Wm.r_nx ?_)
  | (with_reducible refine Wm.r_rt ?_)
  | (with_reducible refine Wm.r_ret ?_)
  | (with_reducible refine Wm.r_test ?_)
  | (with_reducible refine Wm.r_bl ?_)
  | (with_reducible refine Wm.r_B ?_)
  | (with_reducible refine Wm.r_eqI ?_)
  | (with_reducible refine Wm.r_neI ?_)
  | (with_reducible refine Wm.r_eqB ?_)
  | (with_reducible refine Wm.r_neB ?_)
  | (with_reducible refine Wm.r_fld ?_)
  | (with_reducible refine Wm.r_call ?_)
  | (with_reducible refine Wm.r_mtd ?_)
  | (with_reducible refine Wm.r_prp ?_)
  | (with_reducible refine Wm.r_mak ?_)
  | (with_reducible refine Wm.r_makKw ?_)
  | (with_reducible refine Wm.r_cb ?_)
  | (with_reducible refine Wm.r_tup ?_)
  | (with_reducible refine Wm.r_lst ?_)
  | (with_reducible refine Wm.r_chain ?_)
  | (with_reducible refine Wm.r_and ?_)
  | (with_reducible refine Wm.r_or ?_)
  | (with_reducible refine Wm.r_not ?_)
  | (with_reducible refine Wm.r_andV ?_)
  | (with_reducible refine Wm.r_orV ?_)
  | (with_reducible refine Wm.r_notV ?_)
  | (with_reducible refine Wm.r_if ?_)
  | (with_reducible refine Wm.r_un ?_)
  | (with_reducible refine Wm.r_U ?_)
  | (with_reducible refine Wm.r_iteT ?_)
  | (with_reducible refine Wm.r_iteF ?_)
  | (with_reducible refine Wm.r_next ?_)
  | (with_reducible refine Wm.r_drop ?_)
  | (with_reducible refine Wm.r_retN ?_)
  | ((with_reducible refine' Wm.r_aug ?h ?_); (case h => rfl))
  | (with_reducible refine Wm.r_ipI ?_)
  | (with_reducible refine Wm.r_par2 ?_)
  | (with_reducible refine Wm.r_two ?_; try simp only [List.set_cons_zero, List.set_cons_succ])
  | (with_reducible refine Wm.r_yes ?_)
  | (with_reducible refine Wm.r_forET ?_)
  | (with_reducible refine Wm.r_chain3 ?_)
  | (with_reducible refine Wm.r_nT ?_)
  | (with_reducible refine Wm.r_nF ?_)
  | (with_reducible refine Wm.r_par3 ?_)
  | (with_reducible refine Wm.r_seenPut ?_)
  | (with_reducible refine Wm.r_seenGet ?_)
  | (with_reducible refine Wm.r_three ?_; try simp only [List.set_cons_zero, List.set_cons_succ])
  | (with_reducible refine Wm.r_sl ?_)
  | (with_reducible refine Wm.r_nopart ?_)
  | (with_reducible refine Wm.r_part ?_)
  | (with_reducible refine Wm.r_xi ?_)
  | (with_reducible refine Wm.r_gcons ?_)
  | (with_reducible refine Wm.r_gnil ?_)
  | (with_reducible refine Wm.r_sub ?_)
  | (with_reducible refine Wm.r_setF ?_)
  | (with_reducible refine Wm.r_app ?_)
  | (with_reducible refine Wm.int_i ?_)
  | (with_reducible refine Wm.int_b ?_)
  | (with_reducible refine Wm.min2 ?_)
  | (with_reducible refine Wm.max2 ?_)
  | (with_reducible refine Wm.abs1 ?_)
  | (with_reducible refine Wm.isN ?_)
  | (with_reducible refine Wm.notN ?_)
  | ((with_reducible refine' Wm.r_ty ?e ?_); (case e => walk_at "at"))
  | ((with_reducible refine' Wm.setF_m ?h 0 ?e ?c ?a ?l ?_); (case h => assumption); (case e => rfl); (case c => walk_at "cls"); (case a => walk_at "noattr"); (case l => exact of_decide_eq_true rfl); intro H1 hh1; simp only [List.set_cons_zero, List.set_cons_succ] at hh1)
  | ((with_reducible refine' Wm.setF_m ?h 1 ?e ?c ?a ?l ?_); (case h => assumption); (case e => rfl); (case c => walk_at "cls"); (case a => walk_at "noattr"); (case l => exact of_decide_eq_true rfl); intro H1 hh1; simp only [List.set_cons_zero, List.set_cons_succ] at hh1)
  | ((with_reducible refine' Wm.setF_m ?h 2 ?e ?c ?a ?l ?_); (case h => assumption); (case e => rfl); (case c => walk_at "cls"); (case a => walk_at "noattr"); (case l => exact of_decide_eq_true rfl); intro H1 hh1; simp only [List.set_cons_zero, List.set_cons_succ] at hh1)
  | ((with_reducible refine' Wm.setF_m ?h 3 ?e ?c ?a ?l ?_); (case h => assumption); (case e => rfl); (case c => walk_at "cls"); (case a => walk_at "noattr"); (case l => exact of_decide_eq_true rfl); intro H1 hh1; simp only [List.set_cons_zero, List.set_cons_succ] at hh1)
  | (with_reducible refine Wm.r_forL ?_)
  | (with_reducible refine Wm.r_forT ?_)
  | (with_reducible refine Wm.r_forR1 ?_)
  | (with_reducible refine Wm.r_forR2 ?_)
  | (with_reducible refine Wm.r_forR3 ?_)
  | (with_reducible refine Wm.r_lcL ?_)
  | (with_reducible refine Wm.r_lcE ?_)
  | (with_reducible refine Wm.r_gfld ?_)
  | (with_reducible refine Wm.r_lcT ?_)
  | (with_reducible refine Wm.r_lcR1 ?_)
  | (with_reducible refine Wm.r_lcR2 ?_)
  | ((with_reducible refine' Wm.fld_h ?e ?c ?n ?l ?_); (case e => walk_at "at"); (case c => walk_at "cls"); (case n => walk_at "noattr"); (case l => rfl))
  | ((with_reducible refine' Wm.mtd_h ?e ?l ?_); (case e => walk_at "at"); (case l => rfl))
  | ((with_reducible refine' Wm.prp_h ?e ?_); (case e => walk_at "at"))
  | ((with_reducible refine' Wm.rix_ht ?a ?b ?_); (case a => walk_at "at"); (case b => rfl))
  | ((with_reducible refine' Wm.rix_h ?a ?b ?_); (case a => walk_at "at"); (case b => rfl))
  | ((with_reducible refine' Wm.len_ht ?a ?_); (case a => walk_at "at"))
  | ((with_reducible refine' Wm.len_h ?a ?_); (case a => walk_at "at"))
  | ((with_reducible refine' Wm.len_l ?a ?b ?_); (case a => assumption); (case b => assumption))
  | ((with_reducible refine' Wm.len_t ?a ?b ?_); (case a => assumption); (case b => assumption))
  | ((with_reducible refine' Wm.gtup_h ?a ?b ?_); (case a => walk_at "at"); (case b => rfl))
  | (with_reducible refine Wm.r_I (Wm.cmulR (by decide)) ?_)
  | (with_reducible refine Wm.r_I (Wm.cmulL (by decide)) ?_)
  | (with_reducible refine Wm.r_I (Wm.cdiv (by decide) (by decide)) ?_)
  | (with_reducible refine Wm.r_I Wm.cpow18 ?_)
  | (with_reducible refine Wm.r_I Wm.cpow12 ?_)
  | (with_reducible refine Wm.r_I (by show (0 : Int) < _; decide) ?_))
local macro_rules | `(tactic| walk_at "s") => `(tactic| repeat (first | walk_at "s1" | (with_reducible refine Wm.r_ifS ?_)))
local macro_rules | `(tactic| walk_at "t") => `(tactic| repeat (walk_at "s1"))
local macro_rules | `(tactic| walk_at "sz") => `(tactic| exact of_decide_eq_true rfl)
local macro_rules | `(tactic| walk_at "d") => `(tactic| first | (with_reducible refine Wm.r_dT (by omega) ?_) | (with_reducible refine Wm.r_dF (by omega) ?_) | (with_reducible refine Wm.r_dN (by omega) ?_) | (with_reducible refine Wm.r_dM (by omega) ?_))
local macro_rules | `(tactic| walk_at "sd") => `(tactic| repeat (first | walk_at "s1" | (with_reducible refine Wm.r_ifS ?_) | walk_at "d"))
local macro_rules | `(tactic| walk_at "ex") => `(tactic| first
  | assumption
  | exact Wm.Ex.refl _
  | (refine Wm.Ex.trans ?_ (by assumption); walk_at "ex")
  | (refine Wm.Ex.trans ?_ (Wm.Hold.ex (by assumption)); walk_at "ex"))
local macro_rules | `(tactic| walk_at "room") => `(tactic| first
  | assumption
  | (refine' Wm.IsRoom.up ?e ?h; (case h => assumption); (case e => walk_at "ex")))
local macro_rules | `(tactic| walk_at "opt") => `(tactic| first
  | assumption
  | (refine' Wm.OptAt.up ?e ?h; (case h => assumption); (case e => walk_at "ex")))
local macro_rules | `(tactic| walk_at "lst") => `(tactic| first
  | assumption
  | (refine' Wm.Lst.at_ ?h ?e; (case h => assumption); (case e => walk_at "ex"))
  | exact Wm.Hold.get (i := 0) (by assumption) rfl | exact Wm.Hold.get (i := 1) (by assumption) rfl | exact Wm.Hold.get (i := 2) (by assumption) rfl | exact Wm.Hold.get (i := 3) (by assumption) rfl | exact Wm.Hold.get (i := 4) (by assumption) rfl)
local macro_rules | `(tactic| walk_at "tup") => `(tactic| first
  | assumption
  | (refine' Wm.Tup.at_ ?h ?e; (case h => assumption); (case e => walk_at "ex")))
local macro_rules | `(tactic| walk_at "p1") => `(tactic| first
  | (with_reducible refine Wm.r_p18 ?_) | (with_reducible refine Wm.r_p12 ?_) | (with_reducible refine Wm.r_p17 ?_) | (with_reducible refine Wm.r_p15 ?_) | (with_reducible refine Wm.r_p11 ?_) | (with_reducible refine Wm.r_p6 ?_) | (with_reducible refine Wm.r_p5 ?_) | (with_reducible refine Wm.r_p4 ?_) | (with_reducible refine Wm.r_p9 ?_) | (with_reducible refine Wm.r_p13 ?_) | (with_reducible refine Wm.r_p20 ?_) | (with_reducible refine Wm.r_p30 ?_) | (with_reducible refine Wm.r_p16 ?_))
local macro_rules | `(tactic| walk_at "w2") => `(tactic| first
  | ((with_reducible refine' Wm.r_wp ?h ?_); (case h => rfl))
  | ((with_reducible refine' Wm.ap_mtd ?ir ?hl ?_); (case ir => walk_at "room"); (case hl => intros; rfl))
  | ((with_reducible refine' Wm.ap_prp ?ir ?_); (case ir => walk_at "room"))
  | ((with_reducible refine' Wm.ap_temp ?hh ?ir ?t0 ?t1 ?_); (case hh => assumption); (case ir => walk_at "room"); (case t0 => omega); (case t1 => omega); intro H1 hh1)
  | ((with_reducible refine' Wm.ap_on ?hh ?ir ?t0 ?t1 ?_); (case hh => assumption); (case ir => walk_at "room"); (case t0 => omega); (case t1 => omega); intro H1 hh1)
  | ((with_reducible refine' Wm.ap_heats ?hh ?ir ?t0 ?t1 ?_); (case hh => assumption); (case ir => walk_at "room"); (case t0 => omega); (case t1 => omega); intro H1 hh1)
  | ((with_reducible refine' Wm.ap_sws ?hh ?ir ?t0 ?t1 ?_); (case hh => assumption); (case ir => walk_at "room"); (case t0 => omega); (case t1 => omega); intro H1 hh1)
  | ((with_reducible refine' Wm.rix_ht ?a ?b ?_); (case a => walk_at "tup"); (case b => rfl))
  | ((with_reducible refine' Wm.rix_h ?a ?b ?_); (case a => walk_at "lst"); (case b => rfl))
  | ((with_reducible refine' Wm.len_ht ?a ?_); (case a => walk_at "tup"))
  | ((with_reducible refine' Wm.len_h ?a ?_); (case a => walk_at "lst"))
  | ((with_reducible refine' Wm.gtup_h ?a ?b ?_); (case a => walk_at "tup"); (case b => rfl))
  | ((with_reducible refine' Wm.r_I (Wm.cmulL ?h) ?_); (case h => omega))
  | ((with_reducible refine' Wm.r_I (Wm.cmulR ?h) ?_); (case h => omega))
  | ((with_reducible refine' Wm.r_I (Wm.cdiv ?h ?h2) ?_); (case h => omega); (case h2 => omega))
  | ((with_reducible refine' Wm.r_mod ?h ?_); (case h => omega))
  | ((with_reducible refine' Wm.tup_N ?hP ?hh ?_); (case hP => walk_at "sz"); (case hh => assumption); intro p G1 H1 ex1 tp hh1))
local macro_rules | `(tactic| walk_at "w1") => `(tactic| first | walk_at "p1" | walk_at "s1" | walk_at "w2")
local macro_rules | `(tactic| walk_at "w") => `(tactic| repeat (first | walk_at "w1" | (with_reducible refine Wm.r_ifS ?_)))
local macro_rules | `(tactic| walk_at "wl") => `(tactic| ((with_reducible refine' Wm.lst_N ?hP ?hh ?_); (case hP => walk_at "sz"); (case hh => assumption); intro p G1 H1 ex1 tp hh1))
local macro_rules | `(tactic| walk_at "wd") => `(tactic| repeat (first | walk_at "w1" | (with_reducible refine Wm.r_ifS ?_) | walk_at "d" | walk_at "wl"))
local macro_rules | `(tactic| walk_at "v") => `(tactic| repeat (walk_at "w1"))
namespace Wm
open PySem PySem.Spec PyProof.Rows L2 StX
open LamX
/-- what a rest up to last makes of the ranges: e the run's extreme -/
def restN (O : ObD) (e : Int) : (Int × Int) × (Int × Int) := nar O.on O.lo O.hi e O.on
/-- after a rest -/
def ObD.rest (O : ObD) (tick e : Int) (q1 q2 l : Addr) : ObD := { O with pl := q1, ph := q2, l := l, lo := (restN O e).1, hi := (restN O e).2, t := tick + 1, d := O.run.at_ (tick + 1), no := O.no ++ [(("rest" : Str), tick)] }
def sp_ThresholdObserver_see_restX (K : PySem.W.Frag) (A : Ads) : Sp := fun vs H Q E => ∃ (x : Addr) (tick : Int) (O : ObD) (G : Hp) (mu : Mu), vs = [.ref x, .int tick] ∧ ObOk K A G O ∧ Hold G ((x, O.ho A) :: mu) H ∧ O.t ≤ tick ∧ tick ≤ 10 ^ 18 ∧ O.no.length < 1000 ∧
  ∀ e u, XT O.run (some tick) (sgn O.on) O.run.steps.length e u →
    (okR (restN O e) → ∀ q1 q2 l q G' H', Ex G G' → ObOk K A G' (O.rest tick e q1 q2 l) → Hold G' ((x, (O.rest tick e q1 q2 l).ho A) :: mu) H' → Tup G' q (sizesV (O.rest tick e q1 q2 l)) → Q (.ref q) H') ∧
    (¬ okR (restN O e) → ∀ G' H', Ex G G' → Hold G' ((x, O.ho A) :: mu) H' → E (.ref A.cContradiction) none H')
/-- the ranges behind the rest ahead of a switching; e the run's extreme up to the tick before it -/
def swN1 (O : ObD) (tick e : Int) : (Int × Int) × (Int × Int) := if tick - 1 < O.t then (O.lo, O.hi) else restN O e
def swN2 (O : ObD) (n : (Int × Int) × (Int × Int)) (tick : Int) : (Int × Int) × (Int × Int) := nar O.on n.1 n.2 (if O.on = true then O.run.at_ tick - 1 else O.run.at_ tick + 1) (!O.on)
def swOk (O : ObD) (tick e : Int) : Prop := (O.t ≤ tick - 1 → okR (restN O e)) ∧ okR (swN2 O (swN1 O tick e) tick)
def ObD.sw (O : ObD) (tick e : Int) (q1 q2 l : Addr) : ObD := { O with pl := q1, ph := q2, l := l, lo := (swN2 O (swN1 O tick e) tick).1, hi := (swN2 O (swN1 O tick e) tick).2, on := !O.on, t := tick + 1, d := (obRun O.ch O.g tick (O.run.at_ tick) (!O.on)).at_ (tick + 1), no := O.no ++ [(("switching" : Str), tick)] }
def sp_ThresholdObserver_see_switchingX (K : PySem.W.Frag) (A : Ads) : Sp := fun vs H Q E => ∃ (x : Addr) (tick : Int) (O : ObD) (G : Hp) (mu : Mu), vs = [.ref x, .int tick] ∧ ObOk K A G O ∧ Hold G ((x, O.ho A) :: mu) H ∧ ((tick < O.t ∧ E (.ref A.cInvalidNumber) none H) ∨ (O.t ≤ tick ∧ tick ≤ 10 ^ 18 ∧ O.no.length < 1000 ∧
  PySem.W.exmOne K (.ref A.cContradiction) (.ref A.cContradiction) = some true ∧
  ∀ e, (O.t ≤ tick - 1 → ∃ u, XT O.run (some (tick - 1)) (sgn O.on) O.run.steps.length e u) →
    (swOk O tick e → ∀ q1 q2 l q G' H', Ex G G' → ObOk K A G' (O.sw tick e q1 q2 l) → Hold G' ((x, (O.sw tick e q1 q2 l).ho A) :: mu) H' → Tup G' q (sizesV (O.sw tick e q1 q2 l)) → Q (.ref q) H') ∧
    (¬ swOk O tick e → ∀ G' H', Ex G G' → Hold G' ((x, O.ho A) :: mu) H' → E (.ref A.cContradiction) none H')))
def t_ThresholdObserver_rest_untilX (K : PySem.W.Frag) (A : Ads) (E : XK) : TS := tIfS (tTest (tOp (rI0 fun i j => .bl (decide (j ≤ i))) (tVar 2) (tFld K (tVar 1) "begin"))) (tSeq (tAsg (tIf (tB (tFld K (tVar 0) "is_heating")) (tC (.int 1)) (tUn (rU fun i => .int (-i)) (tC (.int 1)))) (gName 3)) (tDrop (tMtd A.cThresholdObserver "keep" (sp_ThresholdObserver_keepX K A) E (tVar 0) (tCons (tMtd A.cThresholdObserver "narrowed" (sp_ThresholdObserver_narrowed K A) E0 (tVar 0) (tCons (tOp (rIx K) (tMtd A.cRun "extreme" (sp_Run_extreme K A) E0 (tVar 1) (tCons (tVar 2) (tCons (tVar 3) (tNil)))) (tC (.int 0))) (tCons (tFld K (tVar 0) "is_heating") (tNil)))) (tNil))))) (tNext)
def t_ThresholdObserver_see_restX (K : PySem.W.Frag) (A : Ads) (E : XK) : TS := tSeq (tDrop (tCal (sp_validate_numberX K A) E (tCons (tVar 1) (tCons (tFld K (tVar 0) "tick") (tCons (tC (.int 1000000000000000000)) (tNil)))))) (tSeq (tAsg (tMtd A.cThresholdObserver "run_on" (sp_ThresholdObserver_run_on K A) E0 (tVar 0) (tCons (tFld K (tVar 0) "tick") (tCons (tFld K (tVar 0) "degrees") (tCons (tFld K (tVar 0) "is_heating") (tNil))))) (gName 2)) (tSeq (tDrop (tMtd A.cThresholdObserver "rest_until" (sp_ThresholdObserver_rest_untilX K A) E (tVar 0) (tCons (tVar 2) (tCons (tVar 1) (tNil))))) (tSeq (tAsg (tTup (tCons (tOp (rI0 fun i j => .int (i + j)) (tVar 1) (tC (.int 1))) (tCons (tMtd A.cRun "at" (sp_Run_at K A) E0 (tVar 2) (tCons (tOp (rI0 fun i j => .int (i + j)) (tVar 1) (tC (.int 1))) (tNil))) (tNil)))) (gTup K 2 (gCons (gFld K (tVar 0) "tick") (gCons (gFld K (tVar 0) "degrees") (gNil))))) (tSeq (sFld K (tVar 0) (tOp rCat (tFld K (tVar 0) "noted") (tLst (tCons (tTup (tCons (tC (.str "rest")) (tCons (tVar 1) (tNil)))) (tNil)))) "noted") (tRet (tMtd A.cThresholdObserver "sizes" (sp_ThresholdObserver_sizes K A) E0 (tVar 0) tNil))))))
def t_ThresholdObserver_see_switchingX (K : PySem.W.Frag) (A : Ads) (E : XK) : TS := tSeq (tDrop (tCal (sp_validate_numberX K A) E (tCons (tVar 1) (tCons (tFld K (tVar 0) "tick") (tCons (tC (.int 1000000000000000000)) (tNil)))))) (tSeq (tPar 2 3 (tCons (tMtd A.cThresholdObserver "run_on" (sp_ThresholdObserver_run_on K A) E0 (tVar 0) (tCons (tFld K (tVar 0) "tick") (tCons (tFld K (tVar 0) "degrees") (tCons (tFld K (tVar 0) "is_heating") (tNil))))) (tCons (tTup (tCons (tFld K (tVar 0) "lows") (tCons (tFld K (tVar 0) "highs") (tNil)))) (tNil)))) (tSeq (tTryRe (fun W => tSeq (tDrop (tMtdS A.cThresholdObserver "rest_until" (sp_ThresholdObserver_rest_untilX K A) (WE W) (tVar 0) (tCons (tVar 2) (tCons (tOp (rI0 fun i j => .int (i - j)) (tVar 1) (tC (.int 1))) (tNil))))) (tSeq (tAsg (tMtd A.cRun "at" (sp_Run_at K A) E0 (tVar 2) (tCons (tVar 1) (tNil))) (gName 4)) (tDrop (tMtdS A.cThresholdObserver "keep" (sp_ThresholdObserver_keepX K A) (WE W) (tVar 0) (tCons (tMtd A.cThresholdObserver "narrowed" (sp_ThresholdObserver_narrowed K A) E0 (tVar 0) (tCons (tIf (tB (tFld K (tVar 0) "is_heating")) (tOp (rI0 fun i j => .int (i - j)) (tVar 4) (tC (.int 1))) (tOp (rI0 fun i j => .int (i + j)) (tVar 4) (tC (.int 1)))) (tCons (tNotV (tFld K (tVar 0) "is_heating")) (tNil)))) (tNil)))))) (wRe K (.ref A.cContradiction) (tAsg (tVar 3) (gTup K 2 (gCons (gFld K (tVar 0) "lows") (gCons (gFld K (tVar 0) "highs") (gNil))))) (fun cls d _ H => E cls d H))) (tSeq (sFld K (tVar 0) (tNotV (tFld K (tVar 0) "is_heating")) "is_heating") (tSeq (tAsg (tTup (tCons (tOp (rI0 fun i j => .int (i + j)) (tVar 1) (tC (.int 1))) (tCons (tMtd A.cRun "at" (sp_Run_at K A) E0 (tMtd A.cThresholdObserver "run_on" (sp_ThresholdObserver_run_on K A) E0 (tVar 0) (tCons (tVar 1) (tCons (tVar 4) (tCons (tFld K (tVar 0) "is_heating") (tNil))))) (tCons (tOp (rI0 fun i j => .int (i + j)) (tVar 1) (tC (.int 1))) (tNil))) (tNil)))) (gTup K 2 (gCons (gFld K (tVar 0) "tick") (gCons (gFld K (tVar 0) "degrees") (gNil))))) (tSeq (sFld K (tVar 0) (tOp rCat (tFld K (tVar 0) "noted") (tLst (tCons (tTup (tCons (tC (.str "switching")) (tCons (tVar 1) (tNil)))) (tNil)))) "noted") (tRet (tMtd A.cThresholdObserver "sizes" (sp_ThresholdObserver_sizes K A) E0 (tVar 0) tNil)))))))
theorem r_mtdS {C : Addr} {m : Str} {sp : Sp} {E : L2.St → XK} {ta : TE} {t : TA} {σ : L2.St} {H : Hp} {Q : VK} (k : ta σ H fun x H1 => rMtd C m sp (E σ) t σ x H1 Q) : tMtdS C m sp E ta t σ H Q := k
section
variable {K : PySem.W.Frag} {A : Ads}
theorem pure_ThresholdObserver_rest_untilX (vs : List V) (H : Hp) (Q : VK) (E : XK) (h : sp_ThresholdObserver_rest_untilX K A vs H Q E) : t_ThresholdObserver_rest_untilX K A E { nx := fun _ H' => Q .non H', rt := Q } (start ["self", "run", "last", "sign"] vs) H := by
  obtain ⟨x, q, last, O, r, G, mu, rfl, ok, ir, hh, k1, k2⟩ := h
  have TC := ok.cl
  obtain ⟨RC, rok, dxr, sr, hr1, hr2⟩ := id ir
  show t_ThresholdObserver_rest_untilX K A E _ [some (.ref x), some (.ref q), some (.int last), none] H
  unfold t_ThresholdObserver_rest_untilX
  have hr1' := hh.ex _ _ hr1
  unfold runF at hr1'
  by_cases c : r.beg ≤ last
  · have k2 := k2 c
    have go : ∀ (b : Bool) (e u : Int) (H' : Hp), b = O.on → XT r (some last) (sgn O.on) r.steps.length e u → Hold G ((x, O.ho A) :: mu) H' →
        (sp_ThresholdObserver_narrowed K A) [.ref x, .int e, .bl b] H' (fun v H2 => (sp_ThresholdObserver_keepX K A) [.ref x, v] H2 (fun _ H3 => Q .non H3) E) E0 := fun b e u H' hb xt hh' => by
      obtain ⟨y1, y2⟩ := k2 e u xt
      subst hb
      refine ⟨x, e, O.on, O, G, mu, rfl, TC, hh', ok.pl, ok.ph, fun r' q1 q2 G2 H2 ex2 h1 h2 h3 hh2 => ?_⟩
      refine ⟨x, r', q1, q2, O, _, G2, mu, rfl, TC, hh2, h1, h2, h3, fun good H3 hh3 => ?_, fun bad H3 hh3 => y2 bad G2 H3 ex2 hh3⟩
      have ok2 := ok.up ex2
      exact y1 good q1 q2 G2 H3 ex2 ⟨ok2.cl, ok2.ru, ok2.iw, ok2.g1, ok2.g2, ok2.t0, h2, h3, ok2.no, ok2.le⟩ hh3
    have hh0 := hh
    unfold ObD.ho obsF at hh
    walk_at "w"
    rw [if_pos (decide_eq_true c)]
    obtain ⟨w, wt, pl, ph, l, dx, ch, g, t, d, on, lo, hi, no⟩ := O
    cases on with
    | true =>
      walk_at "w"
      refine ⟨q, some last, 1, r, rfl, ir.up hh.ex, .inl rfl, ⟨Int.le_refl _, fun l' e' => Option.some.inj e' ▸ c⟩, fun z => (by cases z), fun _ e u q' H' xt ex hq hq' => ?_⟩
      have hhN := hh0.grow ex
      have hhM := hhN
      unfold ObD.ho obsF at hhM
      walk_at "w"
      have z := go true e u H' rfl xt hhN
      exact z
    | false =>
      walk_at "w"
      refine ⟨q, some last, -1, r, rfl, ir.up hh.ex, .inr rfl, ⟨Int.le_refl _, fun l' e' => Option.some.inj e' ▸ c⟩, fun z => (by cases z), fun _ e u q' H' xt ex hq hq' => ?_⟩
      have hhN := hh0.grow ex
      have hhM := hhN
      unfold ObD.ho obsF at hhM
      walk_at "w"
      have z := go false e u H' rfl xt hhN
      exact z
  · unfold ObD.ho obsF at hh
    walk_at "w"
    rw [if_neg (fun z => c (of_decide_eq_true z))]
    walk_at "w"
    exact k1 (by omega) H hh
theorem notes_app {G G' : Hp} {l p : Addr} {ps : List Addr} {no : List (Str × Int)} {n : Str × Int} (hl : Lst G' l (ps.map V.ref ++ [V.ref p])) (h2 : ps.length = no.length) (h3 : ∀ (i : Nat) (p : Addr) (n : Str × Int), ps[i]? = some p → no[i]? = some n → Tup G p [.str n.1, .int n.2]) (e : Ex G G') (hp : Tup G' p [.str n.1, .int n.2]) : NotesAt G' l (no ++ [n]) := by
  refine ⟨ps ++ [p], by rw [List.map_append]; exact hl, by rw [List.length_append, List.length_append, h2]; rfl, fun i p' n' a b => ?_⟩
  by_cases hi : i < ps.length
  · rw [List.getElem?_append_left hi] at a
    rw [List.getElem?_append_left (by omega)] at b
    exact (h3 i p' n' a b).up e
  · rw [List.getElem?_append_right (by omega)] at a b
    have : i - ps.length = 0 := by have := (List.getElem?_eq_some_iff.mp a).1; simpa using this
    rw [this] at a
    rw [show i - no.length = 0 by omega] at b
    cases a; cases b
    exact hp
theorem obs_beg (O : ObD) : O.run.beg = O.t := rfl
theorem pure_ThresholdObserver_see_restX (vs : List V) (H : Hp) (Q : VK) (E : XK) (h : sp_ThresholdObserver_see_restX K A vs H Q E) : t_ThresholdObserver_see_restX K A E { nx := fun _ H' => Q .non H', rt := Q } (start ["self", "tick", "run"] vs) H := by
  obtain ⟨x, tick, O, G, mu, rfl, ok, hh, t0, t1, nl, k⟩ := h
  have TC := ok.cl
  show t_ThresholdObserver_see_restX K A E _ [some (.ref x), some (.int tick), none] H
  unfold t_ThresholdObserver_see_restX
  have hh0 := hh
  unfold ObD.ho obsF at hh
  walk_at "w"
  refine .inl ⟨tick, O.t, 1000000000000000000, rfl, t0, by omega, ?_⟩
  walk_at "w"
  refine ⟨x, O.t, O.d, O.on, O, G, mu, rfl, TC, ok.ru, hh0, ok.iw, ok.g1, ok.g2, fun q G1 H1 ex1 ir hh1 => ?_⟩
  have hh1u := hh1
  unfold ObD.ho obsF at hh1u
  walk_at "w"
  refine ⟨x, q, tick, O, O.run, G1, mu, rfl, ok.up ex1, ir, hh1, fun z => absurd z (by rw [obs_beg]; omega), fun _ e u xt => ⟨fun good q1 q2 G2 H2 ex2 ok2 hh2 => ?_, fun bad G2 H2 ex2 hh2 => (k e u xt).2 bad _ H2 (ex1.trans ex2) hh2⟩⟩
  have k := (k e u xt).1 good
  obtain ⟨n1, n2⟩ : ∃ n1 n2, restN O e = (n1, n2) := ⟨_, _, rfl⟩
  have hh2u := hh2
  unfold ObD.ho obsF at hh2u
  dsimp only at hh2u
  obtain ⟨RC, rok, dxr, sr, hr1, hr2⟩ := id (ir.up ex2)
  have hr1' := hh2.ex _ _ hr1
  unfold runF at hr1'
  obtain ⟨ps, m1, m2, m3⟩ := id ok2.no
  dsimp only at m1 m2 m3
  walk_at "w"
  refine ⟨q, tick + 1, O.run, rfl, (ir.up ex2).up hh2.ex, ?_⟩
  walk_at "w"
  rename_i p3 G3 H3 ex3 tp3 hh3 H4 hh4 H5 hh5 p6 G6 H6 ex6 tp6 hh6
  walk_at "wl"
  rename_i q7 G7 H7 ex7 hq7 hh7
  refine cat_N (ys := [V.ref p6]) hh7 ((m1.up (ex3.trans (ex6.trans ex7))).at_ hh7.ex) (hq7.at_ hh7.ex) (by rw [List.length_map, m2]; show O.no.length + 1 ≤ 1000000; omega) fun r G8 H8 ex8 hr hh8 => ?_
  walk_at "w"
  rename_i H9 hh9
  have exA : Ex G2 G8 := ex3.trans (ex6.trans (ex7.trans ex8))
  have ok3 := ok2.up exA
  have hO : Hold G8 ((x, (O.rest tick e q1 q2 r).ho A) :: mu) H9 := hh9
  have okO : ObOk K A G8 (O.rest tick e q1 q2 r) := by
    refine ⟨ok3.cl, ok3.ru, ok3.iw, ok3.g1, ok3.g2, by show 0 ≤ tick + 1; have := ok.t0; omega, ok3.pl, ok3.ph, ⟨ps ++ [p6], by rw [List.map_append]; exact hr, ?_, fun i p n a b => ?_⟩, ?_⟩
    · show (ps ++ [p6]).length = (O.no ++ [(("rest" : Str), tick)]).length
      rw [List.length_append, List.length_append, m2]; rfl
    · have b : (O.no ++ [(("rest" : Str), tick)])[i]? = some n := b
      by_cases hi : i < ps.length
      · rw [List.getElem?_append_left hi] at a
        rw [List.getElem?_append_left (by omega)] at b
        exact (m3 i p n a b).up exA
      · rw [List.getElem?_append_right (by omega)] at a b
        have : i - ps.length = 0 := by have := (List.getElem?_eq_some_iff.mp a).1; simpa using this
        rw [this] at a
        rw [show i - O.no.length = 0 by omega] at b
        cases a; cases b
        exact tp6.up (ex7.trans ex8)
    · show (O.no ++ [(("rest" : Str), tick)]).length ≤ 1000
      rw [List.length_append]
      show O.no.length + 1 ≤ 1000
      omega
  refine ⟨x, O.rest tick e q1 q2 r, G8, mu, rfl, okO, hO, fun q' G10 H10 ex10 hq' hh10 => ?_⟩
  walk_at "w"
  exact k q1 q2 r q' G10 H10 (ex1.trans (ex2.trans (exA.trans ex10))) (okO.up ex10) hh10 hq'
theorem obs_restore {G H : Hp} {mu : Mu} {x kt a b : Addr} {lo hi : Int × Int} {O : ObD} {v1 v2 v4 : Option V} {nx bk ct : L2.St → Hp → Prop} {rt : VK} (TC : ThresholdObserverC K A.cThresholdObserver) (hk : Tup G kt [.ref O.pl, .ref O.ph])
    (hh : Hold G ((x, { O with pl := a, ph := b, lo := lo, hi := hi }.ho A) :: mu) H) (k : ∀ H', Hold G ((x, O.ho A) :: mu) H' → nx [some (.ref x), v1, v2, some (.ref kt), v4] H') :
    tAsg (tVar 3) (gTup K 2 (gCons (gFld K (tVar 0) "lows") (gCons (gFld K (tVar 0) "highs") gNil))) ⟨nx, rt, bk, ct⟩ [some (.ref x), v1, v2, some (.ref kt), v4] H := by
  unfold ObD.ho obsF at hh
  dsimp only at hh
  walk_at "w"
  exact k _ (by assumption)
section
variable {G H : Hp} {mu : Mu} {x q : Addr} {O : ObD} {tick : Int} {Q : VK} {E : XK}
theorem sw_rest (ok : ObOk K A G O) (hh : Hold G ((x, O.ho A) :: mu) H) (ir : IsRun K A G q O.run)
    (tail : ∀ (e : Int) (q1 q2 : Addr) (G' H' : Hp), Ex G G' → (O.t ≤ tick - 1 → okR (restN O e)) → (O.t ≤ tick - 1 → ∃ u, XT O.run (some (tick - 1)) (sgn O.on) O.run.steps.length e u) →
      ObOk K A G' { O with pl := q1, ph := q2, lo := (swN1 O tick e).1, hi := (swN1 O tick e).2 } → Hold G' ((x, { O with pl := q1, ph := q2, lo := (swN1 O tick e).1, hi := (swN1 O tick e).2 }.ho A) :: mu) H' → Q .non H')
    (bad : ∀ (e : Int) (G' H' : Hp), Ex G G' → O.t ≤ tick - 1 → ¬ okR (restN O e) → (∃ u, XT O.run (some (tick - 1)) (sgn O.on) O.run.steps.length e u) → Hold G' ((x, O.ho A) :: mu) H' → E (.ref A.cContradiction) none H') :
    sp_ThresholdObserver_rest_untilX K A [.ref x, .ref q, .int (tick - 1)] H Q E := by
  refine ⟨x, q, tick - 1, O, O.run, G, mu, rfl, ok, ir, hh, fun lt H' hh' => ?_, fun ge e u xt => ⟨fun good q1 q2 G' H' ex ok' hh' => ?_, fun nok G' H' ex hh' => bad e G' H' ex ge nok ⟨u, xt⟩ hh'⟩⟩
  · have lt : tick - 1 < O.t := lt
    have e1 : swN1 O tick 0 = (O.lo, O.hi) := if_pos lt
    refine tail 0 O.pl O.ph G H' (Ex.refl _) (fun z => absurd z (by omega)) (fun z => absurd z (by omega)) ?_ ?_
    · rw [e1]; exact ok
    · rw [e1]; exact hh'
  · have ge : O.t ≤ tick - 1 := ge
    have e1 : swN1 O tick e = restN O e := if_neg (by omega)
    refine tail e q1 q2 G' H' ex (fun _ => good) (fun _ => ⟨u, xt⟩) ?_ ?_
    · rw [e1]; exact ok'
    · rw [e1]; exact hh'
theorem sw_keep {b : Int} {m : Bool} {R : VK} (hR : ∀ r H, sp_ThresholdObserver_keepX K A [.ref x, .ref r] H Q E → R (.ref r) H) (ok : ObOk K A G O) (hh : Hold G ((x, O.ho A) :: mu) H)
    (good : ∀ (q1 q2 : Addr) (G' H' : Hp), Ex G G' → okR (nar O.on O.lo O.hi b m) → ObOk K A G' { O with pl := q1, ph := q2, lo := (nar O.on O.lo O.hi b m).1, hi := (nar O.on O.lo O.hi b m).2 } →
      Hold G' ((x, { O with pl := q1, ph := q2, lo := (nar O.on O.lo O.hi b m).1, hi := (nar O.on O.lo O.hi b m).2 }.ho A) :: mu) H' → Q .non H')
    (bad : ∀ (G' H' : Hp), Ex G G' → ¬ okR (nar O.on O.lo O.hi b m) → Hold G' ((x, O.ho A) :: mu) H' → E (.ref A.cContradiction) none H') :
    sp_ThresholdObserver_narrowed K A [.ref x, .int b, .bl m] H R E0 := by
  refine ⟨x, b, m, O, G, mu, rfl, ok.cl, hh, ok.pl, ok.ph, fun r q1 q2 G2 H2 ex2 h1 h2 h3 hh2 => hR r H2 ?_⟩
  have ok2 := ok.up ex2
  exact ⟨x, r, q1, q2, O, _, G2, mu, rfl, ok.cl, hh2, h1, h2, h3, fun g H3 hh3 => good q1 q2 G2 H3 ex2 g ⟨ok2.cl, ok2.ru, ok2.iw, ok2.g1, ok2.g2, ok2.t0, h2, h3, ok2.no, ok2.le⟩ hh3, fun nok H3 hh3 => bad G2 H3 ex2 nok hh3⟩
end
theorem pure_ThresholdObserver_see_switchingX (vs : List V) (H : Hp) (Q : VK) (E : XK) (h : sp_ThresholdObserver_see_switchingX K A vs H Q E) : t_ThresholdObserver_see_switchingX K A E { nx := fun _ H' => Q .non H', rt := Q } (start ["self", "tick", "run", "kept", "degrees"] vs) H := by
  obtain ⟨x, tick, O, G, mu, rfl, ok, hh, h⟩ := h
  have TC := ok.cl
  show t_ThresholdObserver_see_switchingX K A E _ [some (.ref x), some (.int tick), none, none, none] H
  unfold t_ThresholdObserver_see_switchingX
  have hh0 := hh
  unfold ObD.ho obsF at hh
  walk_at "w"
  rcases h with ⟨tl, kE⟩ | ⟨t0, t1, nl, exm, k⟩
  · exact vnR (fun z => absurd z.1 (by omega)) kE
  refine .inl ⟨tick, O.t, 1000000000000000000, rfl, t0, by omega, ?_⟩
  walk_at "w"
  refine ⟨x, O.t, O.d, O.on, O, G, mu, rfl, TC, ok.ru, hh0, ok.iw, ok.g1, ok.g2, fun q G1 H1 ex1 ir hh1 => ?_⟩
  unfold ObD.ho obsF at hh1
  walk_at "w"
  rename_i kt G2 H2 ex2 hk hh2
  have hh2 : Hold G2 ((x, O.ho A) :: mu) H2 := hh2
  have ir2 := ir.up ex2
  refine r_seq (r_drop (r_mtdS (r_var rfl ?_)))
  refine ⟨x, O.dx, _, rfl, hh2.get (i := 0) rfl, rfl, ?_⟩
  walk_at "w"
  have ok1 := ok.up (ex1.trans ex2)
  refine sw_rest ok1 hh2 ir2 (fun e q1 q2 G3 H3 ex3 c1 c2 ok3 hh3 => ?_) (fun e G3 H3 ex3 ge nok c2 hh3 => ⟨true, exm, fun _ => ?_, fun z => by cases z⟩)
  rotate_left
  · refine obs_restore (O := O) (a := O.pl) (b := O.ph) (lo := O.lo) (hi := O.hi) TC (hk.up ex3) hh3 fun H4 hh4 => ?_
    exact (k e fun _ => c2).2 (fun z => nok (z.1 ge)) G3 H4 (ex1.trans (ex2.trans ex3)) hh4
  obtain ⟨k1, k2⟩ := k e c2
  obtain ⟨RC, rok, dxr, sr, hr1, hr2⟩ := id (ir2.up ex3)
  have hr1' := hh3.ex _ _ hr1
  unfold runF at hr1'
  walk_at "w"
  refine ⟨q, tick, O.run, rfl, (ir2.up ex3).up hh3.ex, ?_⟩
  walk_at "w"
  refine r_drop (r_mtdS (r_var rfl ?_))
  refine ⟨x, O.dx, _, rfl, hh3.get (i := 0) rfl, rfl, ?_⟩
  have ok4 := ok3
  have hh4 := hh3
  obtain ⟨w, wt, pl, ph, l, dx, ch, g, t, d, on, lo, hi, no⟩ := O
  unfold ObD.ho obsF at hh3
  cases on with
  | true =>
    walk_at "w"
    refine sw_keep (fun r H h => r_nil h) ok4 hh4 (fun q3 q4 G5 H5 ex5 good ok5 hh5 => ?_) (fun G5 H5 ex5 nok hh5 => ⟨true, exm, fun _ => ?_, fun z => by cases z⟩)
    rotate_left
    · refine obs_restore (O := ⟨w, wt, pl, ph, l, dx, ch, g, t, d, true, lo, hi, no⟩) (a := q1) (b := q2) (lo := (swN1 ⟨w, wt, pl, ph, l, dx, ch, g, t, d, true, lo, hi, no⟩ tick e).1) (hi := (swN1 ⟨w, wt, pl, ph, l, dx, ch, g, t, d, true, lo, hi, no⟩ tick e).2) TC (hk.up (ex3.trans ex5)) hh5 fun H6 hh6 => ?_
      exact k2 (fun z => nok z.2) G5 H6 (ex1.trans (ex2.trans (ex3.trans ex5))) hh6
    have k1 := k1 ⟨c1, good⟩
    have hh5u := hh5
    unfold ObD.ho obsF at hh5u
    dsimp only at hh5u
    walk_at "w"
    rename_i H6 hh6
    have hh6 : Hold G5 ((x, ({ (⟨w, wt, q3, q4, l, dx, ch, g, t, d, !true, lo, hi, no⟩ : ObD) with } : ObD).ho A) :: mu) H6 := hh6
    refine ⟨x, tick, _, !true, ⟨w, wt, q3, q4, l, dx, ch, g, t, d, !true, lo, hi, no⟩, G5, mu, rfl, TC, ok.ru, hh6, ok5.iw, ok.g1, ok.g2, fun qr G7 H7 ex7 ir7 hh7 => ?_⟩
    unfold ObD.ho obsF at hh7
    dsimp only at hh7
    obtain ⟨RC7, rok7, dx7, sr7, hr71, hr72⟩ := id ir7
    have hr71' := hh7.ex _ _ hr71
    unfold runF at hr71'
    obtain ⟨ps, m1, m2, m3⟩ := id ok5.no
    dsimp only at m1 m2 m3
    walk_at "w"
    refine ⟨qr, tick + 1, _, rfl, ir7.up hh7.ex, ?_⟩
    walk_at "w"
    rename_i p8 G8 H8 ex8 tp8 hh8 H9 hh9 H10 hh10 p11 G11 H11 ex11 tp11 hh11
    walk_at "wl"
    rename_i q12 G12 H12 ex12 hq12 hh12
    refine cat_N (ys := [V.ref p11]) hh12 ((m1.up (ex7.trans (ex8.trans (ex11.trans ex12)))).at_ hh12.ex) (hq12.at_ hh12.ex) (by rw [List.length_map, m2]; show no.length + 1 ≤ 1000000; have : no.length < 1000 := nl; omega) fun rl G13 H13 ex13 hr hh13 => ?_
    walk_at "w"
    rename_i H14 hh14
    have exA : Ex G5 G13 := ex7.trans (ex8.trans (ex11.trans (ex12.trans ex13)))
    have ok6 := ok5.up exA
    have hO : Hold G13 ((x, (ObD.sw ⟨w, wt, pl, ph, l, dx, ch, g, t, d, true, lo, hi, no⟩ tick e q3 q4 rl).ho A) :: mu) H14 := hh14
    have okO : ObOk K A G13 (ObD.sw ⟨w, wt, pl, ph, l, dx, ch, g, t, d, true, lo, hi, no⟩ tick e q3 q4 rl) :=
      ⟨ok6.cl, ok6.ru, ok6.iw, ok6.g1, ok6.g2, by show 0 ≤ tick + 1; have : 0 ≤ t := ok.t0; have : t ≤ tick := t0; omega, ok6.pl, ok6.ph, notes_app hr m2 m3 exA (tp11.up (ex12.trans ex13)), by
        show (no ++ [(("switching" : Str), tick)]).length ≤ 1000
        rw [List.length_append]
        show no.length + 1 ≤ 1000
        have : no.length < 1000 := nl
        omega⟩
    refine ⟨x, _, G13, mu, rfl, okO, hO, fun q' G15 H15 ex15 hq' hh15 => ?_⟩
    walk_at "w"
    exact k1 q3 q4 rl q' G15 H15 (ex1.trans (ex2.trans (ex3.trans (ex5.trans (exA.trans ex15))))) (okO.up ex15) hh15 hq'
  | false =>
    walk_at "w"
    refine sw_keep (fun r H h => r_nil h) ok4 hh4 (fun q3 q4 G5 H5 ex5 good ok5 hh5 => ?_) (fun G5 H5 ex5 nok hh5 => ⟨true, exm, fun _ => ?_, fun z => by cases z⟩)
    rotate_left
    · refine obs_restore (O := ⟨w, wt, pl, ph, l, dx, ch, g, t, d, false, lo, hi, no⟩) (a := q1) (b := q2) (lo := (swN1 ⟨w, wt, pl, ph, l, dx, ch, g, t, d, false, lo, hi, no⟩ tick e).1) (hi := (swN1 ⟨w, wt, pl, ph, l, dx, ch, g, t, d, false, lo, hi, no⟩ tick e).2) TC (hk.up (ex3.trans ex5)) hh5 fun H6 hh6 => ?_
      exact k2 (fun z => nok z.2) G5 H6 (ex1.trans (ex2.trans (ex3.trans ex5))) hh6
    have k1 := k1 ⟨c1, good⟩
    have hh5u := hh5
    unfold ObD.ho obsF at hh5u
    dsimp only at hh5u
    walk_at "w"
    rename_i H6 hh6
    have hh6 : Hold G5 ((x, ({ (⟨w, wt, q3, q4, l, dx, ch, g, t, d, !false, lo, hi, no⟩ : ObD) with } : ObD).ho A) :: mu) H6 := hh6
    refine ⟨x, tick, _, !false, ⟨w, wt, q3, q4, l, dx, ch, g, t, d, !false, lo, hi, no⟩, G5, mu, rfl, TC, ok.ru, hh6, ok5.iw, ok.g1, ok.g2, fun qr G7 H7 ex7 ir7 hh7 => ?_⟩
    unfold ObD.ho obsF at hh7
    dsimp only at hh7
    obtain ⟨RC7, rok7, dx7, sr7, hr71, hr72⟩ := id ir7
    have hr71' := hh7.ex _ _ hr71
    unfold runF at hr71'
    obtain ⟨ps, m1, m2, m3⟩ := id ok5.no
    dsimp only at m1 m2 m3
    walk_at "w"
    refine ⟨qr, tick + 1, _, rfl, ir7.up hh7.ex, ?_⟩
    walk_at "w"
    rename_i p8 G8 H8 ex8 tp8 hh8 H9 hh9 H10 hh10 p11 G11 H11 ex11 tp11 hh11
    walk_at "wl"
    rename_i q12 G12 H12 ex12 hq12 hh12
    refine cat_N (ys := [V.ref p11]) hh12 ((m1.up (ex7.trans (ex8.trans (ex11.trans ex12)))).at_ hh12.ex) (hq12.at_ hh12.ex) (by rw [List.length_map, m2]; show no.length + 1 ≤ 1000000; have : no.length < 1000 := nl; omega) fun rl G13 H13 ex13 hr hh13 => ?_
    walk_at "w"
    rename_i H14 hh14
    have exA : Ex G5 G13 := ex7.trans (ex8.trans (ex11.trans (ex12.trans ex13)))
    have ok6 := ok5.up exA
    have hO : Hold G13 ((x, (ObD.sw ⟨w, wt, pl, ph, l, dx, ch, g, t, d, false, lo, hi, no⟩ tick e q3 q4 rl).ho A) :: mu) H14 := hh14
    have okO : ObOk K A G13 (ObD.sw ⟨w, wt, pl, ph, l, dx, ch, g, t, d, false, lo, hi, no⟩ tick e q3 q4 rl) :=
      ⟨ok6.cl, ok6.ru, ok6.iw, ok6.g1, ok6.g2, by show 0 ≤ tick + 1; have : 0 ≤ t := ok.t0; have : t ≤ tick := t0; omega, ok6.pl, ok6.ph, notes_app hr m2 m3 exA (tp11.up (ex12.trans ex13)), by
        show (no ++ [(("switching" : Str), tick)]).length ≤ 1000
        rw [List.length_append]
        show no.length + 1 ≤ 1000
        have : no.length < 1000 := nl
        omega⟩
    refine ⟨x, _, G13, mu, rfl, okO, hO, fun q' G15 H15 ex15 hq' hh15 => ?_⟩
    walk_at "w"
    exact k1 q3 q4 rl q' G15 H15 (ex1.trans (ex2.trans (ex3.trans (ex5.trans (exA.trans ex15))))) (okO.up ex15) hh15 hq'
end
end Wm
end

section
/-! ## Hidden thresholds -/
namespace Wm
open PySem PySem.Spec PyProof.Rows L2 StX
/-- a switching in a tick -/
def swB (P : Par) (u : Int) : Bool := prevO P u != oAt P u
def Mx : Int := 10 ^ 12
/-- the ranges of both thresholds after one more tick -/
def stepR (r : (Int × Int) × (Int × Int)) (p c : Bool) (d : Int) : (Int × Int) × (Int × Int) :=
  if p = true then (if c = true then (r.1, (if d > r.2.1 then d else r.2.1, r.2.2)) else (r.1, (r.2.1, if d - 1 < r.2.2 then d - 1 else r.2.2)))
  else (if c = true then ((if d + 1 > r.1.1 then d + 1 else r.1.1, r.1.2), r.2) else ((r.1.1, if d < r.1.2 then d else r.1.2), r.2))
def rng (P : Par) : Nat → (Int × Int) × (Int × Int)
  | 0 => ((-(10 ^ 12), 10 ^ 12), (-(10 ^ 12), 10 ^ 12))
  | n + 1 => stepR (rng P n) (prevO P n) (oAt P n) (dAt P n)
/-- a low threshold agrees, a high one -/
def Lok (P : Par) (l : Int) (n : Nat) : Prop := ∀ u : Nat, u < n → prevO P u = false → (oAt P u = true → dAt P u < l) ∧ (oAt P u = false → l ≤ dAt P u)
def Hok (P : Par) (h : Int) (n : Nat) : Prop := ∀ u : Nat, u < n → prevO P u = true → (oAt P u = true → dAt P u ≤ h) ∧ (oAt P u = false → h < dAt P u)
theorem rng_ok (P : Par) : ∀ n : Nat, (∀ l, -(10 ^ 12) ≤ l → l ≤ 10 ^ 12 → (Lok P l n ↔ (rng P n).1.1 ≤ l ∧ l ≤ (rng P n).1.2)) ∧ (∀ h, -(10 ^ 12) ≤ h → h ≤ 10 ^ 12 → (Hok P h n ↔ (rng P n).2.1 ≤ h ∧ h ≤ (rng P n).2.2))
  | 0 => ⟨fun l a b => ⟨fun _ => ⟨a, b⟩, fun _ u hu => absurd hu (Nat.not_lt_zero u)⟩, fun h a b => ⟨fun _ => ⟨a, b⟩, fun _ u hu => absurd hu (Nat.not_lt_zero u)⟩⟩
  | n + 1 => by
    obtain ⟨i1, i2⟩ := rng_ok P n
    have lstep : ∀ l, Lok P l (n + 1) ↔ Lok P l n ∧ (prevO P n = false → (oAt P n = true → dAt P n < l) ∧ (oAt P n = false → l ≤ dAt P n)) := fun l => by
      constructor
      · exact fun h => ⟨fun u hu => h u (by omega), h n (by omega)⟩
      · rintro ⟨h1, h2⟩ u hu
        by_cases e : u = n
        · subst e; exact h2
        · exact h1 u (by omega)
    have hstep : ∀ l, Hok P l (n + 1) ↔ Hok P l n ∧ (prevO P n = true → (oAt P n = true → dAt P n ≤ l) ∧ (oAt P n = false → l < dAt P n)) := fun l => by
      constructor
      · exact fun h => ⟨fun u hu => h u (by omega), h n (by omega)⟩
      · rintro ⟨h1, h2⟩ u hu
        by_cases e : u = n
        · subst e; exact h2
        · exact h1 u (by omega)
    constructor
    · intro l a b
      rw [lstep, i1 l a b]
      show _ ↔ (stepR (rng P n) (prevO P n) (oAt P n) (dAt P n)).1.1 ≤ l ∧ l ≤ (stepR (rng P n) (prevO P n) (oAt P n) (dAt P n)).1.2
      unfold stepR
      cases prevO P n <;> cases oAt P n <;> simp only [if_true, Bool.false_eq_true, if_false, forall_const, true_implies, false_implies, and_true, true_and, reduceCtorEq]
      · split <;> omega
      · split <;> omega
    · intro l a b
      rw [hstep, i2 l a b]
      show _ ↔ (stepR (rng P n) (prevO P n) (oAt P n) (dAt P n)).2.1 ≤ l ∧ l ≤ (stepR (rng P n) (prevO P n) (oAt P n) (dAt P n)).2.2
      unfold stepR
      cases prevO P n <;> cases oAt P n <;> simp only [if_true, Bool.false_eq_true, if_false, forall_const, true_implies, false_implies, and_true, true_and, reduceCtorEq]
      · split <;> omega
      · split <;> omega
theorem dec_eq (P : Par) {u : Int} (h : 0 ≤ u) : oAt P u = P.dec (dAt P u) (prevO P u) := o_prev P h
/-- the room's own thresholds agree -/
theorem own_ok {P : Par} (lh : P.lo ≤ P.hi) (n : Nat) : Lok P P.lo n ∧ Hok P P.hi n := by
  constructor
  · intro u _ hp
    have e := dec_eq P (u := u) (by omega)
    unfold Par.dec at e
    rw [hp] at e
    constructor
    · intro ho
      by_cases c : dAt P u < P.lo
      · exact c
      · rw [if_neg c, ho] at e; simp at e
    · intro ho
      by_cases c : dAt P u < P.lo
      · rw [if_pos c, ho] at e; cases e
      · omega
  · intro u _ hp
    have e := dec_eq P (u := u) (by omega)
    unfold Par.dec at e
    rw [hp] at e
    constructor
    · intro ho
      by_cases c : dAt P u < P.lo
      · omega
      · rw [if_neg c, ho] at e
        simpa using e.symm
    · intro ho
      by_cases c : dAt P u < P.lo
      · rw [if_pos c, ho] at e; cases e
      · rw [if_neg c, ho] at e
        simpa using e.symm
/-- the room with other thresholds -/
def withT (P : Par) (l h : Int) : Par := { P with lo := l, hi := h }
theorem prev_eq {P P' : Par} (hw : P'.was = P.was) {u : Nat} (h : ∀ v : Nat, v < u → oAt P' v = oAt P v) : prevO P' u = prevO P u := by
  unfold prevO
  by_cases c : (u : Int) ≤ 0
  · rw [if_pos c, if_pos c, hw]
  · rw [if_neg c, if_neg c]
    have := h (u - 1) (by omega)
    rwa [show (((u - 1 : Nat)) : Int) = (u : Int) - 1 by omega] at this
theorem d_eq {P : Par} {l h : Int} : ∀ u : Nat, (∀ v : Nat, v < u → oAt (withT P l h) v = oAt P v) → dAt (withT P l h) u = dAt P u
  | 0, _ => by
    show dAt (withT P l h) 0 = dAt P 0
    rw [d_zero, d_zero]
    rfl
  | u + 1, hv => by
    have ih := d_eq (P := P) (l := l) (h := h) u fun v hvu => hv v (by omega)
    rw [show ((u + 1 : Nat) : Int) = (u : Int) + 1 by omega, d_succ _ (by omega), d_succ _ (by omega), ih, hv u (by omega)]
    rfl
theorem same_step {P : Par} {l h : Int} (lh : l ≤ h) {u : Nat} (hv : ∀ v : Nat, v < u → oAt (withT P l h) v = oAt P v) :
    oAt (withT P l h) u = oAt P u ↔ (prevO P u = false → (oAt P u = true → dAt P u < l) ∧ (oAt P u = false → l ≤ dAt P u)) ∧ (prevO P u = true → (oAt P u = true → dAt P u ≤ h) ∧ (oAt P u = false → h < dAt P u)) := by
  have hd := d_eq (P := P) (l := l) (h := h) u hv
  have hp := prev_eq (P := P) (P' := withT P l h) rfl hv
  have e := dec_eq (withT P l h) (u := u) (by omega)
  rw [hd, hp] at e
  have e' : oAt (withT P l h) u = if dAt P u < l then true else (prevO P u && decide (dAt P u ≤ h)) := e
  rw [e']
  cases prevO P u <;> cases oAt P u <;> by_cases c : dAt P u < l <;> simp [c] <;> omega
theorem agree_iff {P : Par} {l h : Int} (lh : l ≤ h) : ∀ n : Nat, (∀ u : Nat, u < n → oAt (withT P l h) u = oAt P u) ↔ Lok P l n ∧ Hok P h n
  | 0 => ⟨fun _ => ⟨fun u hu => absurd hu (Nat.not_lt_zero u), fun u hu => absurd hu (Nat.not_lt_zero u)⟩, fun _ u hu => absurd hu (Nat.not_lt_zero u)⟩
  | n + 1 => by
    have ih := agree_iff (P := P) lh n
    constructor
    · intro hs
      obtain ⟨a, b⟩ := ih.mp fun u hu => hs u (by omega)
      obtain ⟨c, d⟩ := (same_step (P := P) lh (u := n) fun v hv => hs v (by omega)).mp (hs n (by omega))
      refine ⟨fun u hu => ?_, fun u hu => ?_⟩
      · by_cases e : u = n
        · subst e; exact c
        · exact a u (by omega)
      · by_cases e : u = n
        · subst e; exact d
        · exact b u (by omega)
    · rintro ⟨a, b⟩
      have hs := ih.mpr ⟨fun u hu => a u (by omega), fun u hu => b u (by omega)⟩
      intro u hu
      by_cases e : u = n
      · subst e
        exact (same_step (P := P) lh hs).mpr ⟨a u (by omega), b u (by omega)⟩
      · exact hs u (by omega)
/-- the ticks of switchings ahead of a tick -/
def swL (P : Par) (n : Nat) : List Int := (rngI n).filter (swB P)
theorem swL_mem {P : Par} {n : Nat} {u : Int} : u ∈ swL P n ↔ (0 ≤ u ∧ u < n) ∧ swB P u = true := by
  unfold swL
  rw [List.mem_filter]
  constructor
  · exact fun h => ⟨rngI_mem h.1, h.2⟩
  · intro h
    refine ⟨?_, h.2⟩
    have := rngI_get (n := n) (i := u.toNat) (by omega)
    rw [Int.toNat_of_nonneg h.1.1] at this
    exact List.mem_of_getElem? this
theorem swL_eq {P : Par} {l h : Int} (lh : l ≤ h) (n : Nat) : swL (withT P l h) n = swL P n ↔ Lok P l n ∧ Hok P h n := by
  rw [← agree_iff lh n]
  constructor
  · intro e u
    induction u using Nat.strongRecOn with
    | ind u ih =>
      intro hu
      have hp := prev_eq (P := P) (P' := withT P l h) rfl (u := u) fun v hv => ih v hv (by omega)
      have m : (swB (withT P l h) u = true ↔ swB P u = true) := by
        have a := swL_mem (P := withT P l h) (n := n) (u := u)
        have b := swL_mem (P := P) (n := n) (u := u)
        rw [e] at a
        constructor
        · intro h; exact (b.mp (a.mpr ⟨⟨by omega, by omega⟩, h⟩)).2
        · intro h; exact (a.mp (b.mpr ⟨⟨by omega, by omega⟩, h⟩)).2
      unfold swB at m
      rw [hp] at m
      revert m
      cases prevO P u <;> cases oAt (withT P l h) u <;> cases oAt P u <;> simp
  · intro hs
    unfold swL
    apply List.filter_congr
    intro u hu
    obtain ⟨u0, u1⟩ := rngI_mem hu
    have hp := prev_eq (P := P) (P' := withT P l h) rfl (u := u.toNat) fun v hv => hs v (by omega)
    have ho := hs u.toNat (by omega)
    rw [Int.toNat_of_nonneg u0] at hp ho
    unfold swB
    rw [hp, ho]
end Wm
end

section
local macro_rules | `(tactic| walk_at "cls") => `(tactic| first | (with_reducible exact Wm.WeatherC.cl (by assumption)) | (with_reducible exact Wm.HeaterC.cl (by assumption)) | (with_reducible exact Wm.RoomC.cl (by assumption)) | (with_reducible exact Wm.RunC.cl (by assumption)) | (with_reducible exact Wm.HistoryC.cl (by assumption)) | (with_reducible exact Wm.ThresholdObserverC.cl (by assumption)) | (with_reducible exact Wm.SettingC.cl (by assumption)) | (with_reducible exact Wm.HourSettingC.cl (by assumption)) | (with_reducible exact Wm.RestSettingC.cl (by assumption)) | (with_reducible exact Wm.PricesC.cl (by assumption)) | (with_reducible exact Wm.MomentC.cl (by assumption)) | (with_reducible exact Wm.LiveRoomC.cl (by assumption)) | (with_reducible exact Wm.AttemptC.cl (by assumption)))
local macro_rules | `(tactic| walk_at "noattr") => `(tactic| first | (with_reducible exact Wm.WeatherC.n_pattern (by assumption)) | (with_reducible exact Wm.HeaterC.n_power (by assumption)) | (with_reducible exact Wm.HeaterC.n_below (by assumption)) | (with_reducible exact Wm.HeaterC.n_above (by assumption)) | (with_reducible exact Wm.RoomC.n_outside (by assumption)) | (with_reducible exact Wm.RoomC.n_inside (by assumption)) | (with_reducible exact Wm.RoomC.n_begin_degrees (by assumption)) | (with_reducible exact Wm.RoomC.n_past (by assumption)) | (with_reducible exact Wm.RoomC.n_repeated (by assumption)) | (with_reducible exact Wm.RoomC.n_share (by assumption)) | (with_reducible exact Wm.RoomC.n_coldest (by assumption)) | (with_reducible exact Wm.RoomC.n_warmest (by assumption)) | (with_reducible exact Wm.RunC.n_begin (by assumption)) | (with_reducible exact Wm.RunC.n_end (by assumption)) | (with_reducible exact Wm.RunC.n_degrees (by assumption)) | (with_reducible exact Wm.RunC.n_is_heating (by assumption)) | (with_reducible exact Wm.RunC.n_sums (by assumption)) | (with_reducible exact Wm.RunC.n_size (by assumption)) | (with_reducible exact Wm.RunC.n_drift (by assumption)) | (with_reducible exact Wm.HistoryC.n_shifts (by assumption)) | (with_reducible exact Wm.HistoryC.n_added (by assumption)) | (with_reducible exact Wm.HistoryC.n_floor (by assumption)) | (with_reducible exact Wm.HistoryC.n_ceiling (by assumption)) | (with_reducible exact Wm.HistoryC.n_was_heating (by assumption)) | (with_reducible exact Wm.HistoryC.n_runs (by assumption)) | (with_reducible exact Wm.HistoryC.n_loop (by assumption)) | (with_reducible exact Wm.ThresholdObserverC.n_outside (by assumption)) | (with_reducible exact Wm.ThresholdObserverC.n_power (by assumption)) | (with_reducible exact Wm.ThresholdObserverC.n_tick (by assumption)) | (with_reducible exact Wm.ThresholdObserverC.n_degrees (by assumption)) | (with_reducible exact Wm.ThresholdObserverC.n_is_heating (by assumption)) | (with_reducible exact Wm.ThresholdObserverC.n_lows (by assumption)) | (with_reducible exact Wm.ThresholdObserverC.n_highs (by assumption)) | (with_reducible exact Wm.ThresholdObserverC.n_noted (by assumption)) | (with_reducible exact Wm.SettingC.n_least (by assumption)) | (with_reducible exact Wm.SettingC.n_most (by assumption)) | (with_reducible exact Wm.HourSettingC.n_least (by assumption)) | (with_reducible exact Wm.HourSettingC.n_most (by assumption)) | (with_reducible exact Wm.HourSettingC.n_length (by assumption)) | (with_reducible exact Wm.HourSettingC.n_hours (by assumption)) | (with_reducible exact Wm.RestSettingC.n_least (by assumption)) | (with_reducible exact Wm.RestSettingC.n_most (by assumption)) | (with_reducible exact Wm.RestSettingC.n_rest (by assumption)) | (with_reducible exact Wm.PricesC.n_table (by assumption)) | (with_reducible exact Wm.MomentC.n_tick (by assumption)) | (with_reducible exact Wm.MomentC.n_heat (by assumption)) | (with_reducible exact Wm.MomentC.n_on (by assumption)) | (with_reducible exact Wm.MomentC.n_burnt (by assumption)) | (with_reducible exact Wm.MomentC.n_sky (by assumption)) | (with_reducible exact Wm.MomentC.n_stove (by assumption)) | (with_reducible exact Wm.LiveRoomC.n_moment (by assumption)) | (with_reducible exact Wm.LiveRoomC.n_earlier (by assumption)) | (with_reducible exact Wm.LiveRoomC.n_done (by assumption)) | (with_reducible exact Wm.AttemptC.n_live (by assumption)) | (with_reducible exact Wm.AttemptC.n_kept (by assumption)) | (with_reducible exact Wm.AttemptC.n_stack (by assumption)) | (with_reducible exact Wm.AttemptC.n_steps (by assumption)))
local macro_rules | `(tactic| walk_at "at") => `(tactic| first | assumption | exact Wm.Hold.rd (by assumption) (by assumption) | exact Wm.Hold.get (i := 0) (by assumption) rfl | exact Wm.Hold.get (i := 1) (by assumption) rfl | exact Wm.Hold.get (i := 2) (by assumption) rfl | exact Wm.Hold.get (i := 3) (by assumption) rfl | exact Wm.Hold.get (i := 4) (by assumption) rfl)
local macro_rules | `(tactic| walk_at "s1") => `(tactic| first
  | (with_reducible refine Wm.r_seq ?_)
  | (with_reducible refine Wm.r_op ?_)
  | ((with_reducible refine' Wm.r_var ?h ?_); (case h => rfl))
  | (with_reducible refine Wm.r_c ?_)
  | (with_reducible refine Wm.r_I0 ?_)
  | (with_reducible refine Wm.r_cons ?_)
  | (with_reducible refine Wm.r_nil ?_)
  | (with_reducible refine Wm.r_asg ?_)
  | (with_reducible refine Wm.r_gname ?_; try simp only [List.set_cons_zero, List.set_cons_succ])
  | (with_reducible refine Wm.r_nx ?_)
  | (with_reducible refine Wm.r_rt ?_)
  | (with_reducible refine Wm.r_ret ?_)
  | (with_reducible refine Wm.r_test ?_)
  | (with_reducible refine Wm.r_bl ?_)
  | (with_reducible refine Wm.r_B ?_)
  | (with_reducible refine Wm.r_eqI ?_)
  | (with_reducible refine Wm.r_neI ?_)
  | (with_reducible refine Wm.r_eqB ?_)
  | (with_reducible refine Wm.r_neB ?_)
  | (with_reducible refine Wm.r_fld ?_)
  | (with_reducible refine Wm.r_call ?_)
  | (with_reducible refine Wm.r_mtd ?_)
  | (with_reducible refine Wm.r_prp ?_)
  | (with_reducible refine Wm.r_mak ?_)
  | (with_reducible refine Wm.r_makKw ?_)
  | (with_reducible refine Wm.r_cb ?_)
  | (with_reducible refine Wm.r_tup ?_)
  | (with_reducible refine Wm.r_lst ?_)
  | (with_reducible refine Wm.r_chain ?_)
  | (with_reducible refine Wm.r_and ?_)
  | (with_reducible refine Wm.r_or ?_)
  | (with_reducible refine Wm.r_not ?_)
  | (with_reducible refine Wm.r_andV ?_)
  | (with_reducible refine Wm.r_orV ?_)
  | (with_reducible refine Wm.r_notV ?_)
  | (with_reducible refine Wm.r_if ?_)
  | (with_reducible refine Wm.r_un ?_)
  | (with_reducible refine Wm.r_U ?_)
  | (with_reducible refine Wm.r_iteT ?_)
  | (with_reducible refine Wm.r_iteF ?_)
  | (with_reducible refine Wm.r_next ?_)
  | (with_reducible refine Wm.r_drop ?_)
  | (with_reducible refine Wm.r_retN ?_)
  | ((with_reducible refine' Wm.r_aug ?h ?_); (case h => rfl))
  | (with_reducible refine Wm.r_ipI ?_)
  | (with_reducible refine Wm.r_par2 ?_)
  | (with_reducible refine Wm.r_two ?_; try simp only [List.set_cons_zero, List.set_cons_succ])
  | (with_reducible refine Wm.r_yes ?_)
  | (with_reducible refine Wm.r_forET ?_)
  | (with_reducible refine Wm.r_chain3 ?_)
  | (with_reducible refine Wm.r_nT ?_)
  | (with_reducible refine Wm.r_nF ?_)
  | (with_reducible refine Wm.r_par3 ?_)
  | (with_reducible refine Wm.r_seenPut ?_)
  | (with_reducible refine Wm.r_seenGet ?_)
  | (with_reducible refine Wm.r_three ?_; try simp only [List.set_cons_zero, List.set_cons_succ])
  | (with_reducible refine Wm.r_sl ?_)
  | (with_reducible refine Wm.r_nopart ?_)
  | (with_reducible refine Wm.r_part ?_)
  | (with_reducible refine Wm.r_xi ?_)
  | (with_reducible refine Wm.r_gcons ?_)
  | (with_reducible refine Wm.r_gnil ?_)
  | (with_reducible refine Wm.r_sub ?_)
  | (with_reducible refine Wm.r_setF ?_)
  | (with_reducible refine Wm.r_app ?_)
  | (with_reducible refine Wm.int_i ?_)
  | (with_reducible refine Wm.int_b ?_)
  | (with_reducible refine Wm.min2 ?_)
  | (with_reducible refine Wm.max2 ?_)
  | (with_reducible refine Wm.abs1 ?_)
  | (with_reducible refine Wm.isN ?_)
  | (with_reducible refine Wm.notN ?_)
  | ((with_reducible refine' Wm.r_ty ?e ?_); (case e => walk_at "at"))
  | ((with_reducible refine' Wm.setF_m ?h 0 ?e ?c ?a ?l ?_); (case h => assumption); (case e => rfl); (case c => walk_at "cls"); (case a => walk_at "noattr"); (case l => exact of_decide_eq_true rfl); intro H1 hh1; simp only [List.set_cons_zero, List.set_cons_succ] at hh1)
  | ((with_reducible refine' Wm.setF_m ?h 1 ?e ?c ?a ?l ?_); (case h => assumption); (case e => rfl); (case c => walk_at "cls"); (case a => walk_at "noattr"); (case l => exact of_decide_eq_true rfl); intro H1 hh1; simp only [List.set_cons_zero, List.set_cons_succ] at hh1)
  | ((with_reducible refine' Wm.setF_m ?h 2 ?e ?c ?a ?l ?_); (case h => assumption); (case e => rfl); (case c => walk_at "cls"); (case a => walk_at "noattr"); (case l => exact of_decide_eq_true rfl); intro H1 hh1; simp only [List.set_cons_zero, List.set_cons_succ] at hh1)
  | ((with_reducible refine' Wm.setF_m ?h 3 ?e ?c ?a ?l ?_); (case h => assumption); (case e => rfl); (case c => walk_at "cls"); (case a => walk_at "noattr"); (case l => exact of_decide_eq_true rfl); intro H1 hh1; simp only [List.set_cons_zero, List.set_cons_succ] at hh1)
  | (with_reducible refine Wm.r_forL ?_)
  | (with_reducible refine Wm.r_forT ?_)
  | (with_reducible refine Wm.r_forR1 ?_)
  | (with_reducible refine Wm.r_forR2 ?_)
  | (with_reducible refine Wm.r_forR3 ?_)
  | (with_reducible refine Wm.r_lcL ?_)
  | (with_reducible refine Wm.r_lcE ?_)
  | (with_reducible refine Wm.r_gfld ?_)
  | (with_reducible refine Wm.r_lcT ?_)
  | (with_reducible refine Wm.r_lcR1 ?_)
  | (with_reducible refine Wm.r_lcR2 ?_)
  | ((with_reducible refine' Wm.fld_h ?e ?c ?n ?l ?_); (case e => walk_at "at"); (case c => walk_at "cls"); (case n => walk_at "noattr"); (case l => rfl))
  | ((with_reducible refine' Wm.mtd_h ?e ?l ?_); (case e => walk_at "at"); (case l => rfl))
  | ((with_reducible refine' Wm.prp_h ?e ?_); (case e => walk_at "at"))
  | ((with_reducible refine' Wm.rix_ht ?a ?b ?_); (case a => walk_at "at"); (case b => rfl))
  | ((with_reducible refine' Wm.rix_h ?a ?b ?_); (case a => walk_at "at"); (case b => rfl))
  | ((with_reducible refine' Wm.len_ht ?a ?_); (case a => walk_at "at"))
  | ((with_reducible refine' Wm.len_h ?a ?_); (case a => walk_at "at"))
  | ((with_reducible refine' Wm.len_l ?a ?b ?_); (case a => assumption); (case b => assumption))
  | ((with_reducible refine' Wm.len_t ?a ?b ?_); (case a => assumption); (case b => assumption))
  | ((with_reducible refine' Wm.gtup_h ?a ?b ?_); (case a => walk_at "at"); (case b => rfl))
  | (with_reducible refine Wm.r_I (Wm.cmulR (by decide)) ?_)
  | (with_reducible refine Wm.r_I (Wm.cmulL (by decide)) ?_)
  | (with_reducible refine Wm.r_I (Wm.cdiv (by decide) (by decide)) ?_)
  | (with_reducible refine Wm.r_I Wm.cpow18 ?_)
  | (with_reducible refine Wm.r_I Wm.cpow12 ?_)
  | (with_reducible refine Wm.r_I (by show (0 : Int) < _; decide) ?_))
local macro_rules | `(tactic| walk_at "s") => `(tactic| repeat (first | walk_at "s1" | (with_reducible refine Wm.r_ifS ?_)))
local macro_rules | `(tactic| walk_at "t") => `(tactic| repeat (walk_at "s1"))
local macro_rules | `(tactic| walk_at "sz") => `(tactic| exact of_decide_eq_true rfl)
local macro_rules | `(tactic| walk_at "d") => `(tactic| first | (with_reducible refine Wm.r_dT (by omega) ?_) | (with_reducible refine Wm.r_dF (by omega) ?_) | (with_reducible refine Wm.r_dN (by omega) ?_) | (with_reducible refine Wm.r_dM (by omega) ?_))
local macro_rules | `(tactic| walk_at "sd") => `(tactic| repeat (first | walk_at "s1" | (with_reducible refine Wm.r_ifS ?_) | walk_at "d"))
local macro_rules | `(tactic| walk_at "ex") => `(tactic| first
  | assumption
  | exact Wm.Ex.refl _
  | (refine Wm.Ex.trans ?_ (by assumption); walk_at "ex")
  | (refine Wm.Ex.trans ?_ (Wm.Hold.ex (by assumption)); walk_at "ex"))
local macro_rules | `(tactic| walk_at "room") => `(tactic| first
  | assumption
  | (refine' Wm.IsRoom.up ?e ?h; (case h => assumption); (case e => walk_at "ex")))
local macro_rules | `(tactic| walk_at "opt") => `(tactic| first
  | assumption
  | (refine' Wm.OptAt.up ?e ?h; (case h => assumption); (case e => walk_at "ex")))
local macro_rules | `(tactic| walk_at "lst") => `(tactic| first
  | assumption
  | (refine' Wm.Lst.at_ ?h ?e; (case h => assumption); (case e => walk_at "ex"))
  | exact Wm.Hold.get (i := 0) (by assumption) rfl | exact Wm.Hold.get (i := 1) (by assumption) rfl | exact Wm.Hold.get (i := 2) (by assumption) rfl | exact Wm.Hold.get (i := 3) (by assumption) rfl | exact Wm.Hold.get (i := 4) (by assumption) rfl)
local macro_rules | `(tactic| walk_at "tup") => `(tactic| first
  | assumption
  | (refine' Wm.Tup.at_ ?h ?e; (case h => assumption); (case e => walk_at "ex")))
local macro_rules | `(tactic| walk_at "p1") => `(tactic| first
  | (with_reducible refine Wm.r_p18 ?_) | (with_reducible refine Wm.r_p12 ?_) | (with_reducible refine Wm.r_p17 ?_) | (with_reducible refine Wm.r_p15 ?_) | (with_reducible refine Wm.r_p11 ?_) | (with_reducible refine Wm.r_p6 ?_) | (with_reducible refine Wm.r_p5 ?_) | (with_reducible refine Wm.r_p4 ?_) | (with_reducible refine Wm.r_p9 ?_) | (with_reducible refine Wm.r_p13 ?_) | (with_reducible refine Wm.r_p20 ?_) | (with_reducible refine Wm.r_p30 ?_) | (with_reducible refine Wm.r_p16 ?_))
local macro_rules | `(tactic| walk_at "w2") => `(tactic| first
  | ((with_reducible refine' Wm.r_wp ?h ?_); (case h => rfl))
  | ((with_reducible refine' Wm.ap_mtd ?ir ?hl ?_); (case ir => walk_at "room"); (case hl => intros; rfl))
  | ((with_reducible refine' Wm.ap_prp ?ir ?_); (case ir => walk_at "room"))
  | ((with_reducible refine' Wm.ap_temp ?hh ?ir ?t0 ?t1 ?_); (case hh => assumption); (case ir => walk_at "room"); (case t0 => omega); (case t1 => omega); intro H1 hh1)
  | ((with_reducible refine' Wm.ap_on ?hh ?ir ?t0 ?t1 ?_); (case hh => assumption); (case ir => walk_at "room"); (case t0 => omega); (case t1 => omega); intro H1 hh1)
  | ((with_reducible refine' Wm.ap_heats ?hh ?ir ?t0 ?t1 ?_); (case hh => assumption); (case ir => walk_at "room"); (case t0 => omega); (case t1 => omega); intro H1 hh1)
  | ((with_reducible refine' Wm.ap_sws ?hh ?ir ?t0 ?t1 ?_); (case hh => assumption); (case ir => walk_at "room"); (case t0 => omega); (case t1 => omega); intro H1 hh1)
  | ((with_reducible refine' Wm.rix_ht ?a ?b ?_); (case a => walk_at "tup"); (case b => rfl))
  | ((with_reducible refine' Wm.rix_h ?a ?b ?_); (case a => walk_at "lst"); (case b => rfl))
  | ((with_reducible refine' Wm.len_ht ?a ?_); (case a => walk_at "tup"))
  | ((with_reducible refine' Wm.len_h ?a ?_); (case a => walk_at "lst"))
  | ((with_reducible refine' Wm.gtup_h ?a ?b ?_); (case a => walk_at "tup"); (case b => rfl))
  | ((with_reducible refine' Wm.r_I (Wm.cmulL ?h) ?_); (case h => omega))
  | ((with_reducible refine' Wm.r_I (Wm.cmulR ?h) ?_); (case h => omega))
  | ((with_reducible refine' Wm.r_I (Wm.cdiv ?h ?h2) ?_); (case h => omega); (case h2 => omega))
  | ((with_reducible refine' Wm.r_mod ?h ?_); (case h => omega))
  | ((with_reducible refine' Wm.tup_N ?hP ?hh ?_); (case hP => walk_at "sz"); (case hh => assumption); intro p G1 H1 ex1 tp hh1))
local macro_rules | `(tactic| walk_at "w1") => `(tactic| first | walk_at "p1" | walk_at "s1" | walk_at "w2")
local macro_rules | `(tactic| walk_at "w") => `(tactic| repeat (first | walk_at "w1" | (with_reducible refine Wm.r_ifS ?_)))
local macro_rules | `(tactic| walk_at "wl") => `(tactic| ((with_reducible refine' Wm.lst_N ?hP ?hh ?_); (case hP => walk_at "sz"); (case hh => assumption); intro p G1 H1 ex1 tp hh1))
local macro_rules | `(tactic| walk_at "wd") => `(tactic| repeat (first | walk_at "w1" | (with_reducible refine Wm.r_ifS ?_) | walk_at "d" | walk_at "wl"))
local macro_rules | `(tactic| walk_at "v") => `(tactic| repeat (walk_at "w1"))
namespace Wm
open PySem PySem.Spec PyProof.Rows L2 StX
open LamX
/-! ## Observers that see what a room does -/
theorem obRun_from (P : Par) (t d : Int) (on : Bool) : obRun P.ch P.gain t d on = runFrom P ⟨t, d, on⟩ none := rfl
theorem ob_at {P : Par} (ok : ParOk P) {b : Bool} {n : Nat} : ∀ k : Nat, (∀ v : Nat, n ≤ v → v < n + k → oAt P v = b) → (obRun P.ch P.gain n (dAt P n) b).at_ ((n : Int) + k) = dAt P ((n : Int) + k)
  | 0, _ => by
    rw [obRun_from, show (n : Int) + ((0 : Nat) : Int) = n by omega]
    exact at_beg _ (run_ok ok ⟨n, dAt P n, b⟩ none)
  | k + 1, h => by
    have ih := ob_at ok (b := b) (n := n) k fun v a c => h v a (by omega)
    rw [obRun_from] at ih ⊢
    have e := run_succ ok ⟨n, dAt P n, b⟩ ((n : Int) + k)
    rw [show (n : Int) + ((k + 1 : Nat) : Int) = (n : Int) + k + 1 by omega, e, ih, d_succ P (by omega)]
    have := h (n + k) (by omega) (by omega)
    rw [show (((n + k : Nat)) : Int) = (n : Int) + k by omega] at this
    rw [this]
    show dAt P (↑n + ↑k) + (chAt P (↑n + ↑k) + P.heat b) = _
    omega
theorem ob_atI {P : Par} (ok : ParOk P) {b : Bool} {n : Nat} {u : Int} (hu : n ≤ u) (h : ∀ v : Nat, n ≤ v → (v : Int) < u → oAt P v = b) : (obRun P.ch P.gain n (dAt P n) b).at_ u = dAt P u := by
  have := ob_at ok (b := b) (n := n) (u - n).toNat fun v a c => h v a (by omega)
  rwa [show (n : Int) + ((u - n).toNat : Nat) = u by omega] at this
/-- no switching from one tick to another -/
def Calm (P : Par) (n m : Nat) (b : Bool) : Prop := ∀ u : Nat, n ≤ u → u < m → prevO P u = b ∧ oAt P u = b
theorem rng_on {P : Par} {n : Nat} : ∀ k : Nat, Calm P n (n + k) true → ∃ x, rng P (n + k) = ((rng P n).1, (x, (rng P n).2.2)) ∧ (x = (rng P n).2.1 ∨ ∃ u : Nat, n ≤ u ∧ u < n + k ∧ x = dAt P u) ∧ (rng P n).2.1 ≤ x ∧ ∀ u : Nat, n ≤ u → u < n + k → dAt P u ≤ x
  | 0, _ => ⟨_, rfl, .inl rfl, Int.le_refl _, fun u a b => absurd a (by omega)⟩
  | k + 1, h => by
    obtain ⟨x, e, h1, h2, h3⟩ := rng_on (P := P) (n := n) k fun u a b => h u a (by omega)
    obtain ⟨p, c⟩ := h (n + k) (by omega) (by omega)
    have e2 : rng P (n + (k + 1)) = stepR (rng P (n + k)) true true (dAt P ((n + k : Nat) : Int)) := by
      show stepR (rng P (n + k)) (prevO P ((n + k : Nat) : Int)) (oAt P ((n + k : Nat) : Int)) _ = _
      rw [p, c]
      rfl
    have e3 : rng P (n + (k + 1)) = ((rng P n).1, ((if dAt P ((n + k : Nat) : Int) > x then dAt P ((n + k : Nat) : Int) else x), (rng P n).2.2)) := by
      rw [e2, e]
      rfl
    refine ⟨_, e3, ?_, ?_, fun u a b => ?_⟩
    · split
      · exact .inr ⟨n + k, by omega, by omega, rfl⟩
      · rcases h1 with h1 | ⟨u, a, b, e⟩
        · exact .inl h1
        · exact .inr ⟨u, a, by omega, e⟩
    · split <;> omega
    · by_cases hu : u = n + k
      · subst hu
        split <;> omega
      · have := h3 u a (by omega)
        split <;> omega
theorem rng_off {P : Par} {n : Nat} : ∀ k : Nat, Calm P n (n + k) false → ∃ x, rng P (n + k) = (((rng P n).1.1, x), (rng P n).2) ∧ (x = (rng P n).1.2 ∨ ∃ u : Nat, n ≤ u ∧ u < n + k ∧ x = dAt P u) ∧ x ≤ (rng P n).1.2 ∧ ∀ u : Nat, n ≤ u → u < n + k → x ≤ dAt P u
  | 0, _ => ⟨_, rfl, .inl rfl, Int.le_refl _, fun u a b => absurd a (by omega)⟩
  | k + 1, h => by
    obtain ⟨x, e, h1, h2, h3⟩ := rng_off (P := P) (n := n) k fun u a b => h u a (by omega)
    obtain ⟨p, c⟩ := h (n + k) (by omega) (by omega)
    have e2 : rng P (n + (k + 1)) = stepR (rng P (n + k)) false false (dAt P ((n + k : Nat) : Int)) := by
      show stepR (rng P (n + k)) (prevO P ((n + k : Nat) : Int)) (oAt P ((n + k : Nat) : Int)) _ = _
      rw [p, c]
      rfl
    have e3 : rng P (n + (k + 1)) = (((rng P n).1.1, (if dAt P ((n + k : Nat) : Int) < x then dAt P ((n + k : Nat) : Int) else x)), (rng P n).2) := by
      rw [e2, e]
      rfl
    refine ⟨_, e3, ?_, ?_, fun u a b => ?_⟩
    · split
      · exact .inr ⟨n + k, by omega, by omega, rfl⟩
      · rcases h1 with h1 | ⟨u, a, b, e⟩
        · exact .inl h1
        · exact .inr ⟨u, a, by omega, e⟩
    · split <;> omega
    · by_cases hu : u = n + k
      · subst hu
        split <;> omega
      · have := h3 u a (by omega)
        split <;> omega
/-- the observer has seen n ticks of the room -/
structure Seen (P : Par) (O : ObD) (n : Nat) : Prop where
  ch : O.ch = P.ch
  g : O.g = P.gain
  t : O.t = n
  d : O.d = dAt P n
  on : O.on = prevO P n
  r : (O.lo, O.hi) = rng P n
theorem Seen.run {P : Par} {O : ObD} {n : Nat} (s : Seen P O n) : O.run = obRun P.ch P.gain n (dAt P n) (prevO P n) := by
  unfold ObD.run
  rw [s.ch, s.g, s.t, s.d, s.on]
/-- what the extreme over calm ticks makes of the ranges -/
theorem nar_calm {P : Par} (ok : ParOk P) {n m : Nat} (hm : n < m) {e u : Int} (c : Calm P n m (prevO P n)) (xt : XT (obRun P.ch P.gain n (dAt P n) (prevO P n)) (some ((m : Int) - 1)) (sgn (prevO P n)) (obRun P.ch P.gain n (dAt P n) (prevO P n)).steps.length e u) :
    nar (prevO P n) (rng P n).1 (rng P n).2 e (prevO P n) = rng P m := by
  obtain ⟨i, a, b⟩ := xt
  have i1 : (n : Int) ≤ u := i.1
  have i2 : u ≤ (m : Int) - 1 := i.2 _ rfl
  have hl : 0 < (obRun P.ch P.gain n (dAt P n) (prevO P n)).steps.length := by
    rw [obRun_from, show (runFrom P ⟨n, dAt P n, prevO P n⟩ none).steps.length = P.ch.length from steps_len ok _ _]
    exact ok.pos
  have sim : ∀ v : Int, n ≤ v → v ≤ (m : Int) - 1 → (obRun P.ch P.gain n (dAt P n) (prevO P n)).at_ v = dAt P v := fun v v1 v2 => ob_atI ok v1 fun w w1 w2 => (c w w1 (by omega)).2
  have ee : e = dAt P u := by rw [← sim u i1 i2, a]
  have best : ∀ v : Int, n ≤ v → v ≤ (m : Int) - 1 → dAt P v * sgn (prevO P n) ≤ e * sgn (prevO P n) := fun v v1 v2 => by
    have := (b v ⟨v1, fun l h => by cases h; exact v2⟩ (by
      have h1 := Int.emod_lt_of_pos (v - (obRun P.ch P.gain n (dAt P n) (prevO P n)).beg) (show (0 : Int) < ((obRun P.ch P.gain n (dAt P n) (prevO P n)).steps.length : Int) by omega)
      omega)).1
    rwa [sim v v1 v2] at this
  obtain ⟨k, rfl⟩ : ∃ k, m = n + k := ⟨m - n, by omega⟩
  have hun : u = ((u.toNat : Nat) : Int) := by omega
  rw [hun] at ee
  revert c best
  cases prevO P n with
  | true =>
    intro c best
    obtain ⟨x, ex, h1, h2, h3⟩ := rng_on k c
    have best : ∀ v : Nat, n ≤ v → v < n + k → dAt P v ≤ e := fun v v1 v2 => by
      have := best v (by omega) (by omega)
      rw [show sgn true = 1 from rfl, Int.mul_one, Int.mul_one] at this
      exact this
    have h4 := h3 u.toNat (by omega) (by omega)
    rw [← ee] at h4
    rw [ex]
    show ((rng P n).1, ((if e > (rng P n).2.1 then e else (rng P n).2.1), (rng P n).2.2)) = _
    have : (if e > (rng P n).2.1 then e else (rng P n).2.1) = x := by
      rcases h1 with h1 | ⟨v, v1, v2, h1⟩
      · split <;> omega
      · have := best v v1 v2
        split <;> omega
    rw [this]
  | false =>
    intro c best
    obtain ⟨x, ex, h1, h2, h3⟩ := rng_off k c
    have best : ∀ v : Nat, n ≤ v → v < n + k → e ≤ dAt P v := fun v v1 v2 => by
      have := best v (by omega) (by omega)
      rw [show sgn false = -1 from rfl] at this
      omega
    have h4 := h3 u.toNat (by omega) (by omega)
    rw [← ee] at h4
    rw [ex]
    show (((rng P n).1.1, (if e < (rng P n).1.2 then e else (rng P n).1.2)), (rng P n).2) = _
    have : (if e < (rng P n).1.2 then e else (rng P n).1.2) = x := by
      rcases h1 with h1 | ⟨v, v1, v2, h1⟩
      · split <;> omega
      · have := best v v1 v2
        split <;> omega
    rw [this]
theorem okR_rng {P : Par} (ok : ParOk P) (n : Nat) : okR (rng P n) := by
  obtain ⟨a, b⟩ := own_ok ok.lh n
  have l1 := ok.lo1
  have h1 := ok.hi1
  have lh := ok.lh
  obtain ⟨a1, a2⟩ := ((rng_ok P n).1 P.lo l1 (by omega)).mp a
  obtain ⟨b1, b2⟩ := ((rng_ok P n).2 P.hi (by omega) h1).mp b
  exact ⟨by omega, by omega, by omega⟩
theorem prev_succ (P : Par) (n : Nat) : prevO P ((n + 1 : Nat) : Int) = oAt P n := by
  unfold prevO
  rw [if_neg (by omega), show (((n + 1 : Nat)) : Int) - 1 = n by omega]
theorem restN_seen {P : Par} (ok : ParOk P) {O : ObD} {n m : Nat} (s : Seen P O n) (hm : n < m) {e u : Int} (c : Calm P n m (prevO P n)) (xt : XT O.run (some ((m : Int) - 1)) (sgn O.on) O.run.steps.length e u) : restN O e = rng P m := by
  rw [s.run, s.on] at xt
  have := nar_calm ok hm c xt
  unfold restN
  rw [s.on]
  have r1 : O.lo = (rng P n).1 := by rw [← s.r]
  have r2 : O.hi = (rng P n).2 := by rw [← s.r]
  rw [r1, r2]
  exact this
/-- a rest up to a tick -/
theorem seen_rest {P : Par} (ok : ParOk P) {O : ObD} {n m : Nat} (s : Seen P O n) (hm : n ≤ m) {e u : Int} {q1 q2 l : Addr} (c : Calm P n (m + 1) (prevO P n)) (xt : XT O.run (some (m : Int)) (sgn O.on) O.run.steps.length e u) : okR (restN O e) ∧ Seen P (O.rest m e q1 q2 l) (m + 1) := by
  have xt' : XT O.run (some (((m + 1 : Nat) : Int) - 1)) (sgn O.on) O.run.steps.length e u := by rw [show ((m + 1 : Nat) : Int) - 1 = m by omega]; exact xt
  have er := restN_seen ok s (by omega) c xt'
  refine ⟨by rw [er]; exact okR_rng ok _, s.ch, s.g, by show (m : Int) + 1 = ((m + 1 : Nat) : Int); omega, ?_, ?_, ?_⟩
  · show O.run.at_ (m + 1) = dAt P ((m + 1 : Nat) : Int)
    rw [s.run, show ((m + 1 : Nat) : Int) = (m : Int) + 1 by omega]
    exact ob_atI ok (by omega) fun v v1 v2 => (c v v1 (by omega)).2
  · show O.on = prevO P ((m + 1 : Nat) : Int)
    rw [s.on, prev_succ]
    exact (c m hm (by omega)).2.symm
  · show ((restN O e).1, (restN O e).2) = _
    rw [er]
/-- a switching in a tick -/
theorem seen_sw {P : Par} (ok : ParOk P) {O : ObD} {n m : Nat} (s : Seen P O n) (hm : n ≤ m) {e : Int} {q1 q2 l : Addr} (c : Calm P n m (prevO P n)) (hp : prevO P m = prevO P n) (hs : oAt P m = !prevO P m) (xt : (O.t ≤ (m : Int) - 1 → ∃ u, XT O.run (some ((m : Int) - 1)) (sgn O.on) O.run.steps.length e u)) :
    swOk O m e ∧ Seen P (O.sw m e q1 q2 l) (m + 1) := by
  have n1 : swN1 O m e = rng P m := by
    by_cases h : n < m
    · obtain ⟨u, xt⟩ := xt (by rw [s.t]; omega)
      rw [← restN_seen ok s h c xt]
      exact if_neg (by rw [s.t]; omega)
    · have : n = m := by omega
      subst this
      rw [← s.r]
      exact if_pos (by rw [s.t]; omega)
  have ha : O.run.at_ m = dAt P m := by
    rw [s.run]
    exact ob_atI ok (by omega) fun v v1 v2 => (c v v1 (by omega)).2
  have n2 : swN2 O (swN1 O m e) m = rng P (m + 1) := by
    unfold swN2
    rw [n1, ha, s.on]
    show _ = stepR (rng P m) (prevO P m) (oAt P m) (dAt P m)
    rw [hs, hp]
    cases prevO P n <;> rfl
  refine ⟨⟨fun h => ?_, by rw [n2]; exact okR_rng ok _⟩, s.ch, s.g, by show (m : Int) + 1 = ((m + 1 : Nat) : Int); omega, ?_, ?_, ?_⟩
  · obtain ⟨u, xt⟩ := xt h
    rw [restN_seen ok s (by rw [s.t] at h; omega) c xt]
    exact okR_rng ok _
  · show (obRun O.ch O.g m (O.run.at_ m) (!O.on)).at_ (m + 1) = dAt P ((m + 1 : Nat) : Int)
    rw [ha, s.ch, s.g, s.on, ← hp, ← hs, show ((m + 1 : Nat) : Int) = (m : Int) + 1 by omega]
    exact ob_atI ok (by omega) fun v v1 v2 => by
      have : v = m := by omega
      rw [this]
  · show (!O.on) = prevO P ((m + 1 : Nat) : Int)
    rw [prev_succ, hs, hp, s.on]
  · show ((swN2 O (swN1 O m e) m).1, (swN2 O (swN1 O m e) m).2) = _
    rw [n2]
end Wm
end

section
local macro_rules | `(tactic| walk_at "cls") => `(tactic| first | (with_reducible exact Wm.WeatherC.cl (by assumption)) | (with_reducible exact Wm.HeaterC.cl (by assumption)) | (with_reducible exact Wm.RoomC.cl (by assumption)) | (with_reducible exact Wm.RunC.cl (by assumption)) | (with_reducible exact Wm.HistoryC.cl (by assumption)) | (with_reducible exact Wm.ThresholdObserverC.cl (by assumption)) | (with_reducible exact Wm.SettingC.cl (by assumption)) | (with_reducible exact Wm.HourSettingC.cl (by assumption)) | (with_reducible exact Wm.RestSettingC.cl (by assumption)) | (with_reducible exact Wm.PricesC.cl (by assumption)) | (with_reducible exact Wm.MomentC.cl (by assumption)) | (with_reducible exact Wm.LiveRoomC.cl (by assumption)) | (with_reducible exact Wm.AttemptC.cl (by assumption)))
local macro_rules | `(tactic| walk_at "noattr") => `(tactic| first | (with_reducible exact Wm.WeatherC.n_pattern (by assumption)) | (with_reducible exact Wm.HeaterC.n_power (by assumption)) | (with_reducible exact Wm.HeaterC.n_below (by assumption)) | (with_reducible exact Wm.HeaterC.n_above (by assumption)) | (with_reducible exact Wm.RoomC.n_outside (by assumption)) | (with_reducible exact Wm.RoomC.n_inside (by assumption)) | (with_reducible exact Wm.RoomC.n_begin_degrees (by assumption)) | (with_reducible exact Wm.RoomC.n_past (by assumption)) | (with_reducible exact Wm.RoomC.n_repeated (by assumption)) | (with_reducible exact Wm.RoomC.n_share (by assumption)) | (with_reducible exact Wm.RoomC.n_coldest (by assumption)) | (with_reducible exact Wm.RoomC.n_warmest (by assumption)) | (with_reducible exact Wm.RunC.n_begin (by assumption)) | (with_reducible exact Wm.RunC.n_end (by assumption)) | (with_reducible exact Wm.RunC.n_degrees (by assumption)) | (with_reducible exact Wm.RunC.n_is_heating (by assumption)) | (with_reducible exact Wm.RunC.n_sums (by assumption)) | (with_reducible exact Wm.RunC.n_size (by assumption)) | (with_reducible exact Wm.RunC.n_drift (by assumption)) | (with_reducible exact Wm.HistoryC.n_shifts (by assumption)) | (with_reducible exact Wm.HistoryC.n_added (by assumption)) | (with_reducible exact Wm.HistoryC.n_floor (by assumption)) | (with_reducible exact Wm.HistoryC.n_ceiling (by assumption)) | (with_reducible exact Wm.HistoryC.n_was_heating (by assumption)) | (with_reducible exact Wm.HistoryC.n_runs (by assumption)) | (with_reducible exact Wm.HistoryC.n_loop (by assumption)) | (with_reducible exact Wm.ThresholdObserverC.n_outside (by assumption)) | (with_reducible exact Wm.ThresholdObserverC.n_power (by assumption)) | (with_reducible exact Wm.ThresholdObserverC.n_tick (by assumption)) | (with_reducible exact Wm.ThresholdObserverC.n_degrees (by assumption)) | (with_reducible exact Wm.ThresholdObserverC.n_is_heating (by assumption)) | (with_reducible exact Wm.ThresholdObserverC.n_lows (by assumption)) | (with_reducible exact Wm.ThresholdObserverC.n_highs (by assumption)) | (with_reducible exact Wm.ThresholdObserverC.n_noted (by assumption)) | (with_reducible exact Wm.SettingC.n_least (by assumption)) | (with_reducible exact Wm.SettingC.n_most (by assumption)) | (with_reducible exact Wm.HourSettingC.n_least (by assumption)) | (with_reducible exact Wm.HourSettingC.n_most (by assumption)) | (with_reducible exact Wm.HourSettingC.n_length (by assumption)) | (with_reducible exact Wm.HourSettingC.n_hours (by assumption)) | (with_reducible exact Wm.RestSettingC.n_least (by assumption)) | (with_reducible exact Wm.RestSettingC.n_most (by assumption)) | (with_reducible exact Wm.RestSettingC.n_rest (by assumption)) | (with_reducible exact Wm.PricesC.n_table (by assumption)) | (with_reducible exact Wm.MomentC.n_tick (by assumption)) | (with_reducible exact Wm.MomentC.n_heat (by assumption)) | (with_reducible exact Wm.MomentC.n_on (by assumption)) | (with_reducible exact Wm.MomentC.n_burnt (by assumption)) | (with_reducible exact Wm.MomentC.n_sky (by assumption)) | (with_reducible exact Wm.MomentC.n_stove (by assumption)) | (with_reducible exact Wm.LiveRoomC.n_moment (by assumption)) | (with_reducible exact Wm.LiveRoomC.n_earlier (by assumption)) | (with_reducible exact Wm.LiveRoomC.n_done (by assumption)) | (with_reducible exact Wm.AttemptC.n_live (by assumption)) | (with_reducible exact Wm.AttemptC.n_kept (by assumption)) | (with_reducible exact Wm.AttemptC.n_stack (by assumption)) | (with_reducible exact Wm.AttemptC.n_steps (by assumption)))
local macro_rules | `(tactic| walk_at "at") => `(tactic| first | assumption | exact Wm.Hold.rd (by assumption) (by assumption) | exact Wm.Hold.get (i := 0) (by assumption) rfl | exact Wm.Hold.get (i := 1) (by assumption) rfl | exact Wm.Hold.get (i := 2) (by assumption) rfl | exact Wm.Hold.get (i := 3) (by assumption) rfl | exact Wm.Hold.get (i := 4) (by assumption) rfl)
local macro_rules | `(tactic| walk_at "s1") => `(tactic| first
  | (with_reducible refine Wm.r_seq ?_)
  | (with_reducible refine Wm.r_op ?_)
  | ((with_reducible refine' Wm.r_var ?h ?_); (case h => rfl))
  | (with_reducible refine Wm.r_c ?_)
  | (with_reducible refine Wm.r_I0 ?_)
  | (with_reducible refine Wm.r_cons ?_)
  | (with_reducible refine Wm.r_nil ?_)
  | (with_reducible refine Wm.r_asg ?_)
  | (with_reducible refine Wm.r_gname ?_; try simp only [List.set_cons_zero, List.set_cons_succ])
  | (with_reducible refine Wm.r_nx ?_)
  | (with_reducible refine Wm.r_rt ?_)
  | (with_reducible refine Wm.r_ret ?_)
  | (with_reducible refine Wm.r_test ?_)
  | (with_reducible refine Wm.r_bl ?_)
  | (with_reducible refine Wm.r_B ?_)
  | (with_reducible refine Wm.r_eqI ?_)
  | (with_reducible refine Wm.r_neI ?_)
  | (with_reducible refine Wm.r_eqB ?_)
  | (with_reducible refine Wm.r_neB ?_)
  | (with_reducible refine Wm.r_fld ?_)
  | (with_reducible refine Wm.r_call ?_)
  | (with_reducible refine Wm.r_mtd ?_)
  | (with_reducible refine Wm.r_prp ?_)
  | (with_reducible refine Wm.r_mak ?_)
  | (with_reducible refine Wm.r_makKw ?_)
  | (with_reducible refine Wm.r_cb ?_)
  | (with_reducible refine Wm.r_tup ?_)
  | (with_reducible refine Wm.r_lst ?_)
  | (with_reducible refine Wm.r_chain ?_)
  | (with_reducible refine Wm.r_and ?_)
  | (with_reducible refine Wm.r_or ?_)
  | (with_reducible refine Wm.r_not ?_)
  | (with_reducible refine Wm.r_andV ?_)
  | (with_reducible refine Wm.r_orV ?_)
  | (with_reducible refine Wm.r_notV ?_)
  | (with_reducible refine Wm.r_if ?_)
  | (with_reducible refine Wm.r_un ?_)
  | (with_reducible refine Wm.r_U ?_)
  | (with_reducible refine Wm.r_iteT ?_)
  | (with_reducible refine Wm.r_iteF ?_)
  | (with_reducible refine Wm.r_next ?_)
  | (with_reducible refine Wm.r_drop ?_)
  | (with_reducible refine Wm.r_retN ?_)
  | ((with_reducible refine' Wm.r_aug ?h ?_); (case h => rfl))
  | (with_reducible refine Wm.r_ipI ?_)
  | (with_reducible refine Wm.r_par2 ?_)
  | (with_reducible refine Wm.r_two ?_; try simp only [List.set_cons_zero, List.set_cons_succ])
  | (with_reducible refine Wm.r_yes ?_)
  | (with_reducible refine Wm.r_forET ?_)
  | (with_reducible refine Wm.r_chain3 ?_)
  | (with_reducible refine Wm.r_nT ?_)
  | (with_reducible refine Wm.r_nF ?_)
  | (with_reducible refine Wm.r_par3 ?_)
  | (with_reducible refine Wm.r_seenPut ?_)
  | (with_reducible refine Wm.r_seenGet ?_)
  | (with_reducible refine Wm.r_three ?_; try simp only [List.set_cons_zero, List.set_cons_succ])
  | (with_reducible refine Wm.r_sl ?_)
  | (with_reducible refine Wm.r_nopart ?_)
  | (with_reducible refine Wm.r_part ?_)
  | (with_reducible refine Wm.r_xi ?_)
  | (with_reducible refine Wm.r_gcons ?_)
  | (with_reducible refine Wm.r_gnil ?_)
  | (with_reducible refine Wm.r_sub ?_)
  | (with_reducible refine Wm.r_setF ?_)
  | (with_reducible refine Wm.r_app ?_)
  | (with_reducible refine Wm.int_i ?_)
  | (with_reducible refine Wm.int_b ?_)
  | (with_reducible refine Wm.min2 ?_)
  | (with_reducible refine Wm.max2 ?_)
  | (with_reducible refine Wm.abs1 ?_)
  | (with_reducible refine Wm.isN ?_)
  | (with_reducible refine Wm.notN ?_)
  | ((with_reducible refine' Wm.r_ty ?e ?_); (case e => walk_at "at"))
  | ((with_reducible refine' Wm.setF_m ?h 0 ?e ?c ?a ?l ?_); (case h => assumption); (case e => rfl); (case c => walk_at "cls"); (case a => walk_at "noattr"); (case l => exact of_decide_eq_true rfl); intro H1 hh1; simp only [List.set_cons_zero, List.set_cons_succ] at hh1)
  | ((with_reducible refine' Wm.setF_m ?h 1 ?e ?c ?a ?l ?_); (case h => assumption); (case e => rfl); (case c => walk_at "cls"); (case a => walk_at "noattr"); (case l => exact of_decide_eq_true rfl); intro H1 hh1; simp only [List.set_cons_zero, List.set_cons_succ] at hh1)
  | ((with_reducible refine' Wm.setF_m ?h 2 ?e ?c ?a ?l ?_); (case h => assumption); (case e => rfl); (case c => walk_at "cls"); (case a => walk_at "noattr"); (case l => exact of_decide_eq_true rfl); intro H1 hh1; simp only [List.set_cons_zero, List.set_cons_succ] at hh1)
  | ((with_reducible refine' Wm.setF_m ?h 3 ?e ?c ?a ?l ?_); (case h => assumption); (case e => rfl); (case c => walk_at "cls"); (case a => walk_at "noattr"); (case l => exact of_decide_eq_true rfl); intro H1 hh1; simp only [List.set_cons_zero, List.set_cons_succ] at hh1)
  | (with_reducible refine Wm.r_forL ?_)
  | (with_reducible refine Wm.r_forT ?_)
  | (with_reducible refine Wm.r_forR1 ?_)
  | (with_reducible refine Wm.r_forR2 ?_)
  | (with_reducible refine Wm.r_forR3 ?_)
  | (with_reducible refine Wm.r_lcL ?_)
  | (with_reducible refine Wm.r_lcE ?_)
  | (with_reducible refine Wm.r_gfld ?_)
  | (with_reducible refine Wm.r_lcT ?_)
  | (with_reducible refine Wm.r_lcR1 ?_)
  | (with_reducible refine Wm.r_lcR2 ?_)
  | ((with_reducible refine' Wm.fld_h ?e ?c ?n ?l ?_); (case e => walk_at "at"); (case c => walk_at "cls"); (case n => walk_at "noattr"); (case l => rfl))
  | ((with_reducible refine' Wm.mtd_h ?e ?l ?_); (case e => walk_at "at"); (case l => rfl))
  | ((with_reducible refine' Wm.prp_h ?e ?_); (case e => walk_at "at"))
  | ((with_reducible refine' Wm.rix_ht ?a ?b ?_); (case a => walk_at "at"); (case b => rfl))
  | ((with_reducible refine' Wm.rix_h ?a ?b ?_); (case a => walk_at "at"); (case b => rfl))
  | ((with_reducible refine' Wm.len_ht ?a ?_); (case a => walk_at "at"))
  | ((with_reducible refine' Wm.len_h ?a ?_); (case a => walk_at "at"))
  | ((with_reducible refine' Wm.len_l ?a ?b ?_); (case a => assumption); (case b => assumption))
  | ((with_reducible refine' Wm.len_t ?a ?b ?_); (case a => assumption); (case b => assumption))
  | ((with_reducible refine' Wm.gtup_h ?a ?b ?_); (case a => walk_at "at"); (case b => rfl))
  | (with_reducible refine Wm.r_I (Wm.cmulR (by decide)) ?_)
  | (with_reducible refine Wm.r_I (Wm.cmulL (by decide)) ?_)
  | (with_reducible refine Wm.r_I (Wm.cdiv (by decide) (by decide)) ?_)
  | (with_reducible refine Wm.r_I Wm.cpow18 ?_)
  | (with_reducible refine Wm.r_I Wm.cpow12 ?_)
  | (with_reducible refine Wm.r_I (by show (0 : Int) < _; decide) ?_))
local macro_rules | `(tactic| walk_at "s") => `(tactic| repeat (first | walk_at "s1" | (with_reducible refine Wm.r_ifS ?_)))
local macro_rules | `(tactic| walk_at "t") => `(tactic| repeat (walk_at "s1"))
local macro_rules | `(tactic| walk_at "sz") => `(tactic| exact of_decide_eq_true rfl)
local macro_rules | `(tactic| walk_at "d") => `(tactic| first | (with_reducible refine Wm.r_dT (by omega) ?_) | (with_reducible refine Wm.r_dF (by omega) ?_) | (with_reducible refine Wm.r_dN (by omega) ?_) | (with_reducible refine Wm.r_dM (by omega) ?_))
local macro_rules | `(tactic| walk_at "sd") => `(tactic| repeat (first | walk_at "s1" | (with_reducible refine Wm.r_ifS ?_) | walk_at "d"))
local macro_rules | `(tactic| walk_at "ex") => `(tactic| first
  | assumption
  | exact Wm.Ex.refl _
  | (refine Wm.Ex.trans ?_ (by assumption); walk_at "ex")
  | (refine Wm.Ex.trans ?_ (Wm.Hold.ex (by assumption)); walk_at "ex"))
local macro_rules | `(tactic| walk_at "room") => `(tactic| first
  | assumption
  | (refine' Wm.IsRoom.up ?e ?h; (case h => assumption); (case e => walk_at "ex")))
local macro_rules | `(tactic| walk_at "opt") => `(tactic| first
  | assumption
  | (refine' Wm.OptAt.up ?e ?h; (case h => assumption); (case e => walk_at "ex")))
local macro_rules | `(tactic| walk_at "lst") => `(tactic| first
  | assumption
  | (refine' Wm.Lst.at_ ?h ?e; (case h => assumption); (case e => walk_at "ex"))
  | exact Wm.Hold.get (i := 0) (by assumption) rfl | exact Wm.Hold.get (i := 1) (by assumption) rfl | exact Wm.Hold.get (i := 2) (by assumption) rfl | exact Wm.Hold.get (i := 3) (by assumption) rfl | exact Wm.Hold.get (i := 4) (by assumption) rfl)
local macro_rules | `(tactic| walk_at "tup") => `(tactic| first
  | assumption
  | (refine' Wm.Tup.at_ ?h ?e; (case h => assumption); (case e => walk_at "ex")))
local macro_rules | `(tactic| walk_at "p1") => `(tactic| first
  | (with_reducible refine Wm.r_p18 ?_) | (with_reducible refine Wm.r_p12 ?_) | (with_reducible refine Wm.r_p17 ?_) | (with_reducible refine Wm.r_p15 ?_) | (with_reducible refine Wm.r_p11 ?_) | (with_reducible refine Wm.r_p6 ?_) | (with_reducible refine Wm.r_p5 ?_) | (with_reducible refine Wm.r_p4 ?_) | (with_reducible refine Wm.r_p9 ?_) | (with_reducible refine Wm.r_p13 ?_) | (with_reducible refine Wm.r_p20 ?_) | (with_reducible refine Wm.r_p30 ?_) | (with_reducible refine Wm.r_p16 ?_))
local macro_rules | `(tactic| walk_at "w2") => `(tactic| first
  | ((with_reducible refine' Wm.r_wp ?h ?_); (case h => rfl))
  | ((with_reducible refine' Wm.ap_mtd ?ir ?hl ?_); (case ir => walk_at "room"); (case hl => intros; rfl))
  | ((with_reducible refine' Wm.ap_prp ?ir ?_); (case ir => walk_at "room"))
  | ((with_reducible refine' Wm.ap_temp ?hh ?ir ?t0 ?t1 ?_); (case hh => assumption); (case ir => walk_at "room"); (case t0 => omega); (case t1 => omega); intro H1 hh1)
  | ((with_reducible refine' Wm.ap_on ?hh ?ir ?t0 ?t1 ?_); (case hh => assumption); (case ir => walk_at "room"); (case t0 => omega); (case t1 => omega); intro H1 hh1)
  | ((with_reducible refine' Wm.ap_heats ?hh ?ir ?t0 ?t1 ?_); (case hh => assumption); (case ir => walk_at "room"); (case t0 => omega); (case t1 => omega); intro H1 hh1)
  | ((with_reducible refine' Wm.ap_sws ?hh ?ir ?t0 ?t1 ?_); (case hh => assumption); (case ir => walk_at "room"); (case t0 => omega); (case t1 => omega); intro H1 hh1)
  | ((with_reducible refine' Wm.rix_ht ?a ?b ?_); (case a => walk_at "tup"); (case b => rfl))
  | ((with_reducible refine' Wm.rix_h ?a ?b ?_); (case a => walk_at "lst"); (case b => rfl))
  | ((with_reducible refine' Wm.len_ht ?a ?_); (case a => walk_at "tup"))
  | ((with_reducible refine' Wm.len_h ?a ?_); (case a => walk_at "lst"))
  | ((with_reducible refine' Wm.gtup_h ?a ?b ?_); (case a => walk_at "tup"); (case b => rfl))
  | ((with_reducible refine' Wm.r_I (Wm.cmulL ?h) ?_); (case h => omega))
  | ((with_reducible refine' Wm.r_I (Wm.cmulR ?h) ?_); (case h => omega))
  | ((with_reducible refine' Wm.r_I (Wm.cdiv ?h ?h2) ?_); (case h => omega); (case h2 => omega))
  | ((with_reducible refine' Wm.r_mod ?h ?_); (case h => omega))
  | ((with_reducible refine' Wm.tup_N ?hP ?hh ?_); (case hP => walk_at "sz"); (case hh => assumption); intro p G1 H1 ex1 tp hh1))
local macro_rules | `(tactic| walk_at "w1") => `(tactic| first | walk_at "p1" | walk_at "s1" | walk_at "w2")
local macro_rules | `(tactic| walk_at "w") => `(tactic| repeat (first | walk_at "w1" | (with_reducible refine Wm.r_ifS ?_)))
local macro_rules | `(tactic| walk_at "wl") => `(tactic| ((with_reducible refine' Wm.lst_N ?hP ?hh ?_); (case hP => walk_at "sz"); (case hh => assumption); intro p G1 H1 ex1 tp hh1))
local macro_rules | `(tactic| walk_at "wd") => `(tactic| repeat (first | walk_at "w1" | (with_reducible refine Wm.r_ifS ?_) | walk_at "d" | walk_at "wl"))
local macro_rules | `(tactic| walk_at "v") => `(tactic| repeat (walk_at "w1"))
namespace Wm
open PySem PySem.Spec PyProof.Rows L2 StX
/-! ## The law's helpers -/
def stL (P : Par) (n : Nat) : List V := V.bl P.was :: bls P n
def sp_law_agrees (K : PySem.W.Frag) (A : Ads) : Sp := fun vs H Q _ => ∃ (t se ld : Addr) (n : Nat) (P : Par) (tl : List Int) (G : Hp) (mu : Mu), vs = [.ref t, .ref se, .ref ld, .int ((n : Int) - 1)] ∧ Hold G mu H ∧ Tup G t (P.ch.map V.int) ∧ Tup G se [.int P.gain, .int P.lo, .int P.hi, .int P.start, .bl P.was] ∧ ParOk P ∧ n ≤ 1000 ∧ Lst G ld (tl.map V.int) ∧
  ∀ G' H', Ex G G' → Hold G' mu H' → Q (.bl (decide (swL P n = tl))) H'
def rgV (r : Int × Int) : List V := [.int r.1, .int r.2]
def sp_law_ranges (K : PySem.W.Frag) (A : Ads) : Sp := fun vs H Q _ => ∃ (ld ls : Addr) (n m : Nat) (P : Par) (G : Hp) (mu : Mu), vs = [.ref ld, .ref ls, .int (n : Int)] ∧ Hold G mu H ∧ Lst G ld (dgs P m) ∧ Lst G ls (stL P m) ∧ n ≤ m ∧ m ≤ 1000 ∧
  ∀ q p1 p2 G' H', Ex G G' → Lst G' q [.ref p1, .ref p2] → Tup G' p1 (rgV (rng P n).1) → Tup G' p2 (rgV (rng P n).2) → Hold G' mu H' → Q (.ref q) H'
def sp_law_ends_right (K : PySem.W.Frag) (A : Ads) : Sp := fun vs H Q _ => ∃ (t se ld pl ph : Addr) (n : Nat) (P : Par) (G : Hp) (mu : Mu), vs = [.ref t, .ref se, .ref ld, .int ((n : Int) - 1), .ref pl, .ref ph] ∧ Hold G mu H ∧ Tup G t (P.ch.map V.int) ∧ Tup G se [.int P.gain, .int P.lo, .int P.hi, .int P.start, .bl P.was] ∧ ParOk P ∧ n ≤ 1000 ∧ Lst G ld ((swL P n).map V.int) ∧ Tup G pl (rgV (rng P n).1) ∧ Tup G ph (rgV (rng P n).2) ∧
  ∀ G' H', Ex G G' → Hold G' mu H' → Q (.bl true) H'
def t_law_agrees (K : PySem.W.Frag) (A : Ads) : TS := tSeq (tAsg (tOp rCat (tLst (tCons (tOp (rIx K) (tVar 1) (tC (.int 4))) (tNil))) (tOp (rIx K) (tCal (sp_law_told K A) E0 (tCons (tVar 0) (tCons (tVar 1) (tCons (tOp (rI0 fun i j => .int (i + j)) (tVar 3) (tC (.int 1))) (tNil))))) (tC (.int 1)))) (gName 4)) (tRet (tOp (rEqD K) (tLc (iRng1 (tCons (tOp (rI0 fun i j => .int (i + j)) (tVar 3) (tC (.int 1))) (tNil))) (gName 5) (tTest (tOp rNe (tOp (rIx K) (tVar 4) (tVar 5)) (tOp (rIx K) (tVar 4) (tOp (rI0 fun i j => .int (i + j)) (tVar 5) (tC (.int 1)))))) (tVar 5) [5]) (tVar 2)))
def t_law_ranges (K : PySem.W.Frag) (A : Ads) : TS := tSeq (tAsg (tTup (tCons (tUn (rU fun i => .int (-i)) (tOp (rI CPow fun i j => .int (i ^ j.toNat)) (tC (.int 10)) (tC (.int 12)))) (tCons (tOp (rI CPow fun i j => .int (i ^ j.toNat)) (tC (.int 10)) (tC (.int 12))) (tCons (tUn (rU fun i => .int (-i)) (tOp (rI CPow fun i j => .int (i ^ j.toNat)) (tC (.int 10)) (tC (.int 12)))) (tCons (tOp (rI CPow fun i j => .int (i ^ j.toNat)) (tC (.int 10)) (tC (.int 12))) (tNil)))))) (gTup K 4 (gCons (gName 3) (gCons (gName 4) (gCons (gName 5) (gCons (gName 6) (gNil))))))) (tSeq (tFor (iRng1 (tCons (tVar 2) (tNil))) (gName 7) (tIfS (tAnd (tB (tOp (rIx K) (tVar 1) (tVar 7))) (tB (tOp (rIx K) (tVar 1) (tOp (rI0 fun i j => .int (i + j)) (tVar 7) (tC (.int 1)))))) (tAsg (tCB rMax2 (tCons (tVar 5) (tCons (tOp (rIx K) (tVar 0) (tVar 7)) (tNil)))) (gName 5)) (tIfS (tB (tOp (rIx K) (tVar 1) (tVar 7))) (tAsg (tCB rMin2 (tCons (tVar 6) (tCons (tOp (rI0 fun i j => .int (i - j)) (tOp (rIx K) (tVar 0) (tVar 7)) (tC (.int 1))) (tNil)))) (gName 6)) (tIfS (tB (tOp (rIx K) (tVar 1) (tOp (rI0 fun i j => .int (i + j)) (tVar 7) (tC (.int 1))))) (tAsg (tCB rMax2 (tCons (tVar 3) (tCons (tOp (rI0 fun i j => .int (i + j)) (tOp (rIx K) (tVar 0) (tVar 7)) (tC (.int 1))) (tNil)))) (gName 3)) (tAsg (tCB rMin2 (tCons (tVar 4) (tCons (tOp (rIx K) (tVar 0) (tVar 7)) (tNil)))) (gName 4)))))) (tRet (tLst (tCons (tTup (tCons (tVar 3) (tCons (tVar 4) (tNil)))) (tCons (tTup (tCons (tVar 5) (tCons (tVar 6) (tNil)))) (tNil))))))
def t_law_ends_right_c1 (K : PySem.W.Frag) (A : Ads) : TS := tIfS (tAnd (tTest (tOp (rI0 fun i j => .bl (decide (i < j))) (tCB rAbs (tCons (tVar 11) (tNil))) (tOp (rI CPow fun i j => .int (i ^ j.toNat)) (tC (.int 10)) (tC (.int 12))))) (tTest (tOp (rI0 fun i j => .bl (decide (i ≤ j))) (tVar 11) (tVar 8)))) (tIfS (tTest (tOp rNe (tCal (sp_law_agrees K A) E0 (tCons (tVar 0) (tCons (tTup (tCons (tVar 6) (tCons (tVar 11) (tCons (tVar 8) (tCons (tVar 9) (tCons (tVar 10) (tNil))))))) (tCons (tVar 2) (tCons (tVar 3) (tNil)))))) (tVar 12))) (tRet (tC (.bl false))) (tNext)) (tNext)
def t_law_ends_right_c2 (K : PySem.W.Frag) (A : Ads) : TS := tIfS (tAnd (tTest (tOp (rI0 fun i j => .bl (decide (i < j))) (tCB rAbs (tCons (tVar 11) (tNil))) (tOp (rI CPow fun i j => .int (i ^ j.toNat)) (tC (.int 10)) (tC (.int 12))))) (tTest (tOp (rI0 fun i j => .bl (decide (j ≤ i))) (tVar 11) (tVar 7)))) (tIfS (tTest (tOp rNe (tCal (sp_law_agrees K A) E0 (tCons (tVar 0) (tCons (tTup (tCons (tVar 6) (tCons (tVar 7) (tCons (tVar 11) (tCons (tVar 9) (tCons (tVar 10) (tNil))))))) (tCons (tVar 2) (tCons (tVar 3) (tNil)))))) (tVar 12))) (tRet (tC (.bl false))) (tNext)) (tNext)
def t_law_ends_right (K : PySem.W.Frag) (A : Ads) : TS := tSeq (tAsg (tVar 1) (gTup K 5 (gCons (gName 6) (gCons (gName 7) (gCons (gName 8) (gCons (gName 9) (gCons (gName 10) (gNil)))))))) (tSeq (tFor (iTup K (tTup (tCons (tTup (tCons (tOp (rIx K) (tVar 4) (tC (.int 0))) (tCons (tC (.bl true)) (tNil)))) (tCons (tTup (tCons (tOp (rIx K) (tVar 4) (tC (.int 1))) (tCons (tC (.bl true)) (tNil)))) (tCons (tTup (tCons (tOp (rI0 fun i j => .int (i - j)) (tOp (rIx K) (tVar 4) (tC (.int 0))) (tC (.int 1))) (tCons (tC (.bl false)) (tNil)))) (tCons (tTup (tCons (tOp (rI0 fun i j => .int (i + j)) (tOp (rIx K) (tVar 4) (tC (.int 1))) (tC (.int 1))) (tCons (tC (.bl false)) (tNil)))) (tNil))))))) (gTup K 2 (gCons (gName 11) (gCons (gName 12) (gNil)))) (t_law_ends_right_c1 K A)) (tSeq (tFor (iTup K (tTup (tCons (tTup (tCons (tOp (rIx K) (tVar 5) (tC (.int 0))) (tCons (tC (.bl true)) (tNil)))) (tCons (tTup (tCons (tOp (rIx K) (tVar 5) (tC (.int 1))) (tCons (tC (.bl true)) (tNil)))) (tCons (tTup (tCons (tOp (rI0 fun i j => .int (i - j)) (tOp (rIx K) (tVar 5) (tC (.int 0))) (tC (.int 1))) (tCons (tC (.bl false)) (tNil)))) (tCons (tTup (tCons (tOp (rI0 fun i j => .int (i + j)) (tOp (rIx K) (tVar 5) (tC (.int 1))) (tC (.int 1))) (tCons (tC (.bl false)) (tNil)))) (tNil))))))) (gTup K 2 (gCons (gName 11) (gCons (gName 12) (gNil)))) (t_law_ends_right_c2 K A)) (tRet (tC (.bl true)))))
section
variable {K : PySem.W.Frag} {A : Ads}
theorem bls_get {P : Par} {n u : Nat} (h : u < n) : (bls P n)[u]? = some (.bl (oAt P u)) := by
  unfold bls
  rw [List.getElem?_map, List.getElem?_range h]
  rfl
theorem bls_len (P : Par) (n : Nat) : (bls P n).length = n := by unfold bls; rw [List.length_map, List.length_range]
theorem dgs_get {P : Par} {n u : Nat} (h : u < n) : (dgs P n)[u]? = some (.int (dAt P u)) := by
  unfold dgs
  rw [List.getElem?_map, List.getElem?_map, List.getElem?_range h]
  rfl
theorem prev_zero (P : Par) : prevO P ((0 : Nat) : Int) = P.was := by
  unfold prevO
  rw [if_pos (by decide)]
theorem stL_get {P : Par} {n u : Nat} (h : u ≤ n) : (stL P n)[u]? = some (.bl (prevO P u)) := by
  unfold stL
  cases u with
  | zero => rw [prev_zero]; rfl
  | succ u => rw [prev_succ]; exact bls_get (by omega)
theorem stL_at {P : Par} {n : Nat} {u : Int} (h0 : 0 ≤ u) (h : u ≤ n) : atI (stL P n) u = some (.bl (prevO P u)) := by
  refine atI_of h0 ?_
  rw [stL_get (u := u.toNat) (by omega), Int.toNat_of_nonneg h0]
theorem prev_next (P : Par) {u : Int} (h : 0 ≤ u) : prevO P (u + 1) = oAt P u := by
  have := prev_succ P u.toNat
  rwa [show ((u.toNat + 1 : Nat) : Int) = u + 1 by omega, Int.toNat_of_nonneg h] at this
theorem pure_law_agrees (vs : List V) (H : Hp) (Q : VK) (E : XK) (h : sp_law_agrees K A vs H Q E) : t_law_agrees K A { nx := fun _ H' => Q .non H', rt := Q } (start ["_law_changes_here", "_law_setting_here", "_law_told_here", "_law_last", "_law_states", "_law_tick"] vs) H := by
  obtain ⟨t, se, ld, n, P, tl, G, mu, rfl, hh, ht, hse, ok, hn, hl, k⟩ := h
  show t_law_agrees K A _ [some (.ref t), some (.ref se), some (.ref ld), some (.int ((n : Int) - 1)), none, none] H
  unfold t_law_agrees
  walk_at "w"
  walk_at "wl"
  rename_i q1 G1 H1 ex1 hq1 hh1
  walk_at "w"
  refine ⟨t, se, (n : Int) - 1 + 1, P, G1, _, rfl, hh1, ht.up ex1, hse.up ex1, ok, by omega, by omega, fun q l1 l2 G2 H2 ex2 hq h1 h2 hh2 => ?_⟩
  have e1 : ((n : Int) - 1 + 1).toNat = n := by omega
  rw [e1] at h1 h2
  have hq : Tup G2 q [.ref l1, .ref l2] := hq
  walk_at "w"
  refine cat_N hh2 ((hq1.up ex2).at_ hh2.ex) (hh2.ex _ _ h2) (by rw [bls_len]; show 1 + n ≤ _; omega) fun r G3 H3 ex3 hr hh3 => ?_
  have hr : Lst G3 r (stL P n) := hr
  walk_at "w"
  refine lcR1_fil (swB P) V.int hh3 (by omega) (by omega) (fun z z0 z1 D acc G4 H4 LY LN ex4 hh4 hY hN => ?_) fun D G4 H4 ex4 hD hh4 => ?_
  · walk_at "w"
    refine rix_h ((hr.up ex4).at_ hh4.ex) (stL_at z0 (by omega)) ?_
    walk_at "w"
    refine rix_h ((hr.up ex4).at_ hh4.ex) (stL_at (by omega) (by omega)) ?_
    rw [prev_next P z0]
    walk_at "w"
    show if swB P z = true then _ else _
    cases hs : swB P z with
    | true =>
      rw [if_pos rfl]
      walk_at "w"
      exact hY _ _ _ hs rfl (Ex.refl _) hh4
    | false =>
      rw [if_neg Bool.false_ne_true]
      exact hN _ _ hs (Ex.refl _) hh4
  · rw [e1] at hD
    have hD : Lst G4 D ((swL P n).map V.int) := hD
    walk_at "w"
    refine eqI (SqL.of (hD.at_ hh4.ex)) (SqL.of ((hl.up (ex1.trans (ex2.trans (ex3.trans ex4)))).at_ hh4.ex)) ?_
    exact k G4 H4 (ex1.trans (ex2.trans (ex3.trans ex4))) hh4
theorem pure_law_ranges (vs : List V) (H : Hp) (Q : VK) (E : XK) (h : sp_law_ranges K A vs H Q E) : t_law_ranges K A { nx := fun _ H' => Q .non H', rt := Q } (start ["_law_degrees", "_law_states", "_law_seen", "_law_low", "_law_low_end", "_law_high", "_law_high_end", "_law_tick"] vs) H := by
  obtain ⟨ld, ls, n, m, P, G, mu, rfl, hh, hd, hs, hn, hm, k⟩ := h
  show t_law_ranges K A _ [some (.ref ld), some (.ref ls), some (.int (n : Int)), none, none, none, none, none] H
  unfold t_law_ranges
  walk_at "w"
  rename_i q1 G1 H1 ex1 hq1 hh1
  refine forR1_by (by omega) (by omega) (fun i σ H' => ∃ (v7 : Option V) , σ = [some (.ref ld), some (.ref ls), some (.int (n : Int)), some (.int (rng P i).1.1), some (.int (rng P i).1.2), some (.int (rng P i).2.1), some (.int (rng P i).2.2), v7] ∧ Hold G1 mu H') ⟨_, rfl, hh1⟩ ?_ ?_
  · rintro i σ H2 hi ⟨v7, rfl, hh2⟩
    have gd : atI (dgs P m) (i : Int) = some (.int (dAt P i)) := atI_of (by omega) (by rw [Int.toNat_natCast]; exact dgs_get (by omega))
    have gs : atI (stL P m) (i : Int) = some (.bl (prevO P i)) := stL_at (by omega) (by omega)
    have gs1 : atI (stL P m) ((i : Int) + 1) = some (.bl (oAt P i)) := by rw [← prev_next P (by omega)]; exact stL_at (by omega) (by omega)
    have ls' := (hs.up ex1).at_ hh2.ex
    have ld' := (hd.up ex1).at_ hh2.ex
    have er : rng P (i + 1) = stepR (rng P i) (prevO P i) (oAt P i) (dAt P i) := rfl
    walk_at "w"
    refine rix_h ls' gs ?_
    cases hp : prevO P i <;> cases ho : oAt P i <;> rw [hp, ho] at er <;> rw [hp] at gs <;> rw [ho] at gs1
    · walk_at "w"
      refine rix_h ls' gs ?_
      walk_at "w"
      refine rix_h ls' gs1 ?_
      walk_at "w"
      refine rix_h ld' gd ?_
      walk_at "w"
      refine ⟨some (.int (i : Int)), ?_, hh2⟩
      rw [er]
      rfl
    · walk_at "w"
      refine rix_h ls' gs ?_
      walk_at "w"
      refine rix_h ls' gs1 ?_
      walk_at "w"
      refine rix_h ld' gd ?_
      walk_at "w"
      refine ⟨some (.int (i : Int)), ?_, hh2⟩
      rw [er]
      rfl
    · walk_at "w"
      refine rix_h ls' gs1 ?_
      walk_at "w"
      refine rix_h ls' gs ?_
      walk_at "w"
      refine rix_h ld' gd ?_
      walk_at "w"
      refine ⟨some (.int (i : Int)), ?_, hh2⟩
      rw [er]
      rfl
    · walk_at "w"
      refine rix_h ls' gs1 ?_
      walk_at "w"
      refine rix_h ld' gd ?_
      walk_at "w"
      refine ⟨some (.int (i : Int)), ?_, hh2⟩
      rw [er]
      rfl
  · rintro σ H2 ⟨v7, rfl, hh2⟩
    rw [Int.toNat_natCast]
    walk_at "w"
    rename_i q3 G3 H3 ex3 hq3 hh3 q4 G4 H4 ex4 hq4 hh4
    walk_at "wl"
    rename_i q5 G5 H5 ex5 hq5 hh5
    exact k q5 q3 q4 G5 H5 (ex1.trans (ex3.trans (ex4.trans ex5))) hq5 (hq3.up (ex4.trans ex5)) (hq4.up ex5) hh5
/-- an end of a range, and whether it agrees -/
def EndOk (P : Par) (n : Nat) (low : Bool) (b : Int) (g : Bool) : Prop := -(10 ^ 12) ≤ b → b ≤ 10 ^ 12 → ((if low = true then Lok P b n else Hok P b n) ↔ g = true)
theorem ends_low (P : Par) (ok : ParOk P) (n : Nat) : EndOk P n true (rng P n).1.1 true ∧ EndOk P n true (rng P n).1.2 true ∧ EndOk P n true ((rng P n).1.1 - 1) false ∧ EndOk P n true ((rng P n).1.2 + 1) false := by
  have r := (okR_rng ok n).1
  refine ⟨fun a b => ?_, fun a b => ?_, fun a b => ?_, fun a b => ?_⟩ <;> rw [if_pos rfl, (rng_ok P n).1 _ a b] <;> simp <;> omega
theorem ends_high (P : Par) (ok : ParOk P) (n : Nat) : EndOk P n false (rng P n).2.1 true ∧ EndOk P n false (rng P n).2.2 true ∧ EndOk P n false ((rng P n).2.1 - 1) false ∧ EndOk P n false ((rng P n).2.2 + 1) false := by
  have r := (okR_rng ok n).2.1
  refine ⟨fun a b => ?_, fun a b => ?_, fun a b => ?_, fun a b => ?_⟩ <;> rw [if_neg Bool.false_ne_true, (rng_ok P n).2 _ a b] <;> simp <;> omega
theorem agree_low {P : Par} {n : Nat} {b : Int} {g : Bool} (ok : ParOk P) (h : EndOk P n true b g) (b0 : -(10 ^ 12) ≤ b) (b1 : b ≤ P.hi) : decide (swL (withT P b P.hi) n = swL P n) = g := by
  have h := h b0 (by have := ok.hi1; omega)
  rw [if_pos rfl] at h
  have e := swL_eq (P := P) (l := b) (h := P.hi) b1 n
  have own := (own_ok ok.lh n).2
  cases g with
  | true => exact decide_eq_true (e.mpr ⟨h.mpr rfl, own⟩)
  | false => exact decide_eq_false fun z => by have := h.mp (e.mp z).1; cases this
theorem agree_high {P : Par} {n : Nat} {b : Int} {g : Bool} (ok : ParOk P) (h : EndOk P n false b g) (b0 : b ≤ 10 ^ 12) (b1 : P.lo ≤ b) : decide (swL (withT P P.lo b) n = swL P n) = g := by
  have h := h (by have := ok.lo1; omega) b0
  rw [if_neg Bool.false_ne_true] at h
  have e := swL_eq (P := P) (l := P.lo) (h := b) b1 n
  have own := (own_ok ok.lh n).1
  cases g with
  | true => exact decide_eq_true (e.mpr ⟨own, h.mpr rfl⟩)
  | false => exact decide_eq_false fun z => by have := h.mp (e.mp z).2; cases this
theorem parOk_T {P : Par} (ok : ParOk P) {l h : Int} (l1 : -(10 ^ 12) ≤ l) (lh : l ≤ h) (h1 : h ≤ 10 ^ 12) : ParOk (withT P l h) := ⟨ok.pos, ok.len, ok.chB, ok.g1, ok.g2, lh, l1, h1, ok.s1, ok.s2⟩
section
variable {G H : Hp} {mu : Mu} {t se ld pl ph q : Addr} {n : Nat} {P : Par} {nx bk ct : L2.St → Hp → Prop} {rt : VK} {v11 v12 : Option V} {b : Int} {g : Bool}
def slE (t se ld : Addr) (n : Nat) (pl ph : Addr) (P : Par) (v11 v12 : Option V) : L2.St := [some (.ref t), some (.ref se), some (.ref ld), some (.int ((n : Int) - 1)), some (.ref pl), some (.ref ph), some (.int P.gain), some (.int P.lo), some (.int P.hi), some (.int P.start), some (.bl P.was), v11, v12]
theorem ends_low_turn (ok : ParOk P) (hn : n ≤ 1000) (hh : Hold G mu H) (ht : Tup G t (P.ch.map V.int)) (hl : Lst G ld ((swL P n).map V.int)) (he : EndOk P n true b g) (kk : ∀ H', Hold G mu H' → nx (slE t se ld n pl ph P (some (.int b)) (some (.bl g))) H') :
    t_law_ends_right_c1 K A ⟨nx, rt, bk, ct⟩ (slE t se ld n pl ph P (some (.int b)) (some (.bl g))) H := by
  unfold t_law_ends_right_c1 slE
  walk_at "w"
  by_cases c1 : (if b < 0 then -b else b) < 10 ^ 12
  · rw [if_pos (decide_eq_true c1)]
    have cb : -(10 ^ 12) < b ∧ b < 10 ^ 12 := by split at c1 <;> omega
    walk_at "w"
    by_cases c2 : b ≤ P.hi
    · rw [if_pos (decide_eq_true c2)]
      walk_at "w"
      rename_i q1 G1 H1 ex1 hq1 hh1
      refine ⟨t, q1, ld, n, withT P b P.hi, swL P n, G1, mu, rfl, hh1, ht.up ex1, hq1, parOk_T ok (by omega) c2 ok.hi1, hn, hl.up ex1, fun G2 H2 ex2 hh2 => ?_⟩
      rw [agree_low ok he (by omega) c2]
      walk_at "w"
      rw [show (g != g) = false by cases g <;> rfl]
      walk_at "w"
      exact kk H2 (hh2.weak (ex1.trans ex2))
    · rw [if_neg (fun z => c2 (of_decide_eq_true z))]
      walk_at "w"
      exact kk H hh
  · rw [if_neg (fun z => c1 (of_decide_eq_true z))]
    walk_at "w"
    exact kk H hh
theorem ends_high_turn (ok : ParOk P) (hn : n ≤ 1000) (hh : Hold G mu H) (ht : Tup G t (P.ch.map V.int)) (hl : Lst G ld ((swL P n).map V.int)) (he : EndOk P n false b g) (kk : ∀ H', Hold G mu H' → nx (slE t se ld n pl ph P (some (.int b)) (some (.bl g))) H') :
    t_law_ends_right_c2 K A ⟨nx, rt, bk, ct⟩ (slE t se ld n pl ph P (some (.int b)) (some (.bl g))) H := by
  unfold t_law_ends_right_c2 slE
  walk_at "w"
  by_cases c1 : (if b < 0 then -b else b) < 10 ^ 12
  · rw [if_pos (decide_eq_true c1)]
    have cb : -(10 ^ 12) < b ∧ b < 10 ^ 12 := by split at c1 <;> omega
    walk_at "w"
    by_cases c2 : P.lo ≤ b
    · rw [if_pos (decide_eq_true c2)]
      walk_at "w"
      rename_i q1 G1 H1 ex1 hq1 hh1
      refine ⟨t, q1, ld, n, withT P P.lo b, swL P n, G1, mu, rfl, hh1, ht.up ex1, hq1, parOk_T ok ok.lo1 c2 (by omega), hn, hl.up ex1, fun G2 H2 ex2 hh2 => ?_⟩
      rw [agree_high ok he (by omega) c2]
      walk_at "w"
      rw [show (g != g) = false by cases g <;> rfl]
      walk_at "w"
      exact kk H2 (hh2.weak (ex1.trans ex2))
    · rw [if_neg (fun z => c2 (of_decide_eq_true z))]
      walk_at "w"
      exact kk H hh
  · rw [if_neg (fun z => c1 (of_decide_eq_true z))]
    walk_at "w"
    exact kk H hh
end
theorem pure_law_ends_right (vs : List V) (H : Hp) (Q : VK) (E : XK) (h : sp_law_ends_right K A vs H Q E) : t_law_ends_right K A { nx := fun _ H' => Q .non H', rt := Q } (start ["_law_changes_here", "_law_setting_here", "_law_told_here", "_law_last", "_law_lows", "_law_highs", "_law_gain", "_law_low", "_law_high", "_law_start", "_law_heating", "_law_bound", "_law_good"] vs) H := by
  obtain ⟨t, se, ld, pl, ph, n, P, G, mu, rfl, hh, ht, hse, ok, hn, hl, hpl, hph, k⟩ := h
  show t_law_ends_right K A _ [some (.ref t), some (.ref se), some (.ref ld), some (.int ((n : Int) - 1)), some (.ref pl), some (.ref ph), none, none, none, none, none, none, none] H
  unfold t_law_ends_right
  unfold rgV at hpl hph
  obtain ⟨e1, e2, e3, e4⟩ := ends_low P ok n
  obtain ⟨f1, f2, f3, f4⟩ := ends_high P ok n
  walk_at "w"
  rename_i p1 G1 H1 ex1 tp1 hh1 p2 G2 H2 ex2 tp2 hh2 p3 G3 H3 ex3 tp3 hh3 p4 G4 H4 ex4 tp4 hh4 p5 G5 H5 ex5 tp5 hh5
  have exA : Ex G G5 := ex1.trans (ex2.trans (ex3.trans (ex4.trans ex5)))
  have items : ∀ x ∈ [V.ref p1, .ref p2, .ref p3, .ref p4], ∃ q b g, x = .ref q ∧ Tup G5 q [.int b, .bl g] ∧ EndOk P n true b g := fun x hx => by
    simp only [List.mem_cons, List.not_mem_nil, or_false] at hx
    rcases hx with rfl | rfl | rfl | rfl
    · exact ⟨p1, _, _, rfl, tp1.up (ex2.trans (ex3.trans (ex4.trans ex5))), e1⟩
    · exact ⟨p2, _, _, rfl, tp2.up (ex3.trans (ex4.trans ex5)), e2⟩
    · exact ⟨p3, _, _, rfl, tp3.up (ex4.trans ex5), e3⟩
    · exact ⟨p4, _, _, rfl, tp4.up ex5, e4⟩
  refine forT_I (xs := [V.ref p1, .ref p2, .ref p3, .ref p4]) (fun σ H' => ∃ v11 v12, σ = slE t se ld n pl ph P v11 v12 ∧ Hold G5 mu H') (fun σ H' ⟨_, _, _, h⟩ => tp5.at_ h.ex) ⟨_, _, rfl, hh5⟩ (fun x σ H' hx i => ?_) (fun σ H' i => ?_)
  · obtain ⟨v11, v12, rfl, hh'⟩ := i
    obtain ⟨q, b, g, rfl, hq, he⟩ := items x hx
    refine gtup_h (hq.at_ hh'.ex) rfl ?_
    unfold slE
    walk_at "w"
    exact ends_low_turn ok hn hh' (ht.up exA) (hl.up exA) he fun H6 hh6 => ⟨_, _, rfl, hh6⟩
  obtain ⟨v11, v12, rfl, hh'⟩ := i
  unfold slE
  have hph5 := hph.up exA
  walk_at "w"
  rename_i r1 K1 J1 ey1 up1 kk1 r2 K2 J2 ey2 up2 kk2 r3 K3 J3 ey3 up3 kk3 r4 K4 J4 ey4 up4 kk4 r5 K5 J5 ey5 up5 kk5
  have exB : Ex G5 K5 := ey1.trans (ey2.trans (ey3.trans (ey4.trans ey5)))
  have items2 : ∀ x ∈ [V.ref r1, .ref r2, .ref r3, .ref r4], ∃ q b g, x = .ref q ∧ Tup K5 q [.int b, .bl g] ∧ EndOk P n false b g := fun x hx => by
    simp only [List.mem_cons, List.not_mem_nil, or_false] at hx
    rcases hx with rfl | rfl | rfl | rfl
    · exact ⟨r1, _, _, rfl, up1.up (ey2.trans (ey3.trans (ey4.trans ey5))), f1⟩
    · exact ⟨r2, _, _, rfl, up2.up (ey3.trans (ey4.trans ey5)), f2⟩
    · exact ⟨r3, _, _, rfl, up3.up (ey4.trans ey5), f3⟩
    · exact ⟨r4, _, _, rfl, up4.up ey5, f4⟩
  refine forT_I (xs := [V.ref r1, .ref r2, .ref r3, .ref r4]) (fun σ H' => ∃ v11 v12, σ = slE t se ld n pl ph P v11 v12 ∧ Hold K5 mu H') (fun σ H' ⟨_, _, _, h⟩ => up5.at_ h.ex) ⟨_, _, rfl, kk5⟩ (fun x σ H' hx i => ?_) (fun σ H' i => ?_)
  · obtain ⟨v11, v12, rfl, hh'⟩ := i
    obtain ⟨q, b, g, rfl, hq, he⟩ := items2 x hx
    refine gtup_h (hq.at_ hh'.ex) rfl ?_
    unfold slE
    walk_at "w"
    exact ends_high_turn ok hn hh' (ht.up (exA.trans exB)) (hl.up (exA.trans exB)) he fun H6 hh6 => ⟨_, _, rfl, hh6⟩
  obtain ⟨v11, v12, rfl, hh'⟩ := i
  unfold slE
  walk_at "w"
  exact k K5 H' (exA.trans exB) hh'
end
end Wm
end

section
/-! ## Joining: defs whose exceptions have no context -/
namespace Wm
open PySem PySem.Spec PyProof.Rows L2 StX
section
variable {P : Program} {w : World} {K : PySem.W.Frag} {mg : Str → Option Value} {base : Heap}
theorem endEXN : ∀ (H : Hp) (s : Shared) (e : Value) (s' : Shared), L2N.CX P w [] H s (fun _ _ _ => False) e s' → False := fun H s e s' c => by
  obtain ⟨_, _, _, _, _, _, _, _, _, _, _, _, z⟩ := c
  exact z
theorem noEXN : NoE (L2N.CX P w) := fun X pins σ H s e s' I h => by
  obtain ⟨_, _, _, _, _, _, _, _, _, _, _, _, z⟩ := h
  exact z.elim
theorem pass_tkN {X : Cx} {E : XK} (tk : L2N.Takes X (fun cls d _ H => E cls d H)) : Passes (L2N.CX X.prog X.w) X E := L2N.passes_call tk fun _ _ _ _ h => h
/-- where the context asks nothing of it -/
theorem pass_tkL {X : Cx} {E : XK} (tk : Takes X (fun cls d _ H => E cls d H)) : Passes (L2N.CX X.prog X.w) X E := fun pins σ H s e s' I c => by
  obtain ⟨a, B, H', cls, d, rfl, fl, r⟩ := c
  exact pass_tk tk pins σ H s _ s' I ⟨a, B, H', cls, d, rfl, L2H.flyingZ_imp (fun o z => z.zc) fl, r⟩
theorem okDXN {x qual : Str} {st : Stmt} {dvs : List V} {kws : List (Str × V)} {f : Addr} {fd : FuncData} {N ps : List Str} {k : Nat} {sp : Sp} (F : FunD K x qual (defArgs st) (defBody st) (defScope st) dvs kws f fd) (S : FnScope N ps (defScope st)) (len : ∀ vs H Q E, sp vs H Q E → vs.length = ps.length)
    (hbody : ∀ (cdv : Value) (A : Around) (outer : List Env) (s : Shared) (H : Hp) (vs : List V) (Q : VK) (E : XK), Room k (A.deeper (envOfC qual (defScope st) s.heap.objs.size f cdv)) →
      L2N.Takes (cxOf (L2N.CX P w) P w K mg base N qual (defScope st) f cdv A outer s H E) (fun cls d _ H => E cls d H) →
      PassesOwn (model P w) (cxOf (L2N.CX P w) P w K mg base N qual (defScope st) f cdv A outer s H E).A (cxOf (L2N.CX P w) P w K mg base N qual (defScope st) f cdv A outer s H E).env (cxOf (L2N.CX P w) P w K mg base N qual (defScope st) f cdv A outer s H E).xe → sp vs H Q E →
      ∃ t, PSs (cxOf (L2N.CX P w) P w K mg base N qual (defScope st) f cdv A outer s H E) (defBody st) t ∧ t { nx := fun _ H' => Q .non H', rt := Q } (start N vs) H) : FnOk P w K mg base (L2N.CX P w) (k + 1) f fd ps sp :=
  F.ok S len fun cdv A outer s H vs Q E hr h => hbody cdv A outer s H vs Q E hr (L2N.takes_of rfl rfl rfl rfl) (passes_of rfl) h
end
section
variable {X : Cx} {E : XK} {C : Addr} {x : Str} {p pos pos' : Pos}
theorem ps_rzSN {m : Str} {i : Nat} {p2 : Pos} (c : RzS X.K X.mg x C) (hc : X.calm = true) (tk : L2N.Takes X (fun cls d _ H => E cls d H)) (hg : Gl X x) (hdb : (x == ("__debug__" : Str)) = false := by decide) :
    PS X (.Raise (some (.Call (.Name x p) [.Constant (.str m) i p2] [] pos)) none pos') (tRz (fun _ H Q => Q (.ref C) none H) E) := by
  exact L2N.ps_raise hc tk (L2N.pmk_own PySem.F.excBase_ValueError c.ex c.hm c.kC (raises_own c.sC c.tC) hg hdb)
end
end Wm
namespace Wm
open PySem PySem.Spec PyProof.Rows L2 StX
section
variable {P : Program} {w : World}
theorem cxUpN : StX.CXUp (L2N.CX P w) := by
  intro outer s H s2 H2 E e s' un kp ho z
  obtain ⟨a, B, H', cls, d, ea, fl, hok, ub, na, os, ag, he⟩ := z
  refine ⟨a, B, H', cls, d, ea, fl, hok, ?_, na, os.trans ho, ag, he⟩
  constructor
  case keep => intro b o q n hb; exact ub.keep b o (kp b o q) (un.free b o q n (by simp)) hb
  case slot => intro b o q hb; exact ub.slot b o (kp b o q) hb
  case free => intro b o q n; exact ub.free b o (kp b o q) (un.free b o q n (by simp))
  case there => intro b o q hb; exact ub.there b o (kp b o q) hb
  case tups => intro b xs q; exact ub.tups b xs (un.tups b xs q)
  case frzs => intro b o xs q; exact ub.frzs b o xs (un.frzs b o xs q)
  case tbls =>
    intro b ps q
    obtain ⟨fst, hfst⟩ := un.tbls b ps q
    obtain ⟨snd, hsnd⟩ := ub.tbls b _ hfst
    exact ⟨fst ++ snd, by rw [hsnd, Array.append_assoc]⟩
end
/-- an except clause that names the class takes its instances -/
def exmB (K : PySem.W.Frag) (x : Str) : Bool := PySem.W.exmOne K (.ref (He.ga K x)) (.ref (He.ga K x)) == some true
theorem exmB_ok {K : PySem.W.Frag} {x : Str} (h : exmB K x = true) : PySem.W.exmOne K (.ref (He.ga K x)) (.ref (He.ga K x)) = some true := by
  unfold exmB at h
  exact beq_iff_eq.mp h
end Wm
end

section
local macro_rules | `(tactic| walk_at "cls") => `(tactic| first | (with_reducible exact Wm.WeatherC.cl (by assumption)) | (with_reducible exact Wm.HeaterC.cl (by assumption)) | (with_reducible exact Wm.RoomC.cl (by assumption)) | (with_reducible exact Wm.RunC.cl (by assumption)) | (with_reducible exact Wm.HistoryC.cl (by assumption)) | (with_reducible exact Wm.ThresholdObserverC.cl (by assumption)) | (with_reducible exact Wm.SettingC.cl (by assumption)) | (with_reducible exact Wm.HourSettingC.cl (by assumption)) | (with_reducible exact Wm.RestSettingC.cl (by assumption)) | (with_reducible exact Wm.PricesC.cl (by assumption)) | (with_reducible exact Wm.MomentC.cl (by assumption)) | (with_reducible exact Wm.LiveRoomC.cl (by assumption)) | (with_reducible exact Wm.AttemptC.cl (by assumption)))
local macro_rules | `(tactic| walk_at "noattr") => `(tactic| first | (with_reducible exact Wm.WeatherC.n_pattern (by assumption)) | (with_reducible exact Wm.HeaterC.n_power (by assumption)) | (with_reducible exact Wm.HeaterC.n_below (by assumption)) | (with_reducible exact Wm.HeaterC.n_above (by assumption)) | (with_reducible exact Wm.RoomC.n_outside (by assumption)) | (with_reducible exact Wm.RoomC.n_inside (by assumption)) | (with_reducible exact Wm.RoomC.n_begin_degrees (by assumption)) | (with_reducible exact Wm.RoomC.n_past (by assumption)) | (with_reducible exact Wm.RoomC.n_repeated (by assumption)) | (with_reducible exact Wm.RoomC.n_share (by assumption)) | (with_reducible exact Wm.RoomC.n_coldest (by assumption)) | (with_reducible exact Wm.RoomC.n_warmest (by assumption)) | (with_reducible exact Wm.RunC.n_begin (by assumption)) | (with_reducible exact Wm.RunC.n_end (by assumption)) | (with_reducible exact Wm.RunC.n_degrees (by assumption)) | (with_reducible exact Wm.RunC.n_is_heating (by assumption)) | (with_reducible exact Wm.RunC.n_sums (by assumption)) | (with_reducible exact Wm.RunC.n_size (by assumption)) | (with_reducible exact Wm.RunC.n_drift (by assumption)) | (with_reducible exact Wm.HistoryC.n_shifts (by assumption)) | (with_reducible exact Wm.HistoryC.n_added (by assumption)) | (with_reducible exact Wm.HistoryC.n_floor (by assumption)) | (with_reducible exact Wm.HistoryC.n_ceiling (by assumption)) | (with_reducible exact Wm.HistoryC.n_was_heating (by assumption)) | (with_reducible exact Wm.HistoryC.n_runs (by assumption)) | (with_reducible exact Wm.HistoryC.n_loop (by assumption)) | (with_reducible exact Wm.ThresholdObserverC.n_outside (by assumption)) | (with_reducible exact Wm.ThresholdObserverC.n_power (by assumption)) | (with_reducible exact Wm.ThresholdObserverC.n_tick (by assumption)) | (with_reducible exact Wm.ThresholdObserverC.n_degrees (by assumption)) | (with_reducible exact Wm.ThresholdObserverC.n_is_heating (by assumption)) | (with_reducible exact Wm.ThresholdObserverC.n_lows (by assumption)) | (with_reducible exact Wm.ThresholdObserverC.n_highs (by assumption)) | (with_reducible exact Wm.ThresholdObserverC.n_noted (by assumption)) | (with_reducible exact Wm.SettingC.n_least (by assumption)) | (with_reducible exact Wm.SettingC.n_most (by assumption)) | (with_reducible exact Wm.HourSettingC.n_least (by assumption)) | (with_reducible exact Wm.HourSettingC.n_most (by assumption)) | (with_reducible exact Wm.HourSettingC.n_length (by assumption)) | (with_reducible exact Wm.HourSettingC.n_hours (by assumption)) | (with_reducible exact Wm.RestSettingC.n_least (by assumption)) | (with_reducible exact Wm.RestSettingC.n_most (by assumption)) | (with_reducible exact Wm.RestSettingC.n_rest (by assumption)) | (with_reducible exact Wm.PricesC.n_table (by assumption)) | (with_reducible exact Wm.MomentC.n_tick (by assumption)) | (with_reducible exact Wm.MomentC.n_heat (by assumption)) | (with_reducible exact Wm.MomentC.n_on (by assumption)) | (with_reducible exact Wm.MomentC.n_burnt (by assumption)) | (with_reducible exact Wm.MomentC.n_sky (by assumption)) | (with_reducible exact Wm.MomentC.n_stove (by assumption)) | (with_reducible exact Wm.LiveRoomC.n_moment (by assumption)) | (with_reducible exact Wm.LiveRoomC.n_earlier (by assumption)) | (with_reducible exact Wm.LiveRoomC.n_done (by assumption)) | (with_reducible exact Wm.AttemptC.n_live (by assumption)) | (with_reducible exact Wm.AttemptC.n_kept (by assumption)) | (with_reducible exact Wm.AttemptC.n_stack (by assumption)) | (with_reducible exact Wm.AttemptC.n_steps (by assumption)))
local macro_rules | `(tactic| walk_at "at") => `(tactic| first | assumption | exact Wm.Hold.rd (by assumption) (by assumption) | exact Wm.Hold.get (i := 0) (by assumption) rfl | exact Wm.Hold.get (i := 1) (by assumption) rfl | exact Wm.Hold.get (i := 2) (by assumption) rfl | exact Wm.Hold.get (i := 3) (by assumption) rfl | exact Wm.Hold.get (i := 4) (by assumption) rfl)
local macro_rules | `(tactic| walk_at "s1") => `(tactic| first
  | (with_reducible refine Wm.r_seq ?_)
  | (with_reducible refine Wm.r_op ?_)
  | ((with_reducible refine' Wm.r_var ?h ?_); (case h => rfl))
  | (with_reducible refine Wm.r_c ?_)
  | (with_reducible refine Wm.r_I0 ?_)
  | (with_reducible refine Wm.r_cons ?_)
  | (with_reducible refine Wm.r_nil ?_)
  | (with_reducible refine Wm.r_asg ?_)
  | (with_reducible refine Wm.r_gname ?_; try simp only [List.set_cons_zero, List.set_cons_succ])
  | (with_reducible refine Wm.r_nx ?_)
  | (with_reducible refine Wm.r_rt ?_)
  | (with_reducible refine Wm.r_ret ?_)
  | (with_reducible refine Wm.r_test ?_)
  | (with_reducible refine Wm.r_bl ?_)
  | (with_reducible refine Wm.r_B ?_)
  | (with_reducible refine Wm.r_eqI ?_)
  | (with_reducible refine Wm.r_neI ?_)
  | (with_reducible refine Wm.r_eqB ?_)
  | (with_reducible refine Wm.r_neB ?_)
  | (with_reducible refine Wm.r_fld ?_)
  | (with_reducible refine Wm.r_call ?_)
  | (with_reducible refine Wm.r_mtd ?_)
  | (with_reducible refine Wm.r_prp ?_)
  | (with_reducible refine Wm.r_mak ?_)
  | (with_reducible refine Wm.r_makKw ?_)
  | (with_reducible refine Wm.r_cb ?_)
  | (with_reducible refine Wm.r_tup ?_)
  | (with_reducible refine Wm.r_lst ?_)
  | (with_reducible refine Wm.r_chain ?_)
  | (with_reducible refine Wm.r_and ?_)
  | (with_reducible refine Wm.r_or ?_)
  | (with_reducible refine Wm.r_not ?_)
  | (with_reducible refine Wm.r_andV ?_)
  | (with_reducible refine Wm.r_orV ?_)
  | (with_reducible refine Wm.r_notV ?_)
  | (with_reducible refine Wm.r_if ?_)
  | (with_reducible refine Wm.r_un ?_)
  | (with_reducible refine Wm.r_U ?_)
  | (with_reducible refine Wm.r_iteT ?_)
  | (with_reducible refine Wm.r_iteF ?_)
  | (with_reducible refine Wm.r_next ?_)
  | (with_reducible refine Wm.r_drop ?_)
  | (with_reducible refine Wm.r_retN ?_)
  | ((with_reducible refine' Wm.r_aug ?h ?_); (case h => rfl))
  | (with_reducible refine Wm.r_ipI ?_)
  | (with_reducible refine Wm.r_par2 ?_)
  | (with_reducible refine Wm.r_two ?_; try simp only [List.set_cons_zero, List.set_cons_succ])
  | (with_reducible refine Wm.r_yes ?_)
  | (with_reducible refine Wm.r_forET ?_)
  | (with_reducible refine Wm.r_chain3 ?_)
  | (with_reducible refine Wm.r_nT ?_)
  | (with_reducible refine Wm.r_nF ?_)
  | (with_reducible refine Wm.r_par3 ?_)
  | (with_reducible refine Wm.r_seenPut ?_)
  | (with_reducible refine Wm.r_seenGet ?_)
  | (with_reducible refine Wm.r_three ?_; try simp only [List.set_cons_zero, List.set_cons_succ])
  | (with_reducible refine Wm.r_sl ?_)
  | (with_reducible refine Wm.r_nopart ?_)
  | (with_reducible refine Wm.r_part ?_)
  | (with_reducible refine Wm.r_xi ?_)
  | (with_reducible refine Wm.r_gcons ?_)
  | (with_reducible refine Wm.r_gnil ?_)
  | (with_reducible refine Wm.r_sub ?_)
  | (with_reducible refine Wm.r_setF ?_)
  | (with_reducible refine Wm.r_app ?_)
  | (with_reducible refine Wm.int_i ?_)
  | (with_reducible refine Wm.int_b ?_)
  | (with_reducible refine Wm.min2 ?_)
  | (with_reducible refine Wm.max2 ?_)
  | (with_reducible refine Wm.abs1 ?_)
  | (with_reducible refine Wm.isN ?_)
  | (with_reducible refine Wm.notN ?_)
  | ((with_reducible refine' Wm.r_ty ?e ?_); (case e => walk_at "at"))
  | ((with_reducible refine' Wm.setF_m ?h 0 ?e ?c ?a ?l ?_); (case h => assumption); (case e => rfl); (case c => walk_at "cls"); (case a => walk_at "noattr"); (case l => exact of_decide_eq_true rfl); intro H1 hh1; simp only [List.set_cons_zero, List.set_cons_succ] at hh1)
  | ((with_reducible refine' Wm.setF_m ?h 1 ?e ?c ?a ?l ?_); (case h => assumption); (case e => rfl); (case c => walk_at "cls"); (case a => walk_at "noattr"); (case l => exact of_decide_eq_true rfl); intro H1 hh1; simp only [List.set_cons_zero, List.set_cons_succ] at hh1)
  | ((with_reducible refine' Wm.setF_m ?h 2 ?e ?c ?a ?l ?_); (case h => assumption); (case e => rfl); (case c => walk_at "cls"); (case a => walk_at "noattr"); (case l => exact of_decide_eq_true rfl); intro H1 hh1; simp only [List.set_cons_zero, List.set_cons_succ] at hh1)
  | ((with_reducible refine' Wm.setF_m ?h 3 ?e ?c ?a ?l ?_); (case h => assumption); (case e => rfl); (case c => walk_at "cls"); (case a => walk_at "noattr"); (case l => exact of_decide_eq_true rfl); intro H1 hh1; simp only [List.set_cons_zero, List.set_cons_succ] at hh1)
  | (with_reducible refine Wm.r_forL ?_)
  | (with_reducible refine Wm.r_forT ?_)
  | (with_reducible refine Wm.r_forR1 ?_)
  | (with_reducible refine Wm.r_forR2 ?_)
  | (with_reducible refine Wm.r_forR3 ?_)
  | (with_reducible refine Wm.r_lcL ?_)
  | (with_reducible refine Wm.r_lcE ?_)
  | (with_reducible refine Wm.r_gfld ?_)
  | (with_reducible refine Wm.r_lcT ?_)
  | (with_reducible refine Wm.r_lcR1 ?_)
  | (with_reducible refine Wm.r_lcR2 ?_)
  | ((with_reducible refine' Wm.fld_h ?e ?c ?n ?l ?_); (case e => walk_at "at"); (case c => walk_at "cls"); (case n => walk_at "noattr"); (case l => rfl))
  | ((with_reducible refine' Wm.mtd_h ?e ?l ?_); (case e => walk_at "at"); (case l => rfl))
  | ((with_reducible refine' Wm.prp_h ?e ?_); (case e => walk_at "at"))
  | ((with_reducible refine' Wm.rix_ht ?a ?b ?_); (case a => walk_at "at"); (case b => rfl))
  | ((with_reducible refine' Wm.rix_h ?a ?b ?_); (case a => walk_at "at"); (case b => rfl))
  | ((with_reducible refine' Wm.len_ht ?a ?_); (case a => walk_at "at"))
  | ((with_reducible refine' Wm.len_h ?a ?_); (case a => walk_at "at"))
  | ((with_reducible refine' Wm.len_l ?a ?b ?_); (case a => assumption); (case b => assumption))
  | ((with_reducible refine' Wm.len_t ?a ?b ?_); (case a => assumption); (case b => assumption))
  | ((with_reducible refine' Wm.gtup_h ?a ?b ?_); (case a => walk_at "at"); (case b => rfl))
  | (with_reducible refine Wm.r_I (Wm.cmulR (by decide)) ?_)
  | (with_reducible refine Wm.r_I (Wm.cmulL (by decide)) ?_)
  | (with_reducible refine Wm.r_I (Wm.cdiv (by decide) (by decide)) ?_)
  | (with_reducible refine Wm.r_I Wm.cpow18 ?_)
  | (with_reducible refine Wm.r_I Wm.cpow12 ?_)
  | (with_reducible refine Wm.r_I (by show (0 : Int) < _; decide) ?_))
local macro_rules | `(tactic| walk_at "s") => `(tactic| repeat (first | walk_at "s1" | (with_reducible refine Wm.r_ifS ?_)))
local macro_rules | `(tactic| walk_at "t") => `(tactic| repeat (walk_at "s1"))
local macro_rules | `(tactic| walk_at "sz") => `(tactic| exact of_decide_eq_true rfl)
local macro_rules | `(tactic| walk_at "d") => `(tactic| first | (with_reducible refine Wm.r_dT (by omega) ?_) | (with_reducible refine Wm.r_dF (by omega) ?_) | (with_reducible refine Wm.r_dN (by omega) ?_) | (with_reducible refine Wm.r_dM (by omega) ?_))
local macro_rules | `(tactic| walk_at "sd") => `(tactic| repeat (first | walk_at "s1" | (with_reducible refine Wm.r_ifS ?_) | walk_at "d"))
local macro_rules | `(tactic| walk_at "ex") => `(tactic| first
  | assumption
  | exact Wm.Ex.refl _
  | (refine Wm.Ex.trans ?_ (by assumption); walk_at "ex")
  | (refine Wm.Ex.trans ?_ (Wm.Hold.ex (by assumption)); walk_at "ex"))
local macro_rules | `(tactic| walk_at "room") => `(tactic| first
  | assumption
  | (refine' Wm.IsRoom.up ?e ?h; (case h => assumption); (case e => walk_at "ex")))
local macro_rules | `(tactic| walk_at "opt") => `(tactic| first
  | assumption
  | (refine' Wm.OptAt.up ?e ?h; (case h => assumption); (case e => walk_at "ex")))
local macro_rules | `(tactic| walk_at "lst") => `(tactic| first
  | assumption
  | (refine' Wm.Lst.at_ ?h ?e; (case h => assumption); (case e => walk_at "ex"))
  | exact Wm.Hold.get (i := 0) (by assumption) rfl | exact Wm.Hold.get (i := 1) (by assumption) rfl | exact Wm.Hold.get (i := 2) (by assumption) rfl | exact Wm.Hold.get (i := 3) (by assumption) rfl | exact Wm.Hold.get (i := 4) (by assumption) rfl)
local macro_rules | `(tactic| walk_at "tup") => `(tactic| first
  | assumption
  | (refine' Wm.Tup.at_ ?h ?e; (case h => assumption); (case e => walk_at "ex")))
local macro_rules | `(tactic| walk_at "p1") => `(tactic| first
  | (with_reducible refine Wm.r_p18 ?_) | (with_reducible refine Wm.r_p12 ?_) | (with_reducible refine Wm.r_p17 ?_) | (with_reducible refine Wm.r_p15 ?_) | (with_reducible refine Wm.r_p11 ?_) | (with_reducible refine Wm.r_p6 ?_) | (with_reducible refine Wm.r_p5 ?_) | (with_reducible refine Wm.r_p4 ?_) | (with_reducible refine Wm.r_p9 ?_) | (with_reducible refine Wm.r_p13 ?_) | (with_reducible refine Wm.r_p20 ?_) | (with_reducible refine Wm.r_p30 ?_) | (with_reducible refine Wm.r_p16 ?_))
local macro_rules | `(tactic| walk_at "w2") => `(tactic| first
  | ((with_reducible refine' Wm.r_wp ?h ?_); (case h => rfl))
  | ((with_reducible refine' Wm.ap_mtd ?ir ?hl ?_); (case ir => walk_at "room"); (case hl => intros; rfl))
  | ((with_reducible refine' Wm.ap_prp ?ir ?_); (case ir => walk_at "room"))
  | ((with_reducible refine' Wm.ap_temp ?hh ?ir ?t0 ?t1 ?_); (case hh => assumption); (case ir => walk_at "room"); (case t0 => omega); (case t1 => omega); intro H1 hh1)
  | ((with_reducible refine' Wm.ap_on ?hh ?ir ?t0 ?t1 ?_); (case hh => assumption); (case ir => walk_at "room"); (case t0 => omega); (case t1 => omega); intro H1 hh1)
  | ((with_reducible refine' Wm.ap_heats ?hh ?ir ?t0 ?t1 ?_); (case hh => assumption); (case ir => walk_at "room"); (case t0 => omega); (case t1 => omega); intro H1 hh1)
  | ((with_reducible refine' Wm.ap_sws ?hh ?ir ?t0 ?t1 ?_); (case hh => assumption); (case ir => walk_at "room"); (case t0 => omega); (case t1 => omega); intro H1 hh1)
  | ((with_reducible refine' Wm.rix_ht ?a ?b ?_); (case a => walk_at "tup"); (case b => rfl))
  | ((with_reducible refine' Wm.rix_h ?a ?b ?_); (case a => walk_at "lst"); (case b => rfl))
  | ((with_reducible refine' Wm.len_ht ?a ?_); (case a => walk_at "tup"))
  | ((with_reducible refine' Wm.len_h ?a ?_); (case a => walk_at "lst"))
  | ((with_reducible refine' Wm.gtup_h ?a ?b ?_); (case a => walk_at "tup"); (case b => rfl))
  | ((with_reducible refine' Wm.r_I (Wm.cmulL ?h) ?_); (case h => omega))
  | ((with_reducible refine' Wm.r_I (Wm.cmulR ?h) ?_); (case h => omega))
  | ((with_reducible refine' Wm.r_I (Wm.cdiv ?h ?h2) ?_); (case h => omega); (case h2 => omega))
  | ((with_reducible refine' Wm.r_mod ?h ?_); (case h => omega))
  | ((with_reducible refine' Wm.tup_N ?hP ?hh ?_); (case hP => walk_at "sz"); (case hh => assumption); intro p G1 H1 ex1 tp hh1))
local macro_rules | `(tactic| walk_at "w1") => `(tactic| first | walk_at "p1" | walk_at "s1" | walk_at "w2")
local macro_rules | `(tactic| walk_at "w") => `(tactic| repeat (first | walk_at "w1" | (with_reducible refine Wm.r_ifS ?_)))
local macro_rules | `(tactic| walk_at "wl") => `(tactic| ((with_reducible refine' Wm.lst_N ?hP ?hh ?_); (case hP => walk_at "sz"); (case hh => assumption); intro p G1 H1 ex1 tp hh1))
local macro_rules | `(tactic| walk_at "wd") => `(tactic| repeat (first | walk_at "w1" | (with_reducible refine Wm.r_ifS ?_) | walk_at "d" | walk_at "wl"))
local macro_rules | `(tactic| walk_at "v") => `(tactic| repeat (walk_at "w1"))
namespace Wm
open PySem PySem.Spec PyProof.Rows L2 StX
open LamX
def sp_law (K : PySem.W.Frag) (A : Ads) : Sp := fun vs H Q _ => ∃ (a : Addr) (ns : List Int), vs = [.ref a] ∧ (((WeatherC K A.cWeather ∧ RunC K A.cRun) ∧ ThresholdObserverC K A.cThresholdObserver) ∧ PySem.W.exmOne K (.ref A.cContradiction) (.ref A.cContradiction) = some true) ∧ ErrsC K A ∧ H A.tLaw = some (.tbl #[]) ∧ SqL K H a (ns.map V.int) ∧ ns.length ≤ 63 ∧ ∀ H', Q (.bl true) H'
theorem NotesAt.clean {G : Hp} {l : Addr} {no : List (Str × Int)} (h : NotesAt G l no) : NotesAt (Wm.clean G) l no := by
  obtain ⟨ps, h1, h2, h3⟩ := h
  exact ⟨ps, h1.clean, h2, fun i p n a b => (h3 i p n a b).clean⟩
theorem ObOk.clean {K : PySem.W.Frag} {A : Ads} {G : Hp} {O : ObD} (h : ObOk K A G O) : ObOk K A (Wm.clean G) O := ⟨h.cl, h.ru, h.iw.clean, h.g1, h.g2, h.t0, h.pl.clean, h.ph.clean, h.no.clean, h.le⟩
/-! ### switchings ahead -/
theorem calm_of {P : Par} {n : Nat} : ∀ k : Nat, (∀ u : Nat, n ≤ u → u < n + k → swB P u = false) → Calm P n (n + k) (prevO P n) ∧ prevO P ((n + k : Nat) : Int) = prevO P n
  | 0, _ => ⟨fun u a b => absurd a (by omega), rfl⟩
  | k + 1, h => by
    obtain ⟨c, p⟩ := calm_of (P := P) (n := n) k fun u a b => h u a (by omega)
    have hs := h (n + k) (by omega) (by omega)
    unfold swB at hs
    rw [p] at hs
    have ho : oAt P ((n + k : Nat) : Int) = prevO P n := by
      revert hs
      cases prevO P n <;> cases oAt P ((n + k : Nat) : Int) <;> simp
    refine ⟨fun u a b => ?_, ?_⟩
    · by_cases e : u = n + k
      · subst e; exact ⟨p, ho⟩
      · exact c u a (by omega)
    · rw [show n + (k + 1) = (n + k) + 1 by omega, prev_succ]
      exact ho
theorem swL_app (P : Par) {n : Nat} : ∀ k : Nat, (∀ u : Nat, n ≤ u → u < n + k → swB P u = false) → swL P (n + k) = swL P n
  | 0, _ => rfl
  | k + 1, h => by
    have ih := swL_app P (n := n) k fun u a b => h u a (by omega)
    have hs := h (n + k) (by omega) (by omega)
    unfold swL rngI at ih ⊢
    rw [show n + (k + 1) = (n + k) + 1 by omega, List.range_succ, List.map_append, List.filter_append, ih]
    have : List.filter (swB P) (List.map (fun i : Nat => (i : Int)) [n + k]) = [] := by
      show List.filter (swB P) [((n + k : Nat) : Int)] = []
      rw [List.filter_cons_of_neg (by rw [hs]; exact Bool.false_ne_true)]
      rfl
    rw [this, List.append_nil]
theorem swL_one (P : Par) {n : Nat} (h : swB P n = true) : swL P (n + 1) = swL P n ++ [(n : Int)] := by
  unfold swL rngI
  rw [List.range_succ, List.map_append, List.filter_append]
  congr 1
  show List.filter (swB P) [(n : Int)] = _
  rw [List.filter_cons_of_pos h]
  rfl
def aheadL (P : Par) (n : Nat) : List Int := (swL P 120).filter fun u => decide ((n : Int) ≤ u)
theorem ahead_mem {P : Par} {n : Nat} {u : Int} : u ∈ aheadL P n ↔ (n : Int) ≤ u ∧ u < 120 ∧ swB P u = true := by
  unfold aheadL
  rw [List.mem_filter, swL_mem, decide_eq_true_iff]
  constructor
  · exact fun h => ⟨h.2, h.1.1.2, h.1.2⟩
  · exact fun h => ⟨⟨⟨by omega, h.2.1⟩, h.2.2⟩, h.1⟩
theorem ahead_head {P : Par} {n : Nat} {z : Int} {r : List Int} (h : aheadL P n = z :: r) : ∀ u ∈ aheadL P n, z ≤ u := by
  have pw : (aheadL P n).Pairwise (· < ·) := by
    unfold aheadL swL rngI
    refine List.Pairwise.filter _ (List.Pairwise.filter _ ?_)
    rw [List.pairwise_map]
    exact List.Pairwise.imp (fun h => by omega) List.pairwise_lt_range
  rw [h] at pw ⊢
  intro u hu
  rcases List.mem_cons.mp hu with rfl | hu
  · exact Int.le_refl _
  · have := (List.pairwise_cons.mp pw).1 u hu
    omega
theorem ahead_nil {P : Par} {n : Nat} (h : aheadL P n = []) {u : Nat} (a : n ≤ u) (b : u < 120) : swB P u = false := by
  cases e : swB P u with
  | false => rfl
  | true =>
    have := (ahead_mem (P := P) (n := n) (u := u)).mpr ⟨by omega, by omega, e⟩
    rw [h] at this
    cases this
theorem ahead_cons {P : Par} {n : Nat} {z : Int} {r : List Int} (h : aheadL P n = z :: r) : ∃ m : Nat, z = m ∧ n ≤ m ∧ m < 120 ∧ swB P m = true ∧ ∀ u : Nat, n ≤ u → u < m → swB P u = false := by
  have hz := (ahead_mem (P := P) (n := n) (u := z)).mp (by rw [h]; exact List.mem_cons_self)
  refine ⟨z.toNat, by omega, by omega, by omega, by rw [Int.toNat_of_nonneg (by omega)]; exact hz.2.2, fun u a b => ?_⟩
  cases e : swB P u with
  | false => rfl
  | true =>
    have := ahead_head h u ((ahead_mem (P := P) (n := n) (u := u)).mpr ⟨by omega, by omega, e⟩)
    omega
/-- an entry that is to be seen: its kind, its tick -/
def Valid (P : Par) (n : Nat) (sw : Bool) (m : Nat) : Prop := n ≤ m ∧ m < 120 ∧ (∀ u : Nat, n ≤ u → u < m → swB P u = false) ∧ swB P m = sw
def kindS (sw : Bool) : Str := if sw = true then "switching" else "rest"
theorem valid_swL {P : Par} {n m : Nat} {sw : Bool} (v : Valid P n sw m) : swL P (m + 1) = swL P n ++ (if sw = true then [(m : Int)] else []) := by
  obtain ⟨a, b, c, e⟩ := v
  obtain ⟨k, rfl⟩ : ∃ k, m = n + k := ⟨m - n, by omega⟩
  have h := swL_app P k c
  cases sw with
  | true => rw [swL_one P e, h, if_pos rfl]
  | false =>
    have := swL_app P (n := n + k) 1 fun u a b => by
      have : u = n + k := by omega
      rw [this]; exact e
    rw [this, h, if_neg Bool.false_ne_true, List.append_nil]
theorem valid_rest {P : Par} {n m : Nat} (v : Valid P n false m) : Calm P n (m + 1) (prevO P n) := by
  obtain ⟨a, b, c, e⟩ := v
  have := (calm_of (P := P) (n := n) (m + 1 - n) fun u x y => by
    by_cases z : u = m
    · rw [z]; exact e
    · exact c u x (by omega)).1
  rwa [show n + (m + 1 - n) = m + 1 by omega] at this
theorem valid_sw {P : Par} {n m : Nat} (v : Valid P n true m) : Calm P n m (prevO P n) ∧ prevO P m = prevO P n ∧ oAt P m = !prevO P m := by
  obtain ⟨a, b, c, e⟩ := v
  have := calm_of (P := P) (n := n) (m - n) fun u x y => c u x (by omega)
  rw [show n + (m - n) = m by omega] at this
  refine ⟨this.1, this.2, ?_⟩
  unfold swB at e
  revert e
  cases prevO P m <;> cases oAt P m <;> simp
structure F10 (G : Hp) (P : Par) (t se dg sl mv : Addr) : Prop where
  ok : ParOk P
  t_ : Tup G t (P.ch.map V.int)
  se_ : Tup G se [.int P.gain, .int P.lo, .int P.hi, .int P.start, .bl P.was]
  dg_ : Lst G dg (dgs P 120)
  sl_ : Lst G sl (stL P 120)
  mv_ : Lst G mv ((swL P 120).map V.int)
theorem F10.up {G G' : Hp} {P : Par} {t se dg sl mv : Addr} (e : Ex G G') (h : F10 G P t se dg sl mv) : F10 G' P t se dg sl mv := ⟨h.ok, h.t_.up e, h.se_.up e, h.dg_.up e, h.sl_.up e, h.mv_.up e⟩
theorem F10.clean {G : Hp} {P : Par} {t se dg sl mv : Addr} (h : F10 G P t se dg sl mv) : F10 (Wm.clean G) P t se dg sl mv := ⟨h.ok, h.t_.clean, h.se_.clean, h.dg_.clean, h.sl_.clean, h.mv_.clean⟩
def RecAt (G : Hp) (rs : List Addr) (no : List (Str × Int)) : Prop := rs.length = no.length ∧ ∀ (i : Nat) (p : Addr) (n : Str × Int), rs[i]? = some p → no[i]? = some n → Tup G p [.str n.1, .int n.2]
theorem RecAt.up {G G' : Hp} {rs : List Addr} {no : List (Str × Int)} (e : Ex G G') (h : RecAt G rs no) : RecAt G' rs no := ⟨h.1, fun i p n a b => (h.2 i p n a b).up e⟩
theorem RecAt.clean {G : Hp} {rs : List Addr} {no : List (Str × Int)} (h : RecAt G rs no) : RecAt (Wm.clean G) rs no := ⟨h.1, fun i p n a b => (h.2 i p n a b).clean⟩
theorem RecAt.app {G : Hp} {rs : List Addr} {no : List (Str × Int)} {p : Addr} {n : Str × Int} (h : RecAt G rs no) (hp : Tup G p [.str n.1, .int n.2]) : RecAt G (rs ++ [p]) (no ++ [n]) := by
  obtain ⟨l, h⟩ := h
  refine ⟨by rw [List.length_append, List.length_append, l]; rfl, fun i q m a b => ?_⟩
  by_cases hi : i < rs.length
  · rw [List.getElem?_append_left hi] at a
    rw [List.getElem?_append_left (by omega)] at b
    exact h i q m a b
  · rw [List.getElem?_append_right (by omega)] at a b
    have : i - rs.length = 0 := by have := (List.getElem?_eq_some_iff.mp a).1; simpa using this
    rw [this] at a
    rw [show i - no.length = 0 by omega] at b
    cases a; cases b
    exact hp
/-- the observer, what it has seen -/
structure O10 (K : PySem.W.Frag) (A : Ads) (G : Hp) (P : Par) (O : ObD) (n : Nat) (tp : Addr) (rs : List Addr) : Prop where
  s : Seen P O n
  ok : ObOk K A G O
  tp_ : Lst G tp ((swL P n).map V.int)
  rec_ : RecAt G rs O.no
  n120 : n ≤ 120
theorem O10.up {K : PySem.W.Frag} {A : Ads} {G G' : Hp} {P : Par} {O : ObD} {n : Nat} {tp : Addr} {rs : List Addr} (e : Ex G G') (h : O10 K A G P O n tp rs) : O10 K A G' P O n tp rs := ⟨h.s, h.ok.up e, h.tp_.up e, h.rec_.up e, h.n120⟩
theorem O10.clean {K : PySem.W.Frag} {A : Ads} {G : Hp} {P : Par} {O : ObD} {n : Nat} {tp : Addr} {rs : List Addr} (h : O10 K A G P O n tp rs) : O10 K A (Wm.clean G) P O n tp rs := ⟨h.s, h.ok.clean, h.tp_.clean, h.rec_.clean, h.n120⟩
def Inv10 (K : PySem.W.Frag) (A : Ads) (P : Par) (s a c t se dg sl mv x rl : Addr) (i : Nat) : L2.St → Hp → Prop := fun σ H' => ∃ (v16 v17 v18 v19 v20 v21 v22 v23 v24 v25 v26 : Option V) (d : DS) (ps : Array Value) (G : Hp) (O : ObD) (n : Nat) (tp : Addr) (rs : List Addr),
  σ = [some (.ref s), some (.ref a), some (.ref t), some (.ref se), some (.int P.gain), some (.int P.lo), some (.int P.hi), some (.int P.start), some (.bl P.was), some (.ref x), some (.ref dg), some (.ref sl), some (.ref tp), some (.ref rl), some (.int n), some (.ref mv), v16, v17, v18, v19, v20, v21, v22, v23, v24, v25, v26] ∧
  d.Ok ∧ Hold G [(A.tLaw, .tbl ps), dh a c d, dc c d, (x, O.ho A), (rl, .lst (rs.map V.ref))] H' ∧ TabOk G ps "law.<locals>.<lambda>" ∧ F10 G P t se dg sl mv ∧ O10 K A G P O n tp rs ∧ O.no.length ≤ i
theorem shaped_ii2 (i j k l n : Int) : SeqAt.shaped (.list [.tuple [.int i, .int j], .tuple [.int k, .int l], .int n]) = true := by
  unfold SeqAt.shaped
  simp [PyData.canLay0, PyData.canLayAll0, PyData.depth, PyData.depthAll]
theorem shaped_l1 (i j : Int) : SeqAt.shaped (.list [.tuple [.int i, .int j]]) = true := by
  unfold SeqAt.shaped
  simp [PyData.canLay0, PyData.canLayAll0, PyData.depth, PyData.depthAll]
def t_law_ls (K : PySem.W.Frag) (A : Ads) : List (XK → TE) := [fun E => tBM K "list" rAppend (tVar 20) (tCons (tMtd A.cThresholdObserver "see_rest" (sp_ThresholdObserver_see_restX K A) E (tVar 9) (tCons (tOp (rIx K) (tVar 21) (tC (.int 1))) (tNil))) (tNil)), fun E => tBM K "list" rAppend (tVar 20) (tCons (tMtd A.cThresholdObserver "see_switching" (sp_ThresholdObserver_see_switchingX K A) E (tVar 9) (tCons (tOp (rIx K) (tVar 21) (tC (.int 1))) (tNil))) (tNil))]
def t_law_c1 (K : PySem.W.Frag) (A : Ads) (Z : LamZ) : TS := tSeq (tPar 23 24 (tCons (tPrp A.cThresholdObserver (sp_ThresholdObserver_low_range K A) E0 (tVar 9)) (tCons (tPrp A.cThresholdObserver (sp_ThresholdObserver_high_range K A) E0 (tVar 9)) (tNil)))) (tSeq (tIfS (tOr (tTest (tOp (rNeD K) (tVar 20) (tLst (tCons (tTup (tCons (tOp (rI0 fun i j => .int (i + j)) (tOp (rI0 fun i j => .int (i - j)) (tOp (rIx K) (tVar 23) (tC (.int 1))) (tOp (rIx K) (tVar 23) (tC (.int 0)))) (tC (.int 1))) (tCons (tOp (rI0 fun i j => .int (i + j)) (tOp (rI0 fun i j => .int (i - j)) (tOp (rIx K) (tVar 24) (tC (.int 1))) (tOp (rIx K) (tVar 24) (tC (.int 0)))) (tC (.int 1))) (tNil)))) (tNil))))) (tTest (tOp rNe (tPrp A.cThresholdObserver (sp_ThresholdObserver_seen_ticks K A) E0 (tVar 9)) (tVar 14)))) (tRet (tC (.bl false))) (tNext)) (tSeq (tIfS (tOr (tNot (tTest (tChain (rI0 fun i j => .bl (decide (i ≤ j))) (rI0 fun i j => .bl (decide (i ≤ j))) (tOp (rIx K) (tVar 23) (tC (.int 0))) (tVar 5) (tOp (rIx K) (tVar 23) (tC (.int 1)))))) (tNot (tTest (tChain (rI0 fun i j => .bl (decide (i ≤ j))) (rI0 fun i j => .bl (decide (i ≤ j))) (tOp (rIx K) (tVar 24) (tC (.int 0))) (tVar 6) (tOp (rIx K) (tVar 24) (tC (.int 1))))))) (tRet (tC (.bl false))) (tNext)) (tSeq (tIfS (tNot (tB (tCal (sp_law_alike K A) E0 (tCons (tLst (tCons (tVar 23) (tCons (tVar 24) (tNil)))) (tCons (tCal (sp_law_ranges K A) E0 (tCons (tVar 10) (tCons (tVar 11) (tCons (tVar 14) (tNil))))) (tNil)))))) (tRet (tC (.bl false))) (tNext)) (tIfS (tNot (tB (tCal (sp_law_ends_right K A) E0 (tCons (tVar 2) (tCons (tVar 3) (tCons (tVar 12) (tCons (tOp (rI0 fun i j => .int (i - j)) (tVar 14) (tC (.int 1))) (tCons (tVar 23) (tCons (tVar 24) (tNil)))))))))) (tRet (tC (.bl false))) (tNext)))))
def t_law_c2 (K : PySem.W.Frag) (A : Ads) (Z : LamZ) : TS := tSeq (tDrop (tBM K "list" rAppend (tVar 13) (tCons (tVar 21) (tNil)))) (tSeq (tAsg (tOp rCat (tVar 12) (tOp rRep (tLst (tCons (tOp (rIx K) (tVar 21) (tC (.int 1))) (tNil))) (tCB rInt (tCons (tOp rEq (tOp (rIx K) (tVar 21) (tC (.int 0))) (tC (.str "switching"))) (tNil))))) (gName 12)) (tSeq (tAsg (tOp (rI0 fun i j => .int (i + j)) (tOp (rIx K) (tVar 21) (tC (.int 1))) (tC (.int 1))) (gName 14)) (t_law_c1 K A Z)))
def t_law_c3 (K : PySem.W.Frag) (A : Ads) (Z : LamZ) : TS := tSeq (tAsg (tLst (tCons (tLamV Z A.tLaw 0) (tNil))) (gName 22)) (tSeq (tDrop (tBM K "list" rAppend (tVar 22) (tCons (tLamV Z A.tLaw 1) (tNil)))) (tSeq (tIfS (tTest (tOp (rNeD K) (tErrV Z (t_law_ls K A) (TTerr K A.cWarmthError 1 errN (t_law_error_sx K A) tErrRet) (tOp (rIx K) (tVar 22) (tCB rInt (tCons (tOp rEq (tOp (rIx K) (tVar 21) (tC (.int 0))) (tC (.str "switching"))) (tNil))))) (tTup (tCons (tC (.str "none")) (tNil))))) (tRet (tC (.bl false))) (tNext)) (t_law_c2 K A Z)))
def t_law_c4 (K : PySem.W.Frag) (A : Ads) (Z : LamZ) : TS := tSeq (tAsg (tLst (tCons (tPrp A.cThresholdObserver (sp_ThresholdObserver_low_range K A) E0 (tVar 9)) (tCons (tPrp A.cThresholdObserver (sp_ThresholdObserver_high_range K A) E0 (tVar 9)) (tCons (tPrp A.cThresholdObserver (sp_ThresholdObserver_seen_ticks K A) E0 (tVar 9)) (tNil))))) (gName 25)) (tSeq (tAsg (tLam [(A.tLaw, "law.<locals>.<lambda>")] (TTerr K A.cWarmthError 1 errN (t_law_error_sx K A) tErrRet) (fun E => tMtd A.cThresholdObserver "see_switching" (sp_ThresholdObserver_see_switchingX K A) E (tVar 9) (tCons (tOp (rI0 fun i j => .int (i - j)) (tVar 14) (tC (.int 1))) (tNil)))) (gName 26)) (tIfS (tOr (tTest (tOp (rNeD K) (tVar 26) (tTup (tCons (tC (.str "number")) (tNil))))) (tTest (tOp (rNeD K) (tLst (tCons (tPrp A.cThresholdObserver (sp_ThresholdObserver_low_range K A) E0 (tVar 9)) (tCons (tPrp A.cThresholdObserver (sp_ThresholdObserver_high_range K A) E0 (tVar 9)) (tCons (tPrp A.cThresholdObserver (sp_ThresholdObserver_seen_ticks K A) E0 (tVar 9)) (tNil))))) (tVar 25)))) (tRet (tC (.bl false))) (tNext)))
def t_law_c5 (K : PySem.W.Frag) (A : Ads) (Z : LamZ) : TS := tSeq (tIfS (tTest (tOp rNotN (tVar 21) (tC .non))) (t_law_c3 K A Z) (tNext)) (t_law_c4 K A Z)
def t_law_c6 (K : PySem.W.Frag) (A : Ads) (Z : LamZ) : TS := tSeq (tIfS (tAnd (tTest (tOp rEq (tOp (rIx K) (tVar 21) (tC (.int 0))) (tC (.str "rest")))) (tOr (tAnd (tTest (tOp (rNeD K) (tVar 18) (tLst (tNil)))) (tTest (tOp (rI0 fun i j => .bl (decide (i ≤ j))) (tOp (rIx K) (tVar 18) (tC (.int 0))) (tVar 19)))) (tTest (tOp (rI0 fun i j => .bl (decide (j < i))) (tVar 19) (tC (.int 110)))))) (tAsg (tC .non) (gName 21)) (tNext)) (t_law_c5 K A Z)
def t_law_c7 (K : PySem.W.Frag) (A : Ads) (Z : LamZ) : TS := tSeq (tAsg (tIf (tAnd (tTest (tOp (rNeD K) (tVar 18) (tLst (tNil)))) (tTest (tOp rEq (tCal (sp_law_next K A) E0 (tCons (tVar 1) (tCons (tC (.int 2)) (tNil)))) (tC (.int 0))))) (tTup (tCons (tC (.str "switching")) (tCons (tOp (rIx K) (tVar 18) (tC (.int 0))) (tNil)))) (tTup (tCons (tC (.str "rest")) (tCons (tVar 19) (tNil))))) (gName 21)) (t_law_c6 K A Z)
def t_law_c8 (K : PySem.W.Frag) (A : Ads) (Z : LamZ) : TS := tSeq (tAsg (tLc (iList K (tVar 15)) (gName 16) (tTest (tOp (rI0 fun i j => .bl (decide (j ≤ i))) (tVar 16) (tVar 14))) (tVar 16) [16]) (gName 18)) (tSeq (tAsg (tTup (tCons (tOp (rI0 fun i j => .int (i + j)) (tVar 14) (tCal (sp_law_next K A) E0 (tCons (tVar 1) (tCons (tC (.int 9)) (tNil))))) (tCons (tLst (tNil)) (tNil)))) (gTup K 2 (gCons (gName 19) (gCons (gName 20) (gNil))))) (t_law_c7 K A Z))
def t_law_c9 (K : PySem.W.Frag) (A : Ads) (Z : LamZ) : TS := tRet (tCal (sp_law_alike K A) E0 (tCons (tPrp A.cThresholdObserver (sp_ThresholdObserver_records K A) E0 (tVar 9)) (tCons (tVar 13) (tNil))))
def t_law_c10 (K : PySem.W.Frag) (A : Ads) (Z : LamZ) : TS := tSeq (tFor (iRng1 (tCons (tOp (rI0 fun i j => .int (i + j)) (tC (.int 1)) (tCal (sp_law_next K A) E0 (tCons (tVar 1) (tCons (tC (.int 6)) (tNil))))) (tNil))) (gName 17) (t_law_c8 K A Z)) (t_law_c9 K A Z)
def t_law (K : PySem.W.Frag) (A : Ads) (Z : LamZ) : TS := tSeq (tAsg (tCal (sp_law_mix K A) E0 (tCons (tVar 0) (tCons (tC (.int 10)) (tNil)))) (gName 1)) (tSeq (tPar 2 3 (tCons (tCal (sp_law_changes K A) E0 (tCons (tVar 1) (tCons (tC (.int 6)) (tNil)))) (tCons (tCal (sp_law_setting K A) E0 (tCons (tVar 1) (tNil))) (tNil)))) (tSeq (tAsg (tVar 3) (gTup K 5 (gCons (gName 4) (gCons (gName 5) (gCons (gName 6) (gCons (gName 7) (gCons (gName 8) (gNil)))))))) (tSeq (tAsg (tMakKw A.cThresholdObserver 3 1 (sp_ThresholdObserver_init K A) E0 (tCons (tCal (sp_law_weather K A) E0 (tCons (tVar 2) (tNil))) (tCons (tVar 4) (tCons (tVar 7) (tNil)))) (tCons (tVar 8) (tNil))) (gName 9)) (tSeq (tAsg (tCal (sp_law_told K A) E0 (tCons (tVar 2) (tCons (tVar 3) (tCons (tC (.int 120)) (tNil))))) (gTup K 2 (gCons (gName 10) (gCons (gName 11) (gNil))))) (tSeq (tAsg (tTup (tCons (tOp rCat (tLst (tCons (tVar 8) (tNil))) (tVar 11)) (tCons (tLst (tNil)) (tCons (tLst (tNil)) (tCons (tC (.int 0)) (tNil)))))) (gTup K 4 (gCons (gName 11) (gCons (gName 12) (gCons (gName 13) (gCons (gName 14) (gNil))))))) (tSeq (tAsg (tLc (iRng1 (tCons (tC (.int 120)) (tNil))) (gName 16) (tTest (tOp rNe (tOp (rIx K) (tVar 11) (tVar 16)) (tOp (rIx K) (tVar 11) (tOp (rI0 fun i j => .int (i + j)) (tVar 16) (tC (.int 1)))))) (tVar 16) [16]) (gName 15)) (t_law_c10 K A Z)))))))
section
variable {K : PySem.W.Frag} {A : Ads}
section
variable {O : ObD} {Q : VK} {E : XK} {mu : Mu} {G H : Hp} {x : Addr}
theorem ap_low (TC : ThresholdObserverC K A.cThresholdObserver) (h : H x = some (O.ho A)) (k : Q (.ref O.pl) H) : sp_ThresholdObserver_low_range K A [.ref x] H Q E := ⟨x, O, rfl, TC, h, k⟩
theorem ap_high (TC : ThresholdObserverC K A.cThresholdObserver) (h : H x = some (O.ho A)) (k : Q (.ref O.ph) H) : sp_ThresholdObserver_high_range K A [.ref x] H Q E := ⟨x, O, rfl, TC, h, k⟩
theorem ap_seen (TC : ThresholdObserverC K A.cThresholdObserver) (h : H x = some (O.ho A)) (k : Q (.int O.t) H) : sp_ThresholdObserver_seen_ticks K A [.ref x] H Q E := ⟨x, O, rfl, TC, h, k⟩
end
theorem pm5 {α : Type} {a b c x r : α} : List.Perm [a, b, c, x, r] [x, a, b, c, r] := List.perm_middle (l₁ := [a, b, c]) (l₂ := [r])
theorem pm7 {α : Type} {a b c x r u v : α} : List.Perm [a, b, c, x, r, u, v] [x, a, b, c, r, u, v] := List.perm_middle (l₁ := [a, b, c]) (l₂ := [r, u, v])
section
variable {Z : LamZ} {G H : Hp} {a c s t se dg sl mv x rl tp re en al : Addr} {rs : List Addr} {d : DS} {ps : Array Value} {P : Par} {O : ObD} {n m : Nat} {i0 : Int} {it : Nat} {sw : Bool} {nx bk ct : L2.St → Hp → Prop} {rt : VK} {v16 v17 v18 v19 v20 v21 v22 v23 v24 v25 v26 : Option V}
theorem k10_c4 (hq : Z.q = "law.<locals>.<lambda>") (er : ErrsC K A) (F : F10 G P t se dg sl mv) (B : O10 K A G P O n tp rs) (hn : O.no.length ≤ it) (hh : Hold G [(A.tLaw, .tbl ps), dh a c d, dc c d, (x, O.ho A), (rl, .lst (rs.map V.ref))] H) (tb : TabOk G ps "law.<locals>.<lambda>") (dok : d.Ok)
    (kk : ∀ σ H', Inv10 K A P s a c t se dg sl mv x rl it σ H' → nx σ H') :
    t_law_c4 K A Z ⟨nx, rt, bk, ct⟩ [some (.ref s), some (.ref a), some (.ref t), some (.ref se), some (.int P.gain), some (.int P.lo), some (.int P.hi), some (.int P.start), some (.bl P.was), some (.ref x), some (.ref dg), some (.ref sl), some (.ref tp), some (.ref rl), some (.int n), some (.ref mv), v16, v17, v18, v19, v20, v21, v22, v23, v24, v25, v26] H := by
  unfold t_law_c4
  have TC := B.ok.cl
  walk_at "w"
  refine ap_low TC (hh.get (i := 3) rfl) ?_
  walk_at "w"
  refine ap_high TC (hh.get (i := 3) rfl) ?_
  walk_at "w"
  refine ap_seen TC (hh.get (i := 3) rfl) ?_
  walk_at "w"
  walk_at "wl"
  rename_i q1 G1 H1 ex1 hq1 hh1
  refine r_seq (r_asg (r_err hh1 (tb.ex ex1) rfl fun G2 ps2 H2 e2 tb2 hh2 => ?_))
  have F2 := (F.up ex1).clean.up e2
  have B2 := (B.up ex1).clean.up e2
  have hq2 := hq1.clean.up e2
  refine r_mtd (r_var rfl ⟨x, O.dx, _, rfl, hh2.get (i := 3) rfl, rfl, ?_⟩)
  walk_at "w"
  refine ⟨x, (n : Int) - 1, O, G2, _, rfl, B2.ok, hh2.perm pm5, .inl ⟨by rw [B2.s.t]; omega, ?_⟩⟩
  refine ech_no er.e2 (by decide) (by decide) hh2 rfl fun p3 G3 H3 ex3 hp3 hh3 => ?_
  walk_at "w"
  rename_i p4 G4 H4 ex4 hp4 hh4
  refine ne_s1 (s := "number") (hh4.ex _ _ (hp3.up ex4)) (hh4.ex _ _ hp4) ?_
  walk_at "w"
  refine ap_low TC (hh4.get (i := 3) rfl) ?_
  walk_at "w"
  refine ap_high TC (hh4.get (i := 3) rfl) ?_
  walk_at "w"
  refine ap_seen TC (hh4.get (i := 3) rfl) ?_
  walk_at "w"
  walk_at "wl"
  rename_i q5 G5 H5 ex5 hq5 hh5
  have exA := ex3.trans (ex4.trans ex5)
  have B5 := B2.up exA
  have hpl : Tup G5 O.pl [.int O.lo.1, .int O.lo.2] := B5.ok.pl
  have hph : Tup G5 O.ph [.int O.hi.1, .int O.hi.2] := B5.ok.ph
  walk_at "w"
  refine neD_same (d := .list [.tuple [.int O.lo.1, .int O.lo.2], .tuple [.int O.hi.1, .int O.hi.2], .int O.t])
    (.lst (SqL.of (hq5.at_ hh5.ex)) (.cons (.tup (SqT.of (hpl.at_ hh5.ex)) (.cons (.int _) (.cons (.int _) .nil))) (.cons (.tup (SqT.of (hph.at_ hh5.ex)) (.cons (.int _) (.cons (.int _) .nil))) (.cons (.int _) .nil))))
    (.lst (SqL.of ((hq2.up exA).at_ hh5.ex)) (.cons (.tup (SqT.of (hpl.at_ hh5.ex)) (.cons (.int _) (.cons (.int _) .nil))) (.cons (.tup (SqT.of (hph.at_ hh5.ex)) (.cons (.int _) (.cons (.int _) .nil))) (.cons (.int _) .nil)))) (shaped_ii2 _ _ _ _ _) ?_
  walk_at "w"
  exact kk _ _ ⟨_, _, _, _, _, _, _, _, _, _, _, d, ps2, G5, O, n, tp, rs, rfl, dok, hh5, tb2.ex exA, F2.up exA, B5, hn⟩
theorem k10_c1 {q : Addr} (F : F10 G P t se dg sl mv) (B : O10 K A G P O n tp rs) (hq : Tup G q (sizesV O)) (hh : Hold G [(A.tLaw, .tbl ps), dh a c d, dc c d, (x, O.ho A), (rl, .lst (rs.map V.ref)), (re, .lst [.ref q])] H)
    (kk : ∀ v23 v24 G' H', Ex G G' → Hold G' [(A.tLaw, .tbl ps), dh a c d, dc c d, (x, O.ho A), (rl, .lst (rs.map V.ref)), (re, .lst [.ref q])] H' → nx [some (.ref s), some (.ref a), some (.ref t), some (.ref se), some (.int P.gain), some (.int P.lo), some (.int P.hi), some (.int P.start), some (.bl P.was), some (.ref x), some (.ref dg), some (.ref sl), some (.ref tp), some (.ref rl), some (.int n), some (.ref mv), v16, v17, v18, v19, some (.ref re), v21, v22, v23, v24, v25, v26] H') :
    t_law_c1 K A Z ⟨nx, rt, bk, ct⟩ [some (.ref s), some (.ref a), some (.ref t), some (.ref se), some (.int P.gain), some (.int P.lo), some (.int P.hi), some (.int P.start), some (.bl P.was), some (.ref x), some (.ref dg), some (.ref sl), some (.ref tp), some (.ref rl), some (.int n), some (.ref mv), v16, v17, v18, v19, some (.ref re), v21, v22, v23, v24, v25, v26] H := by
  unfold t_law_c1
  have TC := B.ok.cl
  have hpl : Tup G O.pl [.int O.lo.1, .int O.lo.2] := B.ok.pl
  have hph : Tup G O.ph [.int O.hi.1, .int O.hi.2] := B.ok.ph
  have r1 : O.lo = (rng P n).1 := by rw [← B.s.r]
  have r2 : O.hi = (rng P n).2 := by rw [← B.s.r]
  have et := B.s.t
  walk_at "w"
  refine ap_low TC (hh.get (i := 3) rfl) ?_
  walk_at "w"
  refine ap_high TC (hh.get (i := 3) rfl) ?_
  walk_at "w"
  rename_i p1 G1 H1 ex1 hp1 hh1
  walk_at "wl"
  rename_i q2 G2 H2 ex2 hq2 hh2
  have hq' : Tup G q [.int (O.lo.2 - O.lo.1 + 1), .int (O.hi.2 - O.hi.1 + 1)] := hq
  refine neD_same (d := .list [.tuple [.int (O.lo.2 - O.lo.1 + 1), .int (O.hi.2 - O.hi.1 + 1)]])
    (.lst (SqL.of (hh2.get (i := 5) rfl)) (.cons (.tup (SqT.of ((hq'.up (ex1.trans ex2)).at_ hh2.ex)) (.cons (.int _) (.cons (.int _) .nil))) .nil))
    (.lst (SqL.of (hq2.at_ hh2.ex)) (.cons (.tup (SqT.of ((hp1.up ex2).at_ hh2.ex)) (.cons (.int _) (.cons (.int _) .nil))) .nil)) (shaped_l1 _ _) ?_
  walk_at "w"
  refine ap_seen TC (hh2.get (i := 3) rfl) ?_
  walk_at "w"
  rw [decide_eq_true et]
  walk_at "w"
  obtain ⟨o1, o2⟩ := own_ok F.ok.lh n
  have l1 := F.ok.lo1
  have h1 := F.ok.hi1
  have lh := F.ok.lh
  obtain ⟨a1, a2⟩ := ((rng_ok P n).1 P.lo l1 (by omega)).mp o1
  obtain ⟨b1, b2⟩ := ((rng_ok P n).2 P.hi (by omega) h1).mp o2
  rw [← r1] at a1 a2
  rw [← r2] at b1 b2
  refine r_dT a1 ?_
  walk_at "w"
  rw [decide_eq_true a2]
  walk_at "w"
  refine r_dT b1 ?_
  walk_at "w"
  rw [decide_eq_true b2]
  walk_at "w"
  walk_at "wl"
  rename_i q3 G3 H3 ex3 hq3 hh3
  walk_at "w"
  have ex13 := ex1.trans (ex2.trans ex3)
  have F3 := F.up ex13
  refine ⟨dg, sl, n, 120, P, G3, _, rfl, hh3, F3.dg_, F3.sl_, B.n120, by decide, fun q4 p5 p6 G4 H4 ex4 hq4 hp5 hp6 hh4 => ?_⟩
  walk_at "w"
  have exA := ex13.trans ex4
  have hplA : Tup G4 O.pl [.int O.lo.1, .int O.lo.2] := hpl.up exA
  have hphA : Tup G4 O.ph [.int O.hi.1, .int O.hi.2] := hph.up exA
  unfold rgV at hp5 hp6
  rw [← r1] at hp5
  rw [← r2] at hp6
  refine ap_alike hh4 (ad_lst ((hq3.up ex4).at_ hh4.ex) (hq4.at_ hh4.ex) (by show 2 ≤ 100000; decide) (.cons (ad_tup (hplA.at_ hh4.ex) (hp5.at_ hh4.ex) (by show 2 ≤ 100000; decide) (.cons (ad_int _) (.cons (ad_int _) .nil))) (.cons (ad_tup (hphA.at_ hh4.ex) (hp6.at_ hh4.ex) (by show 2 ≤ 100000; decide) (.cons (ad_int _) (.cons (ad_int _) .nil))) .nil))) fun H5 hh5 => ?_
  walk_at "w"
  have F4 := F.up exA
  refine ⟨t, se, tp, O.pl, O.ph, n, P, G4, _, rfl, hh5, F4.t_, F4.se_, F.ok, by have := B.n120; omega, B.tp_.up exA, by rw [← r1]; exact hplA, by rw [← r2]; exact hphA, fun G6 H6 ex6 hh6 => ?_⟩
  walk_at "w"
  exact kk _ _ G6 H6 (exA.trans ex6) hh6
/-- what has been seen is booked -/
theorem k10_c2 {O' : ObD} {q : Addr} (F : F10 G P t se dg sl mv) (B : O10 K A G P O n tp rs) (v : Valid P n sw m) (s' : Seen P O' (m + 1)) (ok' : ObOk K A G O') (eno : O'.no = O.no ++ [(kindS sw, (m : Int))]) (hen : Tup G en [.str (kindS sw), .int m]) (hq : Tup G q (sizesV O')) (hno : O.no.length < 1000)
    (hh : Hold G [(A.tLaw, .tbl ps), dh a c d, dc c d, (x, O'.ho A), (rl, .lst (rs.map V.ref)), (re, .lst [.ref q])] H)
    (kk : ∀ v23 v24 tp' G' H', Ex G G' → O10 K A G' P O' (m + 1) tp' (rs ++ [en]) → Hold G' [(A.tLaw, .tbl ps), dh a c d, dc c d, (x, O'.ho A), (rl, .lst ((rs ++ [en]).map V.ref)), (re, .lst [.ref q])] H' → nx [some (.ref s), some (.ref a), some (.ref t), some (.ref se), some (.int P.gain), some (.int P.lo), some (.int P.hi), some (.int P.start), some (.bl P.was), some (.ref x), some (.ref dg), some (.ref sl), some (.ref tp'), some (.ref rl), some (.int ((m + 1 : Nat) : Int)), some (.ref mv), v16, v17, v18, v19, some (.ref re), some (.ref en), v22, v23, v24, v25, v26] H') :
    t_law_c2 K A Z ⟨nx, rt, bk, ct⟩ [some (.ref s), some (.ref a), some (.ref t), some (.ref se), some (.int P.gain), some (.int P.lo), some (.int P.hi), some (.int P.start), some (.bl P.was), some (.ref x), some (.ref dg), some (.ref sl), some (.ref tp), some (.ref rl), some (.int n), some (.ref mv), v16, v17, v18, v19, some (.ref re), some (.ref en), v22, v23, v24, v25, v26] H := by
  unfold t_law_c2
  have rl1 := B.rec_.1
  have n120 := B.n120
  have lsw : (swL P n).length ≤ 120 := by
    unfold swL
    refine Nat.le_trans (List.length_filter_le _ _) ?_
    rw [rngI_len]
    exact n120
  refine r_seq (r_drop (r_app (r_var rfl (r_ty (hh.get (i := 4) rfl) ?_))))
  walk_at "w"
  refine app_m hh 4 rfl (szl (by rw [List.length_map, rl1]; omega)) fun H1 hh1 => ?_
  have hh1 : Hold G [(A.tLaw, .tbl ps), dh a c d, dc c d, (x, O'.ho A), (rl, .lst ((rs ++ [en]).map V.ref)), (re, .lst [.ref q])] H1 := by rw [List.map_append]; exact hh1
  walk_at "w"
  walk_at "wl"
  rename_i q2 G2 H2 ex2 hq2 hh2
  walk_at "w"
  have ekind : decide (V.str (kindS sw) = V.str "switching") = sw := by cases sw <;> decide +kernel
  refine r_eq (by cases sw <;> rfl) ?_
  rw [ekind]
  walk_at "w"
  refine rep_N hh2 (hq2.at_ hh2.ex) (by split <;> decide) (by split <;> decide) (by split <;> (show 1 * (_ : Nat) ≤ 1000000; decide)) fun q3 G3 H3 ex3 hq3 hh3 => ?_
  have e3 : (List.replicate (if sw = true then (1 : Int) else 0).toNat [V.int (m : Int)]).flatten = (if sw = true then [(m : Int)] else []).map V.int := by cases sw <;> rfl
  rw [e3] at hq3
  refine cat_N hh3 ((B.tp_.up (ex2.trans ex3)).at_ hh3.ex) (hq3.at_ hh3.ex) (by rw [List.length_map, List.length_map]; have : (if sw = true then [(m : Int)] else []).length ≤ 1 := by cases sw <;> simp
                                                                                omega) fun q4 G4 H4 ex4 hq4 hh4 => ?_
  rw [← List.map_append, ← valid_swL v] at hq4
  have exA := ex2.trans (ex3.trans ex4)
  walk_at "w"
  have B4 : O10 K A G4 P O' (m + 1) q4 (rs ++ [en]) := ⟨s', ok'.up exA, hq4, by rw [eno]; exact ((B.rec_.app (n := (kindS sw, (m : Int))) hen).up exA), by have := v.2.1; omega⟩
  have es : (m : Int) + 1 = ((m + 1 : Nat) : Int) := by omega
  rw [es]
  refine k10_c1 (F.up exA) B4 (hq.up exA) hh4 fun v23 v24 G' H' ex' hh' => kk v23 v24 q4 G' H' (exA.trans ex') (B4.up ex') hh'
theorem _root_.Wm.Hold.drop7 {G H : Hp} {a b c x r u v : Addr × HO} (h : Hold G [a, b, c, x, r, u, v] H) : Hold G [a, b, c, x, r, u] H := (h.perm (List.perm_append_comm (l₁ := [a, b, c, x, r, u]) (l₂ := [v]))).drop
theorem _root_.Wm.Hold.drop6 {G H : Hp} {a b c x r u : Addr × HO} (h : Hold G [a, b, c, x, r, u] H) : Hold G [a, b, c, x, r] H := (h.perm (List.perm_append_comm (l₁ := [a, b, c, x, r]) (l₂ := [u]))).drop
theorem kind_sw (sw : Bool) : decide (V.str (kindS sw) = V.str "switching") = sw := by cases sw <;> decide +kernel
theorem k10_c3 (hZ : Z.q = "law.<locals>.<lambda>") (er : ErrsC K A) (exm : PySem.W.exmOne K (.ref A.cContradiction) (.ref A.cContradiction) = some true) (F : F10 G P t se dg sl mv) (B : O10 K A G P O n tp rs) (v : Valid P n sw m) (hen : Tup G en [.str (kindS sw), .int m]) (hno : O.no.length < 1000)
    (hh : Hold G [(A.tLaw, .tbl ps), dh a c d, dc c d, (x, O.ho A), (rl, .lst (rs.map V.ref)), (re, .lst [])] H) (tb : TabOk G ps "law.<locals>.<lambda>")
    (kk : ∀ v22 v23 v24 tp' ps' O' rs' G' H' q, Ex (clean G) G' → TabOk G' ps' "law.<locals>.<lambda>" → O10 K A G' P O' (m + 1) tp' rs' → O'.no.length = O.no.length + 1 → Hold G' [(A.tLaw, .tbl ps'), dh a c d, dc c d, (x, O'.ho A), (rl, .lst (rs'.map V.ref)), (re, .lst [.ref q])] H' → nx [some (.ref s), some (.ref a), some (.ref t), some (.ref se), some (.int P.gain), some (.int P.lo), some (.int P.hi), some (.int P.start), some (.bl P.was), some (.ref x), some (.ref dg), some (.ref sl), some (.ref tp'), some (.ref rl), some (.int ((m + 1 : Nat) : Int)), some (.ref mv), v16, v17, v18, v19, some (.ref re), some (.ref en), v22, v23, v24, v25, v26] H') :
    t_law_c3 K A Z ⟨nx, rt, bk, ct⟩ [some (.ref s), some (.ref a), some (.ref t), some (.ref se), some (.int P.gain), some (.int P.lo), some (.int P.hi), some (.int P.start), some (.bl P.was), some (.ref x), some (.ref dg), some (.ref sl), some (.ref tp), some (.ref rl), some (.int n), some (.ref mv), v16, v17, v18, v19, some (.ref re), some (.ref en), v22, v23, v24, v25, v26] H := by
  unfold t_law_c3
  rw [← hZ] at tb
  refine r_seq (r_asg (r_lst (r_cons (r_lamV hh tb rfl fun G1 ps1 H1 f1 e1 hh1 tb1 il1 => r_nil ?_))))
  refine lst_mE (sz (by show 1 ≤ 1000000; decide)) hh1 fun cl H2 hh2 => ?_
  have hh2 : Hold G1 [(A.tLaw, .tbl ps1), dh a c d, dc c d, (x, O.ho A), (rl, .lst (rs.map V.ref)), (re, .lst []), (cl, .lst [.ref f1])] H2 := hh2
  walk_at "w"
  refine r_ty (hh2.get (i := 6) rfl) ?_
  refine r_cons (r_lamV hh2 tb1 rfl fun G3 ps3 H3 f3 e3 hh3 tb3 il3 => r_nil ?_)
  refine app_m hh3 6 rfl (szl (by show 1 < 1000000; decide)) fun H4 hh4 => ?_
  have hh4 : Hold G3 [(A.tLaw, .tbl ps3), dh a c d, dc c d, (x, O.ho A), (rl, .lst (rs.map V.ref)), (re, .lst []), (cl, .lst [.ref f1, .ref f3])] H4 := hh4
  have il1 := il1.clean.up e3
  have e13 : Ex (clean G) G3 := cle e1 e3
  have F3 := F.clean.up e13
  have B3 := B.clean.up e13
  have hen3 := hen.clean.up e13
  rw [hZ] at tb3
  obtain ⟨a1, a2, a3, a4⟩ := id v
  have et := B3.s.t
  cases sw with
  | false =>
    walk_at "v"
    refine r_ifS ?_
    walk_at "v"
    refine r_errV (i := 0) (il1.up hh4.ex) rfl ?_ (fun R h => ?_)
    rotate_left
    · walk_at "w"
      refine r_eq rfl ?_
      rw [kind_sw]
      walk_at "w"
      exact rix_h (hh4.get (i := 6) rfl) rfl h
    refine r_app (r_var rfl (r_ty (hh4.get (i := 5) rfl) ?_))
    refine r_cons (r_mtd (r_var rfl ⟨x, O.dx, _, rfl, hh4.get (i := 3) rfl, rfl, ?_⟩))
    walk_at "w"
    refine ⟨x, m, O, G3, _, rfl, B3.ok, hh4.perm pm7, by rw [et]; omega, by omega, hno, fun e u xt => ?_⟩
    obtain ⟨good, sn0⟩ := seen_rest (q1 := 0) (q2 := 0) (l := 0) F.ok B3.s a1 (valid_rest v) xt
    refine ⟨fun _ q1 q2 l q G5 H5 ex5 ok5 hh5 hq => ?_, fun bad => absurd good bad⟩
    have sn : Seen P (O.rest m e q1 q2 l) (m + 1) := (seen_rest (q1 := q1) (q2 := q2) (l := l) F.ok B3.s a1 (valid_rest v) xt).2
    refine r_nil ?_
    refine app_m (hh5.perm pm7.symm) 5 rfl (szl (by show 0 < 1000000; decide)) fun H6 hh6 => ?_
    have hh6 : Hold G5 [(A.tLaw, .tbl ps3), dh a c d, dc c d, (x, (O.rest m e q1 q2 l).ho A), (rl, .lst (rs.map V.ref)), (re, .lst [.ref q]), (cl, .lst [.ref f1, .ref f3])] H6 := hh6
    refine err_none hh6 fun p7 G7 H7 ex7 hp7 hh7 => ?_
    walk_at "w"
    rename_i p8 G8 H8 ex8 hp8 hh8
    refine ne_s1 (s := "none") (hh8.ex _ _ (hp7.up ex8)) (hh8.ex _ _ hp8) ?_
    walk_at "w"
    have e38 := ex5.trans (ex7.trans ex8)
    have e58 := ex7.trans ex8
    refine k10_c2 (O := O) (sw := false) (F3.up e38) (B3.up e38) v sn (ok5.up e58) rfl (hen3.up e38) (hq.up e58) hno hh8.drop7 fun v23 v24 tp' G' H' ex' B' hh' => ?_
    exact kk _ v23 v24 tp' ps3 _ (rs ++ [en]) G' H' q (e13.trans (e38.trans ex')) (tb3.ex (e38.trans ex')) B' (by show (O.no ++ [(_, (m : Int))]).length = _; rw [List.length_append]; rfl) hh'
  | true =>
    walk_at "v"
    refine r_ifS ?_
    walk_at "v"
    refine r_errV (i := 1) (il3.up hh4.ex) rfl ?_ (fun R h => ?_)
    rotate_left
    · walk_at "w"
      refine r_eq rfl ?_
      rw [kind_sw]
      walk_at "w"
      exact rix_h (hh4.get (i := 6) rfl) rfl h
    refine r_app (r_var rfl (r_ty (hh4.get (i := 5) rfl) ?_))
    refine r_cons (r_mtd (r_var rfl ⟨x, O.dx, _, rfl, hh4.get (i := 3) rfl, rfl, ?_⟩))
    walk_at "w"
    obtain ⟨c1, c2, c3⟩ := valid_sw v
    refine ⟨x, m, O, G3, _, rfl, B3.ok, hh4.perm pm7, .inr ⟨by rw [et]; omega, by omega, hno, exm, fun e xt => ?_⟩⟩
    obtain ⟨good, sn0⟩ := seen_sw (q1 := 0) (q2 := 0) (l := 0) F.ok B3.s a1 c1 c2 c3 xt
    refine ⟨fun _ q1 q2 l q G5 H5 ex5 ok5 hh5 hq => ?_, fun bad => absurd good bad⟩
    have sn : Seen P (O.sw m e q1 q2 l) (m + 1) := (seen_sw (q1 := q1) (q2 := q2) (l := l) F.ok B3.s a1 c1 c2 c3 xt).2
    refine r_nil ?_
    refine app_m (hh5.perm pm7.symm) 5 rfl (szl (by show 0 < 1000000; decide)) fun H6 hh6 => ?_
    have hh6 : Hold G5 [(A.tLaw, .tbl ps3), dh a c d, dc c d, (x, (O.sw m e q1 q2 l).ho A), (rl, .lst (rs.map V.ref)), (re, .lst [.ref q]), (cl, .lst [.ref f1, .ref f3])] H6 := hh6
    refine err_none hh6 fun p7 G7 H7 ex7 hp7 hh7 => ?_
    walk_at "w"
    rename_i p8 G8 H8 ex8 hp8 hh8
    refine ne_s1 (s := "none") (hh8.ex _ _ (hp7.up ex8)) (hh8.ex _ _ hp8) ?_
    walk_at "w"
    have e38 := ex5.trans (ex7.trans ex8)
    have e58 := ex7.trans ex8
    refine k10_c2 (O := O) (sw := true) (F3.up e38) (B3.up e38) v sn (ok5.up e58) rfl (hen3.up e38) (hq.up e58) hno hh8.drop7 fun v23 v24 tp' G' H' ex' B' hh' => ?_
    exact kk _ v23 v24 tp' ps3 _ (rs ++ [en]) G' H' q (e13.trans (e38.trans ex')) (tb3.ex (e38.trans ex')) B' (by show (O.no ++ [(_, (m : Int))]).length = _; rw [List.length_append]; rfl) hh'
theorem k10_c5n (hZ : Z.q = "law.<locals>.<lambda>") (er : ErrsC K A) (exm : PySem.W.exmOne K (.ref A.cContradiction) (.ref A.cContradiction) = some true) (F : F10 G P t se dg sl mv) (B : O10 K A G P O n tp rs) (hn : O.no.length ≤ it) (hit : it < 900)  (hh : Hold G [(A.tLaw, .tbl ps), dh a c d, dc c d, (x, O.ho A), (rl, .lst (rs.map V.ref)), (re, .lst [])] H) (tb : TabOk G ps "law.<locals>.<lambda>") (dok : d.Ok)
    (kk : ∀ σ H', Inv10 K A P s a c t se dg sl mv x rl (it + 1) σ H' → nx σ H') :
    t_law_c5 K A Z ⟨nx, rt, bk, ct⟩ [some (.ref s), some (.ref a), some (.ref t), some (.ref se), some (.int P.gain), some (.int P.lo), some (.int P.hi), some (.int P.start), some (.bl P.was), some (.ref x), some (.ref dg), some (.ref sl), some (.ref tp), some (.ref rl), some (.int n), some (.ref mv), v16, v17, v18, v19, some (.ref re), some .non, v22, v23, v24, v25, v26] H := by
  unfold t_law_c5
  walk_at "w"
  rw [if_neg (by simp)]
  walk_at "w"
  exact k10_c4 hZ er F B (Nat.le_succ_of_le hn) hh.drop6 tb dok kk
theorem k10_c5s (hZ : Z.q = "law.<locals>.<lambda>") (er : ErrsC K A) (exm : PySem.W.exmOne K (.ref A.cContradiction) (.ref A.cContradiction) = some true) (F : F10 G P t se dg sl mv) (B : O10 K A G P O n tp rs) (hn : O.no.length ≤ it) (hit : it < 900)  (v : Valid P n sw m) (hen : Tup G en [.str (kindS sw), .int m]) (hh : Hold G [(A.tLaw, .tbl ps), dh a c d, dc c d, (x, O.ho A), (rl, .lst (rs.map V.ref)), (re, .lst [])] H) (tb : TabOk G ps "law.<locals>.<lambda>") (dok : d.Ok)
    (kk : ∀ σ H', Inv10 K A P s a c t se dg sl mv x rl (it + 1) σ H' → nx σ H') :
    t_law_c5 K A Z ⟨nx, rt, bk, ct⟩ [some (.ref s), some (.ref a), some (.ref t), some (.ref se), some (.int P.gain), some (.int P.lo), some (.int P.hi), some (.int P.start), some (.bl P.was), some (.ref x), some (.ref dg), some (.ref sl), some (.ref tp), some (.ref rl), some (.int n), some (.ref mv), v16, v17, v18, v19, some (.ref re), some (.ref en), v22, v23, v24, v25, v26] H := by
  unfold t_law_c5
  walk_at "w"
  rw [if_pos (by simp)]
  refine k10_c3 hZ er exm F B v hen (by omega) hh tb fun v22 v23 v24 tp' ps' O' rs' G' H' q e tb' B' eno hh' => ?_
  exact k10_c4 hZ er (F.clean.up e) B' (by omega) hh'.drop6 tb' dok kk
theorem k10_c6s (hZ : Z.q = "law.<locals>.<lambda>") (er : ErrsC K A) (exm : PySem.W.exmOne K (.ref A.cContradiction) (.ref A.cContradiction) = some true) (F : F10 G P t se dg sl mv) (B : O10 K A G P O n tp rs) (hn : O.no.length ≤ it) (hit : it < 900)  (v : Valid P n true m) (hen : Tup G en [.str "switching", .int m]) (hh : Hold G [(A.tLaw, .tbl ps), dh a c d, dc c d, (x, O.ho A), (rl, .lst (rs.map V.ref)), (re, .lst [])] H) (tb : TabOk G ps "law.<locals>.<lambda>") (dok : d.Ok)
    (kk : ∀ σ H', Inv10 K A P s a c t se dg sl mv x rl (it + 1) σ H' → nx σ H') :
    t_law_c6 K A Z ⟨nx, rt, bk, ct⟩ [some (.ref s), some (.ref a), some (.ref t), some (.ref se), some (.int P.gain), some (.int P.lo), some (.int P.hi), some (.int P.start), some (.bl P.was), some (.ref x), some (.ref dg), some (.ref sl), some (.ref tp), some (.ref rl), some (.int n), some (.ref mv), v16, v17, v18, v19, some (.ref re), some (.ref en), v22, v23, v24, v25, v26] H := by
  unfold t_law_c6
  walk_at "w"
  refine r_eq rfl ?_
  rw [show decide (V.str (Str.ofString "switching") = V.str (Str.ofString "rest")) = false by decide +kernel]
  walk_at "w"
  exact k10_c5s hZ er exm F B hn hit v hen hh tb dok kk
theorem k10_c6r {k : Int} (hZ : Z.q = "law.<locals>.<lambda>") (er : ErrsC K A) (exm : PySem.W.exmOne K (.ref A.cContradiction) (.ref A.cContradiction) = some true) (F : F10 G P t se dg sl mv) (B : O10 K A G P O n tp rs) (hn : O.no.length ≤ it) (hit : it < 900)  (k0 : 0 ≤ k) (k9 : k < 9) (hal : Lst G al ((aheadL P n).map V.int)) (hen : Tup G en [.str "rest", .int ((n : Int) + k)]) (hh : Hold G [(A.tLaw, .tbl ps), dh a c d, dc c d, (x, O.ho A), (rl, .lst (rs.map V.ref)), (re, .lst [])] H) (tb : TabOk G ps "law.<locals>.<lambda>") (dok : d.Ok)
    (kk : ∀ σ H', Inv10 K A P s a c t se dg sl mv x rl (it + 1) σ H' → nx σ H') :
    t_law_c6 K A Z ⟨nx, rt, bk, ct⟩ [some (.ref s), some (.ref a), some (.ref t), some (.ref se), some (.int P.gain), some (.int P.lo), some (.int P.hi), some (.int P.start), some (.bl P.was), some (.ref x), some (.ref dg), some (.ref sl), some (.ref tp), some (.ref rl), some (.int n), some (.ref mv), v16, v17, some (.ref al), some (.int ((n : Int) + k)), some (.ref re), some (.ref en), v22, v23, v24, v25, v26] H := by
  unfold t_law_c6
  walk_at "w"
  refine r_eq rfl ?_
  rw [show decide (V.str (Str.ofString "rest") = V.str (Str.ofString "rest")) = true by decide +kernel]
  walk_at "w"
  walk_at "wl"
  rename_i q1 G1 H1 ex1 hq1 hh1
  refine neI (xs := aheadL P n) (ys := []) (SqL.of ((hal.up ex1).at_ hh1.ex)) (SqL.of (hq1.at_ hh1.ex)) ?_
  have F1 := F.up ex1
  have B1 := B.up ex1
  have hen1 := hen.up ex1
  have tb1 := tb.ex ex1
  have ek : (n : Int) + k = ((n + k.toNat : Nat) : Int) := by omega
  cases ea : aheadL P n with
  | nil =>
    walk_at "w"
    rw [if_neg (by simp)]
    walk_at "w"
    by_cases c : 110 < (n : Int) + k
    · rw [if_pos (decide_eq_true c)]
      walk_at "w"
      exact k10_c5n hZ er exm F1 B1 hn hit hh1 tb1 dok kk
    · rw [if_neg (fun z => c (of_decide_eq_true z))]
      walk_at "w"
      rw [ek] at hen1
      exact k10_c5s (sw := false) (m := n + k.toNat) hZ er exm F1 B1 hn hit ⟨by omega, by omega, fun u a b => ahead_nil ea a (by omega), ahead_nil ea (by omega) (by omega)⟩ hen1 hh1 tb1 dok kk
  | cons z r =>
    walk_at "w"
    rw [if_pos (by simp)]
    walk_at "w"
    rw [ea] at hal
    refine rix_h ((hal.up ex1).at_ hh1.ex) (v := .int z) (atI_of (Int.le_refl 0) rfl) ?_
    obtain ⟨zm, rfl, b1, b2, b3, b4⟩ := ahead_cons ea
    walk_at "w"
    by_cases c1 : (zm : Int) ≤ (n : Int) + k
    · rw [if_pos (decide_eq_true c1)]
      walk_at "w"
      exact k10_c5n hZ er exm F1 B1 hn hit hh1 tb1 dok kk
    · rw [if_neg (fun z => c1 (of_decide_eq_true z))]
      walk_at "w"
      by_cases c : 110 < (n : Int) + k
      · rw [if_pos (decide_eq_true c)]
        walk_at "w"
        exact k10_c5n hZ er exm F1 B1 hn hit hh1 tb1 dok kk
      · rw [if_neg (fun z => c (of_decide_eq_true z))]
        walk_at "w"
        rw [ek] at hen1
        exact k10_c5s (sw := false) (m := n + k.toNat) hZ er exm F1 B1 hn hit ⟨by omega, by omega, fun u a b => b4 u a (by omega), b4 _ (by omega) (by omega)⟩ hen1 hh1 tb1 dok kk
theorem k10_c7 {k : Int} (hZ : Z.q = "law.<locals>.<lambda>") (er : ErrsC K A) (exm : PySem.W.exmOne K (.ref A.cContradiction) (.ref A.cContradiction) = some true) (F : F10 G P t se dg sl mv) (B : O10 K A G P O n tp rs) (hn : O.no.length ≤ it) (hit : it < 900)  (k0 : 0 ≤ k) (k9 : k < 9) (hal : Lst G al ((aheadL P n).map V.int)) (hh : Hold G [(A.tLaw, .tbl ps), dh a c d, dc c d, (x, O.ho A), (rl, .lst (rs.map V.ref)), (re, .lst [])] H) (tb : TabOk G ps "law.<locals>.<lambda>") (dok : d.Ok)
    (kk : ∀ σ H', Inv10 K A P s a c t se dg sl mv x rl (it + 1) σ H' → nx σ H') :
    t_law_c7 K A Z ⟨nx, rt, bk, ct⟩ [some (.ref s), some (.ref a), some (.ref t), some (.ref se), some (.int P.gain), some (.int P.lo), some (.int P.hi), some (.int P.start), some (.bl P.was), some (.ref x), some (.ref dg), some (.ref sl), some (.ref tp), some (.ref rl), some (.int n), some (.ref mv), v16, v17, some (.ref al), some (.int ((n : Int) + k)), some (.ref re), v21, v22, v23, v24, v25, v26] H := by
  unfold t_law_c7
  walk_at "w"
  walk_at "wl"
  rename_i q1 G1 H1 ex1 hq1 hh1
  refine neI (xs := aheadL P n) (ys := []) (SqL.of ((hal.up ex1).at_ hh1.ex)) (SqL.of (hq1.at_ hh1.ex)) ?_
  have F1 := F.up ex1
  have B1 := B.up ex1
  have tb1 := tb.ex ex1
  have hal1 := hal.up ex1
  walk_at "w"
  have rest : ∀ {G2 H2 : Hp} {d2 : DS}, Ex G1 G2 → d2.Ok → Hold G2 [(A.tLaw, .tbl ps), dh a c d2, dc c d2, (x, O.ho A), (rl, .lst (rs.map V.ref)), (re, .lst [])] H2 →
      ∀ en, Tup G2 en [.str "rest", .int ((n : Int) + k)] → t_law_c6 K A Z ⟨nx, rt, bk, ct⟩ [some (.ref s), some (.ref a), some (.ref t), some (.ref se), some (.int P.gain), some (.int P.lo), some (.int P.hi), some (.int P.start), some (.bl P.was), some (.ref x), some (.ref dg), some (.ref sl), some (.ref tp), some (.ref rl), some (.int n), some (.ref mv), v16, v17, some (.ref al), some (.int ((n : Int) + k)), some (.ref re), some (.ref en), v22, v23, v24, v25, v26] H2 := fun e2 dok2 hh2 en hen => k10_c6r hZ er exm (F1.up e2) (B1.up e2) hn hit k0 k9 (hal1.up e2) hen hh2 (tb1.ex e2) dok2 kk
  cases ea : aheadL P n with
  | nil =>
    rw [if_neg (by simp)]
    walk_at "w"
    rename_i p2 G2 H2 ex2 hp2 hh2
    exact rest ex2 dok hh2 p2 hp2
  | cons z r =>
    rw [if_pos (by simp)]
    walk_at "w"
    refine ap_next1 (lim := 2) hh1 dok (by decide) (by decide) fun n2 d2 H2 n20 n21 dok2 hh2 => ?_
    walk_at "w"
    by_cases c : n2 = 0
    · rw [if_pos (decide_eq_true c)]
      walk_at "w"
      rw [ea] at hal1
      refine rix_h (hal1.at_ hh2.ex) (v := .int z) (atI_of (Int.le_refl 0) rfl) ?_
      obtain ⟨zm, rfl, b1, b2, b3, b4⟩ := ahead_cons ea
      walk_at "w"
      rename_i p3 G3 H3 ex3 hp3 hh3
      exact k10_c6s hZ er exm (F1.up ex3) (B1.up ex3) hn hit ⟨b1, b2, b4, b3⟩ hp3 hh3 (tb1.ex ex3) dok2 kk
    · rw [if_neg (fun z => c (of_decide_eq_true z))]
      walk_at "w"
      rename_i p3 G3 H3 ex3 hp3 hh3
      exact rest ex3 dok2 hh3 p3 hp3
theorem k10_c8 {v20 v21 : Option V} (hZ : Z.q = "law.<locals>.<lambda>") (er : ErrsC K A) (exm : PySem.W.exmOne K (.ref A.cContradiction) (.ref A.cContradiction) = some true) (F : F10 G P t se dg sl mv) (B : O10 K A G P O n tp rs) (hn : O.no.length ≤ it) (hit : it < 900)  (hh : Hold G [(A.tLaw, .tbl ps), dh a c d, dc c d, (x, O.ho A), (rl, .lst (rs.map V.ref))] H) (tb : TabOk G ps "law.<locals>.<lambda>") (dok : d.Ok)
    (kk : ∀ σ H', Inv10 K A P s a c t se dg sl mv x rl (it + 1) σ H' → nx σ H') :
    t_law_c8 K A Z ⟨nx, rt, bk, ct⟩ [some (.ref s), some (.ref a), some (.ref t), some (.ref se), some (.int P.gain), some (.int P.lo), some (.int P.hi), some (.int P.start), some (.bl P.was), some (.ref x), some (.ref dg), some (.ref sl), some (.ref tp), some (.ref rl), some (.int n), some (.ref mv), v16, v17, v18, v19, v20, v21, v22, v23, v24, v25, v26] H := by
  unfold t_law_c8
  walk_at "w"
  refine lcL_fil (swL P 120) V.int (fun u => decide ((n : Int) ≤ u)) V.int hh (by unfold swL; refine Nat.le_trans (List.length_filter_le _ _) ?_; rw [rngI_len]; decide) F.mv_ (fun z hz D acc G14 H14 LY LN ex14 hh14 hY hN => ?_) fun D1 G1 H1 ex1 hD1 hh1 => ?_
  · walk_at "w"
    by_cases c : (n : Int) ≤ z
    · rw [if_pos (decide_eq_true c)]
      walk_at "w"
      exact hY _ _ _ (decide_eq_true c) rfl (Ex.refl _) (by assumption)
    · rw [if_neg (fun z => c (of_decide_eq_true z))]
      exact hN _ _ (decide_eq_false c) (Ex.refl _) (by assumption)
  have hD1 : Lst G1 D1 ((aheadL P n).map V.int) := hD1
  walk_at "w"
  refine ap_next1 (lim := 9) hh1 dok (by decide) (by decide) fun k d2 H2 k0 k9 dok2 hh2 => ?_
  walk_at "w"
  refine lst_mE (sz (by show 0 ≤ 1000000; decide)) hh2 fun re H3 hh3 => ?_
  have hh3 : Hold G1 [(A.tLaw, .tbl ps), dh a c d2, dc c d2, (x, O.ho A), (rl, .lst (rs.map V.ref)), (re, .lst [])] H3 := hh3
  walk_at "w"
  rename_i p4 G4 H4 ex4 hp4 hh4
  have eA := ex1.trans ex4
  exact k10_c7 hZ er exm (F.up eA) (B.up eA) hn hit k0 k9 (hD1.up ex4) hh4 (tb.ex eA) dok2 kk
theorem k10_c9 (F : F10 G P t se dg sl mv) (B : O10 K A G P O n tp rs) (hh : Hold G [(A.tLaw, .tbl ps), dh a c d, dc c d, (x, O.ho A), (rl, .lst (rs.map V.ref))] H) (kk : ∀ H', rt (.bl true) H') {v18 v19 v20 v21 : Option V} :
    t_law_c9 K A Z ⟨nx, rt, bk, ct⟩ [some (.ref s), some (.ref a), some (.ref t), some (.ref se), some (.int P.gain), some (.int P.lo), some (.int P.hi), some (.int P.start), some (.bl P.was), some (.ref x), some (.ref dg), some (.ref sl), some (.ref tp), some (.ref rl), some (.int n), some (.ref mv), v16, v17, v18, v19, v20, v21, v22, v23, v24, v25, v26] H := by
  unfold t_law_c9
  walk_at "w"
  refine ⟨x, O, G, _, rfl, B.ok, hh.perm pm5, fun q G1 H1 ex1 _ hq hh1 => ?_⟩
  walk_at "w"
  have hh1 := hh1.perm pm5.symm
  obtain ⟨qs, h1, h2, h3⟩ := hq
  obtain ⟨g2, g3⟩ := B.rec_.up ex1
  have key : ∀ (nn : Nat) (as bs : List Addr), as.length = bs.length → (∀ (i : Nat) (p q : Addr), as[i]? = some p → bs[i]? = some q → ADn H1 nn (.ref p) (.ref q)) → ADs H1 nn (as.map V.ref) (bs.map V.ref) := by
    intro nn as
    induction as with
    | nil => intro bs hl _; cases bs with
      | nil => exact .nil
      | cons _ _ => cases hl
    | cons x xs ih => intro bs hl h; cases bs with
      | nil => cases hl
      | cons y ys => exact .cons (h 0 x y rfl rfl) (ih ys (by simpa using hl) fun i p q h1 h2 => h (i + 1) p q h1 h2)
  have hle := B.ok.le
  refine ap_alike hh1 (ad_lst (h1.at_ hh1.ex) (hh1.get (i := 4) rfl) (by rw [List.length_map, h2]; omega) (key 3 qs rs (by rw [h2, g2]) fun i p q hp hq => ?_)) fun H2 hh2 => ?_
  · obtain ⟨m, hm⟩ := get_some (l := O.no) (i := i) (by rw [← h2]; exact (List.getElem?_eq_some_iff.mp hp).1)
    exact ad_tup ((h3 i p m hp hm).at_ hh1.ex) ((g3 i q m hq hm).at_ hh1.ex) (by show 2 ≤ 100000; decide) (.cons (ad_str _) (.cons (ad_int _) .nil))
  walk_at "w"
  exact kk H2
theorem k10_c10 (hZ : Z.q = "law.<locals>.<lambda>") (er : ErrsC K A) (exm : PySem.W.exmOne K (.ref A.cContradiction) (.ref A.cContradiction) = some true) (F : F10 G P t se dg sl mv) (B : O10 K A G P O n tp rs) (hn : O.no.length ≤ 0) (hh : Hold G [(A.tLaw, .tbl ps), dh a c d, dc c d, (x, O.ho A), (rl, .lst (rs.map V.ref))] H) (tb : TabOk G ps "law.<locals>.<lambda>") (dok : d.Ok) (kk : ∀ H', rt (.bl true) H') {v18 v19 v20 v21 : Option V} :
    t_law_c10 K A Z ⟨nx, rt, bk, ct⟩ [some (.ref s), some (.ref a), some (.ref t), some (.ref se), some (.int P.gain), some (.int P.lo), some (.int P.hi), some (.int P.start), some (.bl P.was), some (.ref x), some (.ref dg), some (.ref sl), some (.ref tp), some (.ref rl), some (.int n), some (.ref mv), v16, v17, v18, v19, v20, v21, v22, v23, v24, v25, v26] H := by
  unfold t_law_c10
  walk_at "w"
  refine ap_next1 (lim := 6) hh dok (by decide) (by decide) fun k d2 H2 k0 k9 dok2 hh2 => ?_
  walk_at "w"
  refine forR1_by (by omega) (by omega) (fun i => Inv10 K A P s a c t se dg sl mv x rl i) ⟨_, _, _, _, _, _, _, _, _, _, _, d2, ps, G, O, n, tp, rs, rfl, dok2, hh2, tb, F, B, hn⟩ ?_ ?_
  · rintro i σ H3 hi ⟨v16, v17, v18, v19, v20, v21, v22, v23, v24, v25, v26, d, ps, G, O, n, tp, rs, rfl, dok, hh, tb, F, B, hn⟩
    walk_at "w"
    exact k10_c8 hZ er exm F B hn (by omega) hh tb dok fun σ H' i => i
  · rintro σ H3 ⟨v16, v17, v18, v19, v20, v21, v22, v23, v24, v25, v26, d, ps, G, O, n, tp, rs, rfl, dok, hh, tb, F, B, hn⟩
    walk_at "w"
    exact k10_c9 F B hh kk
end
section
variable {G H : Hp} {mu : Mu} {w wt : Addr} {ch : List Int} {g st : Int} {on : Bool} {Q : VK} {E : XK}
def newO (w wt t1 t2 l dx : Addr) (ch : List Int) (g st : Int) (on : Bool) : ObD := ⟨w, wt, t1, t2, l, dx, ch, g, 0, st, on, (-(10 ^ 12), 10 ^ 12), (-(10 ^ 12), 10 ^ 12), []⟩
theorem newO_ok {t1 t2 l dx : Addr} {G' : Hp} (TC : ThresholdObserverC K A.cThresholdObserver) (RC : RunC K A.cRun) (iw : IsWeather K A G' w wt ch) (g1 : 1 ≤ g) (g2 : g ≤ 200) (a : Tup G' t1 [.int (0 - 1000000000000), .int 1000000000000]) (b : Tup G' t2 [.int (0 - 1000000000000), .int 1000000000000]) (c : Lst G' l []) : ObOk K A G' (newO w wt t1 t2 l dx ch g st on) :=
  ⟨TC, RC, iw, g1, g2, Int.le_refl 0, a, b, ⟨[], c, rfl, fun i p n h => by cases h⟩, Nat.zero_le _⟩
theorem ap_newObsK (TC : ThresholdObserverC K A.cThresholdObserver) (RC : RunC K A.cRun) (hh : Hold G mu H) (iw : IsWeather K A G w wt ch) (g1 : 1 ≤ g) (g2 : g ≤ 200) (s1 : -(10 ^ 12) ≤ st) (s2 : st ≤ 10 ^ 12)
    (k : ∀ (x t1 t2 l dx : Addr) (G' H' : Hp), Ex G G' → ObOk K A G' (newO w wt t1 t2 l dx ch g st on) → Hold G' ((x, (newO w wt t1 t2 l dx ch g st on).ho A) :: mu) H' → Q (.ref x) H') : rMakKw A.cThresholdObserver 3 1 (sp_ThresholdObserver_init K A) E [.ref w, .int g, .int st] [.bl on] H Q := by
  refine makeKw_m hh rfl rfl fun x dx H2 hh2 => ?_
  exact ⟨x, dx, .ref w, g, st, on, G, mu, rfl, TC, g1, g2, s1, s2, hh2, fun t1 t2 l G' H' e a b c h => ⟨rfl, k x t1 t2 l dx G' H' e (newO_ok TC RC (iw.up e) g1 g2 a b c) h⟩⟩
theorem ap_setting1 {a c : Addr} {d : DS} {x : Addr × HO} (hh : Hold G (x :: dh a c d :: dc c d :: mu) H) (ok : d.Ok)
    (k : ∀ (t : Addr) (g lo hi st : Int) (on : Bool) (d' : DS) (G' H' : Hp), Ex G G' → Tup G' t [.int g, .int lo, .int hi, .int st, .bl on] → SetOk g lo hi st → d'.Ok → Hold G' (x :: dh a c d' :: dc c d' :: mu) H' → Q (.ref t) H') : sp_law_setting K A [.ref a] H Q E :=
  ap_setting (hh.perm perm_in2) ok fun t g lo hi st on d' G' H' e h1 h2 h3 hh' => k t g lo hi st on d' G' H' e h1 h2 h3 (hh'.perm perm_in2.symm)
end
theorem pure_law (Z : LamZ) (hZ : Z.q = "law.<locals>.<lambda>") (vs : List V) (H : Hp) (Q : VK) (E : XK) (h : sp_law K A vs H Q E) : t_law K A Z { nx := fun _ H' => Q .non H', rt := Q } (start ["_law_script", "_law_h", "_law_changes_here", "_law_setting_here", "_law_gain", "_law_low", "_law_high", "_law_start", "_law_heating", "_law_observer", "_law_degrees", "_law_states", "_law_told_here", "_law_records", "_law_seen", "_law_moves", "_law_tick", "_law_time", "_law_ahead", "_law_last", "_law_results", "_law_entry", "_law_calls", "_law_lows", "_law_highs", "_law_kept", "_law_error_here"] vs) H := by
  obtain ⟨s, ns, rfl, ⟨⟨⟨WC, RC⟩, TC⟩, exm⟩, er, hT, hs, hl, k⟩ := h
  show t_law K A Z _ [some (.ref s), none, none, none, none, none, none, none, none, none, none, none, none, none, none, none, none, none, none, none, none, none, none, none, none, none, none] H
  unfold t_law
  walk_at "w"
  refine ⟨s, 10, ns, rfl, hs, hl, fun a c d H1 dok hh1 => ?_⟩
  have hh1 := hh1.totab hT
  walk_at "w"
  refine ap_changes1 hh1 dok (by decide) (by decide) fun t ch d2 G2 H2 ex2 ht wok hcl dok2 hh2 => ?_
  walk_at "w"
  refine ap_setting1 hh2 dok2 fun se g lo hi st on d3 G3 H3 ex3 hse sok dok3 hh3 => ?_
  walk_at "w"
  refine ⟨t, ch, G3, _, rfl, WC, hh3, ht.up ex3, wok, by omega, fun w wt G4 H4 ex4 iw hh4 => ?_⟩
  walk_at "w"
  have ok2 := sok.st
  have hto := sok.ht
  refine ap_newObsK TC RC hh4 iw sok.g1 sok.g2 ok2.1 ok2.2 fun x t1 t2 l dx G5 H5 ex5 ok5 hh5 => ?_
  walk_at "w"
  have pok : ParOk ⟨ch, g, lo, hi, st, on⟩ := ⟨wok.1, wok.2.1, wok.2.2, sok.g1, sok.g2, sok.lh, hto.2.2.1, hto.2.2.2.2, ok2.1, ok2.2⟩
  refine ⟨t, se, 120, ⟨ch, g, lo, hi, st, on⟩, G5, _, rfl, hh5, ht.up (by walk_at "ex"), hse.up (by walk_at "ex"), pok, by decide, by decide, fun q l1 l2 G6 H6 ex6 hq hl1 hl2 hh6 => ?_⟩
  have hq : Tup G6 q [.ref l1, .ref l2] := hq
  walk_at "w"
  walk_at "wl"
  rename_i q7 G7 H7 ex7 hq7 hh7
  walk_at "w"
  refine cat_N hh7 (hq7.at_ hh7.ex) (hh7.ex _ _ (ex7 _ _ hl2)) (by rw [bls_len]; show 1 + 120 ≤ 1000000; decide) fun q8 G8 H8 ex8 hq8 hh8 => ?_
  have hq8 : Lst G8 q8 (stL ⟨ch, g, lo, hi, st, on⟩ 120) := hq8
  walk_at "w"
  walk_at "wl"
  rename_i q9 G9 H9 ex9 hq9 hh9
  walk_at "w"
  refine lst_mE (sz (by show 0 ≤ 1000000; decide)) hh9 fun rl H10 hh10 => ?_
  walk_at "w"
  rename_i p11 G11 H11 ex11 hp11 hh11
  have hh11 := Hold.perm (mu' := [(A.tLaw, .tbl #[]), dh a c d3, dc c d3, (x, (newO w wt t1 t2 l dx ch g st on).ho A), (rl, .lst [])]) hh11 (pm5 (x := (x, (newO w wt t1 t2 l dx ch g st on).ho A))).symm
  have hq11 := hq8.up (ex9.trans ex11)
  walk_at "w"
  refine lcR1_fil (n := 120) (swB ⟨ch, g, lo, hi, st, on⟩) V.int hh11 (by decide) (by decide) (fun z z0 z1 D acc G4 H4 LY LN ex4 hh4 hY hN => ?_) fun D G12 H12 ex12 hD hh12 => ?_
  · walk_at "w"
    refine rix_h ((hq11.up ex4).at_ hh4.ex) (stL_at z0 (by omega)) ?_
    walk_at "w"
    refine rix_h ((hq11.up ex4).at_ hh4.ex) (stL_at (by omega) (by omega)) ?_
    rw [prev_next _ z0]
    walk_at "w"
    show if swB _ z = true then _ else _
    cases hs : swB ⟨ch, g, lo, hi, st, on⟩ z with
    | true =>
      rw [if_pos rfl]
      walk_at "w"
      exact hY _ _ _ hs rfl (Ex.refl _) hh4
    | false =>
      rw [if_neg Bool.false_ne_true]
      exact hN _ _ hs (Ex.refl _) hh4
  walk_at "w"
  have F : F10 G12 ⟨ch, g, lo, hi, st, on⟩ t se l1 q8 D := ⟨pok, ht.up (by walk_at "ex"), hse.up (by walk_at "ex"), (show Lst G6 l1 _ from hl1).up (by walk_at "ex"), hq8.up (by walk_at "ex"), hD⟩
  have B : O10 K A G12 ⟨ch, g, lo, hi, st, on⟩ (newO w wt t1 t2 l dx ch g st on) 0 q9 [] := ⟨⟨rfl, rfl, rfl, by show st = dAt _ ((0 : Nat) : Int); rw [show ((0 : Nat) : Int) = 0 from rfl, d_zero], by rw [prev_zero]; rfl, rfl⟩, ok5.up (by walk_at "ex"), hq9.up (by walk_at "ex"), ⟨rfl, fun i p n h => by cases h⟩, by decide⟩
  exact k10_c10 (n := 0) hZ er exm F B (Nat.le_refl 0) hh12 (tab0 |> fun z => z.ex (by walk_at "ex")) dok3 k
end
end Wm
end

section
local macro_rules | `(tactic| walk_at "cls") => `(tactic| first | (with_reducible exact Wm.WeatherC.cl (by assumption)) | (with_reducible exact Wm.HeaterC.cl (by assumption)) | (with_reducible exact Wm.RoomC.cl (by assumption)) | (with_reducible exact Wm.RunC.cl (by assumption)) | (with_reducible exact Wm.HistoryC.cl (by assumption)) | (with_reducible exact Wm.ThresholdObserverC.cl (by assumption)) | (with_reducible exact Wm.SettingC.cl (by assumption)) | (with_reducible exact Wm.HourSettingC.cl (by assumption)) | (with_reducible exact Wm.RestSettingC.cl (by assumption)) | (with_reducible exact Wm.PricesC.cl (by assumption)) | (with_reducible exact Wm.MomentC.cl (by assumption)) | (with_reducible exact Wm.LiveRoomC.cl (by assumption)) | (with_reducible exact Wm.AttemptC.cl (by assumption)))
local macro_rules | `(tactic| walk_at "noattr") => `(tactic| first | (with_reducible exact Wm.WeatherC.n_pattern (by assumption)) | (with_reducible exact Wm.HeaterC.n_power (by assumption)) | (with_reducible exact Wm.HeaterC.n_below (by assumption)) | (with_reducible exact Wm.HeaterC.n_above (by assumption)) | (with_reducible exact Wm.RoomC.n_outside (by assumption)) | (with_reducible exact Wm.RoomC.n_inside (by assumption)) | (with_reducible exact Wm.RoomC.n_begin_degrees (by assumption)) | (with_reducible exact Wm.RoomC.n_past (by assumption)) | (with_reducible exact Wm.RoomC.n_repeated (by assumption)) | (with_reducible exact Wm.RoomC.n_share (by assumption)) | (with_reducible exact Wm.RoomC.n_coldest (by assumption)) | (with_reducible exact Wm.RoomC.n_warmest (by assumption)) | (with_reducible exact Wm.RunC.n_begin (by assumption)) | (with_reducible exact Wm.RunC.n_end (by assumption)) | (with_reducible exact Wm.RunC.n_degrees (by assumption)) | (with_reducible exact Wm.RunC.n_is_heating (by assumption)) | (with_reducible exact Wm.RunC.n_sums (by assumption)) | (with_reducible exact Wm.RunC.n_size (by assumption)) | (with_reducible exact Wm.RunC.n_drift (by assumption)) | (with_reducible exact Wm.HistoryC.n_shifts (by assumption)) | (with_reducible exact Wm.HistoryC.n_added (by assumption)) | (with_reducible exact Wm.HistoryC.n_floor (by assumption)) | (with_reducible exact Wm.HistoryC.n_ceiling (by assumption)) | (with_reducible exact Wm.HistoryC.n_was_heating (by assumption)) | (with_reducible exact Wm.HistoryC.n_runs (by assumption)) | (with_reducible exact Wm.HistoryC.n_loop (by assumption)) | (with_reducible exact Wm.ThresholdObserverC.n_outside (by assumption)) | (with_reducible exact Wm.ThresholdObserverC.n_power (by assumption)) | (with_reducible exact Wm.ThresholdObserverC.n_tick (by assumption)) | (with_reducible exact Wm.ThresholdObserverC.n_degrees (by assumption)) | (with_reducible exact Wm.ThresholdObserverC.n_is_heating (by assumption)) | (with_reducible exact Wm.ThresholdObserverC.n_lows (by assumption)) | (with_reducible exact Wm.ThresholdObserverC.n_highs (by assumption)) | (with_reducible exact Wm.ThresholdObserverC.n_noted (by assumption)) | (with_reducible exact Wm.SettingC.n_least (by assumption)) | (with_reducible exact Wm.SettingC.n_most (by assumption)) | (with_reducible exact Wm.HourSettingC.n_least (by assumption)) | (with_reducible exact Wm.HourSettingC.n_most (by assumption)) | (with_reducible exact Wm.HourSettingC.n_length (by assumption)) | (with_reducible exact Wm.HourSettingC.n_hours (by assumption)) | (with_reducible exact Wm.RestSettingC.n_least (by assumption)) | (with_reducible exact Wm.RestSettingC.n_most (by assumption)) | (with_reducible exact Wm.RestSettingC.n_rest (by assumption)) | (with_reducible exact Wm.PricesC.n_table (by assumption)) | (with_reducible exact Wm.MomentC.n_tick (by assumption)) | (with_reducible exact Wm.MomentC.n_heat (by assumption)) | (with_reducible exact Wm.MomentC.n_on (by assumption)) | (with_reducible exact Wm.MomentC.n_burnt (by assumption)) | (with_reducible exact Wm.MomentC.n_sky (by assumption)) | (with_reducible exact Wm.MomentC.n_stove (by assumption)) | (with_reducible exact Wm.LiveRoomC.n_moment (by assumption)) | (with_reducible exact Wm.LiveRoomC.n_earlier (by assumption)) | (with_reducible exact Wm.LiveRoomC.n_done (by assumption)) | (with_reducible exact Wm.AttemptC.n_live (by assumption)) | (with_reducible exact Wm.AttemptC.n_kept (by assumption)) | (with_reducible exact Wm.AttemptC.n_stack (by assumption)) | (with_reducible exact Wm.AttemptC.n_steps (by assumption)))
local macro_rules | `(tactic| walk_at "at") => `(tactic| first | assumption | exact Wm.Hold.rd (by assumption) (by assumption) | exact Wm.Hold.get (i := 0) (by assumption) rfl | exact Wm.Hold.get (i := 1) (by assumption) rfl | exact Wm.Hold.get (i := 2) (by assumption) rfl | exact Wm.Hold.get (i := 3) (by assumption) rfl | exact Wm.Hold.get (i := 4) (by assumption) rfl)
local macro_rules | `(tactic| walk_at "s1") => `(tactic| first
  | (with_reducible refine Wm.r_seq ?_)
  | (with_reducible refine Wm.r_op ?_)
  | ((with_reducible refine' Wm.r_var ?h ?_); (case h => rfl))
  | (with_reducible refine Wm.r_c ?_)
  | (with_reducible refine Wm.r_I0 ?_)
  | (with_reducible refine Wm.r_cons ?_)
  | (with_reducible refine Wm.r_nil ?_)
  | (with_reducible refine Wm.r_asg ?_)
  | (with_reducible refine Wm.r_gname ?_; try simp only [List.set_cons_zero, List.set_cons_succ])
  | (with_reducible refine Wm.r_nx ?_)
  | (with_reducible refine Wm.r_rt ?_)
  | (with_reducible refine Wm.r_ret ?_)
  | (with_reducible refine Wm.r_test ?_)
  | (with_reducible refine Wm.r_bl ?_)
  | (with_reducible refine Wm.r_B ?_)
  | (with_reducible refine Wm.r_eqI ?_)
  | (with_reducible refine Wm.r_neI ?_)
  | (with_reducible refine Wm.r_eqB ?_)
  | (with_reducible refine Wm.r_neB ?_)
  | (with_reducible refine Wm.r_fld ?_)
  | (with_reducible refine Wm.r_call ?_)
  | (with_reducible refine Wm.r_mtd ?_)
  | (with_reducible refine Wm.r_prp ?_)
  | (with_reducible refine Wm.r_mak ?_)
  | (with_reducible refine Wm.r_makKw ?_)
  | (with_reducible refine Wm.r_cb ?_)
  | (with_reducible refine Wm.r_tup ?_)
  | (with_reducible refine Wm.r_lst ?_)
  | (with_reducible refine Wm.r_chain ?_)
  | (with_reducible refine Wm.r_and ?_)
  | (with_reducible refine Wm.r_or ?_)
  | (with_reducible refine Wm.r_not ?_)
  | (with_reducible refine Wm.r_andV ?_)
  | (with_reducible refine Wm.r_orV ?_)
  | (with_reducible refine Wm.r_notV ?_)
  | (with_reducible refine Wm.r_if ?_)
  | (with_reducible refine Wm.r_un ?_)
  | (with_reducible refine Wm.r_U ?_)
  | (with_reducible refine Wm.r_iteT ?_)
  | (with_reducible refine Wm.r_iteF ?_)
  | (with_reducible refine Wm.r_next ?_)
  | (with_reducible refine Wm.r_drop ?_)
  | (with_reducible refine Wm.r_retN ?_)
  | ((with_reducible refine' Wm.r_aug ?h ?_); (case h => rfl))
  | (with_reducible refine Wm.r_ipI ?_)
  | (with_reducible refine Wm.r_par2 ?_)
  | (with_reducible refine Wm.r_two ?_; try simp only [List.set_cons_zero, List.set_cons_succ])
  | (with_reducible refine Wm.r_yes ?_)
  | (with_reducible refine Wm.r_forET ?_)
  | (with_reducible refine Wm.r_chain3 ?_)
  | (with_reducible refine Wm.r_nT ?_)
  | (with_reducible refine Wm.r_nF ?_)
  | (with_reducible refine Wm.r_par3 ?_)
  | (with_reducible refine Wm.r_seenPut ?_)
  | (with_reducible refine Wm.r_seenGet ?_)
  | (with_reducible refine Wm.r_three ?_; try simp only [List.set_cons_zero, List.set_cons_succ])
  | (with_reducible refine Wm.r_sl ?_)
  | (with_reducible refine Wm.r_nopart ?_)
  | (with_reducible refine Wm.r_part ?_)
  | (with_reducible refine Wm.r_xi ?_)
  | (with_reducible refine Wm.r_gcons ?_)
  | (with_reducible refine Wm.r_gnil ?_)
  | (with_reducible refine Wm.r_sub ?_)
  | (with_reducible refine Wm.r_setF ?_)
  | (with_reducible refine Wm.r_app ?_)
  | (with_reducible refine Wm.int_i ?_)
  | (with_reducible refine Wm.int_b ?_)
  | (with_reducible refine Wm.min2 ?_)
  | (with_reducible refine Wm.max2 ?_)
  | (with_reducible refine Wm.abs1 ?_)
  | (with_reducible refine Wm.isN ?_)
  | (with_reducible refine Wm.notN ?_)
  | ((with_reducible refine' Wm.r_ty ?e ?_); (case e => walk_at "at"))
  | ((with_reducible refine' Wm.setF_m ?h 0 ?e ?c ?a ?l ?_); (case h => assumption); (case e => rfl); (case c => walk_at "cls"); (case a => walk_at "noattr"); (case l => exact of_decide_eq_true rfl); intro H1 hh1; simp only [List.set_cons_zero, List.set_cons_succ] at hh1)
  | ((with_reducible refine' Wm.setF_m ?h 1 ?e ?c ?a ?l ?_); (case h => assumption); (case e => rfl); (case c => walk_at "cls"); (case a => walk_at "noattr"); (case l => exact of_decide_eq_true rfl); intro H1 hh1; simp only [List.set_cons_zero, List.set_cons_succ] at hh1)
  | ((with_reducible refine' Wm.setF_m ?h 2 ?e ?c ?a ?l ?_); (case h => assumption); (case e => rfl); (case c => walk_at "cls"); (case a => walk_at "noattr"); (case l => exact of_decide_eq_true rfl); intro H1 hh1; simp only [List.set_cons_zero, List.set_cons_succ] at hh1)
  | ((with_reducible refine' Wm.setF_m ?h 3 ?e ?c ?a ?l ?_); (case h => assumption); (case e => rfl); (case c => walk_at "cls"); (case a => walk_at "noattr"); (case l => exact of_decide_eq_true rfl); intro H1 hh1; simp only [List.set_cons_zero, List.set_cons_succ] at hh1)
  | (with_reducible refine Wm.r_forL ?_)
  | (with_reducible refine Wm.r_forT ?_)
  | (with_reducible refine Wm.r_forR1 ?_)
  | (with_reducible refine Wm.r_forR2 ?_)
  | (with_reducible refine Wm.r_forR3 ?_)
  | (with_reducible refine Wm.r_lcL ?_)
  | (with_reducible refine Wm.r_lcE ?_)
  | (with_reducible refine Wm.r_gfld ?_)
  | (with_reducible refine Wm.r_lcT ?_)
  | (with_reducible refine Wm.r_lcR1 ?_)
  | (with_reducible refine Wm.r_lcR2 ?_)
  | ((with_reducible refine' Wm.fld_h ?e ?c ?n ?l ?_); (case e => walk_at "at"); (case c => walk_at "cls"); (case n => walk_at "noattr"); (case l => rfl))
  | ((with_reducible refine' Wm.mtd_h ?e ?l ?_); (case e => walk_at "at"); (case l => rfl))
  | ((with_reducible refine' Wm.prp_h ?e ?_); (case e => walk_at "at"))
  | ((with_reducible refine' Wm.rix_ht ?a ?b ?_); (case a => walk_at "at"); (case b => rfl))
  | ((with_reducible refine' Wm.rix_h ?a ?b ?_); (case a => walk_at "at"); (case b => rfl))
  | ((with_reducible refine' Wm.len_ht ?a ?_); (case a => walk_at "at"))
  | ((with_reducible refine' Wm.len_h ?a ?_); (case a => walk_at "at"))
  | ((with_reducible refine' Wm.len_l ?a ?b ?_); (case a => assumption); (case b => assumption))
  | ((with_reducible refine' Wm.len_t ?a ?b ?_); (case a => assumption); (case b => assumption))
  | ((with_reducible refine' Wm.gtup_h ?a ?b ?_); (case a => walk_at "at"); (case b => rfl))
  | (with_reducible refine Wm.r_I (Wm.cmulR (by decide)) ?_)
  | (with_reducible refine Wm.r_I (Wm.cmulL (by decide)) ?_)
  | (with_reducible refine Wm.r_I (Wm.cdiv (by decide) (by decide)) ?_)
  | (with_reducible refine Wm.r_I Wm.cpow18 ?_)
  | (with_reducible refine Wm.r_I Wm.cpow12 ?_)
  | (with_reducible refine Wm.r_I (by show (0 : Int) < _; decide) ?_))
local macro_rules | `(tactic| walk_at "s") => `(tactic| repeat (first | walk_at "s1" | (with_reducible refine Wm.r_ifS ?_)))
local macro_rules | `(tactic| walk_at "t") => `(tactic| repeat (walk_at "s1"))
local macro_rules | `(tactic| walk_at "sz") => `(tactic| exact of_decide_eq_true rfl)
local macro_rules | `(tactic| walk_at "d") => `(tactic| first | (with_reducible refine Wm.r_dT (by omega) ?_) | (with_reducible refine Wm.r_dF (by omega) ?_) | (with_reducible refine Wm.r_dN (by omega) ?_) | (with_reducible refine Wm.r_dM (by omega) ?_))
local macro_rules | `(tactic| walk_at "sd") => `(tactic| repeat (first | walk_at "s1" | (with_reducible refine Wm.r_ifS ?_) | walk_at "d"))
namespace Wm
open PySem PySem.Spec PyProof.Rows L2 StX
open LamX ClX
def top (i : Nat) : Stmt := PySem.Challenge.pw_warmswitch_k10_whole_hidden_thresholds.main.body.getD i (.Pass ⟨0, 0, 0, 0⟩)
section
variable {K : PySem.W.Frag} {mg : Str → Option Value} {base : Heap} {CX : CXT} {A : Ads}
abbrev s__law_mix : Stmt := top 28
theorem sc__law_mix : FnScope ["_law_script", "_law_seed", "_law_mixed", "_law_cell"] ["_law_script", "_law_seed"] (defScope s__law_mix) := ⟨rfl, rfl, rfl, by decide +kernel, rfl, by decide +kernel, by decide +kernel⟩
theorem len_law_mix {vs : List V} {H : Hp} {Q : VK} {E : XK} (h : sp_law_mix K A vs H Q E) : vs.length = 2 := by
  unfold sp_law_mix at h
  repeat (first | (obtain ⟨rfl, _⟩ := h; rfl) | obtain ⟨_, h⟩ := h)
theorem ok_law_mix {f : Addr} {fd : FuncData} (F : FunD K "_law_mix" "_law_mix" (defArgs s__law_mix) (defBody s__law_mix) (defScope s__law_mix) [] [] f fd) (hcx : NoE CX) (b : Blt mg)  : FnOk A.P A.w K mg base CX 1 f fd ["_law_script", "_law_seed"] (sp_law_mix K A) := by
  refine okD F sc__law_mix (fun vs H Q E h => len_law_mix h) (fun cdv A' outer s H vs Q E hr h => ⟨t_law_mix K A, ?_, pure_law_mix vs H Q E h⟩)
  exact pss_cons (ps_set (i := 2) sc__law_mix.nd rfl (by first | exact Or.inl rfl | exact Or.inr rfl) (pv 1)) (pss_cons (ps_for PassesOwn.never rfl (pi_list (pv 0)) (pg_name (i := 3) sc__law_mix.nd rfl (by first | exact Or.inl rfl | exact Or.inr rfl)) (pss_one (ps_set (i := 2) sc__law_mix.nd rfl (by first | exact Or.inl rfl | exact Or.inr rfl) (pe_op op_mod (pe_op op_add (pe_op op_add (pe_op op_mul (pv 2) (pe_int)) (pe_op op_mod (pv 3) (pe_int))) (pe_int)) (pe_int))))) (pss_one (ps_ret (pe_lst (pa_cons (pv 2) (pa_cons ((pe_callTy call_list_of (by rfl) b.n_list (by decide +kernel) (pa_cons (pv 0) (pa_nil)))) (pa_cons (pe_int) (pa_nil))))))))
abbrev s__law_next : Stmt := top 29
theorem sc__law_next : FnScope ["_law_h", "_law_limit", "_law_cell"] ["_law_h", "_law_limit"] (defScope s__law_next) := ⟨rfl, rfl, rfl, by decide +kernel, rfl, by decide +kernel, by decide +kernel⟩
theorem len_law_next {vs : List V} {H : Hp} {Q : VK} {E : XK} (h : sp_law_next K A vs H Q E) : vs.length = 2 := by
  unfold sp_law_next at h
  repeat (first | (obtain ⟨rfl, _⟩ := h; rfl) | obtain ⟨_, h⟩ := h)
theorem ok_law_next {f : Addr} {fd : FuncData} (F : FunD K "_law_next" "_law_next" (defArgs s__law_next) (defBody s__law_next) (defScope s__law_next) [] [] f fd) (hcx : NoE CX) (b : Blt mg)  : FnOk A.P A.w K mg base CX 1 f fd ["_law_h", "_law_limit"] (sp_law_next K A) := by
  refine okD F sc__law_next (fun vs H Q E h => len_law_next h) (fun cdv A' outer s H vs Q E hr h => ⟨t_law_next K A, ?_, pure_law_next vs H Q E h⟩)
  exact pss_cons (ps_set (i := 2) sc__law_next.nd rfl (by first | exact Or.inl rfl | exact Or.inr rfl) (pe_ix ix_seq (pe_op op_cat (pe_ix ix_seq (pv 0) (pe_int) (fun _ _ => rfl)) (pe_lst (pa_cons (pe_int) (pa_nil)))) (pe_op op_mod (pe_ix ix_seq (pv 0) (pe_int) (fun _ _ => rfl)) ((pe_callB (call_max2 rfl) (by rfl) b.n_max (by decide +kernel) (pa_cons (pe_int) (pa_cons ((pe_callB call_len (by rfl) b.n_len boot_len (pa_cons (pe_ix ix_seq (pv 0) (pe_int) (fun _ _ => rfl)) (pa_nil)))) (pa_nil)))))) (fun _ _ => rfl))) (pss_cons (ps_if (pt_cmpR op_ge (pv 2) (pe_op op_pow (pe_int) (pe_int)) (nomark _)) (pss_cons (ps_asg (pe_op op_fdivW (pv 2) (pv 1)) (pg_sub (pe_ix ix_seq (pv 0) (pe_int) (fun _ _ => rfl)) (pe_op op_mod (pe_ix ix_seq (pv 0) (pe_int) (fun _ _ => rfl)) ((pe_callB call_len (by rfl) b.n_len boot_len (pa_cons (pe_ix ix_seq (pv 0) (pe_int) (fun _ _ => rfl)) (pa_nil))))) set_list)) (pss_one (ps_ret (pe_op op_mod (pv 2) (pv 1))))) (pss_nil)) (pss_cons (ps_asg (pe_op op_mod (pe_op op_add (pe_op op_add (pe_op op_mul (pe_ix ix_seq (pv 0) (pe_int) (fun _ _ => rfl)) (pe_int)) (pe_op op_mul (pv 2) (pe_int))) (pe_int)) (pe_int)) (pg_sub (pv 0) (pe_int) set_list)) (pss_cons (ps_asg (pe_op op_add (pe_ix ix_seq (pv 0) (pe_int) (fun _ _ => rfl)) (pe_int)) (pg_sub (pv 0) (pe_int) set_list)) (pss_one (ps_ret (pe_op op_mod (pe_op op_fdivW (pe_ix ix_seq (pv 0) (pe_int) (fun _ _ => rfl)) (pe_int)) (pv 1)))))))
abbrev s__law_changes : Stmt := top 32
theorem sc__law_changes : FnScope ["_law_h", "_law_most", "_law_wide", "_law_found", "_law_low", "_law_k"] ["_law_h", "_law_most"] (defScope s__law_changes) := ⟨rfl, rfl, rfl, by decide +kernel, rfl, by decide +kernel, by decide +kernel⟩
theorem len_law_changes {vs : List V} {H : Hp} {Q : VK} {E : XK} (h : sp_law_changes K A vs H Q E) : vs.length = 2 := by
  unfold sp_law_changes at h
  repeat (first | (obtain ⟨rfl, _⟩ := h; rfl) | obtain ⟨_, h⟩ := h)
theorem ok_law_changes {f : Addr} {fd : FuncData} (F : FunD K "_law_changes" "_law_changes" (defArgs s__law_changes) (defBody s__law_changes) (defScope s__law_changes) [] [] f fd) (hcx : NoE CX) (b : Blt mg) (c_law_next : CalR A.P A.w K mg base CX 1 "_law_next" (sp_law_next K A)) : FnOk A.P A.w K mg base CX 2 f fd ["_law_h", "_law_most"] (sp_law_changes K A) := by
  refine okD F sc__law_changes (fun vs H Q E h => len_law_changes h) (fun cdv A' outer s H vs Q E hr h => ⟨t_law_changes K A, ?_, pure_law_changes vs H Q E h⟩)
  exact pss_cons (ps_par (i := 2) (j := 3) rfl sc__law_changes.nd rfl rfl (by decide) rfl rfl (pa_cons (pe_ix ix_seq (pe_lst (pa_cons (pe_int) (pa_cons (pe_int) (pa_cons (pe_int) (pa_nil))))) ((pe_cR c_law_next hr (by decide) (hcx _) (by rfl) (pa_cons (pv 0) (pa_cons (pe_int) (pa_nil))))) (fun _ _ => rfl)) (pa_cons (pe_lst (pa_nil)) (pa_nil))) (by rfl)) (pss_cons (ps_set (i := 4) sc__law_changes.nd rfl (by first | exact Or.inl rfl | exact Or.inr rfl) (pe_op op_sub (pe_op op_sub ((pe_cR c_law_next hr (by decide) (hcx _) (by rfl) (pa_cons (pv 0) (pa_cons (pe_op op_add (pe_op op_mul (pe_int) (pv 2)) (pe_int)) (pa_nil))))) (pv 2)) (pe_op op_fdivW (pv 2) (pe_int)))) (pss_cons (ps_for PassesOwn.never rfl (pi_range1 (by rfl) b.n_range (pa_cons (pe_op op_add (pe_int) ((pe_cR c_law_next hr (by decide) (hcx _) (by rfl) (pa_cons (pv 0) (pa_cons (pv 1) (pa_nil)))))) (pa_nil))) (pg_name (i := 5) sc__law_changes.nd rfl (by first | exact Or.inl rfl | exact Or.inr rfl)) (pss_one (ps_expr ((pe_bm PySem.F.plainAttrs_list PySem.F.slot_list_append PySem.F.type_list_append mt_append (pv 3) (pa_cons (pe_op op_mul ((pe_callB (call_max2 rfl) (by rfl) b.n_max (by decide +kernel) (pa_cons (pe_un un_neg (pe_int)) (pa_cons ((pe_callB (call_min2 rfl) (by rfl) b.n_min (by decide +kernel) (pa_cons (pe_int) (pa_cons (pe_op op_add (pv 4) ((pe_cR c_law_next hr (by decide) (hcx _) (by rfl) (pa_cons (pv 0) (pa_cons (pe_op op_add (pv 2) (pe_int)) (pa_nil)))))) (pa_nil))))) (pa_nil))))) ((pe_callTy call_int1 (by rfl) b.n_int (by decide +kernel) (pa_cons (pe_cmpR op_gt ((pe_cR c_law_next hr (by decide) (hcx _) (by rfl) (pa_cons (pv 0) (pa_cons (pe_int) (pa_nil))))) (pe_int) (nomark _)) (pa_nil))))) (pa_nil))))))) (pss_one (ps_ret ((pe_callTy call_tuple_of (by rfl) b.n_tuple (by decide +kernel) (pa_cons (pv 3) (pa_nil))))))))
abbrev s__law_setting : Stmt := top 34
theorem sc__law_setting : FnScope ["_law_h", "_law_wide", "_law_low", "_law_high", "_law_start"] ["_law_h"] (defScope s__law_setting) := ⟨rfl, rfl, rfl, by decide +kernel, rfl, by decide +kernel, by decide +kernel⟩
theorem len_law_setting {vs : List V} {H : Hp} {Q : VK} {E : XK} (h : sp_law_setting K A vs H Q E) : vs.length = 1 := by
  unfold sp_law_setting at h
  repeat (first | (obtain ⟨rfl, _⟩ := h; rfl) | obtain ⟨_, h⟩ := h)
theorem ok_law_setting {f : Addr} {fd : FuncData} (F : FunD K "_law_setting" "_law_setting" (defArgs s__law_setting) (defBody s__law_setting) (defScope s__law_setting) [] [] f fd) (hcx : NoE CX) (b : Blt mg) (c_law_next : CalR A.P A.w K mg base CX 1 "_law_next" (sp_law_next K A)) : FnOk A.P A.w K mg base CX 2 f fd ["_law_h"] (sp_law_setting K A) := by
  refine okD F sc__law_setting (fun vs H Q E h => len_law_setting h) (fun cdv A' outer s H vs Q E hr h => ⟨t_law_setting K A, ?_, pure_law_setting vs H Q E h⟩)
  exact pss_cons (ps_set (i := 1) sc__law_setting.nd rfl (by first | exact Or.inl rfl | exact Or.inr rfl) (pe_ix ix_seq (pe_lst (pa_cons (pe_int) (pa_cons (pe_int) (pa_cons (pe_op op_pow (pe_int) (pe_int)) (pa_nil))))) ((pe_cR c_law_next hr (by decide) (hcx _) (by rfl) (pa_cons (pv 0) (pa_cons (pe_int) (pa_nil))))) (fun _ _ => rfl))) (pss_cons (ps_set (i := 2) sc__law_setting.nd rfl (by first | exact Or.inl rfl | exact Or.inr rfl) (pe_op op_sub ((pe_cR c_law_next hr (by decide) (hcx _) (by rfl) (pa_cons (pv 0) (pa_cons (pv 1) (pa_nil))))) (pe_op op_fdivW (pv 1) (pe_int)))) (pss_cons (ps_set (i := 3) sc__law_setting.nd rfl (by first | exact Or.inl rfl | exact Or.inr rfl) (pe_op op_add (pv 2) ((pe_cR c_law_next hr (by decide) (hcx _) (by rfl) (pa_cons (pv 0) (pa_cons (pe_ix ix_seq (pe_lst (pa_cons (pe_int) (pa_cons (pv 1) (pa_nil)))) ((pe_cR c_law_next hr (by decide) (hcx _) (by rfl) (pa_cons (pv 0) (pa_cons (pe_int) (pa_nil))))) (fun _ _ => rfl)) (pa_nil))))))) (pss_cons (ps_set (i := 4) sc__law_setting.nd rfl (by first | exact Or.inl rfl | exact Or.inr rfl) (pe_op op_sub (pe_op op_add (pv 2) ((pe_cR c_law_next hr (by decide) (hcx _) (by rfl) (pa_cons (pv 0) (pa_cons (pe_op op_mul (pe_int) (pv 1)) (pa_nil)))))) (pe_op op_fdivW (pv 1) (pe_int)))) (pss_cons (ps_set (i := 4) sc__law_setting.nd rfl (by first | exact Or.inl rfl | exact Or.inr rfl) (pe_ix ix_seq (pe_lst (pa_cons (pv 4) (pa_cons (pv 2) (pa_cons (pv 3) (pa_cons (pe_op op_sub (pv 2) (pe_int)) (pa_cons (pe_op op_add (pv 3) (pe_int)) (pa_nil))))))) ((pe_callB (call_max2 rfl) (by rfl) b.n_max (by decide +kernel) (pa_cons (pe_int) (pa_cons (pe_op op_sub ((pe_cR c_law_next hr (by decide) (hcx _) (by rfl) (pa_cons (pv 0) (pa_cons (pe_int) (pa_nil))))) (pe_int)) (pa_nil))))) (fun _ _ => rfl))) (pss_one (ps_ret (pe_tup (pa_cons (pe_op op_add (pe_int) ((pe_cR c_law_next hr (by decide) (hcx _) (by rfl) (pa_cons (pv 0) (pa_cons (pe_ix ix_seq (pe_lst (pa_cons (pe_int) (pa_cons (pe_int) (pa_nil)))) ((pe_cR c_law_next hr (by decide) (hcx _) (by rfl) (pa_cons (pv 0) (pa_cons (pe_int) (pa_nil))))) (fun _ _ => rfl)) (pa_nil)))))) (pa_cons (pv 2) (pa_cons (pv 3) (pa_cons (pv 4) (pa_cons (pe_cmpR op_eq ((pe_cR c_law_next hr (by decide) (hcx _) (by rfl) (pa_cons (pv 0) (pa_cons (pe_int) (pa_nil))))) (pe_int) (nomark _)) (pa_nil)))))))))))))
abbrev s_validate_number : Stmt := top 13
theorem sc_validate_number : FnScope ["number", "smallest", "largest"] ["number", "smallest", "largest"] (defScope s_validate_number) := ⟨rfl, rfl, rfl, by decide +kernel, rfl, by decide +kernel, by decide +kernel⟩
theorem len_validate_number {vs : List V} {H : Hp} {Q : VK} {E : XK} (h : sp_validate_number K A vs H Q E) : vs.length = 3 := by
  unfold sp_validate_number at h
  repeat (first | (obtain ⟨rfl, _⟩ := h; rfl) | obtain ⟨_, h⟩ := h)
theorem ok_validate_number {f : Addr} {fd : FuncData} (F : FunD K "validate_number" "validate_number" (defArgs s_validate_number) (defBody s_validate_number) (defScope s_validate_number) [] [] f fd) (hcx : NoE CX) (b : Blt mg)  : FnOk A.P A.w K mg base CX 1 f fd ["number", "smallest", "largest"] (sp_validate_number K A) := by
  refine okD F sc_validate_number (fun vs H Q E h => len_validate_number h) (fun cdv A' outer s H vs Q E hr h => ⟨t_validate_number K A, ?_, pure_validate_number vs H Q E h⟩)
  exact pss_one (ps_if (pt_not (pt_chain op_le op_le (pv 1) (pv 0) (pv 2))) (pss_one (ps_never)) (pss_nil))
theorem len_validate_numberR {vs : List V} {H : Hp} {Q : VK} {E : XK} (h : sp_validate_numberR K A vs H Q E) : vs.length = 3 := by
  unfold sp_validate_numberR at h
  repeat (first | (obtain ⟨rfl, _⟩ := h; rfl) | obtain ⟨_, h⟩ := h)
theorem ok_validate_numberR {f : Addr} {fd : FuncData} (F : FunD K "validate_number" "validate_number" (defArgs s_validate_number) (defBody s_validate_number) (defScope s_validate_number) [] [] f fd) (hcx : NoE (L2N.CX A.P A.w)) (b : Blt mg) (xs_InvalidNumber : RzS K mg "InvalidNumber" A.cInvalidNumber) : FnOk A.P A.w K mg base (L2N.CX A.P A.w) 1 f fd ["number", "smallest", "largest"] (sp_validate_numberR K A) := by
  refine okDXN F sc_validate_number (fun vs H Q E h => len_validate_numberR h) (fun cdv A' outer s H vs Q E hr tk po h => ⟨t_validate_numberR K A E, ?_, pure_validate_numberR vs H Q E h⟩)
  exact pss_cons (ps_if (pt_not (pt_chain op_le op_le (pv 1) (pv 0) (pv 2))) (pss_one (ps_rzSN xs_InvalidNumber rfl tk (by rfl))) (pss_nil)) (pss_never)
abbrev s_ThresholdObserver___init__ : Stmt := inClass (top 26) 0
theorem sc_ThresholdObserver___init__ : FnScope ["self", "weather", "gain", "start", "on"] ["self", "weather", "gain", "start", "on"] (defScope s_ThresholdObserver___init__) := ⟨rfl, rfl, rfl, by decide +kernel, rfl, by decide +kernel, by decide +kernel⟩
theorem len_ThresholdObserver_init {vs : List V} {H : Hp} {Q : VK} {E : XK} (h : sp_ThresholdObserver_init K A vs H Q E) : vs.length = 5 := by
  unfold sp_ThresholdObserver_init at h
  repeat (first | (obtain ⟨rfl, _⟩ := h; rfl) | obtain ⟨_, h⟩ := h)
theorem ok_ThresholdObserver_init {f : Addr} {fd : FuncData} (F : FunD K "__init__" "ThresholdObserver.__init__" (defArgs s_ThresholdObserver___init__) (defBody s_ThresholdObserver___init__) (defScope s_ThresholdObserver___init__) [] [("on", .bl false)] f fd) (hcx : NoE CX) (b : Blt mg) (k_MAX_GAIN : ∃ u, mg "MAX_GAIN" = some u ∧ RelV (.int 200) u) (c_validate_number : CalR A.P A.w K mg base CX 1 "validate_number" (sp_validate_number K A)) (k_MAX_DEGREES : ∃ u, mg "MAX_DEGREES" = some u ∧ RelV (.int 1000000000000) u) : FnOk A.P A.w K mg base CX 2 f fd ["self", "weather", "gain", "start", "on"] (sp_ThresholdObserver_init K A) := by
  refine okD F sc_ThresholdObserver___init__ (fun vs H Q E h => len_ThresholdObserver_init h) (fun cdv A' outer s H vs Q E hr h => ⟨t_ThresholdObserver_init K A, ?_, pure_ThresholdObserver_init vs H Q E h⟩)
  exact pss_cons (ps_if (pt_not (pt_chain op_le op_le (pe_int) (pv 2) ((C8.pe_gc (by rfl) k_MAX_GAIN)))) (pss_one (ps_never)) (pss_nil)) (pss_cons (ps_expr ((pe_cR c_validate_number hr (by decide) (hcx _) (by rfl) (pa_cons (pv 3) (pa_cons (pe_op op_sub (pe_int) ((C8.pe_gc (by rfl) k_MAX_DEGREES))) (pa_cons ((C8.pe_gc (by rfl) k_MAX_DEGREES)) (pa_nil))))))) (pss_cons (ps_fld (pv 0) (pv 1) rfl) (pss_cons (ps_fld (pv 0) (pv 2) rfl) (pss_cons (ps_fld (pv 0) (pe_int) rfl) (pss_cons (ps_fld (pv 0) (pv 3) rfl) (pss_cons (ps_fld (pv 0) (pv 4) rfl) (pss_cons (ps_fld (pv 0) (pe_tup (pa_cons (pe_op op_sub (pe_int) ((C8.pe_gc (by rfl) k_MAX_DEGREES))) (pa_cons ((C8.pe_gc (by rfl) k_MAX_DEGREES)) (pa_nil)))) rfl) (pss_cons (ps_fld (pv 0) (pe_tup (pa_cons (pe_op op_sub (pe_int) ((C8.pe_gc (by rfl) k_MAX_DEGREES))) (pa_cons ((C8.pe_gc (by rfl) k_MAX_DEGREES)) (pa_nil)))) rfl) (pss_one (ps_fld (pv 0) (pe_lst (pa_nil)) rfl))))))))))
abbrev s_Weather___init__ : Stmt := inClass (top 15) 2
theorem sc_Weather___init__ : FnScope ["self", "changes", "index", "change"] ((["self"] : List Str) ++ (["changes"] : List Str)) (defScope s_Weather___init__) := ⟨rfl, rfl, rfl, by decide +kernel, rfl, by decide +kernel, by decide +kernel⟩
theorem ok_Weather_init {f : Addr} {fd : FuncData} (F : FunD K "__init__" "Weather.__init__" (defArgs s_Weather___init__) (defBody s_Weather___init__) (defScope s_Weather___init__) [] [] f fd) (hcx : NoE CX) (b : Blt mg) (a_Weather : ∃ u, mg "Weather" = some u ∧ RelV (.ref A.cWeather) u) (cv_Weather_MAX_TICKS : CVC K A.cWeather "MAX_TICKS" (.int 24)) (cv_Weather_MAX_CHANGE : CVC K A.cWeather "MAX_CHANGE" (.int 100)) (hup : StX.CXUp CX) : FnR A.P A.w K mg base CX 1 f (sp_Weather_init K A) := by
  refine okStar (p1 := "self") (pv := "changes") (sp := sp_Weather_body K A) F sc_Weather___init__ hup (fun kV doc pm an cdv ct => StX.bind_star1 (B := fun l => bindArgs (PySem.W.fnOf "__init__" "Weather.__init__" (defArgs s_Weather___init__) (defBody s_Weather___init__) (defScope s_Weather___init__) .none kV doc pm an cdv ct) ⟨l, []⟩) (fun a => rfl) (fun a r rs => rfl)) (fun cdv A' outer s H vs Q E hr h => ⟨t_Weather_init K A, ?_, pure_Weather_init vs H Q E h⟩)
  exact pss_cons (ps_if (pt_cmpR (op_eqD hr.units) (pv 1) (pe_tup (pa_nil)) (nomark _)) (pss_one (ps_never)) (pss_nil)) (pss_cons (ps_for PassesOwn.never rfl (pi_enumT (by rfl) b.n_enumerate (pa_cons (pv 1) (pa_nil))) (pg_tup rfl (pgs_cons (pg_name (i := 2) sc_Weather___init__.nd rfl (by first | exact Or.inl rfl | exact Or.inr rfl)) (pgs_cons (pg_name (i := 3) sc_Weather___init__.nd rfl (by first | exact Or.inl rfl | exact Or.inr rfl)) (pgs_nil)))) (pss_one (ps_if (PW.pt (pw_or (pt_cmpR op_eq (pv 2) ((pe_cvC ((C8.pe_gc (by rfl) a_Weather)) cv_Weather_MAX_TICKS)) (nomark _)) (pw_or1 (pt_not (pt_chain op_le op_le (pe_op op_sub (pe_int) ((pe_cvC ((C8.pe_gc (by rfl) a_Weather)) cv_Weather_MAX_CHANGE))) (pv 3) ((pe_cvC ((C8.pe_gc (by rfl) a_Weather)) cv_Weather_MAX_CHANGE))))))) (pss_one (ps_never)) (pss_nil)))) (pss_one (ps_fld (pv 0) (pv 1) rfl)))
abbrev s__law_weather : Stmt := top 33
theorem sc__law_weather : FnScope ["_law_changes_here", "_law_a"] ["_law_changes_here"] (defScope s__law_weather) := ⟨rfl, rfl, rfl, by decide +kernel, rfl, by decide +kernel, by decide +kernel⟩
theorem len_law_weather {vs : List V} {H : Hp} {Q : VK} {E : XK} (h : sp_law_weather K A vs H Q E) : vs.length = 1 := by
  unfold sp_law_weather at h
  repeat (first | (obtain ⟨rfl, _⟩ := h; rfl) | obtain ⟨_, h⟩ := h)
theorem ok_law_weather {f : Addr} {fd : FuncData} (F : FunD K "_law_weather" "_law_weather" (defArgs s__law_weather) (defBody s__law_weather) (defScope s__law_weather) [] [] f fd) (hcx : NoE CX) (b : Blt mg) (n_Weather : MakR A.P A.w K mg base CX 1 "Weather" A.cWeather (sp_Weather_init K A)) : FnOk A.P A.w K mg base CX 3 f fd ["_law_changes_here"] (sp_law_weather K A) := by
  refine okD F sc__law_weather (fun vs H Q E h => len_law_weather h) (fun cdv A' outer s H vs Q E hr h => ⟨t_law_weather K A, ?_, pure_law_weather vs H Q E h⟩)
  exact pss_cons (ps_set (i := 1) sc__law_weather.nd rfl (by first | exact Or.inl rfl | exact Or.inr rfl) (pe_op op_cat ((pe_callTy call_list_of (by rfl) b.n_list (by decide +kernel) (pa_cons (pv 0) (pa_nil)))) (pe_op op_rep (pe_lst (pa_cons (pe_int) (pa_nil))) (pe_int)))) (pss_cons (ps_if (pt_cmpR op_lt ((pe_callB call_len (by rfl) b.n_len boot_len (pa_cons (pv 0) (pa_nil)))) (pe_int) (nomark _)) (pss_one (ps_ret (pe_ifExp (pt_cmpR op_eq ((pe_callB call_len (by rfl) b.n_len boot_len (pa_cons (pv 0) (pa_nil)))) (pe_int) (nomark _)) ((pe_mkR n_Weather hr (by decide) (hcx _) (by rfl) (pa_cons (pe_ix ix_seq (pv 1) (pe_int) (fun _ _ => rfl)) (pa_nil)))) ((pe_mkR n_Weather hr (by decide) (hcx _) (by rfl) (pa_cons (pe_ix ix_seq (pv 1) (pe_int) (fun _ _ => rfl)) (pa_cons (pe_ix ix_seq (pv 1) (pe_int) (fun _ _ => rfl)) (pa_nil)))))))) (pss_nil)) (pss_cons (ps_if (pt_cmpR op_lt ((pe_callB call_len (by rfl) b.n_len boot_len (pa_cons (pv 0) (pa_nil)))) (pe_int) (nomark _)) (pss_one (ps_ret (pe_ifExp (pt_cmpR op_eq ((pe_callB call_len (by rfl) b.n_len boot_len (pa_cons (pv 0) (pa_nil)))) (pe_int) (nomark _)) ((pe_mkR n_Weather hr (by decide) (hcx _) (by rfl) (pa_cons (pe_ix ix_seq (pv 1) (pe_int) (fun _ _ => rfl)) (pa_cons (pe_ix ix_seq (pv 1) (pe_int) (fun _ _ => rfl)) (pa_cons (pe_ix ix_seq (pv 1) (pe_int) (fun _ _ => rfl)) (pa_nil)))))) ((pe_mkR n_Weather hr (by decide) (hcx _) (by rfl) (pa_cons (pe_ix ix_seq (pv 1) (pe_int) (fun _ _ => rfl)) (pa_cons (pe_ix ix_seq (pv 1) (pe_int) (fun _ _ => rfl)) (pa_cons (pe_ix ix_seq (pv 1) (pe_int) (fun _ _ => rfl)) (pa_cons (pe_ix ix_seq (pv 1) (pe_int) (fun _ _ => rfl)) (pa_nil)))))))))) (pss_nil)) (pss_cons (ps_if (pt_cmpR op_eq ((pe_callB call_len (by rfl) b.n_len boot_len (pa_cons (pv 0) (pa_nil)))) (pe_int) (nomark _)) (pss_one (ps_ret ((pe_mkR n_Weather hr (by decide) (hcx _) (by rfl) (pa_cons (pe_ix ix_seq (pv 1) (pe_int) (fun _ _ => rfl)) (pa_cons (pe_ix ix_seq (pv 1) (pe_int) (fun _ _ => rfl)) (pa_cons (pe_ix ix_seq (pv 1) (pe_int) (fun _ _ => rfl)) (pa_cons (pe_ix ix_seq (pv 1) (pe_int) (fun _ _ => rfl)) (pa_cons (pe_ix ix_seq (pv 1) (pe_int) (fun _ _ => rfl)) (pa_nil)))))))))) (pss_nil)) (pss_one (ps_ret ((pe_mkR n_Weather hr (by decide) (hcx _) (by rfl) (pa_cons (pe_ix ix_seq (pv 1) (pe_int) (fun _ _ => rfl)) (pa_cons (pe_ix ix_seq (pv 1) (pe_int) (fun _ _ => rfl)) (pa_cons (pe_ix ix_seq (pv 1) (pe_int) (fun _ _ => rfl)) (pa_cons (pe_ix ix_seq (pv 1) (pe_int) (fun _ _ => rfl)) (pa_cons (pe_ix ix_seq (pv 1) (pe_int) (fun _ _ => rfl)) (pa_cons (pe_ix ix_seq (pv 1) (pe_int) (fun _ _ => rfl)) (pa_nil))))))))))))))
abbrev s__law_told : Stmt := top 35
theorem sc__law_told : FnScope ["_law_changes_here", "_law_setting_here", "_law_count", "_law_gain", "_law_low", "_law_high", "_law_degrees", "_law_heating", "_law_found", "_law_states", "_law_tick", "_law_change"] ["_law_changes_here", "_law_setting_here", "_law_count"] (defScope s__law_told) := ⟨rfl, rfl, rfl, by decide +kernel, rfl, by decide +kernel, by decide +kernel⟩
theorem len_law_told {vs : List V} {H : Hp} {Q : VK} {E : XK} (h : sp_law_told K A vs H Q E) : vs.length = 3 := by
  unfold sp_law_told at h
  repeat (first | (obtain ⟨rfl, _⟩ := h; rfl) | obtain ⟨_, h⟩ := h)
theorem ok_law_told {f : Addr} {fd : FuncData} (F : FunD K "_law_told" "_law_told" (defArgs s__law_told) (defBody s__law_told) (defScope s__law_told) [] [] f fd) (hcx : NoE CX) (b : Blt mg)  : FnOk A.P A.w K mg base CX 1 f fd ["_law_changes_here", "_law_setting_here", "_law_count"] (sp_law_told K A) := by
  refine okD F sc__law_told (fun vs H Q E h => len_law_told h) (fun cdv A' outer s H vs Q E hr h => ⟨t_law_told K A, ?_, pure_law_told vs H Q E h⟩)
  exact pss_cons (ps_asg (pv 1) (pg_tup rfl (pgs_cons (pg_name (i := 3) sc__law_told.nd rfl (by first | exact Or.inl rfl | exact Or.inr rfl)) (pgs_cons (pg_name (i := 4) sc__law_told.nd rfl (by first | exact Or.inl rfl | exact Or.inr rfl)) (pgs_cons (pg_name (i := 5) sc__law_told.nd rfl (by first | exact Or.inl rfl | exact Or.inr rfl)) (pgs_cons (pg_name (i := 6) sc__law_told.nd rfl (by first | exact Or.inl rfl | exact Or.inr rfl)) (pgs_cons (pg_name (i := 7) sc__law_told.nd rfl (by first | exact Or.inl rfl | exact Or.inr rfl)) (pgs_nil)))))))) (pss_cons (ps_par (i := 8) (j := 9) rfl sc__law_told.nd rfl rfl (by decide) rfl rfl (pa_cons (pe_lst (pa_nil)) (pa_cons (pe_lst (pa_nil)) (pa_nil))) (by rfl)) (pss_cons (ps_for PassesOwn.never rfl (pi_range1 (by rfl) b.n_range (pa_cons (pv 2) (pa_nil))) (pg_name (i := 10) sc__law_told.nd rfl (by first | exact Or.inl rfl | exact Or.inr rfl)) (pss_cons (ps_if (pt_cmpR op_lt (pv 6) (pv 4) (nomark _)) (pss_one (ps_set (i := 7) sc__law_told.nd rfl (by first | exact Or.inl rfl | exact Or.inr rfl) (pe_bl))) (pss_one (ps_if (pt_cmpR op_gt (pv 6) (pv 5) (nomark _)) (pss_one (ps_set (i := 7) sc__law_told.nd rfl (by first | exact Or.inl rfl | exact Or.inr rfl) (pe_bl))) (pss_nil)))) (pss_cons (ps_expr ((pe_bm PySem.F.plainAttrs_list PySem.F.slot_list_append PySem.F.type_list_append mt_append (pv 8) (pa_cons (pv 6) (pa_nil))))) (pss_cons (ps_expr ((pe_bm PySem.F.plainAttrs_list PySem.F.slot_list_append PySem.F.type_list_append mt_append (pv 9) (pa_cons (pv 7) (pa_nil))))) (pss_cons (ps_set (i := 11) sc__law_told.nd rfl (by first | exact Or.inl rfl | exact Or.inr rfl) (pe_ix ix_seq (pv 0) (pe_op op_mod (pv 10) ((pe_callB call_len (by rfl) b.n_len boot_len (pa_cons (pv 0) (pa_nil))))) (fun _ _ => rfl))) (pss_one (ps_set (i := 6) sc__law_told.nd rfl (by first | exact Or.inl rfl | exact Or.inr rfl) (pe_op op_add (pe_op op_add (pv 6) (pv 11)) (pe_op op_mul (pv 3) ((pe_callTy call_int1 (by rfl) b.n_int (by decide +kernel) (pa_cons (pv 7) (pa_nil))))))))))))) (pss_one (ps_ret (pe_tup (pa_cons (pv 8) (pa_cons (pv 9) (pa_nil))))))))
abbrev s__law_error : Stmt := top 31
abbrev sxBody : List Stmt := match defBody s__law_error with | .Try _ (.ExceptHandler _ _ b _ :: _) _ _ _ :: _ => b | _ => []
theorem sc__law_error : FnScope ["_law_call", "e", "_law_kinds", "_law_name"] ["_law_call"] (defScope s__law_error) := ⟨rfl, rfl, rfl, by decide +kernel, rfl, by decide +kernel, by decide +kernel⟩
theorem sx_ok {P : Program} {w : World} (b : Blt mg) (a_Contradiction : ∃ u, mg "Contradiction" = some u ∧ RelV (.ref A.cContradiction) u) (a_InvalidHeater : ∃ u, mg "InvalidHeater" = some u ∧ RelV (.ref A.cInvalidHeater) u) (a_InvalidNumber : ∃ u, mg "InvalidNumber" = some u ∧ RelV (.ref A.cInvalidNumber) u) (a_InvalidWeather : ∃ u, mg "InvalidWeather" = some u ∧ RelV (.ref A.cInvalidWeather) u) (a_OtherWeather : ∃ u, mg "OtherWeather" = some u ∧ RelV (.ref A.cOtherWeather) u) (xf_InvalidWeather : XfI K A.cInvalidWeather "index") {k : Nat} {g : Addr} {cdg : Value} {A' : Around} {outer : List Env} {s : Shared} {H : Hp} {E : XK} (hr : Room k (A'.deeper (envOfC "_law_error" (defScope s__law_error) s.heap.objs.size g cdg)))
    {a : Addr} {oe : Obj} {cls : Value} {d : Option Addr} {pn : List (Addr × Obj)} (hz : Zc cls d oe) (hf : ∃ vs, oe.data = .fields vs) :
    PSs ((cxOf CX P w K mg base ["_law_call", "e", "_law_kinds", "_law_name"] "_law_error" (defScope s__law_error) g cdg A' outer s H E).nox.suite a ((a, oe) :: pn)) sxBody (t_law_error_sx K A a cls d) := by
  exact pss_cons (ps_set (i := 2) sc__law_error.nd rfl (by first | exact Or.inl rfl | exact Or.inr rfl) (pe_lst (pa_cons ((pe_callB (call_isX hz hf) (by rfl) b.n_isinstance (by decide +kernel) (pa_cons (pv 1) (pa_cons ((C8.pe_gc (by rfl) a_Contradiction)) (pa_nil))))) (pa_cons ((pe_callB (call_isX hz hf) (by rfl) b.n_isinstance (by decide +kernel) (pa_cons (pv 1) (pa_cons ((C8.pe_gc (by rfl) a_InvalidHeater)) (pa_nil))))) (pa_cons ((pe_callB (call_isX hz hf) (by rfl) b.n_isinstance (by decide +kernel) (pa_cons (pv 1) (pa_cons ((C8.pe_gc (by rfl) a_InvalidNumber)) (pa_nil))))) (pa_nil)))))) (pss_cons (ps_expr ((pe_bm PySem.F.plainAttrs_list PySem.F.slot_list_extend PySem.F.type_list_extend mt_extend (pv 2) (pa_cons (pe_lst (pa_cons ((pe_callB (call_isX hz hf) (by rfl) b.n_isinstance (by decide +kernel) (pa_cons (pv 1) (pa_cons ((C8.pe_gc (by rfl) a_InvalidWeather)) (pa_nil))))) (pa_cons ((pe_callB (call_isX hz hf) (by rfl) b.n_isinstance (by decide +kernel) (pa_cons (pv 1) (pa_cons ((C8.pe_gc (by rfl) a_OtherWeather)) (pa_nil))))) (pa_nil)))) (pa_nil))))) (pss_cons (ps_if (PW.pt (pw_or (pt_cmpR op_ne ((pe_bm PySem.F.plainAttrs_list PySem.F.slot_list_count PySem.F.type_list_count (mt_cntB (by have hu := hu65_of hr; exact hu)) (pv 2) (pa_cons (pe_bl) (pa_nil)))) (pe_int) (nomark _)) (pw_or1 (pt_not (pt_val ((pe_callB (call_isX hz hf) (by rfl) b.n_isinstance (by decide +kernel) (pa_cons (pv 1) (pa_cons ((pe_bltn (by rfl) b.n_ValueError (by decide +kernel) rfl)) (pa_nil)))))))))) (pss_one (ps_ret (pe_tup (pa_cons (pe_str) (pa_nil))))) (pss_nil)) (pss_cons (ps_set (i := 3) sc__law_error.nd rfl (by first | exact Or.inl rfl | exact Or.inr rfl) (pe_ix ix_seq (pe_lst (pa_cons (pe_str) (pa_cons (pe_str) (pa_cons (pe_str) (pa_cons (pe_str) (pa_cons (pe_str) (pa_nil))))))) ((pe_bm PySem.F.plainAttrs_list PySem.F.slot_list_index PySem.F.type_list_index mt_index (pv 2) (pa_cons (pe_bl) (pa_nil)))) (fun _ _ => rfl))) (pss_one (ps_ret (pe_ifExp (pt_cmpR op_eq (pv 3) (pe_str) (nomark _)) (pe_tup (pa_cons (pv 3) (pa_cons ((pe_xf xf_InvalidWeather.xf xf_InvalidWeather.noat hz hf (pv 1))) (pa_nil)))) (pe_tup (pa_cons (pv 3) (pa_nil)))))))))
theorem er_law_error {P : Program} {w : World} {k : Nat} {fe : Addr} {fd : FuncData} (F : FunD K "_law_error" "_law_error" (defArgs s__law_error) (defBody s__law_error) (defScope s__law_error) [] [] fe fd) (hm : mg "_law_error" = some (.ref fe)) (kp : PySem.W.keepIn K (.ref fe) = true) (bd : Binds K fd ["_law_call"] []) (b : Blt mg) (a_Contradiction : ∃ u, mg "Contradiction" = some u ∧ RelV (.ref A.cContradiction) u) (a_InvalidHeater : ∃ u, mg "InvalidHeater" = some u ∧ RelV (.ref A.cInvalidHeater) u) (a_InvalidNumber : ∃ u, mg "InvalidNumber" = some u ∧ RelV (.ref A.cInvalidNumber) u) (a_InvalidWeather : ∃ u, mg "InvalidWeather" = some u ∧ RelV (.ref A.cInvalidWeather) u) (a_OtherWeather : ∃ u, mg "OtherWeather" = some u ∧ RelV (.ref A.cOtherWeather) u) (xf_InvalidWeather : XfI K A.cInvalidWeather "index") (hW : mg "WarmthError" = some (.ref A.cWarmthError)) : ErrD P w K mg base k "_law_error" errN "_law_call" (TTerr K A.cWarmthError 1 errN (t_law_error_sx K A) tErrRet) := by
  refine ⟨s__law_error, fe, fd, F, hm, kp, bd, sc__law_error, rfl, Or.inl rfl, fun X e1 e2 e3 e4 e5 hr cdv q => ?_⟩
  subst e1 e2 e3 e4 e5
  exact err_gives (n := "e") rfl hW rfl (fun f => rfl) (by decide) rfl rfl (fun s H a oe cls d pn hz hf => sx_ok b a_Contradiction a_InvalidHeater a_InvalidNumber a_InvalidWeather a_OtherWeather xf_InvalidWeather (hr.deeper _) hz hf) (fun s H => ps_ret (pe_tup (pa_cons pe_str pa_nil)))
abbrev s_ThresholdObserver_low_range : Stmt := inClass (top 26) 1
theorem sc_ThresholdObserver_low_range : FnScope ["self"] ["self"] (defScope s_ThresholdObserver_low_range) := ⟨rfl, rfl, rfl, by decide +kernel, rfl, by decide +kernel, by decide +kernel⟩
theorem len_ThresholdObserver_low_range {vs : List V} {H : Hp} {Q : VK} {E : XK} (h : sp_ThresholdObserver_low_range K A vs H Q E) : vs.length = 1 := by
  unfold sp_ThresholdObserver_low_range at h
  repeat (first | (obtain ⟨rfl, _⟩ := h; rfl) | obtain ⟨_, h⟩ := h)
theorem ok_ThresholdObserver_low_range {f : Addr} {fd : FuncData} (F : FunD K "low_range" "ThresholdObserver.low_range" (defArgs s_ThresholdObserver_low_range) (defBody s_ThresholdObserver_low_range) (defScope s_ThresholdObserver_low_range) [] [] f fd) (hcx : NoE CX) (b : Blt mg)  : FnOk A.P A.w K mg base CX 1 f fd ["self"] (sp_ThresholdObserver_low_range K A) := by
  refine okD F sc_ThresholdObserver_low_range (fun vs H Q E h => len_ThresholdObserver_low_range h) (fun cdv A' outer s H vs Q E hr h => ⟨t_ThresholdObserver_low_range K A, ?_, pure_ThresholdObserver_low_range vs H Q E h⟩)
  exact pss_one (ps_ret (pe_fld (pv 0) rfl))
abbrev s_ThresholdObserver_high_range : Stmt := inClass (top 26) 2
theorem sc_ThresholdObserver_high_range : FnScope ["self"] ["self"] (defScope s_ThresholdObserver_high_range) := ⟨rfl, rfl, rfl, by decide +kernel, rfl, by decide +kernel, by decide +kernel⟩
theorem len_ThresholdObserver_high_range {vs : List V} {H : Hp} {Q : VK} {E : XK} (h : sp_ThresholdObserver_high_range K A vs H Q E) : vs.length = 1 := by
  unfold sp_ThresholdObserver_high_range at h
  repeat (first | (obtain ⟨rfl, _⟩ := h; rfl) | obtain ⟨_, h⟩ := h)
theorem ok_ThresholdObserver_high_range {f : Addr} {fd : FuncData} (F : FunD K "high_range" "ThresholdObserver.high_range" (defArgs s_ThresholdObserver_high_range) (defBody s_ThresholdObserver_high_range) (defScope s_ThresholdObserver_high_range) [] [] f fd) (hcx : NoE CX) (b : Blt mg)  : FnOk A.P A.w K mg base CX 1 f fd ["self"] (sp_ThresholdObserver_high_range K A) := by
  refine okD F sc_ThresholdObserver_high_range (fun vs H Q E h => len_ThresholdObserver_high_range h) (fun cdv A' outer s H vs Q E hr h => ⟨t_ThresholdObserver_high_range K A, ?_, pure_ThresholdObserver_high_range vs H Q E h⟩)
  exact pss_one (ps_ret (pe_fld (pv 0) rfl))
abbrev s_ThresholdObserver_seen_ticks : Stmt := inClass (top 26) 3
theorem sc_ThresholdObserver_seen_ticks : FnScope ["self"] ["self"] (defScope s_ThresholdObserver_seen_ticks) := ⟨rfl, rfl, rfl, by decide +kernel, rfl, by decide +kernel, by decide +kernel⟩
theorem len_ThresholdObserver_seen_ticks {vs : List V} {H : Hp} {Q : VK} {E : XK} (h : sp_ThresholdObserver_seen_ticks K A vs H Q E) : vs.length = 1 := by
  unfold sp_ThresholdObserver_seen_ticks at h
  repeat (first | (obtain ⟨rfl, _⟩ := h; rfl) | obtain ⟨_, h⟩ := h)
theorem ok_ThresholdObserver_seen_ticks {f : Addr} {fd : FuncData} (F : FunD K "seen_ticks" "ThresholdObserver.seen_ticks" (defArgs s_ThresholdObserver_seen_ticks) (defBody s_ThresholdObserver_seen_ticks) (defScope s_ThresholdObserver_seen_ticks) [] [] f fd) (hcx : NoE CX) (b : Blt mg)  : FnOk A.P A.w K mg base CX 1 f fd ["self"] (sp_ThresholdObserver_seen_ticks K A) := by
  refine okD F sc_ThresholdObserver_seen_ticks (fun vs H Q E h => len_ThresholdObserver_seen_ticks h) (fun cdv A' outer s H vs Q E hr h => ⟨t_ThresholdObserver_seen_ticks K A, ?_, pure_ThresholdObserver_seen_ticks vs H Q E h⟩)
  exact pss_one (ps_ret (pe_fld (pv 0) rfl))
abbrev s__law_alike : Stmt := top 30
theorem sc__law_alike : FnScope ["_law_found", "_law_due", "_law_k"] ["_law_found", "_law_due"] (defScope s__law_alike) := ⟨rfl, rfl, rfl, by decide +kernel, rfl, by decide +kernel, by decide +kernel⟩
theorem ok_law_alikeN {f : Addr} {fd : FuncData} (F : FunD K "_law_alike" "_law_alike" (defArgs s__law_alike) (defBody s__law_alike) (defScope s__law_alike) [] [] f fd) (hcx : NoE CX) (b : Blt mg)  (bd : Binds K fd ["_law_found", "_law_due"] []) (hm : mg "_law_alike" = some (.ref f)) (kp : PySem.W.keepIn K (.ref f) = true) : ∀ n : Nat, FnOk A.P A.w K mg base CX (n + 1) f fd ["_law_found", "_law_due"] (sp_alikeN n)
  | n => by
    have c_law_alike : CalR A.P A.w K mg base CX n "_law_alike" (spPrev n) := by
      cases n with
      | zero => exact ⟨f, fun _ _ _ _ _ _ _ _ _ _ _ z => z.elim, hm, kp⟩
      | succ n => exact ⟨f, Wm.FnOk.R (ok_law_alikeN F hcx b bd hm kp n) bd, hm, kp⟩
    refine okD F sc__law_alike (fun vs H Q E h => ?_) (fun cdv A' outer s H vs Q E hr h => ⟨t_alikeN (spPrev n) K A, ?_, pure_alikeN n vs H Q E h⟩)
    · unfold sp_alikeN at h
      obtain ⟨_, _, rfl, _⟩ := h
      rfl
    · exact pss_cons (ps_if (pt_val ((pe_callB call_isi (by rfl) b.n_isinstance (by decide +kernel) (pa_cons (pv 1) (pa_cons ((pe_bltn (by rfl) b.n_dict (by decide +kernel) rfl)) (pa_nil)))))) (pss_one (ps_never)) (pss_nil)) (pss_cons (ps_if (pt_val ((pe_callB call_isiT (by rfl) b.n_isinstance (by decide +kernel) (pa_cons (pv 1) (pa_cons (pe_tup (pa_cons ((pe_bltn (by rfl) b.n_tuple (by decide +kernel) rfl)) (pa_cons ((pe_bltn (by rfl) b.n_list (by decide +kernel) rfl)) (pa_nil)))) (pa_nil)))))) (pss_cons (ps_if (PW.pt (pw_or (pt_not (pt_val ((pe_callB call_isiT (by rfl) b.n_isinstance (by decide +kernel) (pa_cons (pv 0) (pa_cons (pe_tup (pa_cons ((pe_bltn (by rfl) b.n_tuple (by decide +kernel) rfl)) (pa_cons ((pe_bltn (by rfl) b.n_list (by decide +kernel) rfl)) (pa_nil)))) (pa_nil))))))) (pw_or1 (pt_cmpR op_ne ((pe_callB call_isi (by rfl) b.n_isinstance (by decide +kernel) (pa_cons (pv 0) (pa_cons ((pe_bltn (by rfl) b.n_list (by decide +kernel) rfl)) (pa_nil))))) ((pe_callB call_isi (by rfl) b.n_isinstance (by decide +kernel) (pa_cons (pv 1) (pa_cons ((pe_bltn (by rfl) b.n_list (by decide +kernel) rfl)) (pa_nil))))) (nomark _))))) (pss_one (ps_ret (pe_bl))) (pss_nil)) (pss_cons (ps_if (pt_cmpR op_ne ((pe_callB call_len (by rfl) b.n_len boot_len (pa_cons (pv 0) (pa_nil)))) ((pe_callB call_len (by rfl) b.n_len boot_len (pa_cons (pv 1) (pa_nil)))) (nomark _)) (pss_one (ps_ret (pe_bl))) (pss_nil)) (pss_one (ps_ret (pe_cmpR (op_eqD hr.units) (pe_lc (own := [("_law_k", 2)]) (g := gName 2) (tt := tNot (tB (tCal (spPrev n) E0 (tCons (tOp (rIx K) (tVar 0) (tVar 2)) (tCons (tOp (rIx K) (tVar 1) (tVar 2)) (tNil)))))) (te := tVar 2) rfl sc__law_alike.nd (pi_range1 (by rfl) b.n_range (pa_cons ((pe_callB call_len (by rfl) b.n_len boot_len (pa_cons (pv 1) (pa_nil)))) (pa_nil))) (blkOk_by (N := ["_law_found", "_law_due", "_law_k"]) (sc := defScope s__law_alike) (by decide +kernel)) (fun _ _ _ _ _ => pg_name (i := 2) sc__law_alike.nd rfl (by first | exact Or.inl rfl | exact Or.inr rfl)) (fun _ _ _ _ _ => pts_one (pt_not (pt_val ((pe_cR c_law_alike hr (Nat.le_refl _) (hcx _) (by rfl) (pa_cons (pe_ix ix_seq (pv 0) (pv 2) (fun _ _ => rfl)) (pa_cons (pe_ix ix_seq (pv 1) (pv 2) (fun _ _ => rfl)) (pa_nil)))))))) (fun _ _ _ _ _ => pv 2)) (pe_lst (pa_nil)) (nomark _)))))) (pss_nil)) (pss_cons (ps_if (PW.pt (pw_or (pt_cmpR op_isN1 (pv 1) (pe_non) (nomark _)) (pw_or1 (pt_val ((pe_callB call_isi (by rfl) b.n_isinstance (by decide +kernel) (pa_cons (pv 1) (pa_cons ((pe_bltn (by rfl) b.n_str (by decide +kernel) rfl)) (pa_nil))))))))) (pss_one (ps_ret (pe_and (pe_cmpR op_eq (pv 0) (pv 1) (nomark _)) (pe_one (pe_cmpR op_eq ((pe_callB call_isi (by rfl) b.n_isinstance (by decide +kernel) (pa_cons (pv 0) (pa_cons ((pe_bltn (by rfl) b.n_str (by decide +kernel) rfl)) (pa_nil))))) ((pe_callB call_isi (by rfl) b.n_isinstance (by decide +kernel) (pa_cons (pv 1) (pa_cons ((pe_bltn (by rfl) b.n_str (by decide +kernel) rfl)) (pa_nil))))) (nomark _)))))) (pss_nil)) (pss_one (ps_ret (pe_and ((pe_callB call_isi (by rfl) b.n_isinstance (by decide +kernel) (pa_cons (pv 0) (pa_cons ((pe_bltn (by rfl) b.n_int (by decide +kernel) rfl)) (pa_nil))))) (pe_and (pe_cmpR op_eq ((pe_callB call_isi (by rfl) b.n_isinstance (by decide +kernel) (pa_cons (pv 0) (pa_cons ((pe_bltn (by rfl) b.n_bool (by decide +kernel) rfl)) (pa_nil))))) ((pe_callB call_isi (by rfl) b.n_isinstance (by decide +kernel) (pa_cons (pv 1) (pa_cons ((pe_bltn (by rfl) b.n_bool (by decide +kernel) rfl)) (pa_nil))))) (nomark _)) (pe_one (pe_cmpR op_eq (pv 0) (pv 1) (nomark _)))))))))
abbrev s__law_ranges : Stmt := top 38
theorem sc__law_ranges : FnScope ["_law_degrees", "_law_states", "_law_seen", "_law_low", "_law_low_end", "_law_high", "_law_high_end", "_law_tick"] ["_law_degrees", "_law_states", "_law_seen"] (defScope s__law_ranges) := ⟨rfl, rfl, rfl, by decide +kernel, rfl, by decide +kernel, by decide +kernel⟩
theorem len_law_ranges {vs : List V} {H : Hp} {Q : VK} {E : XK} (h : sp_law_ranges K A vs H Q E) : vs.length = 3 := by
  unfold sp_law_ranges at h
  repeat (first | (obtain ⟨rfl, _⟩ := h; rfl) | obtain ⟨_, h⟩ := h)
theorem ok_law_ranges {f : Addr} {fd : FuncData} (F : FunD K "_law_ranges" "_law_ranges" (defArgs s__law_ranges) (defBody s__law_ranges) (defScope s__law_ranges) [] [] f fd) (hcx : NoE CX) (b : Blt mg)  : FnOk A.P A.w K mg base CX 1 f fd ["_law_degrees", "_law_states", "_law_seen"] (sp_law_ranges K A) := by
  refine okD F sc__law_ranges (fun vs H Q E h => len_law_ranges h) (fun cdv A' outer s H vs Q E hr h => ⟨t_law_ranges K A, ?_, pure_law_ranges vs H Q E h⟩)
  exact pss_cons (ps_asg (pe_tup (pa_cons (pe_un un_neg (pe_op op_pow (pe_int) (pe_int))) (pa_cons (pe_op op_pow (pe_int) (pe_int)) (pa_cons (pe_un un_neg (pe_op op_pow (pe_int) (pe_int))) (pa_cons (pe_op op_pow (pe_int) (pe_int)) (pa_nil)))))) (pg_tup rfl (pgs_cons (pg_name (i := 3) sc__law_ranges.nd rfl (by first | exact Or.inl rfl | exact Or.inr rfl)) (pgs_cons (pg_name (i := 4) sc__law_ranges.nd rfl (by first | exact Or.inl rfl | exact Or.inr rfl)) (pgs_cons (pg_name (i := 5) sc__law_ranges.nd rfl (by first | exact Or.inl rfl | exact Or.inr rfl)) (pgs_cons (pg_name (i := 6) sc__law_ranges.nd rfl (by first | exact Or.inl rfl | exact Or.inr rfl)) (pgs_nil))))))) (pss_cons (ps_for PassesOwn.never rfl (pi_range1 (by rfl) b.n_range (pa_cons (pv 2) (pa_nil))) (pg_name (i := 7) sc__law_ranges.nd rfl (by first | exact Or.inl rfl | exact Or.inr rfl)) (pss_one (ps_if (PW.pt (pw_and (pt_val (pe_ix ix_seq (pv 1) (pv 7) (fun _ _ => rfl))) (pw_and1 (pt_val (pe_ix ix_seq (pv 1) (pe_op op_add (pv 7) (pe_int)) (fun _ _ => rfl)))))) (pss_one (ps_set (i := 5) sc__law_ranges.nd rfl (by first | exact Or.inl rfl | exact Or.inr rfl) ((pe_callB (call_max2 rfl) (by rfl) b.n_max (by decide +kernel) (pa_cons (pv 5) (pa_cons (pe_ix ix_seq (pv 0) (pv 7) (fun _ _ => rfl)) (pa_nil))))))) (pss_one (ps_if (pt_val (pe_ix ix_seq (pv 1) (pv 7) (fun _ _ => rfl))) (pss_one (ps_set (i := 6) sc__law_ranges.nd rfl (by first | exact Or.inl rfl | exact Or.inr rfl) ((pe_callB (call_min2 rfl) (by rfl) b.n_min (by decide +kernel) (pa_cons (pv 6) (pa_cons (pe_op op_sub (pe_ix ix_seq (pv 0) (pv 7) (fun _ _ => rfl)) (pe_int)) (pa_nil))))))) (pss_one (ps_if (pt_val (pe_ix ix_seq (pv 1) (pe_op op_add (pv 7) (pe_int)) (fun _ _ => rfl))) (pss_one (ps_set (i := 3) sc__law_ranges.nd rfl (by first | exact Or.inl rfl | exact Or.inr rfl) ((pe_callB (call_max2 rfl) (by rfl) b.n_max (by decide +kernel) (pa_cons (pv 3) (pa_cons (pe_op op_add (pe_ix ix_seq (pv 0) (pv 7) (fun _ _ => rfl)) (pe_int)) (pa_nil))))))) (pss_one (ps_set (i := 4) sc__law_ranges.nd rfl (by first | exact Or.inl rfl | exact Or.inr rfl) ((pe_callB (call_min2 rfl) (by rfl) b.n_min (by decide +kernel) (pa_cons (pv 4) (pa_cons (pe_ix ix_seq (pv 0) (pv 7) (fun _ _ => rfl)) (pa_nil)))))))))))))) (pss_one (ps_ret (pe_lst (pa_cons (pe_tup (pa_cons (pv 3) (pa_cons (pv 4) (pa_nil)))) (pa_cons (pe_tup (pa_cons (pv 5) (pa_cons (pv 6) (pa_nil)))) (pa_nil)))))))
abbrev s__law_agrees : Stmt := top 37
theorem sc__law_agrees : FnScope ["_law_changes_here", "_law_setting_here", "_law_told_here", "_law_last", "_law_states", "_law_tick"] ["_law_changes_here", "_law_setting_here", "_law_told_here", "_law_last"] (defScope s__law_agrees) := ⟨rfl, rfl, rfl, by decide +kernel, rfl, by decide +kernel, by decide +kernel⟩
theorem len_law_agrees {vs : List V} {H : Hp} {Q : VK} {E : XK} (h : sp_law_agrees K A vs H Q E) : vs.length = 4 := by
  unfold sp_law_agrees at h
  repeat (first | (obtain ⟨rfl, _⟩ := h; rfl) | obtain ⟨_, h⟩ := h)
theorem ok_law_agrees {f : Addr} {fd : FuncData} (F : FunD K "_law_agrees" "_law_agrees" (defArgs s__law_agrees) (defBody s__law_agrees) (defScope s__law_agrees) [] [] f fd) (hcx : NoE CX) (b : Blt mg) (c_law_told : CalR A.P A.w K mg base CX 1 "_law_told" (sp_law_told K A)) : FnOk A.P A.w K mg base CX 2 f fd ["_law_changes_here", "_law_setting_here", "_law_told_here", "_law_last"] (sp_law_agrees K A) := by
  refine okD F sc__law_agrees (fun vs H Q E h => len_law_agrees h) (fun cdv A' outer s H vs Q E hr h => ⟨t_law_agrees K A, ?_, pure_law_agrees vs H Q E h⟩)
  exact pss_cons (ps_set (i := 4) sc__law_agrees.nd rfl (by first | exact Or.inl rfl | exact Or.inr rfl) (pe_op op_cat (pe_lst (pa_cons (pe_ix ix_seq (pv 1) (pe_int) (fun _ _ => rfl)) (pa_nil))) (pe_ix ix_seq ((pe_cR c_law_told hr (by decide) (hcx _) (by rfl) (pa_cons (pv 0) (pa_cons (pv 1) (pa_cons (pe_op op_add (pv 3) (pe_int)) (pa_nil)))))) (pe_int) (fun _ _ => rfl)))) (pss_one (ps_ret (pe_cmpR (op_eqD hr.units) (pe_lc (own := [("_law_tick", 5)]) (g := gName 5) (tt := tTest (tOp rNe (tOp (rIx K) (tVar 4) (tVar 5)) (tOp (rIx K) (tVar 4) (tOp (rI0 fun i j => .int (i + j)) (tVar 5) (tC (.int 1)))))) (te := tVar 5) rfl sc__law_agrees.nd (pi_range1 (by rfl) b.n_range (pa_cons (pe_op op_add (pv 3) (pe_int)) (pa_nil))) (blkOk_by (N := ["_law_changes_here", "_law_setting_here", "_law_told_here", "_law_last", "_law_states", "_law_tick"]) (sc := defScope s__law_agrees) (by decide +kernel)) (fun _ _ _ _ _ => pg_name (i := 5) sc__law_agrees.nd rfl (by first | exact Or.inl rfl | exact Or.inr rfl)) (fun _ _ _ _ _ => pts_one (pt_cmpR op_ne (pe_ix ix_seq (pv 4) (pv 5) (fun _ _ => rfl)) (pe_ix ix_seq (pv 4) (pe_op op_add (pv 5) (pe_int)) (fun _ _ => rfl)) (nomark _))) (fun _ _ _ _ _ => pv 5)) (pv 2) (nomark _))))
abbrev s__law_ends_right : Stmt := top 39
theorem sc__law_ends_right : FnScope ["_law_changes_here", "_law_setting_here", "_law_told_here", "_law_last", "_law_lows", "_law_highs", "_law_gain", "_law_low", "_law_high", "_law_start", "_law_heating", "_law_bound", "_law_good"] ["_law_changes_here", "_law_setting_here", "_law_told_here", "_law_last", "_law_lows", "_law_highs"] (defScope s__law_ends_right) := ⟨rfl, rfl, rfl, by decide +kernel, rfl, by decide +kernel, by decide +kernel⟩
theorem len_law_ends_right {vs : List V} {H : Hp} {Q : VK} {E : XK} (h : sp_law_ends_right K A vs H Q E) : vs.length = 6 := by
  unfold sp_law_ends_right at h
  repeat (first | (obtain ⟨rfl, _⟩ := h; rfl) | obtain ⟨_, h⟩ := h)
theorem ok_law_ends_right {f : Addr} {fd : FuncData} (F : FunD K "_law_ends_right" "_law_ends_right" (defArgs s__law_ends_right) (defBody s__law_ends_right) (defScope s__law_ends_right) [] [] f fd) (hcx : NoE CX) (b : Blt mg) (c_law_agrees : CalR A.P A.w K mg base CX 2 "_law_agrees" (sp_law_agrees K A)) : FnOk A.P A.w K mg base CX 3 f fd ["_law_changes_here", "_law_setting_here", "_law_told_here", "_law_last", "_law_lows", "_law_highs"] (sp_law_ends_right K A) := by
  refine okD F sc__law_ends_right (fun vs H Q E h => len_law_ends_right h) (fun cdv A' outer s H vs Q E hr h => ⟨t_law_ends_right K A, ?_, pure_law_ends_right vs H Q E h⟩)
  exact pss_cons (ps_asg (pv 1) (pg_tup rfl (pgs_cons (pg_name (i := 6) sc__law_ends_right.nd rfl (by first | exact Or.inl rfl | exact Or.inr rfl)) (pgs_cons (pg_name (i := 7) sc__law_ends_right.nd rfl (by first | exact Or.inl rfl | exact Or.inr rfl)) (pgs_cons (pg_name (i := 8) sc__law_ends_right.nd rfl (by first | exact Or.inl rfl | exact Or.inr rfl)) (pgs_cons (pg_name (i := 9) sc__law_ends_right.nd rfl (by first | exact Or.inl rfl | exact Or.inr rfl)) (pgs_cons (pg_name (i := 10) sc__law_ends_right.nd rfl (by first | exact Or.inl rfl | exact Or.inr rfl)) (pgs_nil)))))))) (pss_cons (ps_for PassesOwn.never rfl (pi_tup (pe_tup (pa_cons (pe_tup (pa_cons (pe_ix ix_seq (pv 4) (pe_int) (fun _ _ => rfl)) (pa_cons (pe_bl) (pa_nil)))) (pa_cons (pe_tup (pa_cons (pe_ix ix_seq (pv 4) (pe_int) (fun _ _ => rfl)) (pa_cons (pe_bl) (pa_nil)))) (pa_cons (pe_tup (pa_cons (pe_op op_sub (pe_ix ix_seq (pv 4) (pe_int) (fun _ _ => rfl)) (pe_int)) (pa_cons (pe_bl) (pa_nil)))) (pa_cons (pe_tup (pa_cons (pe_op op_add (pe_ix ix_seq (pv 4) (pe_int) (fun _ _ => rfl)) (pe_int)) (pa_cons (pe_bl) (pa_nil)))) (pa_nil))))))) (pg_tup rfl (pgs_cons (pg_name (i := 11) sc__law_ends_right.nd rfl (by first | exact Or.inl rfl | exact Or.inr rfl)) (pgs_cons (pg_name (i := 12) sc__law_ends_right.nd rfl (by first | exact Or.inl rfl | exact Or.inr rfl)) (pgs_nil)))) (pss_one (ps_if (PW.pt (pw_and (pt_cmpR op_lt ((pe_callB call_abs (by rfl) b.n_abs (by decide +kernel) (pa_cons (pv 11) (pa_nil)))) (pe_op op_pow (pe_int) (pe_int)) (nomark _)) (pw_and1 (pt_cmpR op_le (pv 11) (pv 8) (nomark _))))) (pss_one (ps_if (pt_cmpR op_ne ((pe_cR c_law_agrees hr (by decide) (hcx _) (by rfl) (pa_cons (pv 0) (pa_cons (pe_tup (pa_cons (pv 6) (pa_cons (pv 11) (pa_cons (pv 8) (pa_cons (pv 9) (pa_cons (pv 10) (pa_nil))))))) (pa_cons (pv 2) (pa_cons (pv 3) (pa_nil))))))) (pv 12) (nomark _)) (pss_one (ps_ret (pe_bl))) (pss_nil))) (pss_nil)))) (pss_cons (ps_for PassesOwn.never rfl (pi_tup (pe_tup (pa_cons (pe_tup (pa_cons (pe_ix ix_seq (pv 5) (pe_int) (fun _ _ => rfl)) (pa_cons (pe_bl) (pa_nil)))) (pa_cons (pe_tup (pa_cons (pe_ix ix_seq (pv 5) (pe_int) (fun _ _ => rfl)) (pa_cons (pe_bl) (pa_nil)))) (pa_cons (pe_tup (pa_cons (pe_op op_sub (pe_ix ix_seq (pv 5) (pe_int) (fun _ _ => rfl)) (pe_int)) (pa_cons (pe_bl) (pa_nil)))) (pa_cons (pe_tup (pa_cons (pe_op op_add (pe_ix ix_seq (pv 5) (pe_int) (fun _ _ => rfl)) (pe_int)) (pa_cons (pe_bl) (pa_nil)))) (pa_nil))))))) (pg_tup rfl (pgs_cons (pg_name (i := 11) sc__law_ends_right.nd rfl (by first | exact Or.inl rfl | exact Or.inr rfl)) (pgs_cons (pg_name (i := 12) sc__law_ends_right.nd rfl (by first | exact Or.inl rfl | exact Or.inr rfl)) (pgs_nil)))) (pss_one (ps_if (PW.pt (pw_and (pt_cmpR op_lt ((pe_callB call_abs (by rfl) b.n_abs (by decide +kernel) (pa_cons (pv 11) (pa_nil)))) (pe_op op_pow (pe_int) (pe_int)) (nomark _)) (pw_and1 (pt_cmpR op_ge (pv 11) (pv 7) (nomark _))))) (pss_one (ps_if (pt_cmpR op_ne ((pe_cR c_law_agrees hr (by decide) (hcx _) (by rfl) (pa_cons (pv 0) (pa_cons (pe_tup (pa_cons (pv 6) (pa_cons (pv 7) (pa_cons (pv 11) (pa_cons (pv 9) (pa_cons (pv 10) (pa_nil))))))) (pa_cons (pv 2) (pa_cons (pv 3) (pa_nil))))))) (pv 12) (nomark _)) (pss_one (ps_ret (pe_bl))) (pss_nil))) (pss_nil)))) (pss_one (ps_ret (pe_bl)))))
abbrev s_Weather_changes : Stmt := inClass (top 15) 4
theorem sc_Weather_changes : FnScope ["self"] ["self"] (defScope s_Weather_changes) := ⟨rfl, rfl, rfl, by decide +kernel, rfl, by decide +kernel, by decide +kernel⟩
theorem len_Weather_changes {vs : List V} {H : Hp} {Q : VK} {E : XK} (h : sp_Weather_changes K A vs H Q E) : vs.length = 1 := by
  unfold sp_Weather_changes at h
  repeat (first | (obtain ⟨rfl, _⟩ := h; rfl) | obtain ⟨_, h⟩ := h)
theorem ok_Weather_changes {f : Addr} {fd : FuncData} (F : FunD K "changes" "Weather.changes" (defArgs s_Weather_changes) (defBody s_Weather_changes) (defScope s_Weather_changes) [] [] f fd) (hcx : NoE CX) (b : Blt mg)  : FnOk A.P A.w K mg base CX 1 f fd ["self"] (sp_Weather_changes K A) := by
  refine okD F sc_Weather_changes (fun vs H Q E h => len_Weather_changes h) (fun cdv A' outer s H vs Q E hr h => ⟨t_Weather_changes K A, ?_, pure_Weather_changes vs H Q E h⟩)
  exact pss_one (ps_ret (pe_fld (pv 0) rfl))
abbrev s_Run___init__ : Stmt := inClass (top 9) 0
theorem sc_Run___init__ : FnScope ["self", "begin", "degrees", "is_heating", "steps", "step"] ["self", "begin", "degrees", "is_heating", "steps"] (defScope s_Run___init__) := ⟨rfl, rfl, rfl, by decide +kernel, rfl, by decide +kernel, by decide +kernel⟩
theorem len_Run_init {vs : List V} {H : Hp} {Q : VK} {E : XK} (h : sp_Run_init K A vs H Q E) : vs.length = 5 := by
  unfold sp_Run_init at h
  repeat (first | (obtain ⟨rfl, _⟩ := h; rfl) | obtain ⟨_, h⟩ := h)
theorem ok_Run_init {f : Addr} {fd : FuncData} (F : FunD K "__init__" "Run.__init__" (defArgs s_Run___init__) (defBody s_Run___init__) (defScope s_Run___init__) [] [] f fd) (hcx : NoE CX) (b : Blt mg)  : FnOk A.P A.w K mg base CX 1 f fd ["self", "begin", "degrees", "is_heating", "steps"] (sp_Run_init K A) := by
  refine okD F sc_Run___init__ (fun vs H Q E h => len_Run_init h) (fun cdv A' outer s H vs Q E hr h => ⟨t_Run_init K A, ?_, pure_Run_init vs H Q E h⟩)
  exact pss_cons (ps_fld (pv 0) (pv 1) rfl) (pss_cons (ps_fld (pv 0) (pe_non) rfl) (pss_cons (ps_fld (pv 0) (pv 2) rfl) (pss_cons (ps_fld (pv 0) (pv 3) rfl) (pss_cons (ps_fld (pv 0) (pe_lst (pa_cons (pe_int) (pa_nil))) rfl) (pss_cons (ps_for PassesOwn.never rfl (pi_list (pv 4)) (pg_name (i := 5) sc_Run___init__.nd rfl (by first | exact Or.inl rfl | exact Or.inr rfl)) (pss_one (ps_expr ((pe_bm PySem.F.plainAttrs_list PySem.F.slot_list_append PySem.F.type_list_append mt_append (pe_fld (pv 0) rfl) (pa_cons (pe_op op_add (pe_ix ix_seq (pe_fld (pv 0) rfl) (pe_un un_neg (pe_int)) (fun _ _ => rfl)) (pv 5)) (pa_nil))))))) (pss_cons (ps_fld (pv 0) ((pe_callB call_len (by rfl) b.n_len boot_len (pa_cons (pv 4) (pa_nil)))) rfl) (pss_one (ps_fld (pv 0) (pe_ix ix_seq (pe_fld (pv 0) rfl) (pe_un un_neg (pe_int)) (fun _ _ => rfl)) rfl))))))))
abbrev s_ThresholdObserver_run_on : Stmt := inClass (top 26) 5
theorem sc_ThresholdObserver_run_on : FnScope ["self", "tick", "degrees", "is_heating", "shifts", "added", "phase", "shift"] ["self", "tick", "degrees", "is_heating"] (defScope s_ThresholdObserver_run_on) := ⟨rfl, rfl, rfl, by decide +kernel, rfl, by decide +kernel, by decide +kernel⟩
theorem len_ThresholdObserver_run_on {vs : List V} {H : Hp} {Q : VK} {E : XK} (h : sp_ThresholdObserver_run_on K A vs H Q E) : vs.length = 4 := by
  unfold sp_ThresholdObserver_run_on at h
  repeat (first | (obtain ⟨rfl, _⟩ := h; rfl) | obtain ⟨_, h⟩ := h)
theorem ok_ThresholdObserver_run_on {f : Addr} {fd : FuncData} (F : FunD K "run_on" "ThresholdObserver.run_on" (defArgs s_ThresholdObserver_run_on) (defBody s_ThresholdObserver_run_on) (defScope s_ThresholdObserver_run_on) [] [] f fd) (hcx : NoE CX) (b : Blt mg) (p_Weather_changes : PrpR A.P A.w K mg base CX 1 A.cWeather "changes" (sp_Weather_changes K A)) (n_Run : MakR A.P A.w K mg base CX 1 "Run" A.cRun (sp_Run_init K A)) : FnOk A.P A.w K mg base CX 3 f fd ["self", "tick", "degrees", "is_heating"] (sp_ThresholdObserver_run_on K A) := by
  refine okD F sc_ThresholdObserver_run_on (fun vs H Q E h => len_ThresholdObserver_run_on h) (fun cdv A' outer s H vs Q E hr h => ⟨t_ThresholdObserver_run_on K A, ?_, pure_ThresholdObserver_run_on vs H Q E h⟩)
  exact pss_cons (ps_asg (pe_tup (pa_cons ((pe_prR p_Weather_changes hr (by decide) (hcx _) (pe_fld (pv 0) rfl))) (pa_cons (pe_ifExp (pt_val (pv 3)) (pe_fld (pv 0) rfl) (pe_int)) (pa_nil)))) (pg_tup rfl (pgs_cons (pg_name (i := 4) sc_ThresholdObserver_run_on.nd rfl (by first | exact Or.inl rfl | exact Or.inr rfl)) (pgs_cons (pg_name (i := 5) sc_ThresholdObserver_run_on.nd rfl (by first | exact Or.inl rfl | exact Or.inr rfl)) (pgs_nil))))) (pss_cons (ps_set (i := 6) sc_ThresholdObserver_run_on.nd rfl (by first | exact Or.inl rfl | exact Or.inr rfl) (pe_op op_mod ((pe_callTy call_int1 (by rfl) b.n_int (by decide +kernel) (pa_cons (pv 1) (pa_nil)))) ((pe_callB call_len (by rfl) b.n_len boot_len (pa_cons (pv 4) (pa_nil)))))) (pss_one (ps_ret ((pe_mkR n_Run hr (by decide) (hcx _) (by rfl) (pa_cons (pv 1) (pa_cons (pv 2) (pa_cons (pv 3) (pa_cons (pe_lc (own := [("shift", 7)]) (g := gName 7) (tt := tYes) (te := tOp (rI0 fun i j => .int (i + j)) (tVar 7) (tVar 5)) rfl sc_ThresholdObserver_run_on.nd (pi_tup (pe_op op_catA (pe_slice sl_tupA (pv 4) (po_some (pv 6)) (po_none)) (pe_slice sl_tupA (pv 4) (po_none) (po_some (pv 6))))) (blkOk_by (N := ["self", "tick", "degrees", "is_heating", "shifts", "added", "phase", "shift"]) (sc := defScope s_ThresholdObserver_run_on) (by decide +kernel)) (fun _ _ _ _ _ => pg_name (i := 7) sc_ThresholdObserver_run_on.nd rfl (by first | exact Or.inl rfl | exact Or.inr rfl)) (fun _ _ _ _ _ => pts_nil) (fun _ _ _ _ _ => pe_op op_add (pv 7) (pv 5))) (pa_nil))))))))))
abbrev s_ThresholdObserver_keep : Stmt := inClass (top 26) 7
theorem sc_ThresholdObserver_keep : FnScope ["self", "ranges", "low", "low_end", "high", "high_end"] ["self", "ranges"] (defScope s_ThresholdObserver_keep) := ⟨rfl, rfl, rfl, by decide +kernel, rfl, by decide +kernel, by decide +kernel⟩
theorem len_ThresholdObserver_keepX {vs : List V} {H : Hp} {Q : VK} {E : XK} (h : sp_ThresholdObserver_keepX K A vs H Q E) : vs.length = 2 := by
  unfold sp_ThresholdObserver_keepX at h
  repeat (first | (obtain ⟨rfl, _⟩ := h; rfl) | obtain ⟨_, h⟩ := h)
theorem ok_ThresholdObserver_keepX {f : Addr} {fd : FuncData} (F : FunD K "keep" "ThresholdObserver.keep" (defArgs s_ThresholdObserver_keep) (defBody s_ThresholdObserver_keep) (defScope s_ThresholdObserver_keep) [] [] f fd) (hcx : NoE (L2N.CX A.P A.w)) (b : Blt mg) (xs_Contradiction : RzS K mg "Contradiction" A.cContradiction) : FnOk A.P A.w K mg base (L2N.CX A.P A.w) 1 f fd ["self", "ranges"] (sp_ThresholdObserver_keepX K A) := by
  refine okDXN F sc_ThresholdObserver_keep (fun vs H Q E h => len_ThresholdObserver_keepX h) (fun cdv A' outer s H vs Q E hr tk po h => ⟨t_ThresholdObserver_keepX K A E, ?_, pure_ThresholdObserver_keepX vs H Q E h⟩)
  exact pss_cons (ps_asg (pv 1) (pg_tup rfl (pgs_cons (pg_tup rfl (pgs_cons (pg_name (i := 2) sc_ThresholdObserver_keep.nd rfl (by first | exact Or.inl rfl | exact Or.inr rfl)) (pgs_cons (pg_name (i := 3) sc_ThresholdObserver_keep.nd rfl (by first | exact Or.inl rfl | exact Or.inr rfl)) (pgs_nil)))) (pgs_cons (pg_tup rfl (pgs_cons (pg_name (i := 4) sc_ThresholdObserver_keep.nd rfl (by first | exact Or.inl rfl | exact Or.inr rfl)) (pgs_cons (pg_name (i := 5) sc_ThresholdObserver_keep.nd rfl (by first | exact Or.inl rfl | exact Or.inr rfl)) (pgs_nil)))) (pgs_nil))))) (pss_cons (ps_if (PW.pt (pw_or (pt_cmpR op_gt (pv 2) (pv 3) (nomark _)) (pw_or (pt_cmpR op_gt (pv 4) (pv 5) (nomark _)) (pw_or1 (pt_cmpR op_gt (pv 2) (pv 5) (nomark _)))))) (pss_one (ps_rzSN xs_Contradiction rfl tk (by rfl))) (pss_nil)) (pss_one (ps_asg (pv 1) (pg_tup rfl (pgs_cons (pg_fld (pv 0)) (pgs_cons (pg_fld (pv 0)) (pgs_nil)))))))
abbrev s_ThresholdObserver_narrowed : Stmt := inClass (top 26) 6
theorem sc_ThresholdObserver_narrowed : FnScope ["self", "bound", "is_more", "least", "greatest", "found"] ["self", "bound", "is_more"] (defScope s_ThresholdObserver_narrowed) := ⟨rfl, rfl, rfl, by decide +kernel, rfl, by decide +kernel, by decide +kernel⟩
theorem len_ThresholdObserver_narrowed {vs : List V} {H : Hp} {Q : VK} {E : XK} (h : sp_ThresholdObserver_narrowed K A vs H Q E) : vs.length = 3 := by
  unfold sp_ThresholdObserver_narrowed at h
  repeat (first | (obtain ⟨rfl, _⟩ := h; rfl) | obtain ⟨_, h⟩ := h)
theorem ok_ThresholdObserver_narrowed {f : Addr} {fd : FuncData} (F : FunD K "narrowed" "ThresholdObserver.narrowed" (defArgs s_ThresholdObserver_narrowed) (defBody s_ThresholdObserver_narrowed) (defScope s_ThresholdObserver_narrowed) [] [] f fd) (hcx : NoE CX) (b : Blt mg)  : FnOk A.P A.w K mg base CX 1 f fd ["self", "bound", "is_more"] (sp_ThresholdObserver_narrowed K A) := by
  refine okD F sc_ThresholdObserver_narrowed (fun vs H Q E h => len_ThresholdObserver_narrowed h) (fun cdv A' outer s H vs Q E hr h => ⟨t_ThresholdObserver_narrowed K A, ?_, pure_ThresholdObserver_narrowed vs H Q E h⟩)
  exact pss_cons (ps_asg (pe_ifExp (pt_val (pe_fld (pv 0) rfl)) (pe_fld (pv 0) rfl) (pe_fld (pv 0) rfl)) (pg_tup rfl (pgs_cons (pg_name (i := 3) sc_ThresholdObserver_narrowed.nd rfl (by first | exact Or.inl rfl | exact Or.inr rfl)) (pgs_cons (pg_name (i := 4) sc_ThresholdObserver_narrowed.nd rfl (by first | exact Or.inl rfl | exact Or.inr rfl)) (pgs_nil))))) (pss_cons (ps_set (i := 5) sc_ThresholdObserver_narrowed.nd rfl (by first | exact Or.inl rfl | exact Or.inr rfl) (pe_ifExp (pt_val (pv 2)) (pe_tup (pa_cons ((pe_callB (call_max2 rfl) (by rfl) b.n_max (by decide +kernel) (pa_cons (pv 3) (pa_cons (pv 1) (pa_nil))))) (pa_cons (pv 4) (pa_nil)))) (pe_tup (pa_cons (pv 3) (pa_cons ((pe_callB (call_min2 rfl) (by rfl) b.n_min (by decide +kernel) (pa_cons (pv 4) (pa_cons (pv 1) (pa_nil))))) (pa_nil)))))) (pss_one (ps_ret (pe_ifExp (pt_val (pe_fld (pv 0) rfl)) (pe_tup (pa_cons (pe_fld (pv 0) rfl) (pa_cons (pv 5) (pa_nil)))) (pe_tup (pa_cons (pv 5) (pa_cons (pe_fld (pv 0) rfl) (pa_nil))))))))
abbrev s_Run_at : Stmt := inClass (top 9) 1
theorem sc_Run_at : FnScope ["self", "tick", "place"] ["self", "tick"] (defScope s_Run_at) := ⟨rfl, rfl, rfl, by decide +kernel, rfl, by decide +kernel, by decide +kernel⟩
theorem len_Run_at {vs : List V} {H : Hp} {Q : VK} {E : XK} (h : sp_Run_at K A vs H Q E) : vs.length = 2 := by
  unfold sp_Run_at at h
  repeat (first | (obtain ⟨rfl, _⟩ := h; rfl) | obtain ⟨_, h⟩ := h)
theorem ok_Run_at {f : Addr} {fd : FuncData} (F : FunD K "at" "Run.at" (defArgs s_Run_at) (defBody s_Run_at) (defScope s_Run_at) [] [] f fd) (hcx : NoE CX) (b : Blt mg)  : FnOk A.P A.w K mg base CX 1 f fd ["self", "tick"] (sp_Run_at K A) := by
  refine okD F sc_Run_at (fun vs H Q E h => len_Run_at h) (fun cdv A' outer s H vs Q E hr h => ⟨t_Run_at K A, ?_, pure_Run_at vs H Q E h⟩)
  exact pss_cons (ps_set (i := 2) sc_Run_at.nd rfl (by first | exact Or.inl rfl | exact Or.inr rfl) (pe_op op_sub (pv 1) (pe_fld (pv 0) rfl))) (pss_one (ps_ret (pe_op op_add (pe_op op_add (pe_fld (pv 0) rfl) (pe_op op_mul (pe_op op_fdivW (pv 2) (pe_fld (pv 0) rfl)) (pe_fld (pv 0) rfl))) (pe_ix ix_seq (pe_fld (pv 0) rfl) (pe_op op_mod ((pe_callTy call_int1 (by rfl) b.n_int (by decide +kernel) (pa_cons (pv 2) (pa_nil)))) (pe_fld (pv 0) rfl)) (fun _ _ => rfl)))))
abbrev s_Run_extreme : Stmt := inClass (top 9) 3
theorem sc_Run_extreme : FnScope ["self", "last", "sign", "best", "place", "tick", "degrees"] ["self", "last", "sign"] (defScope s_Run_extreme) := ⟨rfl, rfl, rfl, by decide +kernel, rfl, by decide +kernel, by decide +kernel⟩
theorem len_Run_extreme {vs : List V} {H : Hp} {Q : VK} {E : XK} (h : sp_Run_extreme K A vs H Q E) : vs.length = 3 := by
  unfold sp_Run_extreme at h
  repeat (first | (obtain ⟨rfl, _⟩ := h; rfl) | obtain ⟨_, h⟩ := h)
theorem ok_Run_extreme {f : Addr} {fd : FuncData} (F : FunD K "extreme" "Run.extreme" (defArgs s_Run_extreme) (defBody s_Run_extreme) (defScope s_Run_extreme) [] [] f fd) (hcx : NoE CX) (b : Blt mg) (m_Run_at : MetR A.P A.w K mg base CX 1 A.cRun "at" (sp_Run_at K A)) : FnOk A.P A.w K mg base CX 2 f fd ["self", "last", "sign"] (sp_Run_extreme K A) := by
  refine okD F sc_Run_extreme (fun vs H Q E h => len_Run_extreme h) (fun cdv A' outer s H vs Q E hr h => ⟨t_Run_extreme K A, ?_, pure_Run_extreme vs H Q E h⟩)
  exact pss_cons (ps_if (PW.pt (pw_and (pt_cmpR op_isN1 (pv 1) (pe_non) (nomark _)) (pw_and1 (pt_cmpR op_gt (pe_op op_mul (pe_fld (pv 0) rfl) (pv 2)) (pe_int) (nomark _))))) (pss_one (ps_ret (pe_non))) (pss_nil)) (pss_cons (ps_set (i := 3) sc_Run_extreme.nd rfl (by first | exact Or.inl rfl | exact Or.inr rfl) (pe_tup (pa_cons (pe_fld (pv 0) rfl) (pa_cons (pe_fld (pv 0) rfl) (pa_nil))))) (pss_cons (ps_for PassesOwn.never rfl (pi_range1 (by rfl) b.n_range (pa_cons (pe_fld (pv 0) rfl) (pa_nil))) (pg_name (i := 4) sc_Run_extreme.nd rfl (by first | exact Or.inl rfl | exact Or.inr rfl)) (pss_cons (ps_set (i := 5) sc_Run_extreme.nd rfl (by first | exact Or.inl rfl | exact Or.inr rfl) (pe_op op_add (pe_fld (pv 0) rfl) (pv 4))) (pss_cons (ps_if (PW.pt (pw_and (pt_cmpR op_notN1 (pv 1) (pe_non) (nomark _)) (pw_and1 (pt_cmpR op_gt (pv 5) (pv 1) (nomark _))))) (pss_one (ps_ret (pv 3))) (pss_nil)) (pss_cons (ps_if (pt_cmpR op_gt (pe_op op_mul (pe_fld (pv 0) rfl) (pv 2)) (pe_int) (nomark _)) (pss_one (ps_aug (i := 5) sc_Run_extreme.nd rfl (by first | exact Or.inl rfl | exact Or.inr rfl) (pe_op op_mul (pe_op op_fdivW (pe_op op_sub (pv 1) (pv 5)) (pe_fld (pv 0) rfl)) (pe_fld (pv 0) rfl)) ip_add)) (pss_nil)) (pss_cons (ps_set (i := 6) sc_Run_extreme.nd rfl (by first | exact Or.inl rfl | exact Or.inr rfl) ((pe_mtR m_Run_at hr (by decide) (hcx _) (pv 0) (pa_cons (pv 5) (pa_nil))))) (pss_one (ps_if (PW.pt (pw_or (pt_cmpR op_gt (pe_op op_mul (pv 6) (pv 2)) (pe_op op_mul (pe_ix ix_seq (pv 3) (pe_int) (fun _ _ => rfl)) (pv 2)) (nomark _)) (pw_or1 (PW.pt (pw_and (pt_cmpR op_eq (pv 6) (pe_ix ix_seq (pv 3) (pe_int) (fun _ _ => rfl)) (nomark _)) (pw_and1 (pt_cmpR op_lt (pv 5) (pe_ix ix_seq (pv 3) (pe_int) (fun _ _ => rfl)) (nomark _)))))))) (pss_one (ps_set (i := 3) sc_Run_extreme.nd rfl (by first | exact Or.inl rfl | exact Or.inr rfl) (pe_tup (pa_cons (pv 6) (pa_cons (pv 5) (pa_nil)))))) (pss_nil)))))))) (pss_one (ps_ret (pv 3)))))
abbrev s_ThresholdObserver_rest_until : Stmt := inClass (top 26) 8
theorem sc_ThresholdObserver_rest_until : FnScope ["self", "run", "last", "sign"] ["self", "run", "last"] (defScope s_ThresholdObserver_rest_until) := ⟨rfl, rfl, rfl, by decide +kernel, rfl, by decide +kernel, by decide +kernel⟩
theorem len_ThresholdObserver_rest_untilX {vs : List V} {H : Hp} {Q : VK} {E : XK} (h : sp_ThresholdObserver_rest_untilX K A vs H Q E) : vs.length = 3 := by
  unfold sp_ThresholdObserver_rest_untilX at h
  repeat (first | (obtain ⟨rfl, _⟩ := h; rfl) | obtain ⟨_, h⟩ := h)
theorem ok_ThresholdObserver_rest_untilX {f : Addr} {fd : FuncData} (F : FunD K "rest_until" "ThresholdObserver.rest_until" (defArgs s_ThresholdObserver_rest_until) (defBody s_ThresholdObserver_rest_until) (defScope s_ThresholdObserver_rest_until) [] [] f fd) (hcx : NoE (L2N.CX A.P A.w)) (b : Blt mg) (m_ThresholdObserver_keep : MetR A.P A.w K mg base (L2N.CX A.P A.w) 1 A.cThresholdObserver "keep" (sp_ThresholdObserver_keepX K A)) (m_ThresholdObserver_narrowed : MetR A.P A.w K mg base (L2N.CX A.P A.w) 1 A.cThresholdObserver "narrowed" (sp_ThresholdObserver_narrowed K A)) (m_Run_extreme : MetR A.P A.w K mg base (L2N.CX A.P A.w) 2 A.cRun "extreme" (sp_Run_extreme K A)) : FnOk A.P A.w K mg base (L2N.CX A.P A.w) 3 f fd ["self", "run", "last"] (sp_ThresholdObserver_rest_untilX K A) := by
  refine okDXN F sc_ThresholdObserver_rest_until (fun vs H Q E h => len_ThresholdObserver_rest_untilX h) (fun cdv A' outer s H vs Q E hr tk po h => ⟨t_ThresholdObserver_rest_untilX K A E, ?_, pure_ThresholdObserver_rest_untilX vs H Q E h⟩)
  exact pss_one (ps_if (pt_cmpR op_ge (pv 2) (pe_fld (pv 1) rfl) (nomark _)) (pss_cons (ps_set (i := 3) sc_ThresholdObserver_rest_until.nd rfl (by first | exact Or.inl rfl | exact Or.inr rfl) (pe_ifExp (pt_val (pe_fld (pv 0) rfl)) (pe_int) (pe_un un_neg (pe_int)))) (pss_one (ps_expr ((pe_mtR m_ThresholdObserver_keep hr (by decide) (pass_tkN tk) (pv 0) (pa_cons ((pe_mtR m_ThresholdObserver_narrowed hr (by decide) (hcx _) (pv 0) (pa_cons (pe_ix ix_seq ((pe_mtR m_Run_extreme hr (by decide) (hcx _) (pv 1) (pa_cons (pv 2) (pa_cons (pv 3) (pa_nil))))) (pe_int) (fun _ _ => rfl)) (pa_cons (pe_fld (pv 0) rfl) (pa_nil))))) (pa_nil))))))) (pss_nil))
abbrev s_ThresholdObserver_sizes : Stmt := inClass (top 26) 9
theorem sc_ThresholdObserver_sizes : FnScope ["self"] ["self"] (defScope s_ThresholdObserver_sizes) := ⟨rfl, rfl, rfl, by decide +kernel, rfl, by decide +kernel, by decide +kernel⟩
theorem len_ThresholdObserver_sizes {vs : List V} {H : Hp} {Q : VK} {E : XK} (h : sp_ThresholdObserver_sizes K A vs H Q E) : vs.length = 1 := by
  unfold sp_ThresholdObserver_sizes at h
  repeat (first | (obtain ⟨rfl, _⟩ := h; rfl) | obtain ⟨_, h⟩ := h)
theorem ok_ThresholdObserver_sizes {f : Addr} {fd : FuncData} (F : FunD K "sizes" "ThresholdObserver.sizes" (defArgs s_ThresholdObserver_sizes) (defBody s_ThresholdObserver_sizes) (defScope s_ThresholdObserver_sizes) [] [] f fd) (hcx : NoE CX) (b : Blt mg)  : FnOk A.P A.w K mg base CX 1 f fd ["self"] (sp_ThresholdObserver_sizes K A) := by
  refine okD F sc_ThresholdObserver_sizes (fun vs H Q E h => len_ThresholdObserver_sizes h) (fun cdv A' outer s H vs Q E hr h => ⟨t_ThresholdObserver_sizes K A, ?_, pure_ThresholdObserver_sizes vs H Q E h⟩)
  exact pss_one (ps_ret (pe_tup (pa_cons (pe_op op_add (pe_op op_sub (pe_ix ix_seq (pe_fld (pv 0) rfl) (pe_int) (fun _ _ => rfl)) (pe_ix ix_seq (pe_fld (pv 0) rfl) (pe_int) (fun _ _ => rfl))) (pe_int)) (pa_cons (pe_op op_add (pe_op op_sub (pe_ix ix_seq (pe_fld (pv 0) rfl) (pe_int) (fun _ _ => rfl)) (pe_ix ix_seq (pe_fld (pv 0) rfl) (pe_int) (fun _ _ => rfl))) (pe_int)) (pa_nil)))))
abbrev s_ThresholdObserver_see_switching : Stmt := inClass (top 26) 11
theorem sc_ThresholdObserver_see_switching : FnScope ["self", "tick", "run", "kept", "degrees"] ["self", "tick"] (defScope s_ThresholdObserver_see_switching) := ⟨rfl, rfl, rfl, by decide +kernel, rfl, by decide +kernel, by decide +kernel⟩
theorem len_ThresholdObserver_see_switchingX {vs : List V} {H : Hp} {Q : VK} {E : XK} (h : sp_ThresholdObserver_see_switchingX K A vs H Q E) : vs.length = 2 := by
  unfold sp_ThresholdObserver_see_switchingX at h
  repeat (first | (obtain ⟨rfl, _⟩ := h; rfl) | obtain ⟨_, h⟩ := h)
theorem ok_ThresholdObserver_see_switchingX {f : Addr} {fd : FuncData} (F : FunD K "see_switching" "ThresholdObserver.see_switching" (defArgs s_ThresholdObserver_see_switching) (defBody s_ThresholdObserver_see_switching) (defScope s_ThresholdObserver_see_switching) [] [] f fd) (hcx : NoE (L2N.CX A.P A.w)) (b : Blt mg) (c_validate_numberX : CalR A.P A.w K mg base (L2N.CX A.P A.w) 1 "validate_number" (sp_validate_numberX K A)) (k_MAX_TICK : ∃ u, mg "MAX_TICK" = some u ∧ RelV (.int 1000000000000000000) u) (m_ThresholdObserver_run_on : MetR A.P A.w K mg base (L2N.CX A.P A.w) 3 A.cThresholdObserver "run_on" (sp_ThresholdObserver_run_on K A)) (xs_Contradiction : RzS K mg "Contradiction" A.cContradiction) (m_ThresholdObserver_rest_until : MetR A.P A.w K mg base (L2N.CX A.P A.w) 3 A.cThresholdObserver "rest_until" (sp_ThresholdObserver_rest_untilX K A)) (m_Run_at : MetR A.P A.w K mg base (L2N.CX A.P A.w) 1 A.cRun "at" (sp_Run_at K A)) (m_ThresholdObserver_keep : MetR A.P A.w K mg base (L2N.CX A.P A.w) 1 A.cThresholdObserver "keep" (sp_ThresholdObserver_keepX K A)) (m_ThresholdObserver_narrowed : MetR A.P A.w K mg base (L2N.CX A.P A.w) 1 A.cThresholdObserver "narrowed" (sp_ThresholdObserver_narrowed K A)) (m_ThresholdObserver_sizes : MetR A.P A.w K mg base (L2N.CX A.P A.w) 1 A.cThresholdObserver "sizes" (sp_ThresholdObserver_sizes K A)) : FnOk A.P A.w K mg base (L2N.CX A.P A.w) 4 f fd ["self", "tick"] (sp_ThresholdObserver_see_switchingX K A) := by
  refine okDXN F sc_ThresholdObserver_see_switching (fun vs H Q E h => len_ThresholdObserver_see_switchingX h) (fun cdv A' outer s H vs Q E hr tk po h => ⟨t_ThresholdObserver_see_switchingX K A E, ?_, pure_ThresholdObserver_see_switchingX vs H Q E h⟩)
  exact pss_cons (ps_expr ((pe_cR c_validate_numberX hr (by decide) (pass_tkN tk) (by rfl) (pa_cons (pv 1) (pa_cons (pe_fld (pv 0) rfl) (pa_cons ((C8.pe_gc (by rfl) k_MAX_TICK)) (pa_nil))))))) (pss_cons (ps_par (i := 2) (j := 3) rfl sc_ThresholdObserver_see_switching.nd rfl rfl (by decide) rfl rfl (pa_cons ((pe_mtR m_ThresholdObserver_run_on hr (by decide) (hcx _) (pv 0) (pa_cons (pe_fld (pv 0) rfl) (pa_cons (pe_fld (pv 0) rfl) (pa_cons (pe_fld (pv 0) rfl) (pa_nil)))))) (pa_cons (pe_tup (pa_cons (pe_fld (pv 0) rfl) (pa_cons (pe_fld (pv 0) rfl) (pa_nil)))) (pa_nil))) (by rfl)) (pss_cons (ps_try_re rfl rfl rfl ⟨by rfl, by decide, .inl xs_Contradiction.hm⟩ (L2H.passesAt_of rfl) tk (fun W pn xe tkW po => pss_cons (ps_expr ((pe_mtRS m_ThresholdObserver_rest_until hr (by decide) (fun σ => L2N.passAt tkW σ) (pv 0) (pa_cons (pv 2) (pa_cons (pe_op op_sub (pv 1) (pe_int)) (pa_nil)))))) (pss_cons (ps_set (i := 4) sc_ThresholdObserver_see_switching.nd rfl (by first | exact Or.inl rfl | exact Or.inr rfl) ((pe_mtR m_Run_at hr (by decide) (hcx _) (pv 2) (pa_cons (pv 1) (pa_nil))))) (pss_one (ps_expr ((pe_mtRS m_ThresholdObserver_keep hr (by decide) (fun σ => L2N.passAt tkW σ) (pv 0) (pa_cons ((pe_mtR m_ThresholdObserver_narrowed hr (by decide) (hcx _) (pv 0) (pa_cons (pe_ifExp (pt_val (pe_fld (pv 0) rfl)) (pe_op op_sub (pv 4) (pe_int)) (pe_op op_add (pv 4) (pe_int))) (pa_cons (pe_not (pe_fld (pv 0) rfl)) (pa_nil))))) (pa_nil)))))))) (fun a oe pn hot => ps_asg (pv 3) (pg_tupH hot (pgs_cons (pg_fld (pv 0)) (pgs_cons (pg_fld (pv 0)) (pgs_nil)))))) (pss_cons (ps_fld (pv 0) (pe_not (pe_fld (pv 0) rfl)) rfl) (pss_cons (ps_asg (pe_tup (pa_cons (pe_op op_add (pv 1) (pe_int)) (pa_cons ((pe_mtR m_Run_at hr (by decide) (hcx _) ((pe_mtR m_ThresholdObserver_run_on hr (by decide) (hcx _) (pv 0) (pa_cons (pv 1) (pa_cons (pv 4) (pa_cons (pe_fld (pv 0) rfl) (pa_nil)))))) (pa_cons (pe_op op_add (pv 1) (pe_int)) (pa_nil)))) (pa_nil)))) (pg_tup rfl (pgs_cons (pg_fld (pv 0)) (pgs_cons (pg_fld (pv 0)) (pgs_nil))))) (pss_cons (ps_fld (pv 0) (pe_op op_cat (pe_fld (pv 0) rfl) (pe_lst (pa_cons (pe_tup (pa_cons (pe_str) (pa_cons (pv 1) (pa_nil)))) (pa_nil)))) rfl) (pss_one (ps_ret ((pe_mt0R m_ThresholdObserver_sizes hr (by decide) (hcx _) (pv 0))))))))))
abbrev s_ThresholdObserver_records : Stmt := inClass (top 26) 4
theorem sc_ThresholdObserver_records : FnScope ["self"] ["self"] (defScope s_ThresholdObserver_records) := ⟨rfl, rfl, rfl, by decide +kernel, rfl, by decide +kernel, by decide +kernel⟩
theorem len_ThresholdObserver_records {vs : List V} {H : Hp} {Q : VK} {E : XK} (h : sp_ThresholdObserver_records K A vs H Q E) : vs.length = 1 := by
  unfold sp_ThresholdObserver_records at h
  repeat (first | (obtain ⟨rfl, _⟩ := h; rfl) | obtain ⟨_, h⟩ := h)
theorem ok_ThresholdObserver_records {f : Addr} {fd : FuncData} (F : FunD K "records" "ThresholdObserver.records" (defArgs s_ThresholdObserver_records) (defBody s_ThresholdObserver_records) (defScope s_ThresholdObserver_records) [] [] f fd) (hcx : NoE CX) (b : Blt mg)  : FnOk A.P A.w K mg base CX 1 f fd ["self"] (sp_ThresholdObserver_records K A) := by
  refine okD F sc_ThresholdObserver_records (fun vs H Q E h => len_ThresholdObserver_records h) (fun cdv A' outer s H vs Q E hr h => ⟨t_ThresholdObserver_records K A, ?_, pure_ThresholdObserver_records vs H Q E h⟩)
  exact pss_one (ps_ret ((pe_callTy call_list_of (by rfl) b.n_list (by decide +kernel) (pa_cons (pe_fld (pv 0) rfl) (pa_nil)))))
abbrev s_ThresholdObserver_see_rest : Stmt := inClass (top 26) 10
theorem sc_ThresholdObserver_see_rest : FnScope ["self", "tick", "run"] ["self", "tick"] (defScope s_ThresholdObserver_see_rest) := ⟨rfl, rfl, rfl, by decide +kernel, rfl, by decide +kernel, by decide +kernel⟩
theorem len_ThresholdObserver_see_restX {vs : List V} {H : Hp} {Q : VK} {E : XK} (h : sp_ThresholdObserver_see_restX K A vs H Q E) : vs.length = 2 := by
  unfold sp_ThresholdObserver_see_restX at h
  repeat (first | (obtain ⟨rfl, _⟩ := h; rfl) | obtain ⟨_, h⟩ := h)
theorem ok_ThresholdObserver_see_restX {f : Addr} {fd : FuncData} (F : FunD K "see_rest" "ThresholdObserver.see_rest" (defArgs s_ThresholdObserver_see_rest) (defBody s_ThresholdObserver_see_rest) (defScope s_ThresholdObserver_see_rest) [] [] f fd) (hcx : NoE (L2N.CX A.P A.w)) (b : Blt mg) (c_validate_numberX : CalR A.P A.w K mg base (L2N.CX A.P A.w) 1 "validate_number" (sp_validate_numberX K A)) (k_MAX_TICK : ∃ u, mg "MAX_TICK" = some u ∧ RelV (.int 1000000000000000000) u) (m_ThresholdObserver_run_on : MetR A.P A.w K mg base (L2N.CX A.P A.w) 3 A.cThresholdObserver "run_on" (sp_ThresholdObserver_run_on K A)) (m_ThresholdObserver_rest_until : MetR A.P A.w K mg base (L2N.CX A.P A.w) 3 A.cThresholdObserver "rest_until" (sp_ThresholdObserver_rest_untilX K A)) (m_Run_at : MetR A.P A.w K mg base (L2N.CX A.P A.w) 1 A.cRun "at" (sp_Run_at K A)) (m_ThresholdObserver_sizes : MetR A.P A.w K mg base (L2N.CX A.P A.w) 1 A.cThresholdObserver "sizes" (sp_ThresholdObserver_sizes K A)) : FnOk A.P A.w K mg base (L2N.CX A.P A.w) 4 f fd ["self", "tick"] (sp_ThresholdObserver_see_restX K A) := by
  refine okDXN F sc_ThresholdObserver_see_rest (fun vs H Q E h => len_ThresholdObserver_see_restX h) (fun cdv A' outer s H vs Q E hr tk po h => ⟨t_ThresholdObserver_see_restX K A E, ?_, pure_ThresholdObserver_see_restX vs H Q E h⟩)
  exact pss_cons (ps_expr ((pe_cR c_validate_numberX hr (by decide) (pass_tkN tk) (by rfl) (pa_cons (pv 1) (pa_cons (pe_fld (pv 0) rfl) (pa_cons ((C8.pe_gc (by rfl) k_MAX_TICK)) (pa_nil))))))) (pss_cons (ps_set (i := 2) sc_ThresholdObserver_see_rest.nd rfl (by first | exact Or.inl rfl | exact Or.inr rfl) ((pe_mtR m_ThresholdObserver_run_on hr (by decide) (hcx _) (pv 0) (pa_cons (pe_fld (pv 0) rfl) (pa_cons (pe_fld (pv 0) rfl) (pa_cons (pe_fld (pv 0) rfl) (pa_nil))))))) (pss_cons (ps_expr ((pe_mtR m_ThresholdObserver_rest_until hr (by decide) (pass_tkN tk) (pv 0) (pa_cons (pv 2) (pa_cons (pv 1) (pa_nil)))))) (pss_cons (ps_asg (pe_tup (pa_cons (pe_op op_add (pv 1) (pe_int)) (pa_cons ((pe_mtR m_Run_at hr (by decide) (hcx _) (pv 2) (pa_cons (pe_op op_add (pv 1) (pe_int)) (pa_nil)))) (pa_nil)))) (pg_tup rfl (pgs_cons (pg_fld (pv 0)) (pgs_cons (pg_fld (pv 0)) (pgs_nil))))) (pss_cons (ps_fld (pv 0) (pe_op op_cat (pe_fld (pv 0) rfl) (pe_lst (pa_cons (pe_tup (pa_cons (pe_str) (pa_cons (pv 1) (pa_nil)))) (pa_nil)))) rfl) (pss_one (ps_ret ((pe_mt0R m_ThresholdObserver_sizes hr (by decide) (hcx _) (pv 0)))))))))
abbrev s_law : Stmt := top 40
theorem sc_law : FnScope ["_law_script", "_law_h", "_law_changes_here", "_law_setting_here", "_law_gain", "_law_low", "_law_high", "_law_start", "_law_heating", "_law_observer", "_law_degrees", "_law_states", "_law_told_here", "_law_records", "_law_seen", "_law_moves", "_law_tick", "_law_time", "_law_ahead", "_law_last", "_law_results", "_law_entry", "_law_calls", "_law_lows", "_law_highs", "_law_kept", "_law_error_here"] ["_law_script"] (defScope s_law) := ⟨rfl, rfl, rfl, by decide +kernel, rfl, by decide +kernel, by decide +kernel⟩
theorem len_law {vs : List V} {H : Hp} {Q : VK} {E : XK} (h : sp_law K A vs H Q E) : vs.length = 1 := by
  unfold sp_law at h
  repeat (first | (obtain ⟨rfl, _⟩ := h; rfl) | obtain ⟨_, h⟩ := h)
theorem ok_law {f : Addr} {fd : FuncData} (F : FunD K "law" "law" (defArgs s_law) (defBody s_law) (defScope s_law) [] [] f fd) (hcx : NoE (L2N.CX A.P A.w)) (b : Blt mg) (c_law_mix : CalR A.P A.w K mg base (L2N.CX A.P A.w) 1 "_law_mix" (sp_law_mix K A)) (c_law_changes : CalR A.P A.w K mg base (L2N.CX A.P A.w) 2 "_law_changes" (sp_law_changes K A)) (c_law_setting : CalR A.P A.w K mg base (L2N.CX A.P A.w) 2 "_law_setting" (sp_law_setting K A)) (n_ThresholdObserver_kw : MakKR A.P A.w K mg base (L2N.CX A.P A.w) 2 "ThresholdObserver" A.cThresholdObserver 3 ["on"] (sp_ThresholdObserver_init K A)) (c_law_weather : CalR A.P A.w K mg base (L2N.CX A.P A.w) 3 "_law_weather" (sp_law_weather K A)) (c_law_told : CalR A.P A.w K mg base (L2N.CX A.P A.w) 1 "_law_told" (sp_law_told K A)) (c_law_next : CalR A.P A.w K mg base (L2N.CX A.P A.w) 1 "_law_next" (sp_law_next K A)) (lm_law_error : ErrD A.P A.w K mg base 5 "_law_error" errN "_law_call" (TTerr K A.cWarmthError 1 errN (t_law_error_sx K A) tErrRet)) (p_ThresholdObserver_low_range : PrpR A.P A.w K mg base (L2N.CX A.P A.w) 1 A.cThresholdObserver "low_range" (sp_ThresholdObserver_low_range K A)) (p_ThresholdObserver_high_range : PrpR A.P A.w K mg base (L2N.CX A.P A.w) 1 A.cThresholdObserver "high_range" (sp_ThresholdObserver_high_range K A)) (p_ThresholdObserver_seen_ticks : PrpR A.P A.w K mg base (L2N.CX A.P A.w) 1 A.cThresholdObserver "seen_ticks" (sp_ThresholdObserver_seen_ticks K A)) (c_law_alike : CalR A.P A.w K mg base (L2N.CX A.P A.w) 5 "_law_alike" (sp_law_alike K A)) (c_law_ranges : CalR A.P A.w K mg base (L2N.CX A.P A.w) 1 "_law_ranges" (sp_law_ranges K A)) (c_law_ends_right : CalR A.P A.w K mg base (L2N.CX A.P A.w) 3 "_law_ends_right" (sp_law_ends_right K A)) (m_ThresholdObserver_see_switching : MetR A.P A.w K mg base (L2N.CX A.P A.w) 4 A.cThresholdObserver "see_switching" (sp_ThresholdObserver_see_switchingX K A)) (p_ThresholdObserver_records : PrpR A.P A.w K mg base (L2N.CX A.P A.w) 1 A.cThresholdObserver "records" (sp_ThresholdObserver_records K A)) (m_ThresholdObserver_see_rest : MetR A.P A.w K mg base (L2N.CX A.P A.w) 4 A.cThresholdObserver "see_rest" (sp_ThresholdObserver_see_restX K A)) {cL : Addr} (TB : TabB base mg cL A.tLaw) (hcd : cdAt K f = some (.ref cL)) : FnOk A.P A.w K mg base (L2N.CX A.P A.w) 8 f fd ["_law_script"] (sp_law K A) := by
  refine okDL F sc_law (fun vs H Q E h => len_law h) (fun cdv A' outer s H vs Q E hc hr h => ?_)
  have hcode : cdv = .ref cL := Option.some.inj (hc.symm.trans hcd)
  exact ⟨t_law K A ⟨(cxOf (L2N.CX A.P A.w) A.P A.w K mg base ["_law_script", "_law_h", "_law_changes_here", "_law_setting_here", "_law_gain", "_law_low", "_law_high", "_law_start", "_law_heating", "_law_observer", "_law_degrees", "_law_states", "_law_told_here", "_law_records", "_law_seen", "_law_moves", "_law_tick", "_law_time", "_law_ahead", "_law_last", "_law_results", "_law_entry", "_law_calls", "_law_lows", "_law_highs", "_law_kept", "_law_error_here"] "law" (defScope s_law) f cdv A' outer s H E).nox.env.cells, "law.<locals>.<lambda>", spL [_, _]⟩, with_lams (X := (cxOf (L2N.CX A.P A.w) A.P A.w K mg base ["_law_script", "_law_h", "_law_changes_here", "_law_setting_here", "_law_gain", "_law_low", "_law_high", "_law_start", "_law_heating", "_law_observer", "_law_degrees", "_law_states", "_law_told_here", "_law_records", "_law_seen", "_law_moves", "_law_tick", "_law_time", "_law_ahead", "_law_last", "_law_results", "_law_entry", "_law_calls", "_law_lows", "_law_highs", "_law_kept", "_law_error_here"] "law" (defScope s_law) f cdv A' outer s H E).nox) (k := 5) (ts := t_law_ls K A) (fun lams => pss_cons (ps_set (i := 1) sc_law.nd rfl (by first | exact Or.inl rfl | exact Or.inr rfl) ((pe_cR c_law_mix hr (by decide) (hcx _) (by rfl) (pa_cons (pv 0) (pa_cons (pe_int) (pa_nil)))))) (pss_cons (ps_par (i := 2) (j := 3) rfl sc_law.nd rfl rfl (by decide) rfl rfl (pa_cons ((pe_cR c_law_changes hr (by decide) (hcx _) (by rfl) (pa_cons (pv 1) (pa_cons (pe_int) (pa_nil))))) (pa_cons ((pe_cR c_law_setting hr (by decide) (hcx _) (by rfl) (pa_cons (pv 1) (pa_nil)))) (pa_nil))) (by rfl)) (pss_cons (ps_asg (pv 3) (pg_tup rfl (pgs_cons (pg_name (i := 4) sc_law.nd rfl (by first | exact Or.inl rfl | exact Or.inr rfl)) (pgs_cons (pg_name (i := 5) sc_law.nd rfl (by first | exact Or.inl rfl | exact Or.inr rfl)) (pgs_cons (pg_name (i := 6) sc_law.nd rfl (by first | exact Or.inl rfl | exact Or.inr rfl)) (pgs_cons (pg_name (i := 7) sc_law.nd rfl (by first | exact Or.inl rfl | exact Or.inr rfl)) (pgs_cons (pg_name (i := 8) sc_law.nd rfl (by first | exact Or.inl rfl | exact Or.inr rfl)) (pgs_nil)))))))) (pss_cons (ps_set (i := 9) sc_law.nd rfl (by first | exact Or.inl rfl | exact Or.inr rfl) ((pe_mkKwR (ks := ["on"]) n_ThresholdObserver_kw hr (by decide) (hcx _) (by rfl) (pa_cons ((pe_cR c_law_weather hr (by decide) (hcx _) (by rfl) (pa_cons (pv 2) (pa_nil)))) (pa_cons (pv 4) (pa_cons (pv 7) (pa_nil)))) (pk_cons (pv 8) (pk_nil))))) (pss_cons (ps_asg ((pe_cR c_law_told hr (by decide) (hcx _) (by rfl) (pa_cons (pv 2) (pa_cons (pv 3) (pa_cons (pe_int) (pa_nil)))))) (pg_tup rfl (pgs_cons (pg_name (i := 10) sc_law.nd rfl (by first | exact Or.inl rfl | exact Or.inr rfl)) (pgs_cons (pg_name (i := 11) sc_law.nd rfl (by first | exact Or.inl rfl | exact Or.inr rfl)) (pgs_nil))))) (pss_cons (ps_asg (pe_tup (pa_cons (pe_op op_cat (pe_lst (pa_cons (pv 8) (pa_nil))) (pv 11)) (pa_cons (pe_lst (pa_nil)) (pa_cons (pe_lst (pa_nil)) (pa_cons (pe_int) (pa_nil)))))) (pg_tup rfl (pgs_cons (pg_name (i := 11) sc_law.nd rfl (by first | exact Or.inl rfl | exact Or.inr rfl)) (pgs_cons (pg_name (i := 12) sc_law.nd rfl (by first | exact Or.inl rfl | exact Or.inr rfl)) (pgs_cons (pg_name (i := 13) sc_law.nd rfl (by first | exact Or.inl rfl | exact Or.inr rfl)) (pgs_cons (pg_name (i := 14) sc_law.nd rfl (by first | exact Or.inl rfl | exact Or.inr rfl)) (pgs_nil))))))) (pss_cons (ps_setLc (i := 15) rfl sc_law.nd rfl rfl (sw_true rfl rfl rfl (by decide +kernel)) (own := [("_law_tick", 16)]) (g := gName 16) (tt := tTest (tOp rNe (tOp (rIx K) (tVar 11) (tVar 16)) (tOp (rIx K) (tVar 11) (tOp (rI0 fun i j => .int (i + j)) (tVar 16) (tC (.int 1)))))) (te := tVar 16) (pi_range1 (by rfl) b.n_range (pa_cons (pe_int) (pa_nil))) (blkOk_by (N := ["_law_script", "_law_h", "_law_changes_here", "_law_setting_here", "_law_gain", "_law_low", "_law_high", "_law_start", "_law_heating", "_law_observer", "_law_degrees", "_law_states", "_law_told_here", "_law_records", "_law_seen", "_law_moves", "_law_tick", "_law_time", "_law_ahead", "_law_last", "_law_results", "_law_entry", "_law_calls", "_law_lows", "_law_highs", "_law_kept", "_law_error_here"]) (sc := defScope s_law) (by decide +kernel)) (fun _ _ _ _ _ => pg_name (i := 16) sc_law.nd rfl (by first | exact Or.inl rfl | exact Or.inr rfl)) (fun _ _ _ _ _ => pts_one (pt_cmpR op_ne (pe_ix ix_seq (pv 11) (pv 16) (fun _ _ => rfl)) (pe_ix ix_seq (pv 11) (pe_op op_add (pv 16) (pe_int)) (fun _ _ => rfl)) (nomark _))) (fun _ _ _ _ _ => pv 16)) (pss_cons (ps_for PassesOwn.never rfl (pi_range1 (by rfl) b.n_range (pa_cons (pe_op op_add (pe_int) ((pe_cR c_law_next hr (by decide) (hcx _) (by rfl) (pa_cons (pv 1) (pa_cons (pe_int) (pa_nil)))))) (pa_nil))) (pg_name (i := 17) sc_law.nd rfl (by first | exact Or.inl rfl | exact Or.inr rfl)) (pss_cons (ps_setLc (i := 18) rfl sc_law.nd rfl rfl (sw_true rfl rfl rfl (by decide +kernel)) (own := [("_law_tick", 16)]) (g := gName 16) (tt := tTest (tOp (rI0 fun i j => .bl (decide (j ≤ i))) (tVar 16) (tVar 14))) (te := tVar 16) (pi_list (pv 15)) (blkOk_by (N := ["_law_script", "_law_h", "_law_changes_here", "_law_setting_here", "_law_gain", "_law_low", "_law_high", "_law_start", "_law_heating", "_law_observer", "_law_degrees", "_law_states", "_law_told_here", "_law_records", "_law_seen", "_law_moves", "_law_tick", "_law_time", "_law_ahead", "_law_last", "_law_results", "_law_entry", "_law_calls", "_law_lows", "_law_highs", "_law_kept", "_law_error_here"]) (sc := defScope s_law) (by decide +kernel)) (fun _ _ _ _ _ => pg_name (i := 16) sc_law.nd rfl (by first | exact Or.inl rfl | exact Or.inr rfl)) (fun _ _ _ _ _ => pts_one (pt_cmpR op_ge (pv 16) (pv 14) (nomark _))) (fun _ _ _ _ _ => pv 16)) (pss_cons (ps_asg (pe_tup (pa_cons (pe_op op_add (pv 14) ((pe_cR c_law_next hr (by decide) (hcx _) (by rfl) (pa_cons (pv 1) (pa_cons (pe_int) (pa_nil)))))) (pa_cons (pe_lst (pa_nil)) (pa_nil)))) (pg_tup rfl (pgs_cons (pg_name (i := 19) sc_law.nd rfl (by first | exact Or.inl rfl | exact Or.inr rfl)) (pgs_cons (pg_name (i := 20) sc_law.nd rfl (by first | exact Or.inl rfl | exact Or.inr rfl)) (pgs_nil))))) (pss_cons (ps_set (i := 21) sc_law.nd rfl (by first | exact Or.inl rfl | exact Or.inr rfl) (pe_ifExp (PW.pt (pw_and (pt_cmpR (op_neD hr.units) (pv 18) (pe_lst (pa_nil)) (nomark _)) (pw_and1 (pt_cmpR op_eq ((pe_cR c_law_next hr (by decide) (hcx _) (by rfl) (pa_cons (pv 1) (pa_cons (pe_int) (pa_nil))))) (pe_int) (nomark _))))) (pe_tup (pa_cons (pe_str) (pa_cons (pe_ix ix_seq (pv 18) (pe_int) (fun _ _ => rfl)) (pa_nil)))) (pe_tup (pa_cons (pe_str) (pa_cons (pv 19) (pa_nil)))))) (pss_cons (ps_if (PW.pt (pw_and (pt_cmpR op_eq (pe_ix ix_seq (pv 21) (pe_int) (fun _ _ => rfl)) (pe_str) (nomark _)) (pw_and1 (PW.pt (pw_or (PW.pt (pw_and (pt_cmpR (op_neD hr.units) (pv 18) (pe_lst (pa_nil)) (nomark _)) (pw_and1 (pt_cmpR op_le (pe_ix ix_seq (pv 18) (pe_int) (fun _ _ => rfl)) (pv 19) (nomark _))))) (pw_or1 (pt_cmpR op_gt (pv 19) (pe_int) (nomark _)))))))) (pss_one (ps_set (i := 21) sc_law.nd rfl (by first | exact Or.inl rfl | exact Or.inr rfl) (pe_non))) (pss_nil)) (pss_cons (ps_if (pt_cmpR op_notN1 (pv 21) (pe_non) (nomark _)) (pss_cons (ps_set (i := 22) sc_law.nd rfl (by first | exact Or.inl rfl | exact Or.inr rfl) (pe_lst (pa_cons ((pe_lamV0 rfl TB hcode rfl rfl (show LamS1 (defScope s_law) _ none from lamS1_by (by decide +kernel)) (by rfl))) (pa_nil)))) (pss_cons (ps_expr ((pe_bm PySem.F.plainAttrs_list PySem.F.slot_list_append PySem.F.type_list_append mt_append (pv 22) (pa_cons ((pe_lamV0 rfl TB hcode rfl rfl (show LamS1 (defScope s_law) _ none from lamS1_by (by decide +kernel)) (by rfl))) (pa_nil))))) (pss_cons (ps_if (pt_cmpR (op_neD hr.units) ((pe_errV lm_law_error terr_mono hr (by decide) (by rfl) rfl rfl (pe_ix ix_seq (pv 22) ((pe_callTy call_int1 (by rfl) b.n_int (by decide +kernel) (pa_cons (pe_cmpR op_eq (pe_ix ix_seq (pv 21) (pe_int) (fun _ _ => rfl)) (pe_str) (nomark _)) (pa_nil)))) (fun _ _ => rfl)) lams)) (pe_tup (pa_cons (pe_str) (pa_nil))) (nomark _)) (pss_one (ps_ret (pe_bl))) (pss_nil)) (pss_cons (ps_expr ((pe_bm PySem.F.plainAttrs_list PySem.F.slot_list_append PySem.F.type_list_append mt_append (pv 13) (pa_cons (pv 21) (pa_nil))))) (pss_cons (ps_set (i := 12) sc_law.nd rfl (by first | exact Or.inl rfl | exact Or.inr rfl) (pe_op op_cat (pv 12) (pe_op op_rep (pe_lst (pa_cons (pe_ix ix_seq (pv 21) (pe_int) (fun _ _ => rfl)) (pa_nil))) ((pe_callTy call_int1 (by rfl) b.n_int (by decide +kernel) (pa_cons (pe_cmpR op_eq (pe_ix ix_seq (pv 21) (pe_int) (fun _ _ => rfl)) (pe_str) (nomark _)) (pa_nil))))))) (pss_cons (ps_set (i := 14) sc_law.nd rfl (by first | exact Or.inl rfl | exact Or.inr rfl) (pe_op op_add (pe_ix ix_seq (pv 21) (pe_int) (fun _ _ => rfl)) (pe_int))) (pss_cons (ps_par (i := 23) (j := 24) rfl sc_law.nd rfl rfl (by decide) rfl rfl (pa_cons ((pe_prR p_ThresholdObserver_low_range hr (by decide) (hcx _) (pv 9))) (pa_cons ((pe_prR p_ThresholdObserver_high_range hr (by decide) (hcx _) (pv 9))) (pa_nil))) (by rfl)) (pss_cons (ps_if (PW.pt (pw_or (pt_cmpR (op_neD hr.units) (pv 20) (pe_lst (pa_cons (pe_tup (pa_cons (pe_op op_add (pe_op op_sub (pe_ix ix_seq (pv 23) (pe_int) (fun _ _ => rfl)) (pe_ix ix_seq (pv 23) (pe_int) (fun _ _ => rfl))) (pe_int)) (pa_cons (pe_op op_add (pe_op op_sub (pe_ix ix_seq (pv 24) (pe_int) (fun _ _ => rfl)) (pe_ix ix_seq (pv 24) (pe_int) (fun _ _ => rfl))) (pe_int)) (pa_nil)))) (pa_nil))) (nomark _)) (pw_or1 (pt_cmpR op_ne ((pe_prR p_ThresholdObserver_seen_ticks hr (by decide) (hcx _) (pv 9))) (pv 14) (nomark _))))) (pss_one (ps_ret (pe_bl))) (pss_nil)) (pss_cons (ps_if (PW.pt (pw_or (pt_not (pt_chain op_le op_le (pe_ix ix_seq (pv 23) (pe_int) (fun _ _ => rfl)) (pv 5) (pe_ix ix_seq (pv 23) (pe_int) (fun _ _ => rfl)))) (pw_or1 (pt_not (pt_chain op_le op_le (pe_ix ix_seq (pv 24) (pe_int) (fun _ _ => rfl)) (pv 6) (pe_ix ix_seq (pv 24) (pe_int) (fun _ _ => rfl))))))) (pss_one (ps_ret (pe_bl))) (pss_nil)) (pss_cons (ps_if (pt_not (pt_val ((pe_cR c_law_alike hr (by decide) (hcx _) (by rfl) (pa_cons (pe_lst (pa_cons (pv 23) (pa_cons (pv 24) (pa_nil)))) (pa_cons ((pe_cR c_law_ranges hr (by decide) (hcx _) (by rfl) (pa_cons (pv 10) (pa_cons (pv 11) (pa_cons (pv 14) (pa_nil)))))) (pa_nil))))))) (pss_one (ps_ret (pe_bl))) (pss_nil)) (pss_one (ps_if (pt_not (pt_val ((pe_cR c_law_ends_right hr (by decide) (hcx _) (by rfl) (pa_cons (pv 2) (pa_cons (pv 3) (pa_cons (pv 12) (pa_cons (pe_op op_sub (pv 14) (pe_int)) (pa_cons (pv 23) (pa_cons (pv 24) (pa_nil))))))))))) (pss_one (ps_ret (pe_bl))) (pss_nil))))))))))))) (pss_nil)) (pss_cons (ps_set (i := 25) sc_law.nd rfl (by first | exact Or.inl rfl | exact Or.inr rfl) (pe_lst (pa_cons ((pe_prR p_ThresholdObserver_low_range hr (by decide) (hcx _) (pv 9))) (pa_cons ((pe_prR p_ThresholdObserver_high_range hr (by decide) (hcx _) (pv 9))) (pa_cons ((pe_prR p_ThresholdObserver_seen_ticks hr (by decide) (hcx _) (pv 9))) (pa_nil)))))) (pss_cons (ps_set (i := 26) sc_law.nd rfl (by first | exact Or.inl rfl | exact Or.inr rfl) ((pe_lamC lm_law_error hr (by decide) (by rfl) TB hcode (show LamS (defScope s_law) _ from lamS_by (by decide +kernel)) (by rfl) (fun _ _ _ _ _ => rfl) (fun A' outer' s' H' E f' c' hr => (pe_mtR m_ThresholdObserver_see_switching hr (by decide) (pass_tkL lam_takes) (pv 9) (pa_cons (pe_op op_sub (pv 14) (pe_int)) (pa_nil))))))) (pss_one (ps_if (PW.pt (pw_or (pt_cmpR (op_neD hr.units) (pv 26) (pe_tup (pa_cons (pe_str) (pa_nil))) (nomark _)) (pw_or1 (pt_cmpR (op_neD hr.units) (pe_lst (pa_cons ((pe_prR p_ThresholdObserver_low_range hr (by decide) (hcx _) (pv 9))) (pa_cons ((pe_prR p_ThresholdObserver_high_range hr (by decide) (hcx _) (pv 9))) (pa_cons ((pe_prR p_ThresholdObserver_seen_ticks hr (by decide) (hcx _) (pv 9))) (pa_nil))))) (pv 25) (nomark _))))) (pss_one (ps_ret (pe_bl))) (pss_nil))))))))))) (pss_one (ps_ret ((pe_cR c_law_alike hr (by decide) (hcx _) (by rfl) (pa_cons ((pe_prR p_ThresholdObserver_records hr (by decide) (hcx _) (pv 9))) (pa_cons (pv 13) (pa_nil))))))))))))))) (lams_cons (lamOk0 rfl (show LamS1 (defScope s_law) _ none from lamS1_by (by decide +kernel)) (fun _ _ _ _ _ => rfl) (fun A' outer' s' H' E f' c' hr => (pe_bm PySem.F.plainAttrs_list PySem.F.slot_list_append PySem.F.type_list_append mt_append (pv 20) (pa_cons ((pe_mtR m_ThresholdObserver_see_rest hr (by decide) (pass_tkL lam_takes) (pv 9) (pa_cons (pe_ix ix_seq (pv 21) (pe_int) (fun _ _ => rfl)) (pa_nil)))) (pa_nil))))) (lams_cons (lamOk0 rfl (show LamS1 (defScope s_law) _ none from lamS1_by (by decide +kernel)) (fun _ _ _ _ _ => rfl) (fun A' outer' s' H' E f' c' hr => (pe_bm PySem.F.plainAttrs_list PySem.F.slot_list_append PySem.F.type_list_append mt_append (pv 20) (pa_cons ((pe_mtR m_ThresholdObserver_see_switching hr (by decide) (pass_tkL lam_takes) (pv 9) (pa_cons (pe_ix ix_seq (pv 21) (pe_int) (fun _ _ => rfl)) (pa_nil)))) (pa_nil))))) (lams_nil))), pure_law _ rfl vs H Q E h⟩
end
def d_law_mix : He.DefD := ⟨("_law_mix", none), "_law_mix", "_law_mix", defArgs s__law_mix, defBody s__law_mix, defScope s__law_mix, [], []⟩
def d_law_next : He.DefD := ⟨("_law_next", none), "_law_next", "_law_next", defArgs s__law_next, defBody s__law_next, defScope s__law_next, [], []⟩
def d_law_changes : He.DefD := ⟨("_law_changes", none), "_law_changes", "_law_changes", defArgs s__law_changes, defBody s__law_changes, defScope s__law_changes, [], []⟩
def d_law_setting : He.DefD := ⟨("_law_setting", none), "_law_setting", "_law_setting", defArgs s__law_setting, defBody s__law_setting, defScope s__law_setting, [], []⟩
def d_validate_number : He.DefD := ⟨("validate_number", none), "validate_number", "validate_number", defArgs s_validate_number, defBody s_validate_number, defScope s_validate_number, [], []⟩
def d_ThresholdObserver_init : He.DefD := ⟨("ThresholdObserver", some "__init__"), "__init__", "ThresholdObserver.__init__", defArgs s_ThresholdObserver___init__, defBody s_ThresholdObserver___init__, defScope s_ThresholdObserver___init__, [], [("on", .bl false)]⟩
def d_Weather_init : He.DefD := ⟨("Weather", some "__init__"), "__init__", "Weather.__init__", defArgs s_Weather___init__, defBody s_Weather___init__, defScope s_Weather___init__, [], []⟩
def d_law_weather : He.DefD := ⟨("_law_weather", none), "_law_weather", "_law_weather", defArgs s__law_weather, defBody s__law_weather, defScope s__law_weather, [], []⟩
def d_law_told : He.DefD := ⟨("_law_told", none), "_law_told", "_law_told", defArgs s__law_told, defBody s__law_told, defScope s__law_told, [], []⟩
def d_law_error : He.DefD := ⟨("_law_error", none), "_law_error", "_law_error", defArgs s__law_error, defBody s__law_error, defScope s__law_error, [], []⟩
def d_law_alike : He.DefD := ⟨("_law_alike", none), "_law_alike", "_law_alike", defArgs s__law_alike, defBody s__law_alike, defScope s__law_alike, [], []⟩
def d_law_ranges : He.DefD := ⟨("_law_ranges", none), "_law_ranges", "_law_ranges", defArgs s__law_ranges, defBody s__law_ranges, defScope s__law_ranges, [], []⟩
def d_law_agrees : He.DefD := ⟨("_law_agrees", none), "_law_agrees", "_law_agrees", defArgs s__law_agrees, defBody s__law_agrees, defScope s__law_agrees, [], []⟩
def d_law_ends_right : He.DefD := ⟨("_law_ends_right", none), "_law_ends_right", "_law_ends_right", defArgs s__law_ends_right, defBody s__law_ends_right, defScope s__law_ends_right, [], []⟩
def d_Run_init : He.DefD := ⟨("Run", some "__init__"), "__init__", "Run.__init__", defArgs s_Run___init__, defBody s_Run___init__, defScope s_Run___init__, [], []⟩
def d_ThresholdObserver_run_on : He.DefD := ⟨("ThresholdObserver", some "run_on"), "run_on", "ThresholdObserver.run_on", defArgs s_ThresholdObserver_run_on, defBody s_ThresholdObserver_run_on, defScope s_ThresholdObserver_run_on, [], []⟩
def d_ThresholdObserver_keepX : He.DefD := ⟨("ThresholdObserver", some "keep"), "keep", "ThresholdObserver.keep", defArgs s_ThresholdObserver_keep, defBody s_ThresholdObserver_keep, defScope s_ThresholdObserver_keep, [], []⟩
def d_ThresholdObserver_narrowed : He.DefD := ⟨("ThresholdObserver", some "narrowed"), "narrowed", "ThresholdObserver.narrowed", defArgs s_ThresholdObserver_narrowed, defBody s_ThresholdObserver_narrowed, defScope s_ThresholdObserver_narrowed, [], []⟩
def d_Run_at : He.DefD := ⟨("Run", some "at"), "at", "Run.at", defArgs s_Run_at, defBody s_Run_at, defScope s_Run_at, [], []⟩
def d_Run_extreme : He.DefD := ⟨("Run", some "extreme"), "extreme", "Run.extreme", defArgs s_Run_extreme, defBody s_Run_extreme, defScope s_Run_extreme, [], []⟩
def d_ThresholdObserver_rest_untilX : He.DefD := ⟨("ThresholdObserver", some "rest_until"), "rest_until", "ThresholdObserver.rest_until", defArgs s_ThresholdObserver_rest_until, defBody s_ThresholdObserver_rest_until, defScope s_ThresholdObserver_rest_until, [], []⟩
def d_ThresholdObserver_sizes : He.DefD := ⟨("ThresholdObserver", some "sizes"), "sizes", "ThresholdObserver.sizes", defArgs s_ThresholdObserver_sizes, defBody s_ThresholdObserver_sizes, defScope s_ThresholdObserver_sizes, [], []⟩
def d_ThresholdObserver_see_switchingX : He.DefD := ⟨("ThresholdObserver", some "see_switching"), "see_switching", "ThresholdObserver.see_switching", defArgs s_ThresholdObserver_see_switching, defBody s_ThresholdObserver_see_switching, defScope s_ThresholdObserver_see_switching, [], []⟩
def d_ThresholdObserver_see_restX : He.DefD := ⟨("ThresholdObserver", some "see_rest"), "see_rest", "ThresholdObserver.see_rest", defArgs s_ThresholdObserver_see_rest, defBody s_ThresholdObserver_see_rest, defScope s_ThresholdObserver_see_rest, [], []⟩
def d_law : He.DefD := ⟨("law", none), "law", "law", defArgs s_law, defBody s_law, defScope s_law, [], []⟩
def d_ThresholdObserver_low_range : PrpD := ⟨"ThresholdObserver", "low_range", "ThresholdObserver.low_range", defArgs s_ThresholdObserver_low_range, defBody s_ThresholdObserver_low_range, defScope s_ThresholdObserver_low_range⟩
def d_ThresholdObserver_high_range : PrpD := ⟨"ThresholdObserver", "high_range", "ThresholdObserver.high_range", defArgs s_ThresholdObserver_high_range, defBody s_ThresholdObserver_high_range, defScope s_ThresholdObserver_high_range⟩
def d_ThresholdObserver_seen_ticks : PrpD := ⟨"ThresholdObserver", "seen_ticks", "ThresholdObserver.seen_ticks", defArgs s_ThresholdObserver_seen_ticks, defBody s_ThresholdObserver_seen_ticks, defScope s_ThresholdObserver_seen_ticks⟩
def d_Weather_changes : PrpD := ⟨"Weather", "changes", "Weather.changes", defArgs s_Weather_changes, defBody s_Weather_changes, defScope s_Weather_changes⟩
def d_ThresholdObserver_records : PrpD := ⟨"ThresholdObserver", "records", "ThresholdObserver.records", defArgs s_ThresholdObserver_records, defBody s_ThresholdObserver_records, defScope s_ThresholdObserver_records⟩
def fn : List He.DefD := [d_law_mix, d_law_next, d_law_changes, d_law_setting, d_validate_number, d_ThresholdObserver_init, d_Weather_init, d_law_weather, d_law_told, d_law_error, d_law_alike, d_law_ranges, d_law_agrees, d_law_ends_right, d_Run_init, d_ThresholdObserver_run_on, d_ThresholdObserver_keepX, d_ThresholdObserver_narrowed, d_Run_at, d_Run_extreme, d_ThresholdObserver_rest_untilX, d_ThresholdObserver_sizes, d_ThresholdObserver_see_switchingX, d_ThresholdObserver_see_restX, d_law]
def fa : List He.Fa := [.free "len", .free "int", .free "min", .free "max", .free "sum", .free "range", .free "enumerate", .free "isinstance", .free "list", .free "tuple", .free "sorted", .free "abs", .free "str", .free "dict", .free "bool", .free "ValueError", .glo "_law_mix", .glo "_law_next", .glo "_law_changes", .glo "_law_setting", .glo "validate_number", .glo "_law_weather", .glo "_law_told", .glo "_law_error", .glo "_law_alike", .glo "_law_ranges", .glo "_law_agrees", .glo "_law_ends_right", .glo "law", .int "MAX_DEGREES" 1000000000000, .int "MAX_GAIN" 200, .int "MAX_TICK" 1000000000000000000, .glo "ThresholdObserver", .cls "ThresholdObserver", .noat "ThresholdObserver" "outside", .noat "ThresholdObserver" "power", .noat "ThresholdObserver" "tick", .noat "ThresholdObserver" "degrees", .noat "ThresholdObserver" "is_heating", .noat "ThresholdObserver" "lows", .noat "ThresholdObserver" "highs", .noat "ThresholdObserver" "noted", .mkr "ThresholdObserver", .glo "Weather", .cls "Weather", .noat "Weather" "pattern", .mkr "Weather", .glo "Run", .cls "Run", .noat "Run" "begin", .noat "Run" "end", .noat "Run" "degrees", .noat "Run" "is_heating", .noat "Run" "sums", .noat "Run" "size", .noat "Run" "drift", .mkr "Run", .glo "WarmthError", .glo "InvalidWeather", .glo "InvalidHeater", .glo "InvalidNumber", .glo "OtherWeather", .glo "Contradiction", .meth "ThresholdObserver" "run_on", .meth "ThresholdObserver" "keep", .meth "ThresholdObserver" "narrowed", .meth "Run" "at", .meth "Run" "extreme", .meth "ThresholdObserver" "rest_until", .meth "ThresholdObserver" "sizes", .meth "ThresholdObserver" "see_switching", .meth "ThresholdObserver" "see_rest"]
def prs : List PrpD := [d_ThresholdObserver_low_range, d_ThresholdObserver_high_range, d_ThresholdObserver_seen_ticks, d_Weather_changes, d_ThresholdObserver_records]
def cms : List PrpD := []
def cvs (K : PySem.W.Frag) : Bool := cvB K "Weather" "MAX_CHANGE" (.int 100) && cvB K "Weather" "MAX_TICKS" (.int 24) && rzsB K "Contradiction" && rzsB K "InvalidNumber" && tabB K "law" && errsB K && exmB K "Contradiction"
def adsOf (P : Program) (w : World) (K : PySem.W.Frag) : Ads := { P := P, w := w, tLaw := tLawAd K "law", cThresholdObserver := He.ga K "ThresholdObserver", cWeather := He.ga K "Weather", cRun := He.ga K "Run", cWarmthError := He.ga K "WarmthError", cInvalidWeather := He.ga K "InvalidWeather", cInvalidHeater := He.ga K "InvalidHeater", cInvalidNumber := He.ga K "InvalidNumber", cOtherWeather := He.ga K "OtherWeather", cContradiction := He.ga K "Contradiction" }
theorem cls_ThresholdObserver {P : Program} {w : World} {K : PySem.W.Frag} (c : He.SaysD fa fn K) : ThresholdObserverC K (adsOf P w K).cThresholdObserver := ⟨He.cls_ok (c.fact 33 (f := .cls "ThresholdObserver") rfl), He.noat_ok (c.fact 34 (f := .noat "ThresholdObserver" "outside") rfl), He.noat_ok (c.fact 35 (f := .noat "ThresholdObserver" "power") rfl), He.noat_ok (c.fact 36 (f := .noat "ThresholdObserver" "tick") rfl), He.noat_ok (c.fact 37 (f := .noat "ThresholdObserver" "degrees") rfl), He.noat_ok (c.fact 38 (f := .noat "ThresholdObserver" "is_heating") rfl), He.noat_ok (c.fact 39 (f := .noat "ThresholdObserver" "lows") rfl), He.noat_ok (c.fact 40 (f := .noat "ThresholdObserver" "highs") rfl), He.noat_ok (c.fact 41 (f := .noat "ThresholdObserver" "noted") rfl)⟩
theorem cls_Weather {P : Program} {w : World} {K : PySem.W.Frag} (c : He.SaysD fa fn K) : WeatherC K (adsOf P w K).cWeather := ⟨He.cls_ok (c.fact 44 (f := .cls "Weather") rfl), He.noat_ok (c.fact 45 (f := .noat "Weather" "pattern") rfl)⟩
theorem cls_Run {P : Program} {w : World} {K : PySem.W.Frag} (c : He.SaysD fa fn K) : RunC K (adsOf P w K).cRun := ⟨He.cls_ok (c.fact 48 (f := .cls "Run") rfl), He.noat_ok (c.fact 49 (f := .noat "Run" "begin") rfl), He.noat_ok (c.fact 50 (f := .noat "Run" "end") rfl), He.noat_ok (c.fact 51 (f := .noat "Run" "degrees") rfl), He.noat_ok (c.fact 52 (f := .noat "Run" "is_heating") rfl), He.noat_ok (c.fact 53 (f := .noat "Run" "sums") rfl), He.noat_ok (c.fact 54 (f := .noat "Run" "size") rfl), He.noat_ok (c.fact 55 (f := .noat "Run" "drift") rfl)⟩
theorem facts {P : Program} {w : World} {K : PySem.W.Frag} {h : Heap} {mg : Str → Option Value} {f : Addr} (X : K.In h) (G : h.Ns mainGlobals mg) (hfa : mg ("law" : Str) = some (.ref f)) (c : He.SaysD fa fn K) (cp : SaysP prs K) (cc : cvs K = true) (own : LamX.OwnTab K f h) (cmc : SaysC cms K) :
    ∃ fd : FuncData, (∀ (s : Shared) (v : Value), BindsTo s fd ⟨[v], []⟩ [("_law_script", v)]) ∧ (((WeatherC K (adsOf P w K).cWeather ∧ RunC K (adsOf P w K).cRun) ∧ ThresholdObserverC K (adsOf P w K).cThresholdObserver) ∧ PySem.W.exmOne K (.ref (adsOf P w K).cContradiction) (.ref (adsOf P w K).cContradiction) = some true) ∧ ErrsC K (adsOf P w K) ∧ (h.get? (tLawAd K "law") = some { cls := .none, data := .fields #[] } ∧ K.lookup (tLawAd K "law") = none ∧ PySem.W.CodeHd h (cLawAd K "law") (tLawAd K "law")) ∧ ∀ base : Heap, K.In base → base.Ns mainGlobals mg → LamX.TabB base mg (cLawAd K "law") (tLawAd K "law") → FnOk P w K mg base (L2N.CX P w) 8 f fd ["_law_script"] (sp_law K (adsOf P w K)) := by
  obtain ⟨fd_law_mix, F_law_mix⟩ := c.def_ 0 (d := d_law_mix) rfl
  obtain ⟨fd_law_next, F_law_next⟩ := c.def_ 1 (d := d_law_next) rfl
  obtain ⟨fd_law_changes, F_law_changes⟩ := c.def_ 2 (d := d_law_changes) rfl
  obtain ⟨fd_law_setting, F_law_setting⟩ := c.def_ 3 (d := d_law_setting) rfl
  obtain ⟨fd_validate_number, F_validate_number⟩ := c.def_ 4 (d := d_validate_number) rfl
  obtain ⟨fd_ThresholdObserver_init, F_ThresholdObserver_init⟩ := c.def_ 5 (d := d_ThresholdObserver_init) rfl
  obtain ⟨fd_Weather_init, F_Weather_init⟩ := c.def_ 6 (d := d_Weather_init) rfl
  obtain ⟨fd_law_weather, F_law_weather⟩ := c.def_ 7 (d := d_law_weather) rfl
  obtain ⟨fd_law_told, F_law_told⟩ := c.def_ 8 (d := d_law_told) rfl
  obtain ⟨fd_law_error, F_law_error⟩ := c.def_ 9 (d := d_law_error) rfl
  obtain ⟨fd_law_alike, F_law_alike⟩ := c.def_ 10 (d := d_law_alike) rfl
  obtain ⟨fd_law_ranges, F_law_ranges⟩ := c.def_ 11 (d := d_law_ranges) rfl
  obtain ⟨fd_law_agrees, F_law_agrees⟩ := c.def_ 12 (d := d_law_agrees) rfl
  obtain ⟨fd_law_ends_right, F_law_ends_right⟩ := c.def_ 13 (d := d_law_ends_right) rfl
  obtain ⟨fd_Run_init, F_Run_init⟩ := c.def_ 14 (d := d_Run_init) rfl
  obtain ⟨fd_ThresholdObserver_run_on, F_ThresholdObserver_run_on⟩ := c.def_ 15 (d := d_ThresholdObserver_run_on) rfl
  obtain ⟨fd_ThresholdObserver_keepX, F_ThresholdObserver_keepX⟩ := c.def_ 16 (d := d_ThresholdObserver_keepX) rfl
  obtain ⟨fd_ThresholdObserver_narrowed, F_ThresholdObserver_narrowed⟩ := c.def_ 17 (d := d_ThresholdObserver_narrowed) rfl
  obtain ⟨fd_Run_at, F_Run_at⟩ := c.def_ 18 (d := d_Run_at) rfl
  obtain ⟨fd_Run_extreme, F_Run_extreme⟩ := c.def_ 19 (d := d_Run_extreme) rfl
  obtain ⟨fd_ThresholdObserver_rest_untilX, F_ThresholdObserver_rest_untilX⟩ := c.def_ 20 (d := d_ThresholdObserver_rest_untilX) rfl
  obtain ⟨fd_ThresholdObserver_sizes, F_ThresholdObserver_sizes⟩ := c.def_ 21 (d := d_ThresholdObserver_sizes) rfl
  obtain ⟨fd_ThresholdObserver_see_switchingX, F_ThresholdObserver_see_switchingX⟩ := c.def_ 22 (d := d_ThresholdObserver_see_switchingX) rfl
  obtain ⟨fd_ThresholdObserver_see_restX, F_ThresholdObserver_see_restX⟩ := c.def_ 23 (d := d_ThresholdObserver_see_restX) rfl
  obtain ⟨fd_law, F_law⟩ := c.def_ 24 (d := d_law) rfl
  obtain ⟨P_ThresholdObserver_low_range, fd_ThresholdObserver_low_range, F_ThresholdObserver_low_range⟩ := cp.get 0 (d := d_ThresholdObserver_low_range) rfl
  obtain ⟨P_ThresholdObserver_high_range, fd_ThresholdObserver_high_range, F_ThresholdObserver_high_range⟩ := cp.get 1 (d := d_ThresholdObserver_high_range) rfl
  obtain ⟨P_ThresholdObserver_seen_ticks, fd_ThresholdObserver_seen_ticks, F_ThresholdObserver_seen_ticks⟩ := cp.get 2 (d := d_ThresholdObserver_seen_ticks) rfl
  obtain ⟨P_Weather_changes, fd_Weather_changes, F_Weather_changes⟩ := cp.get 3 (d := d_Weather_changes) rfl
  obtain ⟨P_ThresholdObserver_records, fd_ThresholdObserver_records, F_ThresholdObserver_records⟩ := cp.get 4 (d := d_ThresholdObserver_records) rfl
  have e := hfa.symm.trans (He.glo_ok X G (c.fact 28 (f := .glo "law") rfl))
  cases e
  have bl := FunD.bindsA (ps := ["_law_script"]) F_law fun _ _ _ _ _ _ us hl => match us, hl with | [_], _ => rfl
  have tb := tabB_ok (by have := cc; unfold cvs at this; simp only [Bool.and_eq_true] at this; exact this.1.1.2) X own
  have er : ErrsC K (adsOf P w K) := errsB_ok (by have := cc; unfold cvs at this; simp only [Bool.and_eq_true] at this; exact this.1.2) ⟨rfl, rfl, rfl, rfl, rfl, rfl⟩
  refine ⟨fd_law, fun s v => bl s [v] rfl, ⟨⟨⟨cls_Weather c, cls_Run c⟩, cls_ThresholdObserver c⟩, exmB_ok (by have := cc; unfold cvs at this; simp only [Bool.and_eq_true] at this; exact this.2)⟩, er, tb.2, fun base _ _ TB => ?_⟩
  have b : Blt mg := ⟨He.free_ok X G (c.fact 0 (f := .free "len") rfl), He.free_ok X G (c.fact 1 (f := .free "int") rfl), He.free_ok X G (c.fact 2 (f := .free "min") rfl), He.free_ok X G (c.fact 3 (f := .free "max") rfl), He.free_ok X G (c.fact 4 (f := .free "sum") rfl), He.free_ok X G (c.fact 5 (f := .free "range") rfl), He.free_ok X G (c.fact 6 (f := .free "enumerate") rfl), He.free_ok X G (c.fact 7 (f := .free "isinstance") rfl), He.free_ok X G (c.fact 8 (f := .free "list") rfl), He.free_ok X G (c.fact 9 (f := .free "tuple") rfl), He.free_ok X G (c.fact 10 (f := .free "sorted") rfl), He.free_ok X G (c.fact 11 (f := .free "abs") rfl), He.free_ok X G (c.fact 12 (f := .free "str") rfl), He.free_ok X G (c.fact 13 (f := .free "dict") rfl), He.free_ok X G (c.fact 14 (f := .free "bool") rfl), He.free_ok X G (c.fact 15 (f := .free "ValueError") rfl)⟩
  have k_MAX_DEGREES : ∃ u, mg "MAX_DEGREES" = some u ∧ RelV (.int 1000000000000) u := by
    obtain ⟨t, e⟩ := He.int_ok X G (c.fact 29 (f := .int "MAX_DEGREES" 1000000000000) rfl)
    exact ⟨_, e, t, rfl⟩
  have k_MAX_GAIN : ∃ u, mg "MAX_GAIN" = some u ∧ RelV (.int 200) u := by
    obtain ⟨t, e⟩ := He.int_ok X G (c.fact 30 (f := .int "MAX_GAIN" 200) rfl)
    exact ⟨_, e, t, rfl⟩
  have k_MAX_TICK : ∃ u, mg "MAX_TICK" = some u ∧ RelV (.int 1000000000000000000) u := by
    obtain ⟨t, e⟩ := He.int_ok X G (c.fact 31 (f := .int "MAX_TICK" 1000000000000000000) rfl)
    exact ⟨_, e, t, rfl⟩
  have a_Contradiction : ∃ u, mg "Contradiction" = some u ∧ RelV (.ref (adsOf P w K).cContradiction) u := ⟨_, He.glo_ok X G (c.fact 62 (f := .glo "Contradiction") rfl), rfl⟩
  have a_InvalidHeater : ∃ u, mg "InvalidHeater" = some u ∧ RelV (.ref (adsOf P w K).cInvalidHeater) u := ⟨_, He.glo_ok X G (c.fact 59 (f := .glo "InvalidHeater") rfl), rfl⟩
  have a_InvalidNumber : ∃ u, mg "InvalidNumber" = some u ∧ RelV (.ref (adsOf P w K).cInvalidNumber) u := ⟨_, He.glo_ok X G (c.fact 60 (f := .glo "InvalidNumber") rfl), rfl⟩
  have a_InvalidWeather : ∃ u, mg "InvalidWeather" = some u ∧ RelV (.ref (adsOf P w K).cInvalidWeather) u := ⟨_, He.glo_ok X G (c.fact 58 (f := .glo "InvalidWeather") rfl), rfl⟩
  have a_OtherWeather : ∃ u, mg "OtherWeather" = some u ∧ RelV (.ref (adsOf P w K).cOtherWeather) u := ⟨_, He.glo_ok X G (c.fact 61 (f := .glo "OtherWeather") rfl), rfl⟩
  have a_Weather : ∃ u, mg "Weather" = some u ∧ RelV (.ref (adsOf P w K).cWeather) u := ⟨_, He.glo_ok X G (c.fact 43 (f := .glo "Weather") rfl), rfl⟩
  have cv_Weather_MAX_CHANGE : CVC K (adsOf P w K).cWeather "MAX_CHANGE" (.int 100) := cvB_ok (K := K) (x := "Weather") (f := "MAX_CHANGE") (by have := cc; unfold cvs at this; simp only [Bool.and_eq_true] at this; exact this.1.1.1.1.1.1)
  have cv_Weather_MAX_TICKS : CVC K (adsOf P w K).cWeather "MAX_TICKS" (.int 24) := cvB_ok (K := K) (x := "Weather") (f := "MAX_TICKS") (by have := cc; unfold cvs at this; simp only [Bool.and_eq_true] at this; exact this.1.1.1.1.1.2)
  have xs_Contradiction : RzS K mg "Contradiction" (adsOf P w K).cContradiction := rzsB_ok (by have := cc; unfold cvs at this; simp only [Bool.and_eq_true] at this; exact this.1.1.1.1.2) (He.glo_ok X G (c.fact 62 (f := .glo "Contradiction") rfl))
  have xs_InvalidNumber : RzS K mg "InvalidNumber" (adsOf P w K).cInvalidNumber := rzsB_ok (by have := cc; unfold cvs at this; simp only [Bool.and_eq_true] at this; exact this.1.1.1.2) (He.glo_ok X G (c.fact 60 (f := .glo "InvalidNumber") rfl))
  have xf_InvalidWeather : XfI K (adsOf P w K).cInvalidWeather "index" := er.xfi
  have b_law_mix : Binds K fd_law_mix ["_law_script", "_law_seed"] [] := FunD.bindsN (ps := ["_law_script", "_law_seed"]) F_law_mix fun _ _ _ _ _ _ us hl => match us, hl with | [_, _], _ => rfl
  have c_law_mix :  CalR P w K mg base (L2N.CX P w) 1 "_law_mix" (sp_law_mix K (adsOf P w K)) := ⟨_, Wm.FnOk.R (ok_law_mix (A := adsOf P w K) F_law_mix noEXN b ) b_law_mix, He.glo_ok X G (c.fact 16 (f := .glo "_law_mix") rfl), F_law_mix.kp⟩
  have b_law_next : Binds K fd_law_next ["_law_h", "_law_limit"] [] := FunD.bindsN (ps := ["_law_h", "_law_limit"]) F_law_next fun _ _ _ _ _ _ us hl => match us, hl with | [_, _], _ => rfl
  have c_law_next :  CalR P w K mg base (L2N.CX P w) 1 "_law_next" (sp_law_next K (adsOf P w K)) := ⟨_, Wm.FnOk.R (ok_law_next (A := adsOf P w K) F_law_next noEXN b ) b_law_next, He.glo_ok X G (c.fact 17 (f := .glo "_law_next") rfl), F_law_next.kp⟩
  have b_law_changes : Binds K fd_law_changes ["_law_h", "_law_most"] [] := FunD.bindsN (ps := ["_law_h", "_law_most"]) F_law_changes fun _ _ _ _ _ _ us hl => match us, hl with | [_, _], _ => rfl
  have c_law_changes :  CalR P w K mg base (L2N.CX P w) 2 "_law_changes" (sp_law_changes K (adsOf P w K)) := ⟨_, Wm.FnOk.R (ok_law_changes (A := adsOf P w K) F_law_changes noEXN b c_law_next) b_law_changes, He.glo_ok X G (c.fact 18 (f := .glo "_law_changes") rfl), F_law_changes.kp⟩
  have b_law_setting : Binds K fd_law_setting ["_law_h"] [] := FunD.bindsN (ps := ["_law_h"]) F_law_setting fun _ _ _ _ _ _ us hl => match us, hl with | [_], _ => rfl
  have c_law_setting :  CalR P w K mg base (L2N.CX P w) 2 "_law_setting" (sp_law_setting K (adsOf P w K)) := ⟨_, Wm.FnOk.R (ok_law_setting (A := adsOf P w K) F_law_setting noEXN b c_law_next) b_law_setting, He.glo_ok X G (c.fact 19 (f := .glo "_law_setting") rfl), F_law_setting.kp⟩
  have b_validate_number : Binds K fd_validate_number ["number", "smallest", "largest"] [] := FunD.bindsN (ps := ["number", "smallest", "largest"]) F_validate_number fun _ _ _ _ _ _ us hl => match us, hl with | [_, _, _], _ => rfl
  have c_validate_number :  CalR P w K mg base (L2N.CX P w) 1 "validate_number" (sp_validate_number K (adsOf P w K)) := ⟨_, Wm.FnOk.R (ok_validate_number (A := adsOf P w K) F_validate_number noEXN b ) b_validate_number, He.glo_ok X G (c.fact 20 (f := .glo "validate_number") rfl), F_validate_number.kp⟩
  have c_validate_numberX :  CalR P w K mg base (L2N.CX P w) 1 "validate_number" (sp_validate_numberX K (adsOf P w K)) := ⟨_, Wm.FnOk.R (FnOk.or (ok_validate_number (A := adsOf P w K) F_validate_number noEXN b ) (ok_validate_numberR (A := adsOf P w K) F_validate_number noEXN b xs_InvalidNumber)) b_validate_number, He.glo_ok X G (c.fact 20 (f := .glo "validate_number") rfl), F_validate_number.kp⟩
  obtain ⟨mv_ThresholdObserver_kw, kb_ThresholdObserver_kw⟩ := FunD.kbinds0 (ps := ["self", "weather", "gain", "start", "on"]) F_ThresholdObserver_init 4 ["on"] [] (fun us mv ws => us ++ ws) (List.cons_ne_nil _ _) (fun q h => nomatch h) (fun r1 _ r3 => r1.append r3) (fun D doc pm an cdv ct us mv ws h1 h2 h3 => match us, mv, ws, h1, h2, h3 with | [_, _, _, _], [], [_], _, _, _ => rfl)
  have n_ThresholdObserver_kw :  MakKR P w K mg base (L2N.CX P w) 2 "ThresholdObserver" (adsOf P w K).cThresholdObserver 3 ["on"] (sp_ThresholdObserver_init K (adsOf P w K)) := ⟨_, _, _, _, ok_ThresholdObserver_init (A := adsOf P w K) F_ThresholdObserver_init noEXN b k_MAX_GAIN c_validate_number k_MAX_DEGREES, He.mkr_ok (c.fact 42 (f := .mkr "ThresholdObserver") rfl), He.glo_ok X G (c.fact 32 (f := .glo "ThresholdObserver") rfl), kb_ThresholdObserver_kw⟩
  have n_Weather :  MakR P w K mg base (L2N.CX P w) 1 "Weather" (adsOf P w K).cWeather (sp_Weather_init K (adsOf P w K)) := ⟨_, ok_Weather_init (A := adsOf P w K) F_Weather_init noEXN b a_Weather cv_Weather_MAX_TICKS cv_Weather_MAX_CHANGE cxUpN, He.mkr_ok (c.fact 46 (f := .mkr "Weather") rfl), He.glo_ok X G (c.fact 43 (f := .glo "Weather") rfl)⟩
  have b_law_weather : Binds K fd_law_weather ["_law_changes_here"] [] := FunD.bindsN (ps := ["_law_changes_here"]) F_law_weather fun _ _ _ _ _ _ us hl => match us, hl with | [_], _ => rfl
  have c_law_weather :  CalR P w K mg base (L2N.CX P w) 3 "_law_weather" (sp_law_weather K (adsOf P w K)) := ⟨_, Wm.FnOk.R (ok_law_weather (A := adsOf P w K) F_law_weather noEXN b n_Weather) b_law_weather, He.glo_ok X G (c.fact 21 (f := .glo "_law_weather") rfl), F_law_weather.kp⟩
  have b_law_told : Binds K fd_law_told ["_law_changes_here", "_law_setting_here", "_law_count"] [] := FunD.bindsN (ps := ["_law_changes_here", "_law_setting_here", "_law_count"]) F_law_told fun _ _ _ _ _ _ us hl => match us, hl with | [_, _, _], _ => rfl
  have c_law_told :  CalR P w K mg base (L2N.CX P w) 1 "_law_told" (sp_law_told K (adsOf P w K)) := ⟨_, Wm.FnOk.R (ok_law_told (A := adsOf P w K) F_law_told noEXN b ) b_law_told, He.glo_ok X G (c.fact 22 (f := .glo "_law_told") rfl), F_law_told.kp⟩
  have b_law_error : Binds K fd_law_error ["_law_call"] [] := FunD.bindsN (ps := ["_law_call"]) F_law_error fun _ _ _ _ _ _ us hl => match us, hl with | [_], _ => rfl
  have lm_law_error :  ErrD P w K mg base 5 "_law_error" errN "_law_call" (TTerr K (adsOf P w K).cWarmthError 1 errN (t_law_error_sx K (adsOf P w K)) tErrRet) := er_law_error (A := adsOf P w K) F_law_error (He.glo_ok X G (c.fact 23 (f := .glo "_law_error") rfl)) F_law_error.kp b_law_error b a_Contradiction a_InvalidHeater a_InvalidNumber a_InvalidWeather a_OtherWeather xf_InvalidWeather (He.glo_ok X G (c.fact 57 (f := .glo "WarmthError") rfl))
  have b_ThresholdObserver_low_range : Binds K fd_ThresholdObserver_low_range ["self"] [] := FunD.bindsN (ps := ["self"]) F_ThresholdObserver_low_range fun _ _ _ _ _ _ us hl => match us, hl with | [_], _ => rfl
  have p_ThresholdObserver_low_range :  PrpR P w K mg base (L2N.CX P w) 1 (adsOf P w K).cThresholdObserver "low_range" (sp_ThresholdObserver_low_range K (adsOf P w K)) := ⟨_, _, _, _, ok_ThresholdObserver_low_range (A := adsOf P w K) F_ThresholdObserver_low_range noEXN b , He.cls_ok (c.fact 33 (f := .cls "ThresholdObserver") rfl), P_ThresholdObserver_low_range, b_ThresholdObserver_low_range⟩
  have b_ThresholdObserver_high_range : Binds K fd_ThresholdObserver_high_range ["self"] [] := FunD.bindsN (ps := ["self"]) F_ThresholdObserver_high_range fun _ _ _ _ _ _ us hl => match us, hl with | [_], _ => rfl
  have p_ThresholdObserver_high_range :  PrpR P w K mg base (L2N.CX P w) 1 (adsOf P w K).cThresholdObserver "high_range" (sp_ThresholdObserver_high_range K (adsOf P w K)) := ⟨_, _, _, _, ok_ThresholdObserver_high_range (A := adsOf P w K) F_ThresholdObserver_high_range noEXN b , He.cls_ok (c.fact 33 (f := .cls "ThresholdObserver") rfl), P_ThresholdObserver_high_range, b_ThresholdObserver_high_range⟩
  have b_ThresholdObserver_seen_ticks : Binds K fd_ThresholdObserver_seen_ticks ["self"] [] := FunD.bindsN (ps := ["self"]) F_ThresholdObserver_seen_ticks fun _ _ _ _ _ _ us hl => match us, hl with | [_], _ => rfl
  have p_ThresholdObserver_seen_ticks :  PrpR P w K mg base (L2N.CX P w) 1 (adsOf P w K).cThresholdObserver "seen_ticks" (sp_ThresholdObserver_seen_ticks K (adsOf P w K)) := ⟨_, _, _, _, ok_ThresholdObserver_seen_ticks (A := adsOf P w K) F_ThresholdObserver_seen_ticks noEXN b , He.cls_ok (c.fact 33 (f := .cls "ThresholdObserver") rfl), P_ThresholdObserver_seen_ticks, b_ThresholdObserver_seen_ticks⟩
  have b_law_alike : Binds K fd_law_alike ["_law_found", "_law_due"] [] := FunD.bindsN (ps := ["_law_found", "_law_due"]) F_law_alike fun _ _ _ _ _ _ us hl => match us, hl with | [_, _], _ => rfl
  have c_law_alike :  CalR P w K mg base (L2N.CX P w) 5 "_law_alike" (sp_law_alike K (adsOf P w K)) := ⟨_, Wm.FnOk.R (ok_law_alikeN (A := adsOf P w K) F_law_alike noEXN b  b_law_alike (He.glo_ok X G (c.fact 24 (f := .glo "_law_alike") rfl)) F_law_alike.kp 4) b_law_alike, He.glo_ok X G (c.fact 24 (f := .glo "_law_alike") rfl), F_law_alike.kp⟩
  have b_law_ranges : Binds K fd_law_ranges ["_law_degrees", "_law_states", "_law_seen"] [] := FunD.bindsN (ps := ["_law_degrees", "_law_states", "_law_seen"]) F_law_ranges fun _ _ _ _ _ _ us hl => match us, hl with | [_, _, _], _ => rfl
  have c_law_ranges :  CalR P w K mg base (L2N.CX P w) 1 "_law_ranges" (sp_law_ranges K (adsOf P w K)) := ⟨_, Wm.FnOk.R (ok_law_ranges (A := adsOf P w K) F_law_ranges noEXN b ) b_law_ranges, He.glo_ok X G (c.fact 25 (f := .glo "_law_ranges") rfl), F_law_ranges.kp⟩
  have b_law_agrees : Binds K fd_law_agrees ["_law_changes_here", "_law_setting_here", "_law_told_here", "_law_last"] [] := FunD.bindsN (ps := ["_law_changes_here", "_law_setting_here", "_law_told_here", "_law_last"]) F_law_agrees fun _ _ _ _ _ _ us hl => match us, hl with | [_, _, _, _], _ => rfl
  have c_law_agrees :  CalR P w K mg base (L2N.CX P w) 2 "_law_agrees" (sp_law_agrees K (adsOf P w K)) := ⟨_, Wm.FnOk.R (ok_law_agrees (A := adsOf P w K) F_law_agrees noEXN b c_law_told) b_law_agrees, He.glo_ok X G (c.fact 26 (f := .glo "_law_agrees") rfl), F_law_agrees.kp⟩
  have b_law_ends_right : Binds K fd_law_ends_right ["_law_changes_here", "_law_setting_here", "_law_told_here", "_law_last", "_law_lows", "_law_highs"] [] := FunD.bindsN (ps := ["_law_changes_here", "_law_setting_here", "_law_told_here", "_law_last", "_law_lows", "_law_highs"]) F_law_ends_right fun _ _ _ _ _ _ us hl => match us, hl with | [_, _, _, _, _, _], _ => rfl
  have c_law_ends_right :  CalR P w K mg base (L2N.CX P w) 3 "_law_ends_right" (sp_law_ends_right K (adsOf P w K)) := ⟨_, Wm.FnOk.R (ok_law_ends_right (A := adsOf P w K) F_law_ends_right noEXN b c_law_agrees) b_law_ends_right, He.glo_ok X G (c.fact 27 (f := .glo "_law_ends_right") rfl), F_law_ends_right.kp⟩
  have b_Weather_changes : Binds K fd_Weather_changes ["self"] [] := FunD.bindsN (ps := ["self"]) F_Weather_changes fun _ _ _ _ _ _ us hl => match us, hl with | [_], _ => rfl
  have p_Weather_changes :  PrpR P w K mg base (L2N.CX P w) 1 (adsOf P w K).cWeather "changes" (sp_Weather_changes K (adsOf P w K)) := ⟨_, _, _, _, ok_Weather_changes (A := adsOf P w K) F_Weather_changes noEXN b , He.cls_ok (c.fact 44 (f := .cls "Weather") rfl), P_Weather_changes, b_Weather_changes⟩
  have b_Run_init : Binds K fd_Run_init ["self", "begin", "degrees", "is_heating", "steps"] [] := FunD.bindsN (ps := ["self", "begin", "degrees", "is_heating", "steps"]) F_Run_init fun _ _ _ _ _ _ us hl => match us, hl with | [_, _, _, _, _], _ => rfl
  have n_Run :  MakR P w K mg base (L2N.CX P w) 1 "Run" (adsOf P w K).cRun (sp_Run_init K (adsOf P w K)) := ⟨_, Wm.FnOk.R (ok_Run_init (A := adsOf P w K) F_Run_init noEXN b ) b_Run_init, He.mkr_ok (c.fact 56 (f := .mkr "Run") rfl), He.glo_ok X G (c.fact 47 (f := .glo "Run") rfl)⟩
  have b_ThresholdObserver_run_on : Binds K fd_ThresholdObserver_run_on ["self", "tick", "degrees", "is_heating"] [] := FunD.bindsN (ps := ["self", "tick", "degrees", "is_heating"]) F_ThresholdObserver_run_on fun _ _ _ _ _ _ us hl => match us, hl with | [_, _, _, _], _ => rfl
  have m_ThresholdObserver_run_on :  MetR P w K mg base (L2N.CX P w) 3 (adsOf P w K).cThresholdObserver "run_on" (sp_ThresholdObserver_run_on K (adsOf P w K)) := ⟨_, Wm.FnOk.R (ok_ThresholdObserver_run_on (A := adsOf P w K) F_ThresholdObserver_run_on noEXN b p_Weather_changes n_Run) b_ThresholdObserver_run_on, He.cls_ok (c.fact 33 (f := .cls "ThresholdObserver") rfl), He.meth_ok (c.fact 63 (f := .meth "ThresholdObserver" "run_on") rfl)⟩
  have b_ThresholdObserver_keepX : Binds K fd_ThresholdObserver_keepX ["self", "ranges"] [] := FunD.bindsN (ps := ["self", "ranges"]) F_ThresholdObserver_keepX fun _ _ _ _ _ _ us hl => match us, hl with | [_, _], _ => rfl
  have m_ThresholdObserver_keep :  MetR P w K mg base (L2N.CX P w) 1 (adsOf P w K).cThresholdObserver "keep" (sp_ThresholdObserver_keepX K (adsOf P w K)) := ⟨_, Wm.FnOk.R (ok_ThresholdObserver_keepX (A := adsOf P w K) F_ThresholdObserver_keepX noEXN b xs_Contradiction) b_ThresholdObserver_keepX, He.cls_ok (c.fact 33 (f := .cls "ThresholdObserver") rfl), He.meth_ok (c.fact 64 (f := .meth "ThresholdObserver" "keep") rfl)⟩
  have b_ThresholdObserver_narrowed : Binds K fd_ThresholdObserver_narrowed ["self", "bound", "is_more"] [] := FunD.bindsN (ps := ["self", "bound", "is_more"]) F_ThresholdObserver_narrowed fun _ _ _ _ _ _ us hl => match us, hl with | [_, _, _], _ => rfl
  have m_ThresholdObserver_narrowed :  MetR P w K mg base (L2N.CX P w) 1 (adsOf P w K).cThresholdObserver "narrowed" (sp_ThresholdObserver_narrowed K (adsOf P w K)) := ⟨_, Wm.FnOk.R (ok_ThresholdObserver_narrowed (A := adsOf P w K) F_ThresholdObserver_narrowed noEXN b ) b_ThresholdObserver_narrowed, He.cls_ok (c.fact 33 (f := .cls "ThresholdObserver") rfl), He.meth_ok (c.fact 65 (f := .meth "ThresholdObserver" "narrowed") rfl)⟩
  have b_Run_at : Binds K fd_Run_at ["self", "tick"] [] := FunD.bindsN (ps := ["self", "tick"]) F_Run_at fun _ _ _ _ _ _ us hl => match us, hl with | [_, _], _ => rfl
  have m_Run_at :  MetR P w K mg base (L2N.CX P w) 1 (adsOf P w K).cRun "at" (sp_Run_at K (adsOf P w K)) := ⟨_, Wm.FnOk.R (ok_Run_at (A := adsOf P w K) F_Run_at noEXN b ) b_Run_at, He.cls_ok (c.fact 48 (f := .cls "Run") rfl), He.meth_ok (c.fact 66 (f := .meth "Run" "at") rfl)⟩
  have b_Run_extreme : Binds K fd_Run_extreme ["self", "last", "sign"] [] := FunD.bindsN (ps := ["self", "last", "sign"]) F_Run_extreme fun _ _ _ _ _ _ us hl => match us, hl with | [_, _, _], _ => rfl
  have m_Run_extreme :  MetR P w K mg base (L2N.CX P w) 2 (adsOf P w K).cRun "extreme" (sp_Run_extreme K (adsOf P w K)) := ⟨_, Wm.FnOk.R (ok_Run_extreme (A := adsOf P w K) F_Run_extreme noEXN b m_Run_at) b_Run_extreme, He.cls_ok (c.fact 48 (f := .cls "Run") rfl), He.meth_ok (c.fact 67 (f := .meth "Run" "extreme") rfl)⟩
  have b_ThresholdObserver_rest_untilX : Binds K fd_ThresholdObserver_rest_untilX ["self", "run", "last"] [] := FunD.bindsN (ps := ["self", "run", "last"]) F_ThresholdObserver_rest_untilX fun _ _ _ _ _ _ us hl => match us, hl with | [_, _, _], _ => rfl
  have m_ThresholdObserver_rest_until :  MetR P w K mg base (L2N.CX P w) 3 (adsOf P w K).cThresholdObserver "rest_until" (sp_ThresholdObserver_rest_untilX K (adsOf P w K)) := ⟨_, Wm.FnOk.R (ok_ThresholdObserver_rest_untilX (A := adsOf P w K) F_ThresholdObserver_rest_untilX noEXN b m_ThresholdObserver_keep m_ThresholdObserver_narrowed m_Run_extreme) b_ThresholdObserver_rest_untilX, He.cls_ok (c.fact 33 (f := .cls "ThresholdObserver") rfl), He.meth_ok (c.fact 68 (f := .meth "ThresholdObserver" "rest_until") rfl)⟩
  have b_ThresholdObserver_sizes : Binds K fd_ThresholdObserver_sizes ["self"] [] := FunD.bindsN (ps := ["self"]) F_ThresholdObserver_sizes fun _ _ _ _ _ _ us hl => match us, hl with | [_], _ => rfl
  have m_ThresholdObserver_sizes :  MetR P w K mg base (L2N.CX P w) 1 (adsOf P w K).cThresholdObserver "sizes" (sp_ThresholdObserver_sizes K (adsOf P w K)) := ⟨_, Wm.FnOk.R (ok_ThresholdObserver_sizes (A := adsOf P w K) F_ThresholdObserver_sizes noEXN b ) b_ThresholdObserver_sizes, He.cls_ok (c.fact 33 (f := .cls "ThresholdObserver") rfl), He.meth_ok (c.fact 69 (f := .meth "ThresholdObserver" "sizes") rfl)⟩
  have b_ThresholdObserver_see_switchingX : Binds K fd_ThresholdObserver_see_switchingX ["self", "tick"] [] := FunD.bindsN (ps := ["self", "tick"]) F_ThresholdObserver_see_switchingX fun _ _ _ _ _ _ us hl => match us, hl with | [_, _], _ => rfl
  have m_ThresholdObserver_see_switching :  MetR P w K mg base (L2N.CX P w) 4 (adsOf P w K).cThresholdObserver "see_switching" (sp_ThresholdObserver_see_switchingX K (adsOf P w K)) := ⟨_, Wm.FnOk.R (ok_ThresholdObserver_see_switchingX (A := adsOf P w K) F_ThresholdObserver_see_switchingX noEXN b c_validate_numberX k_MAX_TICK m_ThresholdObserver_run_on xs_Contradiction m_ThresholdObserver_rest_until m_Run_at m_ThresholdObserver_keep m_ThresholdObserver_narrowed m_ThresholdObserver_sizes) b_ThresholdObserver_see_switchingX, He.cls_ok (c.fact 33 (f := .cls "ThresholdObserver") rfl), He.meth_ok (c.fact 70 (f := .meth "ThresholdObserver" "see_switching") rfl)⟩
  have b_ThresholdObserver_records : Binds K fd_ThresholdObserver_records ["self"] [] := FunD.bindsN (ps := ["self"]) F_ThresholdObserver_records fun _ _ _ _ _ _ us hl => match us, hl with | [_], _ => rfl
  have p_ThresholdObserver_records :  PrpR P w K mg base (L2N.CX P w) 1 (adsOf P w K).cThresholdObserver "records" (sp_ThresholdObserver_records K (adsOf P w K)) := ⟨_, _, _, _, ok_ThresholdObserver_records (A := adsOf P w K) F_ThresholdObserver_records noEXN b , He.cls_ok (c.fact 33 (f := .cls "ThresholdObserver") rfl), P_ThresholdObserver_records, b_ThresholdObserver_records⟩
  have b_ThresholdObserver_see_restX : Binds K fd_ThresholdObserver_see_restX ["self", "tick"] [] := FunD.bindsN (ps := ["self", "tick"]) F_ThresholdObserver_see_restX fun _ _ _ _ _ _ us hl => match us, hl with | [_, _], _ => rfl
  have m_ThresholdObserver_see_rest :  MetR P w K mg base (L2N.CX P w) 4 (adsOf P w K).cThresholdObserver "see_rest" (sp_ThresholdObserver_see_restX K (adsOf P w K)) := ⟨_, Wm.FnOk.R (ok_ThresholdObserver_see_restX (A := adsOf P w K) F_ThresholdObserver_see_restX noEXN b c_validate_numberX k_MAX_TICK m_ThresholdObserver_run_on m_ThresholdObserver_rest_until m_Run_at m_ThresholdObserver_sizes) b_ThresholdObserver_see_restX, He.cls_ok (c.fact 33 (f := .cls "ThresholdObserver") rfl), He.meth_ok (c.fact 71 (f := .meth "ThresholdObserver" "see_rest") rfl)⟩
  exact ok_law (A := adsOf P w K) F_law noEXN b c_law_mix c_law_changes c_law_setting n_ThresholdObserver_kw c_law_weather c_law_told c_law_next lm_law_error p_ThresholdObserver_low_range p_ThresholdObserver_high_range p_ThresholdObserver_seen_ticks c_law_alike c_law_ranges c_law_ends_right m_ThresholdObserver_see_switching p_ThresholdObserver_records m_ThresholdObserver_see_rest TB tb.1
theorem factsL {l : PySem.W.OpenLaw} {w : World} {K : PySem.W.Frag} {h : Heap} {mg : Str → Option Value} {f : Addr} (X : K.In h) (G : h.Ns mainGlobals mg) (hfa : mg ("law" : Str) = some (.ref f)) (c : He.SaysD fa fn K) (cp : SaysP prs K) (cc : cvs K = true) (own : LamX.OwnTab K f h) (cmc : SaysC cms K) : LamX.LawAtS l w K (L2N.CX l.prog w) 8 63 "_law_script" mg f h := by
  obtain ⟨fd, hb, T, er, ⟨h1, h2, h3⟩, hF⟩ := facts (P := l.prog) (w := w) X G hfa c cp cc own cmc
  refine ⟨fd, [(cLawAd K "law", tLawAd K "law")], _, ?_, ?_, ?_, hb, ?_, fun base k1 k2 k3 => hF base k1 k2 (k3 (cLawAd K "law", tLawAd K "law") (List.mem_singleton.mpr rfl))⟩
  · intro p hp; obtain rfl := List.mem_singleton.mp hp; exact h1
  · intro p hp; obtain rfl := List.mem_singleton.mp hp; exact h2
  · intro p hp; obtain rfl := List.mem_singleton.mp hp; exact h3
  · intro H a ns hl _ hT hS
    exact ⟨a, ns, rfl, T, er, hT (cLawAd K "law", tLawAd K "law") (List.mem_singleton.mpr rfl), hS, hl, fun _ => rfl⟩
end Wm
end

section
open PySem PySem.W PyProof.Rows
set_option maxRecDepth 100000 in
set_option maxHeartbeats 0 in
theorem PySem.Challenge.cw_warmswitch_k10_whole_hidden_thresholds_holds : PySem.Challenge.rw_warmswitch_k10_whole_hidden_thresholds.Holds := by
  w_on; o_law; k_head; (case hw => w_witness2)
  k_fill
  refine LamX.walk_ofOwn (l := PySem.Challenge.rw_warmswitch_k10_whole_hidden_thresholds) (n := 63) (k := 8) (x := "_law_script") (CX := fun w => L2N.CX (PySem.Challenge.rw_warmswitch_k10_whole_hidden_thresholds).prog w) rfl (by decide) rfl ⟨rfl, by decide, by decide⟩ (by kernel_rfl) (fun w h Y => PySem.W.km_in_of Y) ?F (fun w => Wm.endEXN)
  intro w mg fa h Y KX G hmg own
  exact Wm.factsL (l := PySem.Challenge.rw_warmswitch_k10_whole_hidden_thresholds) KX G hmg (show _ = _ by kernel_rfl) (And.intro (by kernel_rfl) (by kernel_rfl)) (by kernel_rfl) own (And.intro (by kernel_rfl) (by kernel_rfl))
end

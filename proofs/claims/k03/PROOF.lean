import PyProof.Rows.All
import Wide.All
import OpenK.AllK
import Wide.FinOn
import HandS.ForMost
import HandS.ForExc
import HandS.Evl
import HandS.Steps
import HandS.Star
import HandS.Property
import HandS.ClsMeth
import HandS.Defaults
import HandS.MakeKw
import HandS.MakeKwOnly
import HandS.Wide
import HandS.Flow
import HandS.IsInst
import KE.KDictCopyH
import HandS.Style
import HandS.TupAny
import HandS.TupMul
import HandS.NoneIn
import HandS.TupSets
import HandS.RevTup
import HandS.More
import HandS.Comp
import HandS.GenBody
import HandS.GenYield
import HandS.GenCall
import HandS.GenList
import KE.GoesEnum
import KE.GoesMore
import HandS.Deep
import HandS.HeadHook1
import HandS.HeadHook2
import HandS.HeadHook3
import HandS.HeadEnd
import HandS.Codes
import HandS.ExcInit
import HandS.ExcField
import HandS.ExcIs
import HandS.ExcOwn
import HandS.TryOnly
import HandS.TryMany
import HandS.Lambda
import KE.KExcIs
import HandS.SetFor
import PyProof.WalksMore
import PyProof.Rows.SumAny
import HandS.List
import PySem.Challenge.RW_warmswitch_k03_whole_rooms_tick_by_tick
set_option Elab.async false
set_option linter.all false
set_option maxRecDepth 100000
set_option maxHeartbeats 4000000
section
/-! ## 1. The ghost heap: G holds what never changes again, mu what may still change, H is the heap as it is -/
namespace Wm
open PySem PySem.Spec PyProof.Rows L2 StX
abbrev Ex := Evl.Ex
abbrev Mu := List (Addr × HO)
structure Hold (G : Hp) (mu : Mu) (H : Hp) : Prop where
  ex : Ex G H
  at_ : ∀ q ∈ mu, H q.1 = some q.2
  out : ∀ q ∈ mu, G q.1 = none
  nd : (mu.map (·.1)).Nodup
section
variable {G G' G1 G2 H H' H1 : Hp} {mu : Mu} {a p q : Addr} {o o' u : HO} {i : Nat}
theorem Ex.refl (H : Hp) : Ex H H := Evl.Ex.refl H
theorem Ex.trans (a : Ex G G1) (b : Ex G1 G2) : Ex G G2 := Evl.Ex.trans a b
theorem Ex.new (h : H p = none) : Ex H (upd H p o) := Evl.Ex.new h
theorem Hold.rd (h : Hold G mu H) (e : G a = some o) : H a = some o := h.ex a o e
theorem Hold.get (h : Hold G mu H) (e : mu[i]? = some (a, o)) : H a = some o := h.at_ _ (List.mem_of_getElem? e)
theorem Hold.g_none (h : Hold G mu H) (e : H p = none) : G p = none := Evl.fresh_back h.ex e
theorem Hold.mu_ne (h : Hold G mu H) (e : H p = none) : p ∉ mu.map (·.1) := fun z => by
  obtain ⟨q, hq, rfl⟩ := List.mem_map.mp z
  have := h.at_ q hq
  rw [e] at this
  cases this
theorem Hold.grow (h : Hold G mu H) (e : Ex H H') : Hold G mu H' := ⟨h.ex.trans e, fun q hq => e _ _ (h.at_ q hq), h.out, h.nd⟩
theorem Hold.newg (h : Hold G mu H) (e : H p = none) : Hold G mu (upd H p o) := h.grow (Ex.new e)
theorem Hold.new (h : Hold G mu H) (e : H p = none) : Hold (upd G p o) mu (upd H p o) := by
  have ne := h.mu_ne e
  refine ⟨fun b u hb => ?_, fun q hq => ?_, fun q hq => ?_, h.nd⟩
  · by_cases hp : b = p
    · subst hp; rw [upd_same] at hb ⊢; exact hb
    · rw [upd_ne hp] at hb ⊢; exact h.ex _ _ hb
  · have : q.1 ≠ p := fun z => ne (z ▸ List.mem_map_of_mem hq)
    rw [upd_ne this]; exact h.at_ q hq
  · have : q.1 ≠ p := fun z => ne (z ▸ List.mem_map_of_mem hq)
    rw [upd_ne this]; exact h.out q hq
theorem Hold.newm (h : Hold G mu H) (e : H p = none) : Hold G ((p, o) :: mu) (upd H p o) := by
  have ne := h.mu_ne e
  refine ⟨h.ex.trans (Ex.new e), fun q hq => ?_, fun q hq => ?_, ?_⟩
  · rcases List.mem_cons.mp hq with rfl | hq
    · exact upd_same
    · have : q.1 ≠ p := fun z => ne (z ▸ List.mem_map_of_mem hq)
      rw [upd_ne this]; exact h.at_ q hq
  · rcases List.mem_cons.mp hq with rfl | hq
    · exact h.g_none e
    · exact h.out q hq
  · rw [List.map_cons, List.nodup_cons]; exact ⟨ne, h.nd⟩
theorem nodup_fst {mu : Mu} (nd : (mu.map (·.1)).Nodup) {i j : Nat} {x y : Addr × HO} (hi : mu[i]? = some x) (hj : mu[j]? = some y) (e : x.1 = y.1) : i = j := by
  have h1 : (mu.map (·.1))[i]? = some x.1 := by rw [List.getElem?_map, hi] <;> rfl
  have h2 : (mu.map (·.1))[j]? = some x.1 := by rw [List.getElem?_map, hj, e] <;> rfl
  obtain ⟨l1, e1⟩ := List.getElem?_eq_some_iff.mp h1
  obtain ⟨l2, e2⟩ := List.getElem?_eq_some_iff.mp h2
  exact (List.getElem_inj nd).mp (e1.trans e2.symm)
theorem Hold.set (h : Hold G mu H) (e : mu[i]? = some (a, o)) : Hold G (mu.set i (a, o')) (upd H a o') := by
  have ga : G a = none := h.out _ (List.mem_of_getElem? e)
  have key : ∀ q ∈ mu.set i (a, o'), q = (a, o') ∨ (q ∈ mu ∧ q.1 ≠ a) := fun q hq => by
    obtain ⟨j, hj⟩ := List.mem_iff_getElem?.mp hq
    by_cases hij : i = j
    · subst hij
      rw [List.getElem?_set_self (List.getElem?_eq_some_iff.mp e).1] at hj
      cases hj; exact .inl rfl
    · rw [List.getElem?_set_ne hij] at hj
      exact .inr ⟨List.mem_of_getElem? hj, fun z => hij (nodup_fst h.nd e hj z.symm)⟩
  refine ⟨h.ex.mut ga, fun q hq => ?_, fun q hq => ?_, ?_⟩
  · rcases key q hq with rfl | ⟨hm, ne⟩
    · exact upd_same
    · rw [upd_ne ne]; exact h.at_ q hm
  · rcases key q hq with rfl | ⟨hm, ne⟩
    · exact ga
    · exact h.out q hm
  · have : (mu.set i (a, o')).map (·.1) = mu.map (·.1) := by
      rw [List.map_set]
      apply List.ext_getElem?
      intro j
      by_cases hij : i = j
      · subst hij
        rw [List.getElem?_set_self (by rw [List.length_map]; exact (List.getElem?_eq_some_iff.mp e).1), List.getElem?_map, e] <;> rfl
      · rw [List.getElem?_set_ne hij]
    rw [this]; exact h.nd
theorem Hold.drop {q : Addr × HO} (h : Hold G (q :: mu) H) : Hold G mu H := ⟨h.ex, fun x hx => h.at_ x (List.mem_cons_of_mem _ hx), fun x hx => h.out x (List.mem_cons_of_mem _ hx), (List.nodup_cons.mp (by simpa using h.nd)).2⟩
theorem Hold.frz (h : Hold G ((p, o) :: mu) H) : Hold (upd G p o) mu H := by
  have nd : p ∉ mu.map (·.1) := (List.nodup_cons.mp (by simpa using h.nd)).1
  refine ⟨fun b u hb => ?_, fun q hq => h.at_ q (List.mem_cons_of_mem _ hq), fun q hq => ?_, h.drop.nd⟩
  · by_cases hp : b = p
    · subst hp; rw [upd_same] at hb; cases hb; exact h.at_ _ List.mem_cons_self
    · rw [upd_ne hp] at hb; exact h.ex _ _ hb
  · have : q.1 ≠ p := fun z => nd (z ▸ List.mem_map_of_mem hq)
    rw [upd_ne this]; exact h.out q (List.mem_cons_of_mem _ hq)
theorem Hold.frz_ex (h : Hold G ((p, o) :: mu) H) : Ex G (upd G p o) := Ex.new (h.out _ List.mem_cons_self)
theorem Hold.swap {x y : Addr × HO} (h : Hold G (x :: y :: mu) H) : Hold G (y :: x :: mu) H := by
  refine ⟨h.ex, fun q hq => h.at_ q ?_, fun q hq => h.out q ?_, ?_⟩
  · rcases List.mem_cons.mp hq with rfl | hq
    · exact List.mem_cons_of_mem _ List.mem_cons_self
    · rcases List.mem_cons.mp hq with rfl | hq
      · exact List.mem_cons_self
      · exact List.mem_cons_of_mem _ (List.mem_cons_of_mem _ hq)
  · rcases List.mem_cons.mp hq with rfl | hq
    · exact List.mem_cons_of_mem _ List.mem_cons_self
    · rcases List.mem_cons.mp hq with rfl | hq
      · exact List.mem_cons_self
      · exact List.mem_cons_of_mem _ (List.mem_cons_of_mem _ hq)
  · have nd := h.nd
    simp only [List.map_cons, List.nodup_cons, List.mem_cons, not_or] at nd ⊢
    exact ⟨⟨fun z => nd.1.1 z.symm, nd.2.1⟩, nd.1.2, nd.2.2⟩
theorem _root_.L2.SqT.up {K : PySem.W.Frag} {xs : List V} (e : Ex G G') (h : SqT K G a xs) : SqT K G' a xs := Evl.ex_t e h
theorem _root_.L2.SqL.up {K : PySem.W.Frag} {xs : List V} (e : Ex G G') (h : SqL K G a xs) : SqL K G' a xs := Evl.ex_l e h
theorem Hold.tup {K : PySem.W.Frag} {xs : List V} (h : Hold G mu H) (t : SqT K G a xs) : SqT K H a xs := SqT.up h.ex t
theorem Hold.lst {K : PySem.W.Frag} {xs : List V} (h : Hold G mu H) (t : SqL K G a xs) : SqL K H a xs := SqL.up h.ex t
theorem SqT.of_ {K : PySem.W.Frag} {xs : List V} (e : G a = some (.tup xs)) : SqT K G a xs := Evl.st_of e
theorem SqL.of_ {K : PySem.W.Frag} {xs : List V} (e : G a = some (.lst xs)) : SqL K G a xs := Evl.sq_of e
theorem up_at (e : Ex G G') (h : G a = some o) : G' a = some o := e a o h
end

/-! ## 2. Rules for readings, one step each -/
section
variable {K : PySem.W.Frag} {σ : L2.St} {H : Hp} {Q : VK} {QT : Bool → Hp → Prop} {QA : List V → Hp → Prop} {D : Ends} {i : Nat} {v : V} {ta tb tc te : TE} {tt tu : TT} {tr : TA} {t u z : TS} {r r' : R2}
theorem r_var (h : σ[i]? = some (some v)) (k : Q v H) : tVar i σ H Q := ⟨v, h, k⟩
theorem r_c (k : Q v H) : tC v σ H Q := k
theorem r_op (k : ta σ H fun x H1 => tb σ H1 fun y H2 => r x y H2 Q) : tOp r ta tb σ H Q := k
theorem r_un {ru : V → Hp → VK → Prop} (k : ta σ H fun x H1 => ru x H1 Q) : tUn ru ta σ H Q := k
theorem r_I0 {g : Int → Int → V} {a b : Int} (k : Q (g a b) H) : rI0 g (.int a) (.int b) H Q := ⟨a, b, rfl, rfl, k⟩
theorem r_I {C : Int → Int → Prop} {g : Int → Int → V} {a b : Int} (c : C a b) (k : Q (g a b) H) : rI C g (.int a) (.int b) H Q := ⟨a, b, rfl, rfl, c, k⟩
theorem r_U {g : Int → V} {a : Int} (k : Q (g a) H) : rU g (.int a) H Q := ⟨a, rfl, k⟩
theorem r_nil (k : QA [] H) : tNil σ H QA := k
theorem r_cons (k : te σ H fun x H1 => tr σ H1 fun xs H2 => QA (x :: xs) H2) : tCons te tr σ H QA := k
theorem r_test (k : te σ H fun x H1 => ∃ b, x = .bl b ∧ QT b H1) : tTest te σ H QT := k
theorem r_B (k : te σ H fun x H1 => ∃ b, x = .bl b ∧ QT b H1) : tB te σ H QT := k
theorem r_bl {P : Bool → Prop} {b : Bool} (k : P b) : ∃ c, V.bl b = .bl c ∧ P c := ⟨b, rfl, k⟩
theorem r_eq {x y : V} (h : scal x y = true) (k : Q (.bl (decide (x = y))) H) : rEq x y H Q := ⟨h, k⟩
theorem r_ne {x y : V} (h : scal x y = true) (k : Q (.bl (!decide (x = y))) H) : rNe x y H Q := ⟨h, k⟩
theorem r_eqI {a b : Int} (k : Q (.bl (decide (a = b))) H) : rEq (.int a) (.int b) H Q := ⟨rfl, by rw [show decide (V.int a = V.int b) = decide (a = b) by simp]; exact k⟩
theorem r_neI {a b : Int} (k : Q (.bl (!decide (a = b))) H) : rNe (.int a) (.int b) H Q := ⟨rfl, by rw [show decide (V.int a = V.int b) = decide (a = b) by simp]; exact k⟩
theorem r_eqB {a b : Bool} (k : Q (.bl (a == b)) H) : rEq (.bl a) (.bl b) H Q := ⟨rfl, by rw [dec_bl]; exact k⟩
theorem r_neB {a b : Bool} (k : Q (.bl (a != b)) H) : rNe (.bl a) (.bl b) H Q := ⟨rfl, by rw [dec_bl]; exact k⟩
theorem r_chain (k : ta σ H fun x H1 => tb σ H1 fun y H2 => r x y H2 fun z H3 => ∃ k, z = .bl k ∧ (if k = true then tc σ H3 fun w' H4 => r' y w' H4 Q else Q (.bl false) H3)) : tChain r r' ta tb tc σ H Q := k
theorem r_and (k : tt σ H fun c H1 => if c = true then tu σ H1 QT else QT false H1) : tAnd tt tu σ H QT := k
theorem r_or (k : tt σ H fun c H1 => if c = true then QT true H1 else tu σ H1 QT) : tOr tt tu σ H QT := k
theorem r_not (k : tt σ H fun c H1 => QT (!c) H1) : tNot tt σ H QT := k
theorem r_andV (k : ta σ H fun x H1 => ∃ c, x = .bl c ∧ if c = true then tb σ H1 Q else Q (.bl false) H1) : tAndV ta tb σ H Q := k
theorem r_orV (k : ta σ H fun x H1 => ∃ c, x = .bl c ∧ if c = true then Q (.bl true) H1 else tb σ H1 Q) : tOrV ta tb σ H Q := k
theorem r_notV (k : ta σ H fun x H1 => ∃ c, x = .bl c ∧ Q (.bl (!c)) H1) : tNotV ta σ H Q := k
theorem r_if (k : tt σ H fun c H1 => if c = true then ta σ H1 Q else tb σ H1 Q) : tIf tt ta tb σ H Q := k
theorem r_iteT {A B : Prop} (k : A) : if true = true then A else B := by rw [if_pos rfl]; exact k
theorem r_iteF {A B : Prop} (k : B) : if false = true then A else B := by rw [if_neg Bool.false_ne_true]; exact k
theorem r_ite {A B : Prop} {b : Bool} (h1 : b = true → A) (h2 : b = false → B) : if b = true then A else B := by
  cases b
  · exact r_iteF (h2 rfl)
  · exact r_iteT (h1 rfl)
/-- statements -/
theorem r_seq (k : t { D with nx := u D } σ H) : tSeq t u D σ H := k
theorem r_asg {g : TG} (k : te σ H fun x H1 => g x σ H1 D.nx) : tAsg te g D σ H := k
theorem r_gname {R : L2.St → Hp → Prop} (k : R (σ.set i (some v)) H) : gName i v σ H R := k
theorem r_ret (k : te σ H D.rt) : tRet te D σ H := k
theorem r_retN (k : D.rt .non H) : tRetN D σ H := k
theorem r_next (k : D.nx σ H) : tNext D σ H := k
theorem r_drop (k : te σ H fun _ H1 => D.nx σ H1) : tDrop te D σ H := k
theorem r_ifS (k : tt σ H fun b H1 => if b = true then t D σ H1 else u D σ H1) : tIfS tt t u D σ H := k
theorem r_aug {x : V} {ti : TIp} (h : σ[i]? = some (some x)) (k : te σ H fun y H1 => ti x y H1 fun z H2 => D.nx (σ.set i (some z)) H2) : tAug i te ti D σ H := ⟨x, h, k⟩
theorem r_ipI {f : Int → Int → Int} {a b : Int} (k : Q (.int (f a b)) H) : ipI f (.int a) (.int b) H Q := ⟨a, b, rfl, rfl, k⟩
theorem r_par {j : Nat} {x y : V} (k : tr σ H fun vs H1 => ∃ v w, vs = [v, w] ∧ D.nx ((σ.set i (some v)).set j (some w)) H1) : tPar i j tr D σ H := k
theorem r_two {P : V → V → Prop} {x y : V} (k : P x y) : ∃ v w, [x, y] = [v, w] ∧ P v w := ⟨x, y, rfl, k⟩
/-- a test whose answer is told: nothing is made on the way -/
theorem ifA {b : Bool} (h : Ans tt σ H b) (h1 : b = true → t D σ H) (h2 : b = false → u D σ H) : tIfS tt t u D σ H := by
  refine h _ ?_
  exact r_ite h1 h2
theorem ifE {b : Bool} (h : Ans tt σ H b) (h1 : b = true → ta σ H Q) (h2 : b = false → tb σ H Q) : tIf tt ta tb σ H Q := by
  refine h _ ?_
  exact r_ite h1 h2
theorem ans_or2 {b1 b2 : Bool} (h1 : Ans tt σ H b1) (h2 : Ans tu σ H b2) : Ans (tOr tt tu) σ H (b1 || b2) := by
  cases b1 with
  | true => exact ans_or1 h1
  | false => exact ans_or h1 h2
theorem ans_le {a b : Int} (ha : Val ta σ H (.int a)) (hb : Val tb σ H (.int b)) : Ans (tTest (tOp (rI0 fun i j => .bl (decide (i ≤ j))) ta tb)) σ H (decide (a ≤ b)) := ans_cmp ha hb fun _ q => r_I0 q
theorem ans_lt {a b : Int} (ha : Val ta σ H (.int a)) (hb : Val tb σ H (.int b)) : Ans (tTest (tOp (rI0 fun i j => .bl (decide (i < j))) ta tb)) σ H (decide (a < b)) := ans_cmp ha hb fun _ q => r_I0 q
theorem ans_gtI {a b : Int} (ha : Val ta σ H (.int a)) (hb : Val tb σ H (.int b)) : Ans (tTest (tOp (rI0 fun i j => .bl (decide (j < i))) ta tb)) σ H (decide (b < a)) := ans_cmp ha hb fun _ q => r_I0 q
theorem ans_geI {a b : Int} (ha : Val ta σ H (.int a)) (hb : Val tb σ H (.int b)) : Ans (tTest (tOp (rI0 fun i j => .bl (decide (j ≤ i))) ta tb)) σ H (decide (b ≤ a)) := ans_cmp ha hb fun _ q => r_I0 q
theorem ans_eqI {a b : Int} (ha : Val ta σ H (.int a)) (hb : Val tb σ H (.int b)) : Ans (tTest (tOp rEq ta tb)) σ H (decide (a = b)) := ans_cmp ha hb fun _ q => r_eqI q
theorem ans_neI {a b : Int} (ha : Val ta σ H (.int a)) (hb : Val tb σ H (.int b)) : Ans (tTest (tOp rNe ta tb)) σ H (!decide (a = b)) := ans_cmp ha hb fun _ q => r_neI q
theorem ans_leL {a b c : Int} (ha : Val ta σ H (.int a)) (hb : Val tb σ H (.int b)) (hc : Val tc σ H (.int c)) : Ans (tTest (tChain (rI0 fun i j => .bl (decide (i ≤ j))) (rI0 fun i j => .bl (decide (i ≤ j))) ta tb tc)) σ H (decide (a ≤ b) && decide (b ≤ c)) := by
  intro Q q
  refine ha _ (hb _ ?_)
  refine r_I0 (r_bl ?_)
  refine r_ite (fun h1 => hc _ (r_I0 (r_bl ?_))) (fun h1 => r_bl ?_)
  · rw [h1] at q; exact q
  · rw [h1] at q; exact q
end
end Wm
/-! ## 3. Rules over the held heap -/
namespace Wm
open PySem PySem.Spec PyProof.Rows L2 StX
/-- an attribute read off a value -/
def rFld (K : PySem.W.Frag) (f : Str) : V → Hp → VK → Prop := fun x H1 Q => ∃ a C dx fs v, x = .ref a ∧ H1 a = some (.ins C dx fs) ∧ Cls K C ∧ NoAttr K C f ∧ fs.lookup f = some v ∧ Q v H1
section
variable {K : PySem.W.Frag} {G H : Hp} {mu : Mu} {σ : L2.St} {Q : VK} {D : Ends} {C dx p : Addr} {fs : List (Str × V)} {f m : Str} {v w : V} {i j : Nat} {o : HO} {ta tv te : TE} {tr : TA} {xs : List V} {E : XK} {sp : Sp}
theorem r_fld (k : ta σ H (fun x H1 => rFld K f x H1 Q)) : tFld K ta f σ H Q := k
theorem fld_g (hh : Hold G mu H) (e : G p = some (.ins C dx fs)) (c : Cls K C) (n : NoAttr K C f) (l : fs.lookup f = some v) (k : Q v H) : rFld K f (.ref p) H Q := ⟨p, C, dx, fs, v, rfl, hh.rd e, c, n, l, k⟩
theorem fld_m (hh : Hold G mu H) (i : Nat) (e : mu[i]? = some (p, .ins C dx fs)) (c : Cls K C) (n : NoAttr K C f) (l : fs.lookup f = some v) (k : Q v H) : rFld K f (.ref p) H Q := ⟨p, C, dx, fs, v, rfl, hh.get e, c, n, l, k⟩
/-- o.f = e: the value, then the object -/
def rSetF (K : PySem.W.Frag) (f : Str) (y x : V) (H2 : Hp) (R : Hp → Prop) : Prop := ∃ a C dx fs, x = .ref a ∧ H2 a = some (.ins C dx fs) ∧ Cls K C ∧ NoAttr K C f ∧ fs.length < 1000 ∧ R (upd H2 a (.ins C dx (putF f y fs)))
theorem r_setF (k : tv σ H fun y H1 => ta σ H1 fun x H2 => rSetF K f y x H2 (fun H3 => D.nx σ H3)) : sFld K ta tv f D σ H := k
theorem setF_m {R : Hp → Prop} (hh : Hold G mu H) (i : Nat) (e : mu[i]? = some (p, .ins C dx fs)) (c : Cls K C) (n : NoAttr K C f) (l : fs.length < 1000)
    (k : ∀ H', Hold G (mu.set i (p, .ins C dx (putF f v fs))) H' → R H') : rSetF K f v (.ref p) H R := ⟨p, C, dx, fs, rfl, hh.get e, c, n, l, k _ (hh.set e)⟩
/-- displays: a new object -/
def rLst (xs : List V) (H1 : Hp) (Q : VK) : Prop := xs.length ≤ sizeLine ∧ ∀ p, H1 p = none → Q (.ref p) (upd H1 p (.lst xs))
def rTup (xs : List V) (H1 : Hp) (Q : VK) : Prop := xs.length ≤ sizeLine ∧ ∀ p, H1 p = none → Q (.ref p) (upd H1 p (.tup xs))
theorem r_tup (k : tr σ H fun xs H1 => rTup xs H1 Q) : tTup tr σ H Q := k
theorem r_lst (k : tr σ H fun xs H1 => rLst xs H1 Q) : tLst tr σ H Q := k
theorem tup_G (hP : xs.length ≤ sizeLine) (hh : Hold G mu H) (k : ∀ p G' H', Ex G G' → G' p = some (.tup xs) → Hold G' mu H' → Q (.ref p) H') : rTup xs H Q :=
  ⟨hP, fun p hp => k p _ _ (Ex.new (hh.g_none hp)) upd_same (hh.new hp)⟩
theorem lst_G (hP : xs.length ≤ sizeLine) (hh : Hold G mu H) (k : ∀ p G' H', Ex G G' → G' p = some (.lst xs) → Hold G' mu H' → Q (.ref p) H') : rLst xs H Q :=
  ⟨hP, fun p hp => k p _ _ (Ex.new (hh.g_none hp)) upd_same (hh.new hp)⟩
theorem lst_m (hP : xs.length ≤ sizeLine) (hh : Hold G mu H) (k : ∀ p H', Hold G ((p, .lst xs) :: mu) H' → Q (.ref p) H') : rLst xs H Q :=
  ⟨hP, fun p hp => k p _ (hh.newm hp)⟩
/-- .. of no further use -/
theorem tup_x (hP : xs.length ≤ sizeLine) (hh : Hold G mu H) (k : ∀ p H', H' p = some (.tup xs) → Hold G mu H' → Q (.ref p) H') : rTup xs H Q :=
  ⟨hP, fun p hp => k p _ upd_same (hh.newg hp)⟩
theorem lst_x (hP : xs.length ≤ sizeLine) (hh : Hold G mu H) (k : ∀ p H', H' p = some (.lst xs) → Hold G mu H' → Q (.ref p) H') : rLst xs H Q :=
  ⟨hP, fun p hp => k p _ upd_same (hh.newg hp)⟩
theorem new1_G (hh : Hold G mu H) (k : ∀ p G' H', Ex G G' → G' p = some o → Hold G' mu H' → Q (.ref p) H') : ∀ p, H p = none → Q (.ref p) (upd H p o) :=
  fun p hp => k p _ _ (Ex.new (hh.g_none hp)) upd_same (hh.new hp)
theorem new1_m (hh : Hold G mu H) (k : ∀ p H', Hold G ((p, o) :: mu) H' → Q (.ref p) H') : ∀ p, H p = none → Q (.ref p) (upd H p o) :=
  fun p hp => k p _ (hh.newm hp)
end
/-! ## 4. Calls by positional promises -/
def NoE (CX : CXT) : Prop := ∀ X : Cx, Passes CX X E0
theorem noE0 : NoE CX0 := fun _ => pass0
theorem noEX {P : Program} {w : World} : NoE (L2.CX P w) := fun X pins σ H s e s' I h => by
  obtain ⟨_, _, _, _, _, _, _, _, _, _, _, _, _, _, _, z⟩ := h
  all_goals first | exact z.elim | exact (by simp_all)
structure CalR (P : Program) (w : World) (K : PySem.W.Frag) (mg : Str → Option Value) (base : Heap) (CX : CXT) (k : Nat) (x : Str) (sp : Sp) : Prop where
  ex : ∃ f, FnR P w K mg base CX k f sp ∧ mg x = some (.ref f) ∧ PySem.W.keepIn K (.ref f) = true
structure MetR (P : Program) (w : World) (K : PySem.W.Frag) (mg : Str → Option Value) (base : Heap) (CX : CXT) (k : Nat) (C : Addr) (m : Str) (sp : Sp) : Prop where
  ex : ∃ f, FnR P w K mg base CX k f sp ∧ Cls K C ∧ Meth K C m f
structure MakR (P : Program) (w : World) (K : PySem.W.Frag) (mg : Str → Option Value) (base : Heap) (CX : CXT) (k : Nat) (x : Str) (C : Addr) (sp : Sp) : Prop where
  ex : ∃ f, FnR P w K mg base CX k f sp ∧ Mk K C f ∧ mg x = some (.ref C)
structure PrpR (P : Program) (w : World) (K : PySem.W.Frag) (mg : Str → Option Value) (base : Heap) (CX : CXT) (k : Nat) (C : Addr) (f : Str) (sp : Sp) : Prop where
  ex : ∃ (p g : Addr) (fd : FuncData) (ps : List Str), FnOk P w K mg base CX k g fd ps sp ∧ Cls K C ∧ PropOf K C f p g ∧ Binds K fd ps []
def tCal (sp : Sp) (E : XK) (t : TA) : TE := fun σ H Q => t σ H fun vs H1 => sp vs H1 Q E
def rMtd (C : Addr) (m : Str) (sp : Sp) (E : XK) (t : TA) (σ : L2.St) : V → Hp → VK → Prop := fun x H1 Q => ∃ a dx fs, x = .ref a ∧ H1 a = some (.ins C dx fs) ∧ fs.lookup m = none ∧ t σ H1 fun vs H2 => sp (x :: vs) H2 Q E
def tMtd (C : Addr) (m : Str) (sp : Sp) (E : XK) (ta : TE) (t : TA) : TE := fun σ H Q => ta σ H fun x H1 => rMtd C m sp E t σ x H1 Q
def tMak (C : Addr) (sp : Sp) (E : XK) (t : TA) : TE := fun σ H Q => t σ H fun vs H1 => ∀ x dx, H1 x = none → H1 dx = none → dx ≠ x → sp (V.ref x :: vs) (upd (upd H1 dx (.own x)) x (.ins C dx [])) (fun v H2 => v = .non ∧ Q (.ref x) H2) E
def rPrp (C : Addr) (sp : Sp) (E : XK) : V → Hp → VK → Prop := fun x H1 Q => ∃ a dx fs, x = .ref a ∧ H1 a = some (.ins C dx fs) ∧ sp [.ref a] H1 Q E
def tPrp (C : Addr) (sp : Sp) (E : XK) (ta : TE) : TE := fun σ H Q => ta σ H fun x H1 => rPrp C sp E x H1 Q
section
variable {X : Cx} {CX : CXT} {k j : Nat} {C : Addr} {sp : Sp} {E : XK} {x m f : Str} {p pos apos : Pos} {e o : Expr} {es : List Expr} {ta : TE} {t : TA}
theorem pe_cR (c : CalR X.prog X.w X.K X.mg X.base CX k x sp) (hr : Room j X.A) (hk : k ≤ j) (hx : Passes CX X E) (hg : Gl X x) (ha : PA X (e :: es) t)
    (hd : (x == ("__debug__" : Str)) = false := by decide) (he : starEach (e :: es) X.env = (false, eval e X.env) :: starEach es X.env := by rfl) (hpl : (backTo pos (starEach es X.env)).any (·.1) = false := by rfl) :
    PE X (.Call (.Name x p) (e :: es) [] pos) (tCal sp E t) := by
  obtain ⟨f, F, hm, kp⟩ := c.ex
  refine ⟨fun pins s σ H Q I h => ?_⟩
  refine wpAny_Call_Name_kw (ld_glob I hg hm ?_ hd)
  refine PySem.W.callWith_K (h₀ := X.base) I.ok.mod.kin kp (thn (ha.run pos pins s σ H _ I h) fun us s1 ⟨vs, H1, I1, r, q⟩ => ⟨I1.kIn, ?_⟩) he hpl
  exact wpAny_call (run_fnR F (hr.mono hk) hx I1 r q)
theorem pe_c0R (c : CalR X.prog X.w X.K X.mg X.base CX k x sp) (hr : Room j X.A) (hk : k ≤ j) (hx : Passes CX X E) (hg : Gl X x)
    (hd : (x == ("__debug__" : Str)) = false := by decide) : PE X (.Call (.Name x p) [] [] pos) (tCal sp E tNil) := by
  obtain ⟨f, F, hm, kp⟩ := c.ex
  refine ⟨fun pins s σ H Q I h => ?_⟩
  refine wpAny_Call_Name_kw (ld_glob I hg hm ?_ hd)
  exact PySem.W.callWith_K0 I.kIn kp (wpAny_call (run_fnR (us := []) F (hr.mono hk) hx I .nil h))
theorem pe_mtR {pl : Sem Bool} (c : MetR X.prog X.w X.K X.mg X.base CX k C m sp) (hr : Room j X.A) (hk : k ≤ j) (hx : Passes CX X E) (he : PE X o ta) (ha : PA X (e :: es) t)
    (hst : starEach (e :: es) X.env = (false, eval e X.env) :: starEach es X.env := by rfl) (hpl : (backTo pos (starEach es X.env)).any (·.1) = false := by rfl)
    (ht : eval (.Call (.Attribute o m apos) (e :: es) [] pos) X.env = (do
      let ov ← eval o X.env
      standAt apos.atName
      let (f, first) ← holding [ov] (getMethod ov m pl)
      callWith pos f first (backTo pos (starEach (e :: es) X.env)) (backToKw pos (keywordEach [] X.env))) := by rfl) :
    PE X (.Call (.Attribute o m apos) (e :: es) [] pos) (tMtd C m sp E ta t) := by
  obtain ⟨f, F, hc, hm⟩ := c.ex
  exact pe_methR (pl := pl) he hc hm F (hr.mono hk) hx ha hst hpl ht
theorem pe_mt0R {pl : Sem Bool} (c : MetR X.prog X.w X.K X.mg X.base CX k C m sp) (hr : Room j X.A) (hk : k ≤ j) (hx : Passes CX X E) (he : PE X o ta)
    (ht : eval (.Call (.Attribute o m apos) [] [] pos) X.env = (do
      let ov ← eval o X.env
      standAt apos.atName
      let (f, first) ← holding [ov] (getMethod ov m pl)
      callWith pos f first (backTo pos (starEach [] X.env)) (backToKw pos (keywordEach [] X.env))) := by rfl) :
    PE X (.Call (.Attribute o m apos) [] [] pos) (tMtd C m sp E ta tNil) := by
  obtain ⟨f, F, hc, hm⟩ := c.ex
  refine ⟨fun pins s σ H Q I h => ?_⟩
  refine PySem.W.methodCall_KW (pl := pl) (thn (he.run pins s σ H _ I h) fun u s1 ⟨x, H1, I1, rx, a, dx, fs, ex, ea, l, q⟩ => ?_) ht
  subst ex
  obtain rfl : u = Value.ref a := rx
  refine getmeth_ok I1 ea hc hm l ?_
  exact PySem.W.callWith_K0 (first := [.ref a]) I1.kIn hm.kp (wpAny_call (run_fnR (us := [.ref a]) (vs := [.ref a]) F (hr.mono hk) hx I1 (.cons rfl .nil) q))
theorem pe_mkR (c : MakR X.prog X.w X.K X.mg X.base CX k x C sp) (hr : Room j X.A) (hk : k + 1 ≤ j) (hx : Passes CX X E) (hg : Gl X x) (ha : PA X (e :: es) t) (hdb : (x == ("__debug__" : Str)) = false := by decide)
    (he : starEach (e :: es) X.env = (false, eval e X.env) :: starEach es X.env := by rfl) (hpl : (backTo pos (starEach es X.env)).any (·.1) = false := by rfl) : PE X (.Call (.Name x p) (e :: es) [] pos) (tMak C sp E t) := by
  obtain ⟨f, F, M, hm⟩ := c.ex
  exact pe_makeR M F (hr.mono hk) hg hm hx ha hdb he hpl
/-- C(*y) -/
def tMakS (K : PySem.W.Frag) (C : Addr) (sp : Sp) (E : XK) (te : TE) : TE := fun σ H Q => te σ H fun y H1 => ∃ a xs, y = V.ref a ∧ (SqT K H1 a xs ∨ SqL K H1 a xs) ∧ ∀ x dx, H1 x = none → H1 dx = none → dx ≠ x → sp (V.ref x :: xs) (upd (upd H1 dx (.own x)) x (.ins C dx [])) (fun v H2 => v = .non ∧ Q (.ref x) H2) E
theorem pe_mkSR {te : TE} {sp_ : Pos} (c : MakR X.prog X.w X.K X.mg X.base CX k x C sp) (hr : Room j X.A) (hk : k + 1 ≤ j) (hx : Passes CX X E) (hg : Gl X x) (he : PE X e te) (hdb : (x == ("__debug__" : Str)) = false := by decide)
    (hst : starEach [.Starred e sp_] X.env = [(true, eval e X.env)] := by rfl) : PE X (.Call (.Name x p) [.Starred e sp_] [] pos) (tMakS X.K C sp E te) := by
  obtain ⟨f, F, M, hm⟩ := c.ex
  refine ⟨fun pins s σ H Q I h => ?_⟩
  refine wpAny_Call_Name_kw (ld_glob I hg hm ?_ hdb)
  refine PySem.W.callWith_S (h₀ := X.base) I.ok.mod.kin M.kp (thn (he.run pins s σ H _ I h) fun v s1 ⟨y, H1, I1, ry, a, xs, ey, hxs, q⟩ => ?_) hst
  subst ey
  obtain rfl : v = Value.ref a := ry
  exact star_any I1 hxs fun us s2 I2 rv => ⟨I2.kIn, run_makeR M F (hr.mono hk) hx I2 rv q⟩
theorem pe_prR (c : PrpR X.prog X.w X.K X.mg X.base CX k C f sp) (hr : Room j X.A) (hk : k + 1 ≤ j) (hx : Passes CX X.nox E) (he : PE X e ta) (hab : attributeBase e f X.env (eval e X.env) = eval e X.env := by rfl) :
    PE X (.Attribute e f pos) (tPrp C sp E ta) := by
  obtain ⟨p, g, fd, ps, F, hc, hp, hb⟩ := c.ex
  exact pe_prop he hc hp F (hr.mono hk) hb .nil hx hab
end
section
variable {P : Program} {w : World} {K : PySem.W.Frag} {mg : Str → Option Value} {base : Heap} {CX : CXT}
/-- a def by its body; nothing is raised out of it -/
theorem okC {x qual : Str} {st : Stmt} {f : Addr} {fd : FuncData} {N ps : List Str} {k : Nat} {sp : Sp} (F : Fun K x qual st f fd) (S : FnScope N ps (defScope st)) (len : ∀ vs H Q E, sp vs H Q E → vs.length = ps.length)
    (hbody : ∀ (cdv : Value) (A : Around) (outer : List Env) (s : Shared) (H : Hp) (vs : List V) (Q : VK) (E : XK), Room k (A.deeper (envOfC qual (defScope st) s.heap.objs.size f cdv)) → sp vs H Q E →
      ∃ t, PSs (cxOf CX P w K mg base N qual (defScope st) f cdv A outer s H E).nox (defBody st) t ∧ t { nx := fun _ H' => Q .non H', rt := Q } (start N vs) H) : FnOk P w K mg base CX (k + 1) f fd ps sp := by
  obtain ⟨oc, od, kV, doc, pm, an, cdv, ct, osl, rfl, lk, hcd⟩ := F.ex
  refine fn_of lk hcd S len fun A outer s H vs Q E hr hsp => ?_
  obtain ⟨t, h, q⟩ := hbody cdv A outer s H vs Q E hr hsp
  exact ⟨t, h.nox, q⟩
theorem FnOk.R {f : Addr} {fd : FuncData} {ps : List Str} {k : Nat} {sp : Sp} (F : FnOk P w K mg base CX k f fd ps sp) (b : Binds K fd ps []) : FnR P w K mg base CX k f sp := by
  have h := F.raw b .nil
  exact h.imp fun vs H Q E q => by rw [List.append_nil]; exact q
end
section
variable {K : PySem.W.Frag} {G H : Hp} {mu : Mu} {σ : L2.St} {Q : VK} {C p : Addr} {m : Str} {ta te : TE} {tr : TA} {E : XK} {sp : Sp} {vs xs : List V}
theorem r_call (k : tr σ H fun vs H1 => sp vs H1 Q E) : tCal sp E tr σ H Q := k
theorem r_mtd (k : ta σ H fun x H1 => rMtd C m sp E tr σ x H1 Q) : tMtd C m sp E ta tr σ H Q := k
theorem r_prp (k : ta σ H fun x H1 => rPrp C sp E x H1 Q) : tPrp C sp E ta σ H Q := k
def rMak (C : Addr) (sp : Sp) (E : XK) (vs : List V) (H1 : Hp) (Q : VK) : Prop := ∀ x dx, H1 x = none → H1 dx = none → dx ≠ x → sp (V.ref x :: vs) (upd (upd H1 dx (.own x)) x (.ins C dx [])) (fun v H2 => v = .non ∧ Q (.ref x) H2) E
theorem r_mak (k : tr σ H fun vs H1 => rMak C sp E vs H1 Q) : tMak C sp E tr σ H Q := k
/-- the new instance is held apart -/
theorem make_m (hh : Hold G mu H) (k : ∀ x dx H', Hold G ((x, .ins C dx []) :: mu) H' → sp (.ref x :: vs) H' (fun v H2 => v = .non ∧ Q (.ref x) H2) E) : rMak C sp E vs H Q := fun x dx hx hd hne => by
  refine k x dx _ ((hh.newg (o := .own x) hd).newm ?_)
  rw [upd_ne (Ne.symm hne)]
  exact hx
end
end Wm
/-! ## 5. Names for the readings of built-ins; more rules -/
namespace Wm
open PySem PySem.Spec PyProof.Rows L2 StX
/-- the classes' addresses -/
structure Ads where
  P : Program
  w : World
  cWeather : Addr := 0
  cHeater : Addr := 0
  cRoom : Addr := 0
  cRun : Addr := 0
  cHistory : Addr := 0
  cThresholdObserver : Addr := 0
  cSetting : Addr := 0
  cHourSetting : Addr := 0
  cRestSetting : Addr := 0
  cPrices : Addr := 0
  cMoment : Addr := 0
  cLiveRoom : Addr := 0
  cAttempt : Addr := 0
  cWarmthError : Addr := 0
  cInvalidWeather : Addr := 0
  cInvalidHeater : Addr := 0
  cInvalidNumber : Addr := 0
  cOtherWeather : Addr := 0
  cContradiction : Addr := 0
  cInvalidSetting : Addr := 0
  cInvalidPrices : Addr := 0
  cInvalidOperation : Addr := 0
  cInvalidReport : Addr := 0
  /-- the table of the law's own code objects -/
  tLaw : Addr := 0
/-- the built-in names stand -/
structure Blt (mg : Str → Option Value) : Prop where
  n_len : mg "len" = none
  n_int : mg "int" = none
  n_min : mg "min" = none
  n_max : mg "max" = none
  n_sum : mg "sum" = none
  n_range : mg "range" = none
  n_enumerate : mg "enumerate" = none
  n_isinstance : mg "isinstance" = none
  n_list : mg "list" = none
  n_tuple : mg "tuple" = none
  n_sorted : mg "sorted" = none
  n_abs : mg "abs" = none
  n_str : mg "str" = none
  n_dict : mg "dict" = none
  n_bool : mg "bool" = none
  n_ValueError : mg "ValueError" = none
abbrev rLen (K : PySem.W.Frag) : List V → Hp → VK → Prop := fun xs H Q => ∃ x n, xs = [x] ∧ LenV K x H n ∧ Q (.int n) H
abbrev rMin2 : List V → Hp → VK → Prop := fun xs H Q => ∃ i j, xs = [.int i, .int j] ∧ Q (.int (if j < i then j else i)) H
abbrev rMax2 : List V → Hp → VK → Prop := fun xs H Q => ∃ i j, xs = [.int i, .int j] ∧ Q (.int (if j > i then j else i)) H
abbrev rInt : List V → Hp → VK → Prop := fun xs H Q => (∃ i, xs = [.int i] ∧ Q (.int i) H) ∨ ∃ k, xs = [.bl k] ∧ Q (.int (if k then 1 else 0)) H
abbrev rAbs : List V → Hp → VK → Prop := fun xs H Q => ∃ i, xs = [.int i] ∧ Q (.int (if i < 0 then -i else i)) H
abbrev rListOf (K : PySem.W.Frag) : List V → Hp → VK → Prop := fun xs H Q => ∃ p ys, xs = [.ref p] ∧ (SqL K H p ys ∨ SqT K H p ys) ∧ ∀ l, H l = none → Q (.ref l) (upd H l (.lst ys))
abbrev rTupOf (K : PySem.W.Frag) : List V → Hp → VK → Prop := fun xs H Q => ∃ p ys, xs = [.ref p] ∧ ((SqL K H p ys ∧ ∀ l, H l = none → Q (.ref l) (upd H l (.tup ys))) ∨ (SqT K H p ys ∧ Q (.ref p) H))
abbrev rCatS : R2 := fun x y H Q => ∃ i j, x = .str i ∧ y = .str j ∧ i.length + j.length ≤ sizeLine ∧ Q (.str (i ++ j)) H
section
variable {G G' H H' : Hp} {mu : Mu} {a p : Addr} {o : HO} {x y q : Addr × HO}
theorem Hold.newm1 (h : Hold G (x :: mu) H) (e : H p = none) : Hold G (x :: (p, o) :: mu) (upd H p o) := (h.newm e).swap
theorem Hold.sub2 (h : Hold G (x :: y :: mu) H) : Hold G mu H := h.drop.drop
theorem Hold.cons (h : Hold G mu H) (e1 : H q.1 = some q.2) (e2 : G q.1 = none) (e3 : q.1 ∉ mu.map (·.1)) : Hold G (q :: mu) H :=
  ⟨h.ex, fun z hz => (List.mem_cons.mp hz).elim (fun e => e ▸ e1) (h.at_ z), fun z hz => (List.mem_cons.mp hz).elim (fun e => e ▸ e2) (h.out z), by rw [List.map_cons, List.nodup_cons]; exact ⟨e3, h.nd⟩⟩
theorem Hold.perm {mu' : Mu} (h : Hold G mu H) (e : mu.Perm mu') : Hold G mu' H :=
  ⟨h.ex, fun z hz => h.at_ z (e.mem_iff.mpr hz), fun z hz => h.out z (e.mem_iff.mpr hz), (e.map _).nodup_iff.mp h.nd⟩
theorem perm_in2 {α : Type} {x y q : α} {l : List α} : (q :: x :: y :: l).Perm (x :: y :: q :: l) := ((List.Perm.swap x q _).trans (List.Perm.cons x (List.Perm.swap y q l)))
theorem Hold.newm2 (h : Hold G (x :: y :: mu) H) (e : H p = none) : Hold G (x :: y :: (p, o) :: mu) (upd H p o) := (h.newm e).perm perm_in2
theorem Hold.frz2 (h : Hold G (x :: y :: (p, o) :: mu) H) : Hold (upd G p o) (x :: y :: mu) H := (h.perm perm_in2.symm).frz
theorem Hold.frz2_ex (h : Hold G (x :: y :: (p, o) :: mu) H) : Ex G (upd G p o) := (h.perm perm_in2.symm).frz_ex
theorem Hold.drop2 (h : Hold G (x :: y :: q :: mu) H) : Hold G (x :: y :: mu) H := (h.perm perm_in2.symm).drop
/-- a new object into the ghost heap behind a mutable's writing: G grows by what stands at p -/
theorem Hold.frz1 (h : Hold G (x :: (p, o) :: mu) H) : Hold (upd G p o) (x :: mu) H := h.swap.frz
theorem Hold.frz1_ex (h : Hold G (x :: (p, o) :: mu) H) : Ex G (upd G p o) := h.swap.frz_ex
end
section
variable {K : PySem.W.Frag} {G H : Hp} {mu : Mu} {σ : L2.St} {Q : VK} {D : Ends} {p l : Addr} {xs ys vs : List V} {v w : V} {i j : Int} {n : Nat} {o : HO} {ta tb te : TE} {tr : TA} {x y : Addr × HO} {r : List V → Hp → VK → Prop}
theorem r_nx {u : L2.St → Hp → Prop} {rt : VK} {bk ct : L2.St → Hp → Prop} (k : u σ H) : Ends.nx ⟨u, rt, bk, ct⟩ σ H := k
theorem r_rt {u : L2.St → Hp → Prop} {rt : VK} {bk ct : L2.St → Hp → Prop} (k : rt v H) : Ends.rt ⟨u, rt, bk, ct⟩ v H := k
theorem r_cb (k : tr σ H fun vs H1 => r vs H1 Q) : tCB r tr σ H Q := k
theorem rix_m (hh : Hold G mu H) (n : Nat) (e : mu[n]? = some (p, .lst xs)) (ha : atI xs i = some v) (k : Q v H) : rIx K (.ref p) (.int i) H Q := .inl ⟨p, xs, i, v, rfl, rfl, SqL.of (hh.get e), ha, k⟩
theorem rix_h (e : H p = some (.lst xs)) (ha : atI xs i = some v) (k : Q v H) : rIx K (.ref p) (.int i) H Q := .inl ⟨p, xs, i, v, rfl, rfl, SqL.of e, ha, k⟩
theorem rix_l (hh : Hold G mu H) (e : SqL K G p xs) (ha : atI xs i = some v) (k : Q v H) : rIx K (.ref p) (.int i) H Q := .inl ⟨p, xs, i, v, rfl, rfl, hh.lst e, ha, k⟩
theorem rix_t (hh : Hold G mu H) (e : SqT K G p xs) (ha : atI xs i = some v) (k : Q v H) : rIx K (.ref p) (.int i) H Q := .inr (.inl ⟨p, xs, i, v, rfl, rfl, hh.tup e, ha, k⟩)
theorem len_m (hh : Hold G mu H) (n : Nat) (e : mu[n]? = some (p, .lst xs)) (k : Q (.int (xs.length : Nat)) H) : rLen K [.ref p] H Q := ⟨.ref p, xs.length, rfl, .inl ⟨xs, SqL.of (hh.get e), rfl⟩, k⟩
theorem len_l (hh : Hold G mu H) (e : SqL K G p xs) (k : Q (.int (xs.length : Nat)) H) : rLen K [.ref p] H Q := ⟨.ref p, xs.length, rfl, .inl ⟨xs, hh.lst e, rfl⟩, k⟩
theorem len_t (hh : Hold G mu H) (e : SqT K G p xs) (k : Q (.int (xs.length : Nat)) H) : rLen K [.ref p] H Q := ⟨.ref p, xs.length, rfl, .inr ⟨xs, hh.tup e, rfl⟩, k⟩
theorem int_i (k : Q (.int i) H) : rInt [.int i] H Q := .inl ⟨i, rfl, k⟩
theorem int_b {b : Bool} (k : Q (.int (if b then 1 else 0)) H) : rInt [.bl b] H Q := .inr ⟨b, rfl, k⟩
theorem min2 (k : Q (.int (if j < i then j else i)) H) : rMin2 [.int i, .int j] H Q := ⟨i, j, rfl, k⟩
theorem max2 (k : Q (.int (if j > i then j else i)) H) : rMax2 [.int i, .int j] H Q := ⟨i, j, rfl, k⟩
theorem abs1 (k : Q (.int (if i < 0 then -i else i)) H) : rAbs [.int i] H Q := ⟨i, rfl, k⟩
/-- xs + ys, a new list that is dropped behind: it stands in the ghost heap -/
theorem cat_x (hh : Hold G mu H) (h1 : H p = some (.lst xs)) (h2 : H l = some (.lst ys)) (hz : xs.length + ys.length ≤ sizeLine) (k : ∀ q H', H' q = some (.lst (xs ++ ys)) → Hold G mu H' → Q (.ref q) H') : rCat (.ref p) (.ref l) H Q :=
  ⟨p, l, xs, ys, rfl, rfl, h1, h2, hz, fun q hq => k q _ upd_same (hh.newg hq)⟩
theorem cat_G (hh : Hold G mu H) (h1 : H p = some (.lst xs)) (h2 : H l = some (.lst ys)) (hz : xs.length + ys.length ≤ sizeLine) (k : ∀ q G' H', Ex G G' → G' q = some (.lst (xs ++ ys)) → Hold G' mu H' → Q (.ref q) H') : rCat (.ref p) (.ref l) H Q :=
  ⟨p, l, xs, ys, rfl, rfl, h1, h2, hz, fun q hq => k q _ _ (Ex.new (hh.g_none hq)) upd_same (hh.new hq)⟩
theorem app_m (hh : Hold G mu H) (n : Nat) (e : mu[n]? = some (l, .lst xs)) (hz : xs.length < sizeLine) (k : ∀ H', Hold G (mu.set n (l, .lst (xs ++ [v]))) H' → Q .non H') : rAppend (.ref l) [v] H Q :=
  ⟨l, xs, v, rfl, rfl, hh.get e, hz, k _ (hh.set e)⟩
theorem r_app {T : String} (k : ta σ H fun x H1 => tyV K T x H1 ∧ tr σ H1 fun vs H2 => rAppend x vs H2 Q) : tBM K T rAppend ta tr σ H Q := k
theorem tyv_m (hh : Hold G mu H) (n : Nat) (e : mu[n]? = some (p, .lst xs)) : tyV K "list" (.ref p) H := .inl ⟨rfl, xs, SqL.of (hh.get e)⟩
/-- xs[i] = v -/
theorem r_sub {ti : TE} {ts : TSet} {R : L2.St → Hp → Prop} (k : ta σ H fun o H1 => ti σ H1 fun z H2 => ts o z v H2 fun H3 => R σ H3) : gSub ta ti ts v σ H R := k
theorem setL_m {R : Hp → Prop} {j : Nat} (hh : Hold G mu H) (n : Nat) (e : mu[n]? = some (l, .lst xs)) (hj : ixN xs.length i = some j) (k : ∀ H', Hold G (mu.set n (l, .lst (xs.set j v))) H' → R H') : rSetL (.ref l) (.int i) v H R :=
  ⟨l, xs, i, j, rfl, rfl, hh.get e, hj, k _ (hh.set e)⟩
/-- targets that are tuples -/
theorem r_gtup {m : Nat} {ts : TGs} {R : L2.St → Hp → Prop} (hh : Hold G mu H) (e : SqT K G p xs) (hl : xs.length = m) (k : ts xs σ H R) : gTup K m ts (.ref p) σ H R := ⟨p, xs, rfl, hh.tup e, hl, k⟩
theorem r_gcons {t : TG} {u : TGs} {R : L2.St → Hp → Prop} (k : t v σ H fun σ' H' => u vs σ' H' R) : gCons t u (v :: vs) σ H R := ⟨v, vs, rfl, k⟩
theorem r_gnil {R : L2.St → Hp → Prop} (k : R σ H) : gNil [] σ H R := ⟨rfl, k⟩
theorem r_sl {rr : V → Option Int → Option Int → Hp → VK → Prop} {tl th : TO} (k : te σ H fun x H1 => tl σ H1 fun l H2 => th σ H2 fun u H3 => rr x l u H3 Q) : tSl rr te tl th σ H Q := k
theorem r_nopart {QO : Option Int → Hp → Prop} (k : QO none H) : tNoPart σ H QO := k
theorem r_part {QO : Option Int → Hp → Prop} (k : te σ H fun x H1 => ∃ i, x = .int i ∧ QO (some i) H1) : tPart te σ H QO := k
theorem r_xi {P : Int → Prop} (k : P i) : ∃ j, V.int i = .int j ∧ P j := ⟨i, rfl, k⟩
end
theorem atI_of {α : Type} {xs : List α} {i : Int} {v : α} (h0 : 0 ≤ i) (h : xs[i.toNat]? = some v) : atI xs i = some v := by
  have hl := (List.getElem?_eq_some_iff.mp h).1
  unfold atI ixN
  rw [if_pos h0, if_pos (by omega)]
  exact h
theorem ixN_of {n : Nat} {i : Int} (h0 : 0 ≤ i) (h : i < n) : ixN n i = some i.toNat := by
  unfold ixN
  rw [if_pos h0, if_pos h]
theorem sz {n : Nat} (h : n ≤ 1000000) : n ≤ sizeLine := Nat.le_trans h (by decide)
theorem szl {n : Nat} (h : n < 1000000) : n < sizeLine := Nat.lt_of_lt_of_le h (by decide)
theorem cmulL {i j : Int} (h : -(2 ^ 64) < i ∧ i < 2 ^ 64) : CMul i j := .inl h
theorem cmulR {i j : Int} (h : -(2 ^ 64) < j ∧ j < 2 ^ 64) : CMul i j := .inr h
end Wm
namespace Wm
open PySem PySem.Spec PyProof.Rows L2 StX
theorem cdiv {i j : Int} (h0 : 0 < j) (h1 : j < 2 ^ 64) : CDivW i j := ⟨h0, by have := PySem.Flt.log2_lt_of (k := 64) (by decide) (show j.natAbs < 2 ^ 64 by omega); omega⟩
theorem cdivB {i j : Int} (b : Nat) (h0 : 0 < j) (hb : 0 < b) (h9 : b ≤ 9000) (h1 : j.natAbs < 2 ^ b) : CDivW i j := wide_div h0 h1 hb h9
theorem cpow18 : CPow 10 18 := ⟨by decide, by decide, by decide⟩
theorem cpow12 : CPow 10 12 := ⟨by decide, by decide, by decide⟩
theorem tyv_g {K : PySem.W.Frag} {G H : Hp} {mu : Mu} {p : Addr} {xs : List V} (hh : Hold G mu H) (e : G p = some (.lst xs)) : tyV K "list" (.ref p) H := .inl ⟨rfl, xs, SqL.of (hh.rd e)⟩
/-- an item of a list of ints -/
theorem ints_at {ns : List Int} {i : Nat} {z : Int} (h : ns[i]? = some z) : (ns.map V.int)[i]? = some (V.int z) := by rw [List.getElem?_map, h] <;> rfl
theorem ints_of {ns : List Int} {i : Nat} {y : V} (h : (ns.map V.int)[i]? = some y) : ∃ z, ns[i]? = some z ∧ y = V.int z := by
  rw [List.getElem?_map] at h
  cases e : ns[i]? with
  | none => rw [e] at h; cases h
  | some z => rw [e] at h; exact ⟨z, rfl, (Option.some.inj h).symm⟩
theorem get_some {α : Type} {l : List α} {i : Nat} (h : i < l.length) : ∃ z, l[i]? = some z := ⟨_, List.getElem?_eq_getElem h⟩
end Wm
/-! ## 6. The classes -/
namespace Wm
open PySem PySem.Spec PyProof.Rows L2 StX
/-- what the class Weather must have as the top has made it -/
structure WeatherC (K : PySem.W.Frag) (C : Addr) : Prop where
  cl : Cls K C
  n_pattern : NoAttr K C "pattern"
/-- what the class Heater must have as the top has made it -/
structure HeaterC (K : PySem.W.Frag) (C : Addr) : Prop where
  cl : Cls K C
  n_power : NoAttr K C "power"
  n_below : NoAttr K C "below"
  n_above : NoAttr K C "above"
/-- what the class Room must have as the top has made it -/
structure RoomC (K : PySem.W.Frag) (C : Addr) : Prop where
  cl : Cls K C
  n_outside : NoAttr K C "outside"
  n_inside : NoAttr K C "inside"
  n_begin_degrees : NoAttr K C "begin_degrees"
  n_past : NoAttr K C "past"
  n_repeated : NoAttr K C "repeated"
  n_share : NoAttr K C "share"
  n_coldest : NoAttr K C "coldest"
  n_warmest : NoAttr K C "warmest"
/-- what the class Run must have as the top has made it -/
structure RunC (K : PySem.W.Frag) (C : Addr) : Prop where
  cl : Cls K C
  n_begin : NoAttr K C "begin"
  n_end : NoAttr K C "end"
  n_degrees : NoAttr K C "degrees"
  n_is_heating : NoAttr K C "is_heating"
  n_sums : NoAttr K C "sums"
  n_size : NoAttr K C "size"
  n_drift : NoAttr K C "drift"
/-- what the class History must have as the top has made it -/
structure HistoryC (K : PySem.W.Frag) (C : Addr) : Prop where
  cl : Cls K C
  n_shifts : NoAttr K C "shifts"
  n_added : NoAttr K C "added"
  n_floor : NoAttr K C "floor"
  n_ceiling : NoAttr K C "ceiling"
  n_was_heating : NoAttr K C "was_heating"
  n_runs : NoAttr K C "runs"
  n_loop : NoAttr K C "loop"
/-- what the class ThresholdObserver must have as the top has made it -/
structure ThresholdObserverC (K : PySem.W.Frag) (C : Addr) : Prop where
  cl : Cls K C
  n_outside : NoAttr K C "outside"
  n_power : NoAttr K C "power"
  n_tick : NoAttr K C "tick"
  n_degrees : NoAttr K C "degrees"
  n_is_heating : NoAttr K C "is_heating"
  n_lows : NoAttr K C "lows"
  n_highs : NoAttr K C "highs"
  n_noted : NoAttr K C "noted"
/-- what the class Setting must have as the top has made it -/
structure SettingC (K : PySem.W.Frag) (C : Addr) : Prop where
  cl : Cls K C
  n_least : NoAttr K C "least"
  n_most : NoAttr K C "most"
/-- what the class HourSetting must have as the top has made it -/
structure HourSettingC (K : PySem.W.Frag) (C : Addr) : Prop where
  cl : Cls K C
  n_least : NoAttr K C "least"
  n_most : NoAttr K C "most"
  n_length : NoAttr K C "length"
  n_hours : NoAttr K C "hours"
/-- what the class RestSetting must have as the top has made it -/
structure RestSettingC (K : PySem.W.Frag) (C : Addr) : Prop where
  cl : Cls K C
  n_least : NoAttr K C "least"
  n_most : NoAttr K C "most"
  n_rest : NoAttr K C "rest"
/-- what the class Prices must have as the top has made it -/
structure PricesC (K : PySem.W.Frag) (C : Addr) : Prop where
  cl : Cls K C
  n_table : NoAttr K C "table"
/-- what the class Moment must have as the top has made it -/
structure MomentC (K : PySem.W.Frag) (C : Addr) : Prop where
  cl : Cls K C
  n_tick : NoAttr K C "tick"
  n_heat : NoAttr K C "heat"
  n_on : NoAttr K C "on"
  n_burnt : NoAttr K C "burnt"
  n_sky : NoAttr K C "sky"
  n_stove : NoAttr K C "stove"
/-- what the class LiveRoom must have as the top has made it -/
structure LiveRoomC (K : PySem.W.Frag) (C : Addr) : Prop where
  cl : Cls K C
  n_moment : NoAttr K C "moment"
  n_earlier : NoAttr K C "earlier"
  n_done : NoAttr K C "done"
/-- what the class Attempt must have as the top has made it -/
structure AttemptC (K : PySem.W.Frag) (C : Addr) : Prop where
  cl : Cls K C
  n_live : NoAttr K C "live"
  n_kept : NoAttr K C "kept"
  n_stack : NoAttr K C "stack"
  n_steps : NoAttr K C "steps"
theorem fld_h {K : PySem.W.Frag} {H : Hp} {Q : VK} {C dx p : Addr} {fs : List (Str × V)} {f : Str} {v : V} (e : H p = some (.ins C dx fs)) (c : Cls K C) (n : NoAttr K C f) (l : fs.lookup f = some v) (k : Q v H) : rFld K f (.ref p) H Q := ⟨p, C, dx, fs, v, rfl, e, c, n, l, k⟩
theorem mtd_h {H : Hp} {Q : VK} {C dx p : Addr} {fs : List (Str × V)} {m : Str} {sp : Sp} {E : XK} {t : TA} {σ : L2.St} (e : H p = some (.ins C dx fs)) (l : fs.lookup m = none) (k : t σ H fun vs H2 => sp (.ref p :: vs) H2 Q E) : rMtd C m sp E t σ (.ref p) H Q := ⟨p, dx, fs, rfl, e, l, k⟩
theorem prp_h {H : Hp} {Q : VK} {C dx p : Addr} {fs : List (Str × V)} {sp : Sp} {E : XK} (e : H p = some (.ins C dx fs)) (k : sp [.ref p] H Q E) : rPrp C sp E (.ref p) H Q := ⟨p, dx, fs, rfl, e, k⟩
theorem len_h {K : PySem.W.Frag} {H : Hp} {Q : VK} {p : Addr} {xs : List V} (e : H p = some (.lst xs)) (k : Q (.int (xs.length : Nat)) H) : rLen K [.ref p] H Q := ⟨.ref p, xs.length, rfl, .inl ⟨xs, SqL.of e, rfl⟩, k⟩
theorem len_ht {K : PySem.W.Frag} {H : Hp} {Q : VK} {p : Addr} {xs : List V} (e : H p = some (.tup xs)) (k : Q (.int (xs.length : Nat)) H) : rLen K [.ref p] H Q := ⟨.ref p, xs.length, rfl, .inr ⟨xs, SqT.of e, rfl⟩, k⟩
theorem rix_ht {K : PySem.W.Frag} {H : Hp} {Q : VK} {p : Addr} {xs : List V} {i : Int} {v : V} (e : H p = some (.tup xs)) (ha : atI xs i = some v) (k : Q v H) : rIx K (.ref p) (.int i) H Q := .inr (.inl ⟨p, xs, i, v, rfl, rfl, SqT.of e, ha, k⟩)
theorem setF_h {K : PySem.W.Frag} {H : Hp} {C dx p : Addr} {fs : List (Str × V)} {f : Str} {v : V} {R : Hp → Prop} (e : H p = some (.ins C dx fs)) (c : Cls K C) (n : NoAttr K C f) (l : fs.length < 1000) (k : R (upd H p (.ins C dx (putF f v fs)))) : rSetF K f v (.ref p) H R := ⟨p, C, dx, fs, rfl, e, c, n, l, k⟩
theorem gtup_h {K : PySem.W.Frag} {H : Hp} {σ : L2.St} {p : Addr} {xs : List V} {m : Nat} {ts : TGs} {R : L2.St → Hp → Prop} (e : H p = some (.tup xs)) (hl : xs.length = m) (k : ts xs σ H R) : gTup K m ts (.ref p) σ H R := ⟨p, xs, rfl, SqT.of e, hl, k⟩
end Wm
/-! ## 7. Loops -/
namespace Wm
open PySem PySem.Spec PyProof.Rows L2 StX
def TurnsW (J : It) (g : TG) (tb : TS) (D : Ends) (σ : L2.St) (H1 : Hp) : Prop := ∃ W : Nat → Nat → L2.St → Hp → Prop, (∃ m, W 0 m σ H1) ∧ ∀ i m σ H, W i m σ H →
  (J.stop i H ∧ D.nx σ H) ∨ (J.go i H ∧ ∃ N : L2.St → Hp → Prop, (∀ σ' H', N σ' H' → ∃ m', m' < m ∧ W (i + 1) m' σ' H') ∧ ∀ x H', J.yld i H x H' → g x σ H' fun σ2 H2 => tb { D with nx := N, ct := N, bk := D.nx } σ2 H2)
def ForL (K : PySem.W.Frag) (g : TG) (tb : TS) (D : Ends) (σ : L2.St) (x : V) (H1 : Hp) : Prop := ∃ a, x = .ref a ∧ (∃ xs, SqL K H1 a xs) ∧ TurnsW (Itl K a) g tb D σ H1
def ForT (K : PySem.W.Frag) (g : TG) (tb : TS) (D : Ends) (σ : L2.St) (x : V) (H1 : Hp) : Prop := ∃ a, x = .ref a ∧ (∃ xs, SqT K H1 a xs) ∧ TurnsW (Itt K a) g tb D σ H1
def ForR1 (g : TG) (tb : TS) (D : Ends) (σ : L2.St) (vs : List V) (H1 : Hp) : Prop := ∃ j : Int, vs = [.int j] ∧ -(2 ^ 62) ≤ j ∧ j < 2 ^ 62 ∧ TurnsW (Itr 0 j.toNat) g tb D σ H1
def ForR2 (g : TG) (tb : TS) (D : Ends) (σ : L2.St) (vs : List V) (H1 : Hp) : Prop := ∃ i j : Int, vs = [.int i, .int j] ∧ (-(2 ^ 62) ≤ i ∧ i < 2 ^ 62 ∧ -(2 ^ 62) ≤ j ∧ j < 2 ^ 62) ∧ TurnsW (Itr i (j - i).toNat) g tb D σ H1
section
variable {K : PySem.W.Frag} {G H : Hp} {mu : Mu} {σ : L2.St} {D : Ends} {a : Addr} {xs : List V} {tl : TE} {tr : TA} {g : TG} {tb : TS} {c : TT} {i : Nat}
theorem r_forL (k : tl σ H fun x H1 => ForL K g tb D σ x H1) : tFor (iList K tl) g tb D σ H := k
theorem r_forT (k : tl σ H fun x H1 => ForT K g tb D σ x H1) : tFor (iTup K tl) g tb D σ H := k
theorem r_forR1 (k : tr σ H fun vs H1 => ForR1 g tb D σ vs H1) : tFor (iRng1 tr) g tb D σ H := k
theorem r_forR2 (k : tr σ H fun vs H1 => ForR2 g tb D σ vs H1) : tFor (iRng2 tr) g tb D σ H := k
/-- over a list: the target is a name -/
theorem forL_by (e : SqL K H a xs) (Pv : Nat → L2.St → Hp → Prop) (h0 : Pv 0 σ H) (hl : ∀ i σ H, i ≤ xs.length → Pv i σ H → SqL K H a xs)
    (hs : ∀ i x σ H, xs[i]? = some x → Pv i σ H → g x σ H fun σ2 H2 => tb { D with nx := Pv (i + 1), ct := Pv (i + 1), bk := D.nx } σ2 H2) (hd : ∀ σ H, Pv xs.length σ H → D.nx σ H) : ForL K g tb D σ (.ref a) H :=
  ⟨a, rfl, ⟨xs, e⟩, for_list Pv h0 hl hs hd⟩
theorem forT_by (e : SqT K H a xs) (Pv : Nat → L2.St → Hp → Prop) (h0 : Pv 0 σ H) (hl : ∀ i σ H, i ≤ xs.length → Pv i σ H → SqT K H a xs)
    (hs : ∀ i x σ H, xs[i]? = some x → Pv i σ H → g x σ H fun σ2 H2 => tb { D with nx := Pv (i + 1), ct := Pv (i + 1), bk := D.nx } σ2 H2) (hd : ∀ σ H, Pv xs.length σ H → D.nx σ H) : ForT K g tb D σ (.ref a) H :=
  ⟨a, rfl, ⟨xs, e⟩, for_tup Pv h0 hl hs hd⟩
theorem forR1_by {n : Int} (hb : n < 2 ^ 62) (hb' : -(2 ^ 62) ≤ n) (Pv : Nat → L2.St → Hp → Prop) (h0 : Pv 0 σ H)
    (hs : ∀ (i : Nat) σ H, (i : Int) < n → Pv i σ H → g (.int (i : Int)) σ H fun σ2 H2 => tb { D with nx := Pv (i + 1), ct := Pv (i + 1), bk := D.nx } σ2 H2) (hd : ∀ σ H, Pv n.toNat σ H → D.nx σ H) : ForR1 g tb D σ [.int n] H :=
  ⟨n, rfl, hb', hb, for_range Pv h0 (fun i σ H hi p => by rw [Int.zero_add]; exact hs i σ H (by omega) p) hd⟩
theorem forR2_by {lo n : Int} (h1 : -(2 ^ 62) ≤ lo) (h2 : lo < 2 ^ 62) (h3 : -(2 ^ 62) ≤ n) (h4 : n < 2 ^ 62) (Pv : Nat → L2.St → Hp → Prop) (h0 : Pv 0 σ H)
    (hs : ∀ (i : Nat) σ H, lo + (i : Int) < n → Pv i σ H → g (.int (lo + (i : Int))) σ H fun σ2 H2 => tb { D with nx := Pv (i + 1), ct := Pv (i + 1), bk := D.nx } σ2 H2) (hd : ∀ σ H, Pv (n - lo).toNat σ H → D.nx σ H) : ForR2 g tb D σ [.int lo, .int n] H :=
  ⟨lo, n, rfl, ⟨h1, h2, h3, h4⟩, for_range Pv h0 (fun i σ H hi p => hs i σ H (by omega) p) hd⟩
theorem whileA (W : Nat → L2.St → Hp → Prop) (m0 : Nat) (h0 : W m0 σ H) (hs : ∀ m σ H, W m σ H → ∃ b, Ans c σ H b ∧
    (b = true → tb { D with nx := fun σ' H' => ∃ m', m' < m ∧ W m' σ' H', ct := fun σ' H' => ∃ m', m' < m ∧ W m' σ' H', bk := D.nx } σ H) ∧ (b = false → D.nx σ H)) : tWhile c tb D σ H := by
  refine ⟨W, ⟨m0, h0⟩, fun m σ H w => ?_⟩
  obtain ⟨b, ha, h1, h2⟩ := hs m σ H w
  refine ha _ ?_
  cases b with
  | true => exact r_iteT ⟨_, fun _ _ z => z, h1 rfl⟩
  | false => exact r_iteF (h2 rfl)
/-- comprehensions -/
def LcW (J : It) (g : TG) (tt : TT) (te : TE) (vs : List Nat) (σ : L2.St) (H1 : Hp) (Q : VK) : Prop := ∀ D, H1 D = none → ∃ W : Nat → Nat → Hp → Prop, (∃ m, W 0 m (upd H1 D (.lst []))) ∧ ∀ i m H, W i m H →
  (J.stop i H ∧ Q (.ref D) H) ∨ (J.go i H ∧ ∃ Nx : Hp → Prop, (∀ H', Nx H' → ∃ m', m' < m ∧ W (i + 1) m' H') ∧ ∀ x H', J.yld i H x H' → g x (wipe σ vs) H' fun σ2 H2 => wipe σ2 vs = wipe σ vs ∧ tt σ2 H2 fun b H3 =>
    if b = true then te σ2 H3 fun y H4 => ∃ acc, H4 D = some (.lst acc) ∧ acc.length < sizeLine ∧ Nx (upd H4 D (.lst (acc ++ [y]))) else Nx H3)
def LcL (K : PySem.W.Frag) (g : TG) (tt : TT) (te : TE) (vs : List Nat) (σ : L2.St) (Q : VK) (x : V) (H1 : Hp) : Prop := ∃ a, x = .ref a ∧ (∃ xs, SqL K H1 a xs) ∧ LcW (Itl K a) g tt te vs σ H1 Q
def LcT (K : PySem.W.Frag) (g : TG) (tt : TT) (te : TE) (vs : List Nat) (σ : L2.St) (Q : VK) (x : V) (H1 : Hp) : Prop := ∃ a, x = .ref a ∧ (∃ xs, SqT K H1 a xs) ∧ LcW (Itt K a) g tt te vs σ H1 Q
def LcR1 (g : TG) (tt : TT) (te : TE) (vs : List Nat) (σ : L2.St) (Q : VK) (xs : List V) (H1 : Hp) : Prop := ∃ j : Int, xs = [.int j] ∧ -(2 ^ 62) ≤ j ∧ j < 2 ^ 62 ∧ LcW (Itr 0 j.toNat) g tt te vs σ H1 Q
def LcR2 (g : TG) (tt : TT) (te : TE) (vs : List Nat) (σ : L2.St) (Q : VK) (xs : List V) (H1 : Hp) : Prop := ∃ i j : Int, xs = [.int i, .int j] ∧ (-(2 ^ 62) ≤ i ∧ i < 2 ^ 62 ∧ -(2 ^ 62) ≤ j ∧ j < 2 ^ 62) ∧ LcW (Itr i (j - i).toNat) g tt te vs σ H1 Q
variable {tt : TT} {te : TE} {vs : List Nat} {Q : VK}
theorem r_lcL (k : tl σ H fun x H1 => LcL K g tt te vs σ Q x H1) : tLc (iList K tl) g tt te vs σ H Q := k
theorem r_lcT (k : tl σ H fun x H1 => LcT K g tt te vs σ Q x H1) : tLc (iTup K tl) g tt te vs σ H Q := k
theorem r_lcR1 (k : tr σ H fun xs H1 => LcR1 g tt te vs σ Q xs H1) : tLc (iRng1 tr) g tt te vs σ H Q := k
theorem r_lcR2 (k : tr σ H fun xs H1 => LcR2 g tt te vs σ Q xs H1) : tLc (iRng2 tr) g tt te vs σ H Q := k
/-- the turn's end: the list D has one more item, or as many -/
def LcN (G : Hp) (P : Nat → List V → Hp → Mu → Prop) (i : Nat) (D : Addr) (H4 : Hp) : Prop := ∃ acc G4 mu4, acc.length ≤ i + 1 ∧ Ex G G4 ∧ Hold G4 ((D, .lst acc) :: mu4) H4 ∧ P (i + 1) acc G4 mu4
def LcY (G : Hp) (P : Nat → List V → Hp → Mu → Prop) (i : Nat) (D : Addr) (y : V) (H4 : Hp) : Prop := ∃ acc, H4 D = some (.lst acc) ∧ acc.length < sizeLine ∧ LcN G P i D (upd H4 D (.lst (acc ++ [y])))
theorem lcY {P : Nat → List V → Hp → Mu → Prop} {D : Addr} {y : V} {H4 G4 : Hp} {mu4 : Mu} {acc : List V} (hh : Hold G4 ((D, .lst acc) :: mu4) H4) (ex : Ex G G4) (hl : acc.length ≤ i) (hi : i < 1000000) (p : P (i + 1) (acc ++ [y]) G4 mu4) : LcY G P i D y H4 :=
  ⟨acc, hh.get (i := 0) rfl, szl (by omega), acc ++ [y], G4, mu4, by simp; omega, ex, hh.set (i := 0) rfl, p⟩
theorem lcN {P : Nat → List V → Hp → Mu → Prop} {D : Addr} {H4 G4 : Hp} {mu4 : Mu} {acc : List V} (hh : Hold G4 ((D, .lst acc) :: mu4) H4) (ex : Ex G G4) (hl : acc.length ≤ i) (p : P (i + 1) acc G4 mu4) : LcN G P i D H4 :=
  ⟨acc, G4, mu4, by omega, ex, hh, p⟩
abbrev LcTurn (G : Hp) (P : Nat → List V → Hp → Mu → Prop) (g : TG) (tt : TT) (te : TE) (vs : List Nat) (σ : L2.St) (i : Nat) (x : V) (D : Addr) (H' : Hp) : Prop :=
  g x (wipe σ vs) H' fun σ2 H2 => wipe σ2 vs = wipe σ vs ∧ tt σ2 H2 fun b H3 => if b = true then te σ2 H3 fun y H4 => LcY G P i D y H4 else LcN G P i D H3
theorem lc_go {n : Nat} {J : It} (hh : Hold G mu H) (src : Nat → V → Prop) (P : Nat → List V → Hp → Mu → Prop) (h0 : P 0 [] G mu)
    (hstop : ∀ H', Ex G H' → J.stop n H') (hgo : ∀ i H', i < n → Ex G H' → J.go i H') (hy : ∀ i H' x H'', i < n → Ex G H' → J.yld i H' x H'' → H'' = H' ∧ src i x)
    (hs : ∀ i x D acc G' mu' H', i < n → src i x → acc.length ≤ i → Ex G G' → Hold G' ((D, .lst acc) :: mu') H' → P i acc G' mu' → LcTurn G P g tt te vs σ i x D H')
    (hd : ∀ D acc G' mu' H', acc.length ≤ n → Ex G G' → Hold G' ((D, .lst acc) :: mu') H' → P n acc G' mu' → Q (.ref D) H') : LcW J g tt te vs σ H Q := by
  intro D hD
  refine ⟨fun i m H' => m = n - i ∧ i ≤ n ∧ ∃ acc G' mu', acc.length ≤ i ∧ Ex G G' ∧ Hold G' ((D, .lst acc) :: mu') H' ∧ P i acc G' mu', ⟨n, by simp, Nat.zero_le _, [], G, mu, Nat.le_refl _, Ex.refl G, hh.newm hD, h0⟩, ?_⟩
  rintro i m H' ⟨rfl, hi, acc, G', mu', hl, ex, hh', p⟩
  by_cases hlt : i < n
  · refine .inr ⟨hgo i H' hlt (ex.trans hh'.ex), LcN G P i D, fun H4 h4 => ⟨n - (i + 1), by omega, rfl, hlt, h4⟩, fun x H2 y => ?_⟩
    obtain ⟨e, hx⟩ := hy i H' x H2 hlt (ex.trans hh'.ex) y
    subst e
    exact hs i x D acc G' mu' _ hlt hx hl ex hh' p
  · have e : i = n := by omega
    subst e
    exact .inl ⟨hstop H' (ex.trans hh'.ex), hd D acc G' mu' H' hl ex hh' p⟩
theorem lcR1_by {n : Int} (hh : Hold G mu H) (hb : n < 2 ^ 62) (hb' : -(2 ^ 62) ≤ n) (P : Nat → List V → Hp → Mu → Prop) (h0 : P 0 [] G mu)
    (hs : ∀ (i : Nat) D acc G' mu' H', (i : Int) < n → acc.length ≤ i → Ex G G' → Hold G' ((D, .lst acc) :: mu') H' → P i acc G' mu' → LcTurn G P g tt te vs σ i (.int (i : Int)) D H')
    (hd : ∀ D acc G' mu' H', acc.length ≤ n.toNat → Ex G G' → Hold G' ((D, .lst acc) :: mu') H' → P n.toNat acc G' mu' → Q (.ref D) H') : LcR1 g tt te vs σ Q [.int n] H :=
  ⟨n, rfl, hb', hb, lc_go hh (fun i x => x = .int (i : Int)) P h0 (fun _ _ => Nat.le_refl _) (fun i H' hi _ => hi) (fun i H' x H'' _ _ y => ⟨y.1, by have := y.2; rw [Int.zero_add] at this; exact this⟩)
    (fun i x D acc G' mu' H' hi e hl ex h p => by subst e; exact hs i D acc G' mu' H' (by omega) hl ex h p) hd⟩
theorem lcR2_by {lo n : Int} (hh : Hold G mu H) (h1 : -(2 ^ 62) ≤ lo) (h2 : lo < 2 ^ 62) (h3 : -(2 ^ 62) ≤ n) (h4 : n < 2 ^ 62) (P : Nat → List V → Hp → Mu → Prop) (h0 : P 0 [] G mu)
    (hs : ∀ (i : Nat) D acc G' mu' H', lo + (i : Int) < n → acc.length ≤ i → Ex G G' → Hold G' ((D, .lst acc) :: mu') H' → P i acc G' mu' → LcTurn G P g tt te vs σ i (.int (lo + (i : Int))) D H')
    (hd : ∀ D acc G' mu' H', acc.length ≤ (n - lo).toNat → Ex G G' → Hold G' ((D, .lst acc) :: mu') H' → P (n - lo).toNat acc G' mu' → Q (.ref D) H') : LcR2 g tt te vs σ Q [.int lo, .int n] H :=
  ⟨lo, n, rfl, ⟨h1, h2, h3, h4⟩, lc_go hh (fun i x => x = .int (lo + (i : Int))) P h0 (fun _ _ => Nat.le_refl _) (fun i H' hi _ => hi) (fun i H' x H'' _ _ y => ⟨y.1, y.2⟩)
    (fun i x D acc G' mu' H' hi e hl ex h p => by subst e; exact hs i D acc G' mu' H' (by omega) hl ex h p) hd⟩
theorem lcL_by (hh : Hold G mu H) (e : SqL K G a xs) (P : Nat → List V → Hp → Mu → Prop) (h0 : P 0 [] G mu)
    (hs : ∀ i x D acc G' mu' H', xs[i]? = some x → acc.length ≤ i → Ex G G' → Hold G' ((D, .lst acc) :: mu') H' → P i acc G' mu' → LcTurn G P g tt te vs σ i x D H')
    (hd : ∀ D acc G' mu' H', acc.length ≤ xs.length → Ex G G' → Hold G' ((D, .lst acc) :: mu') H' → P xs.length acc G' mu' → Q (.ref D) H') : LcL K g tt te vs σ Q (.ref a) H :=
  ⟨a, rfl, ⟨xs, hh.lst e⟩, lc_go hh (fun i x => xs[i]? = some x) P h0 (fun H' ex => ⟨xs, e.up ex, Nat.le_refl _⟩) (fun i H' hi ex => ⟨xs, xs[i], e.up ex, by simp [hi]⟩) (fun i H' x H'' _ ex y => ⟨y.1, y.2 xs (e.up ex)⟩)
    (fun i x D acc G' mu' H' hi e2 hl ex h p => hs i x D acc G' mu' H' e2 hl ex h p) hd⟩
theorem lcT_by (hh : Hold G mu H) (e : SqT K G a xs) (P : Nat → List V → Hp → Mu → Prop) (h0 : P 0 [] G mu)
    (hs : ∀ i x D acc G' mu' H', xs[i]? = some x → acc.length ≤ i → Ex G G' → Hold G' ((D, .lst acc) :: mu') H' → P i acc G' mu' → LcTurn G P g tt te vs σ i x D H')
    (hd : ∀ D acc G' mu' H', acc.length ≤ xs.length → Ex G G' → Hold G' ((D, .lst acc) :: mu') H' → P xs.length acc G' mu' → Q (.ref D) H') : LcT K g tt te vs σ Q (.ref a) H :=
  ⟨a, rfl, ⟨xs, hh.tup e⟩, lc_go hh (fun i x => xs[i]? = some x) P h0 (fun H' ex => ⟨xs, e.up ex, Nat.le_refl _⟩) (fun i H' hi ex => ⟨xs, xs[i], e.up ex, by simp [hi]⟩) (fun i H' x H'' _ ex y => ⟨y.1, y.2 xs (e.up ex)⟩)
    (fun i x D acc G' mu' H' hi e2 hl ex h p => hs i x D acc G' mu' H' e2 hl ex h p) hd⟩
end
end Wm
namespace Wm
open PySem PySem.Spec PyProof.Rows L2 StX
theorem r_ty {K : PySem.W.Frag} {H : Hp} {p : Addr} {xs : List V} {R : Prop} (e : H p = some (.lst xs)) (k : R) : tyV K "list" (.ref p) H ∧ R := ⟨.inl ⟨rfl, xs, SqL.of e⟩, k⟩
theorem last_at {α : Type} {l : List α} {x : α} (h : l[l.length - 1]? = some x) : atI l (-1) = some x := by
  have hl := (List.getElem?_eq_some_iff.mp h).1
  unfold atI ixN
  rw [if_neg (by decide), if_pos (by omega)]
  show l[(-1 + (l.length : Int)).toNat]? = some x
  rw [show (-1 + (l.length : Int)).toNat = l.length - 1 by omega]
  exact h
theorem take_one {α : Type} {l : List α} {i : Nat} {x : α} (h : l[i]? = some x) : l.take (i + 1) = l.take i ++ [x] := by
  rw [List.take_add_one, h] <;> rfl
end Wm
/-! ## 8. Data compared -/
namespace Wm
open PySem PySem.Spec PyProof.Rows L2 StX
section
variable {K : PySem.W.Frag} {H : Hp} {Q : VK} {p q : Addr} {xs ys : List Int}
theorem dpAll_ints (xs : List Int) : DpAll K H (xs.map V.int) (xs.map PyData.int) := by
  induction xs with
  | nil => exact .nil
  | cons x r ih => exact .cons (.int x) ih
theorem canLay_ints (xs : List Int) : PyData.canLayAll0 (xs.map PyData.int) = true := by
  induction xs with
  | nil => rfl
  | cons x r ih =>
    simp only [List.map_cons, PyData.canLayAll0, PyData.canLay0, Bool.true_and]
    exact ih
theorem depth_ints (xs : List Int) : PyData.depthAll (xs.map PyData.int) = 0 := by
  induction xs with
  | nil => rfl
  | cons x r ih =>
    simp only [List.map_cons, PyData.depthAll, PyData.depth, ih]
    rfl
theorem eqv_ints : ∀ xs ys : List Int, PyData.eqvAll (xs.map PyData.int) (ys.map PyData.int) = decide (xs = ys)
  | [], [] => rfl
  | x :: xs, [] => by simp [PyData.eqvAll]
  | [], y :: ys => by simp [PyData.eqvAll]
  | x :: xs, y :: ys => by
    simp only [List.map_cons, PyData.eqvAll, PyData.eqv, eqv_ints xs ys]
    by_cases h : x = y
    · subst h; simp
    · simp [h]
theorem shaped_lst {ds : List PyData} (h : PyData.canLayAll0 ds = true) (hd : PyData.depthAll ds ≤ 60) : SeqAt.shaped (.list ds) = true := by
  unfold SeqAt.shaped
  rw [Bool.and_eq_true]
  refine ⟨by simpa [PyData.canLay0] using h, decide_eq_true (by simp only [PyData.depth]; omega)⟩
theorem shaped_tup {ds : List PyData} (h : PyData.canLayAll0 ds = true) (hd : PyData.depthAll ds ≤ 60) : SeqAt.shaped (.tuple ds) = true := by
  unfold SeqAt.shaped
  rw [Bool.and_eq_true]
  refine ⟨by simpa [PyData.canLay0] using h, decide_eq_true (by simp only [PyData.depth]; omega)⟩
theorem neI (h1 : SqL K H p (xs.map V.int)) (h2 : SqL K H q (ys.map V.int)) (k : Q (.bl (!decide (xs = ys))) H) : rNeD K (.ref p) (.ref q) H Q :=
  ⟨_, _, .lst h1 (dpAll_ints xs), .lst h2 (dpAll_ints ys), shaped_lst (canLay_ints xs) (by rw [depth_ints]; decide), shaped_lst (canLay_ints ys) (by rw [depth_ints]; decide), by simp only [PyData.eqv, eqv_ints]; exact k⟩
theorem eqI (h1 : SqL K H p (xs.map V.int)) (h2 : SqL K H q (ys.map V.int)) (k : Q (.bl (decide (xs = ys))) H) : rEqD K (.ref p) (.ref q) H Q :=
  ⟨_, _, .lst h1 (dpAll_ints xs), .lst h2 (dpAll_ints ys), shaped_lst (canLay_ints xs) (by rw [depth_ints]; decide), shaped_lst (canLay_ints ys) (by rw [depth_ints]; decide), by simp only [PyData.eqv, eqv_ints]; exact k⟩
theorem neT (h1 : SqT K H p (xs.map V.int)) (h2 : SqT K H q (ys.map V.int)) (k : Q (.bl (!decide (xs = ys))) H) : rNeD K (.ref p) (.ref q) H Q :=
  ⟨_, _, .tup h1 (dpAll_ints xs), .tup h2 (dpAll_ints ys), shaped_tup (canLay_ints xs) (by rw [depth_ints]; decide), shaped_tup (canLay_ints ys) (by rw [depth_ints]; decide), by simp only [PyData.eqv, eqv_ints]; exact k⟩
theorem eqT (h1 : SqT K H p (xs.map V.int)) (h2 : SqT K H q (ys.map V.int)) (k : Q (.bl (decide (xs = ys))) H) : rEqD K (.ref p) (.ref q) H Q :=
  ⟨_, _, .tup h1 (dpAll_ints xs), .tup h2 (dpAll_ints ys), shaped_tup (canLay_ints xs) (by rw [depth_ints]; decide), shaped_tup (canLay_ints ys) (by rw [depth_ints]; decide), by simp only [PyData.eqv, eqv_ints]; exact k⟩
theorem min_by (h : SqL K H p (xs.map V.int)) (hne : 0 < xs.length) (k : ∀ m, m ∈ xs → (∀ y, y ∈ xs → m ≤ y) → Q (.int m) H) : rMin K [.ref p] H Q := ⟨p, xs, rfl, h, hne, k⟩
theorem max_by (h : SqL K H p (xs.map V.int)) (hne : 0 < xs.length) (k : ∀ m, m ∈ xs → (∀ y, y ∈ xs → y ≤ m) → Q (.int m) H) : rMax K [.ref p] H Q := ⟨p, xs, rfl, h, hne, k⟩
theorem sum_by (h : SqL K H p (xs.map V.int)) (k : Q (.int xs.sum) H) : rSum K [.ref p] H Q := ⟨p, xs, rfl, h, k⟩
theorem isN {x : V} (k : Q (.bl (decide (x = .non))) H) : rIsN x .non H Q := ⟨rfl, k⟩
theorem notN {x : V} (k : Q (.bl (!decide (x = .non))) H) : rNotN x .non H Q := ⟨rfl, k⟩
end
end Wm
namespace Wm
open PySem PySem.Spec PyProof.Rows L2 StX
theorem Hold.start (H : Hp) : Hold H [] H := ⟨Ex.refl H, (fun _ h => by cases h), (fun _ h => by cases h), List.nodup_nil⟩
end Wm
namespace Wm
open PySem PySem.Spec PyProof.Rows L2 StX
section
variable {K : PySem.W.Frag} {G H : Hp} {mu : Mu} {Q : VK} {xs : List V}
/-- a new object, told only by where it stands: it was not there ahead -/
theorem tup_n (hP : xs.length ≤ sizeLine) (hh : Hold G mu H) (k : ∀ p H', G p = none → H' p = some (.tup xs) → Hold G mu H' → Q (.ref p) H') : rTup xs H Q :=
  ⟨hP, fun p hp => k p _ (hh.g_none hp) upd_same (hh.newg hp)⟩
theorem lst_n (hP : xs.length ≤ sizeLine) (hh : Hold G mu H) (k : ∀ p H', G p = none → H' p = some (.lst xs) → Hold G mu H' → Q (.ref p) H') : rLst xs H Q :=
  ⟨hP, fun p hp => k p _ (hh.g_none hp) upd_same (hh.newg hp)⟩
end
end Wm
end

section
/-! ## A dict from triples (int, int, bool) to their numbers in the order of coming -/
namespace Wm
open PySem PySem.Spec PyProof.Rows L2
abbrev K3 := Int × Int × Bool
def lf (k : K3) : List Leaf := [.num k.1, .num k.2.1, .num (if k.2.2 = true then 1 else 0)]
def tv3 (k : K3) : List V := [.int k.1, .int k.2.1, .bl k.2.2]
theorem lf_inj {a b : K3} (h : lf a = lf b) : a = b := by
  obtain ⟨a1, a2, a3⟩ := a
  obtain ⟨b1, b2, b3⟩ := b
  simp only [lf, List.cons.injEq, Leaf.num.injEq, and_true] at h
  obtain ⟨h1, h2, h3⟩ := h
  subst h1 h2
  cases a3 <;> cases b3 <;> first | rfl | simp at h3
/-- the entry of number i -/
def SeenE (i : Nat) (k : K3 × Addr) (x : List Leaf × Addr × Value) : Prop := x.1 = lf k.1 ∧ x.2.1 = k.2 ∧ ∃ t, x.2.2 = .int (i : Int) t
structure SeenX (ks : List (K3 × Addr)) (xs : List (List Leaf × Addr × Value)) : Prop where
  len : xs.length = ks.length
  at_ : ∀ i k x, ks[i]? = some k → xs[i]? = some x → SeenE i k x
def SeenAt (P : Program) (w : World) (a : Addr) (ks : List (K3 × Addr)) (h : Heap) : Prop :=
  (a == sysModules) = false ∧ ∃ xs, SeenX ks xs ∧ ∃ o es ep, h.get? a = some o ∧ o.ExactDict ∧ o.data = .dict es ep ∧ es.toList = xs.map (entryOfKey (tupleKind (leafKind P w))) ∧ (xs.map (·.1)).Nodup
def SeenO (P : Program) (w : World) (a : Addr) (ks : List (K3 × Addr)) : HO := .ext (SeenAt P w a ks)
theorem seen_ok {P : Program} {w : World} {H : Hp} {h : Heap} {a : Addr} {ks : List (K3 × Addr)} (s : SeenAt P w a ks h) : ObjOk P w H h a (SeenO P w a ks) := by
  obtain ⟨hd, xs, hx, o, es, ep, ho, r⟩ := id s
  refine ⟨s, ⟨o, ho⟩, fun h1 h2 q st => ?_⟩
  obtain ⟨hd', xs', hx', o', es', ep', ho', r'⟩ := q
  exact ⟨hd', xs', hx', o', es', ep', st _ ho', r'⟩
section
variable {X : Cx} {pins : List (Addr × Obj)} {σ : L2.St} {H : Hp} {s : Shared} {a t : Addr} {ks : List (K3 × Addr)} {k : K3}
theorem seen_key (I : Inv X pins σ H s) (e : H t = some (.tup (tv3 k))) : (tupleKind (leafKind X.prog X.w)).is s.heap (lf k) t := by
  obtain ⟨_, its, r, o, h1, h2, n, h3⟩ := (show ObjOk X.prog X.w H s.heap t (.tup (tv3 k)) from I.hok t _ e)
  refine ⟨o, its.toArray, n, h1, h2, h3, ?_⟩
  obtain ⟨k1, k2, k3⟩ := k
  cases r with
  | cons r1 r =>
    cases r with
    | cons r2 r =>
      cases r with
      | cons r3 r =>
        cases r
        obtain ⟨t1, rfl⟩ := r1
        obtain ⟨t2, rfl⟩ := r2
        cases r3
        refine .cons ?_ (.cons ?_ (.cons ?_ .nil))
        · show Leaf.isOf (.num k1) (.int k1 t1) = true
          simp [Leaf.isOf]
        · show Leaf.isOf (.num k2) (.int k2 t2) = true
          simp [Leaf.isOf]
        · show Leaf.isOf (.num (if k3 = true then 1 else 0)) (.bool k3) = true
          cases k3 <;> simp [Leaf.isOf]
theorem seen_rd (I : Inv X pins σ H s) (e : H a = some (SeenO X.prog X.w a ks)) (et : ∀ q ∈ ks, H q.2 = some (.tup (tv3 q.1))) :
    (a == sysModules) = false ∧ ∃ xs, SeenX ks xs ∧ s.heap.DictOfH (tupleKind (leafKind X.prog X.w)) a xs := by
  obtain ⟨⟨hd, xs, hx, o, es, ep, ho, h1, h2, h3, h4⟩, _⟩ := (show ObjOk X.prog X.w H s.heap a (SeenO X.prog X.w a ks) from I.hok a _ e)
  refine ⟨hd, xs, hx, o, es, ep, ho, h1, h2, h3, fun x hm => ?_, h4⟩
  obtain ⟨i, hi⟩ := List.mem_iff_getElem?.mp hm
  have hl : i < ks.length := by rw [← hx.len]; exact (List.getElem?_eq_some_iff.mp hi).1
  obtain ⟨q, hq⟩ := get_some hl
  obtain ⟨e1, e2, _⟩ := hx.at_ i q x hq hi
  rw [e1, e2]
  exact seen_key I (et q (List.mem_of_getElem? hq))
theorem find_of {xs : List (List Leaf × Addr × Value)} (nd : (xs.map (·.1)).Nodup) {i : Nat} {x : List Leaf × Addr × Value} (h : xs[i]? = some x) : atKey xs x.1 = some x.2 := by
  unfold atKey
  have : xs.find? (fun y => decide (y.1 = x.1)) = some x := by
    cases e : xs.find? (fun y => decide (y.1 = x.1)) with
    | none =>
      have := List.find?_eq_none.mp e x (List.mem_of_getElem? h)
      simp at this
    | some y =>
      have h1 := List.find?_some e
      have h2 := List.mem_of_find?_eq_some e
      obtain ⟨j, hj⟩ := List.mem_iff_getElem?.mp h2
      have ee : y.1 = x.1 := by simpa using h1
      have : j = i := by
        have a1 : (xs.map (·.1))[j]? = some x.1 := by rw [List.getElem?_map, hj] <;> simp [ee]
        have a2 : (xs.map (·.1))[i]? = some x.1 := by rw [List.getElem?_map, h] <;> rfl
        obtain ⟨l1, e1⟩ := List.getElem?_eq_some_iff.mp a1
        obtain ⟨l2, e2⟩ := List.getElem?_eq_some_iff.mp a2
        exact (List.getElem_inj nd).mp (e1.trans e2.symm)
      subst this
      rw [hj] at h
      exact h
  rw [this] <;> rfl
theorem seen_at {xs : List (List Leaf × Addr × Value)} (hx : SeenX ks xs) (nd : (xs.map (·.1)).Nodup) {i : Nat} {q : Addr} (h : ks[i]? = some (k, q)) : ∃ tk, atKey xs (lf k) = some (q, .int (i : Int) tk) := by
  have hl : i < xs.length := by rw [hx.len]; exact (List.getElem?_eq_some_iff.mp h).1
  obtain ⟨x, hxi⟩ := get_some hl
  obtain ⟨e1, e2, tk, e3⟩ := hx.at_ i _ x h hxi
  refine ⟨tk, ?_⟩
  rw [show lf k = x.1 from e1.symm, find_of nd hxi]
  obtain ⟨x1, x2, x3⟩ := x
  simp only at e2 e3
  rw [e2, e3]
theorem seen_no {xs : List (List Leaf × Addr × Value)} (hx : SeenX ks xs) (h : k ∉ ks.map (·.1)) : atKey xs (lf k) = none := by
  unfold atKey
  rw [List.find?_eq_none.mpr (fun x hm => ?_)]
  · rfl
  · obtain ⟨i, hi⟩ := List.mem_iff_getElem?.mp hm
    have hl : i < ks.length := by rw [← hx.len]; exact (List.getElem?_eq_some_iff.mp hi).1
    obtain ⟨q, hq⟩ := get_some hl
    obtain ⟨e1, _⟩ := hx.at_ i q x hq hi
    rw [e1]
    simp only [decide_eq_true_eq]
    intro z
    have := lf_inj z
    exact h (this ▸ List.mem_map_of_mem (List.mem_of_getElem? hq))
/-- {} -/
def tSeenNew (P : Program) (w : World) : TE := fun _ H Q => ∀ p, H p = none → Q (.ref p) (upd H p (SeenO P w p []))
theorem pe_seenNew {pos : Pos} : PE X (.Dict [] [] pos) (tSeenNew X.prog X.w) := ⟨fun pins s σ H Q I h =>
  wpAny_Dict_empty ⟨.ref s.heap.objs.size, _, I.laid (a := s.heap.objs.size) (o := SeenO X.prog X.w s.heap.objs.size []) (t' := s.toks) (fun _ _ q => Heap.get?_push_of_some _ q) (Nat.le_refl _)
    (seen_ok ⟨beq_eq_false_iff_ne.mpr (Ne.symm (Nat.ne_of_lt I.big)), [], ⟨rfl, fun i k x h => by simp at h⟩, _, #[], 0, Heap.get?_push_size _ rfl, ⟨rfl, rfl, rfl⟩, rfl, rfl, List.nodup_nil⟩), rfl, h _ (I.hok.fresh (Nat.le_refl _))⟩⟩
/-- key in seen -/
def rSeenIn (P : Program) (w : World) : R2 := fun x y H Q => ∃ (a t : Addr) (ks : List (K3 × Addr)) (k : K3), x = .ref t ∧ y = .ref a ∧ H a = some (SeenO P w a ks) ∧ H t = some (.tup (tv3 k)) ∧ (∀ q ∈ ks, H q.2 = some (.tup (tv3 q.1))) ∧ Q (.bl (decide (k ∈ ks.map (·.1)))) H
theorem op_seenIn (hu : X.A.units + 1 < cLine) : OpR X (compareOp .In) (rSeenIn X.prog X.w) := by
  intro pins s σ H x y v u Q I rx ry h
  obtain ⟨a, t, ks, k, rfl, rfl, ea, ek, et, q⟩ := h
  cases rx
  cases ry
  obtain ⟨hd, xs, hx, dd⟩ := seen_rd I ea et
  refine wpAny_in_heap (tupleKind_room_in1 hu) (seen_key I ek) hd dd ?_
  have e : (atKey xs (lf k)).isSome = decide (k ∈ ks.map (·.1)) := by
    by_cases hm : k ∈ ks.map (·.1)
    · obtain ⟨⟨k', qa⟩, hq, rfl⟩ := List.mem_map.mp hm
      obtain ⟨i, hi⟩ := List.mem_iff_getElem?.mp hq
      obtain ⟨_, _, _, _, _, _, _, _, nd⟩ := id dd
      obtain ⟨tk, e⟩ := seen_at hx nd hi
      rw [e, decide_eq_true hm] <;> rfl
    · rw [seen_no hx hm, decide_eq_false hm] <;> rfl
  rw [e]
  exact ⟨.bl _, H, I.tok _, rfl, q⟩
/-- seen[key], there -/
def rSeenGet (P : Program) (w : World) : R2 := fun x y H Q => ∃ (a t : Addr) (ks : List (K3 × Addr)) (k : K3) (i : Nat) (q : Addr), x = .ref a ∧ y = .ref t ∧ H a = some (SeenO P w a ks) ∧ H t = some (.tup (tv3 k)) ∧ (∀ q ∈ ks, H q.2 = some (.tup (tv3 q.1))) ∧ ks[i]? = some (k, q) ∧ Q (.int (i : Int)) H
def tSeenGet (P : Program) (w : World) (td ty : TE) : TE := fun σ H Q => td σ H fun x H1 => ty σ H1 fun y H2 => rSeenGet P w x y H2 Q
theorem pe_seenGet {o i : Expr} {td ty : TE} {pos : Pos} (hu : X.A.units + 1 < cLine) (ho : PE X o td) (hi : PE X i ty) (hs : NoSl i := by exact fun _ _ => rfl) : PE X (.Subscript o i pos) (tSeenGet X.prog X.w td ty) := by
  refine ⟨fun pins s σ H Q I h => ?_⟩
  refine subD_of PySem.F.slot_dict_getitem.lookup hs (thn (ho.run pins s σ H _ I h) fun u s1 ⟨x, H1, I1, rx, q1⟩ => thn (hi.run pins s1 σ H1 _ I1 q1) fun iv s2 ⟨y, H2, I2, ry, a, t, ks, k, i, qa, ex, ey, ea, ek, et, hk, q2⟩ => ?_)
  subst ex ey
  obtain rfl : u = Value.ref a := rx
  obtain rfl : iv = Value.ref t := ry
  obtain ⟨hd, xs, hx, dd⟩ := seen_rd I2 ea et
  obtain ⟨_, _, _, _, _, _, _, _, nd⟩ := id dd
  obtain ⟨tk, e⟩ := seen_at hx nd hk
  exact ⟨dd.typeIs, wpAny_getItem_heap (tupleKind_room_in1 hu) (seen_key I2 ek) dd e ⟨.int (i : Int), H2, I2.tok _, ⟨tk, rfl⟩, q2⟩⟩
/-- seen[key] = its number, new -/
def sSeenPut (P : Program) (w : World) (td ty tv : TE) : TS := fun D σ H => tv σ H fun z H1 => td σ H1 fun x H2 => ty σ H2 fun y H3 => ∃ (a t : Addr) (ks : List (K3 × Addr)) (k : K3), z = .int (ks.length : Int) ∧ x = .ref a ∧ y = .ref t ∧ H3 a = some (SeenO P w a ks) ∧ H3 t = some (.tup (tv3 k)) ∧
  (∀ q ∈ ks, H3 q.2 = some (.tup (tv3 q.1))) ∧ k ∉ ks.map (·.1) ∧ ks.length < sizeLine ∧ D.nx σ (upd H3 a (SeenO P w a (ks ++ [(k, t)])))
theorem ps_seenPut {o i value : Expr} {td ty tv : TE} {pos pos' : Pos} (hu : X.A.units + 1 < cLine) (ho : PE X o td) (hi : PE X i ty) (hv : PE X value tv) (hs : swapsWith value (some (.Subscript o i pos')) pos.line X.env = pure false) :
    PS X (.Assign [.Subscript o i pos'] value pos) (sSeenPut X.prog X.w td ty tv) := by
  refine ⟨fun pins s σ H D I h => ?_⟩
  refine wpAny_Assign_Subscript (thn (hv.run pins s σ H _ I h) fun r s1 ⟨v, H1, I1, rv, q1⟩ => thn (ho.run pins s1 σ H1 _ I1 q1) fun u s2 ⟨x, H2, I2, rx, q2⟩ => thn (hi.run pins s2 σ H2 _ I2 q2) fun iv s3 ⟨y, H3, I3, ry, a, t, ks, k, ez, ex, ey, ea, ek, et, hk, hl, q3⟩ => ?_) hs
  subst ex ey ez
  obtain rfl : u = Value.ref a := rx
  obtain rfl : iv = Value.ref t := ry
  obtain ⟨tk, rfl⟩ := rv
  obtain ⟨hd, xs, hx, dd⟩ := seen_rd I3 ea et
  have hz : xs.length ≤ sizeLine := by rw [hx.len]; exact Nat.le_of_lt hl
  refine wpAny_setItem_heap (hsz := hz) (tupleKind_room_in1 hu) (seen_key I3 ek) dd fun h' dd' hsb => ⟨σ, _, ?_, q3⟩
  rw [storedH_new (seen_no hx hk)] at dd'
  obtain ⟨qo, es, ep, hq, h2, h3, h4, _, h5⟩ := dd'
  refine d_write I3 (by rw [ea]; exact True.intro) hsb ⟨qo, hq⟩ (seen_ok ⟨hd, _, ⟨by simp [hx.len], fun j kk x hj hxj => ?_⟩, qo, es, ep, hq, h2, h3, h4, h5⟩)
  by_cases hlt : j < ks.length
  · rw [List.getElem?_append_left hlt] at hj
    rw [List.getElem?_append_left (by rw [hx.len]; exact hlt)] at hxj
    exact hx.at_ j kk x hj hxj
  · have hj2 := (List.getElem?_eq_some_iff.mp hj).1
    have e : j = ks.length := by simp at hj2; omega
    subst e
    rw [List.getElem?_append_right (Nat.le_refl _)] at hj
    rw [List.getElem?_append_right (by rw [hx.len]; exact Nat.le_refl _)] at hxj
    simp at hj
    simp [hx.len] at hxj
    subst hj hxj
    exact ⟨rfl, rfl, tk, rfl⟩
end
end Wm
end

section
local macro_rules | `(tactic| walk_at "cls") => `(tactic| first | (with_reducible exact Wm.WeatherC.cl (by assumption)) | (with_reducible exact Wm.HeaterC.cl (by assumption)) | (with_reducible exact Wm.RoomC.cl (by assumption)) | (with_reducible exact Wm.RunC.cl (by assumption)) | (with_reducible exact Wm.HistoryC.cl (by assumption)) | (with_reducible exact Wm.ThresholdObserverC.cl (by assumption)) | (with_reducible exact Wm.SettingC.cl (by assumption)) | (with_reducible exact Wm.HourSettingC.cl (by assumption)) | (with_reducible exact Wm.RestSettingC.cl (by assumption)) | (with_reducible exact Wm.PricesC.cl (by assumption)) | (with_reducible exact Wm.MomentC.cl (by assumption)) | (with_reducible exact Wm.LiveRoomC.cl (by assumption)) | (with_reducible exact Wm.AttemptC.cl (by assumption)))
local macro_rules | `(tactic| walk_at "noattr") => `(tactic| first | (with_reducible exact Wm.WeatherC.n_pattern (by assumption)) | (with_reducible exact Wm.HeaterC.n_power (by assumption)) | (with_reducible exact Wm.HeaterC.n_below (by assumption)) | (with_reducible exact Wm.HeaterC.n_above (by assumption)) | (with_reducible exact Wm.RoomC.n_outside (by assumption)) | (with_reducible exact Wm.RoomC.n_inside (by assumption)) | (with_reducible exact Wm.RoomC.n_begin_degrees (by assumption)) | (with_reducible exact Wm.RoomC.n_past (by assumption)) | (with_reducible exact Wm.RoomC.n_repeated (by assumption)) | (with_reducible exact Wm.RoomC.n_share (by assumption)) | (with_reducible exact Wm.RoomC.n_coldest (by assumption)) | (with_reducible exact Wm.RoomC.n_warmest (by assumption)) | (with_reducible exact Wm.RunC.n_begin (by assumption)) | (with_reducible exact Wm.RunC.n_end (by assumption)) | (with_reducible exact Wm.RunC.n_degrees (by assumption)) | (with_reducible exact Wm.RunC.n_is_heating (by assumption)) | (with_reducible exact Wm.RunC.n_sums (by assumption)) | (with_reducible exact Wm.RunC.n_size (by assumption)) | (with_reducible exact Wm.RunC.n_drift (by assumption)) | (with_reducible exact Wm.HistoryC.n_shifts (by assumption)) | (with_reducible exact Wm.HistoryC.n_added (by assumption)) | (with_reducible exact Wm.HistoryC.n_floor (by assumption)) | (with_reducible exact Wm.HistoryC.n_ceiling (by assumption)) | (with_reducible exact Wm.HistoryC.n_was_heating (by assumption)) | (with_reducible exact Wm.HistoryC.n_runs (by assumption)) | (with_reducible exact Wm.HistoryC.n_loop (by assumption)) | (with_reducible exact Wm.ThresholdObserverC.n_outside (by assumption)) | (with_reducible exact Wm.ThresholdObserverC.n_power (by assumption)) | (with_reducible exact Wm.ThresholdObserverC.n_tick (by assumption)) | (with_reducible exact Wm.ThresholdObserverC.n_degrees (by assumption)) | (with_reducible exact Wm.ThresholdObserverC.n_is_heating (by assumption)) | (with_reducible exact Wm.ThresholdObserverC.n_lows (by assumption)) | (with_reducible exact Wm.ThresholdObserverC.n_highs (by assumption)) | (with_reducible exact Wm.ThresholdObserverC.n_noted (by assumption)) | (with_reducible exact Wm.SettingC.n_least (by assumption)) | (with_reducible exact Wm.SettingC.n_most (by assumption)) | (with_reducible exact Wm.HourSettingC.n_least (by assumption)) | (with_reducible exact Wm.HourSettingC.n_most (by assumption)) | (with_reducible exact Wm.HourSettingC.n_length (by assumption)) | (with_reducible exact Wm.HourSettingC.n_hours (by assumption)) | (with_reducible exact Wm.RestSettingC.n_least (by assumption)) | (with_reducible exact Wm.RestSettingC.n_most (by assumption)) | (with_reducible exact Wm.RestSettingC.n_rest (by assumption)) | (with_reducible exact Wm.PricesC.n_table (by assumption)) | (with_reducible exact Wm.MomentC.n_tick (by assumption)) | (with_reducible exact Wm.MomentC.n_heat (by assumption)) | (with_reducible exact Wm.MomentC.n_on (by assumption)) | (with_reducible exact Wm.MomentC.n_burnt (by assumption)) | (with_reducible exact Wm.MomentC.n_sky (by assumption)) | (with_reducible exact Wm.MomentC.n_stove (by assumption)) | (with_reducible exact Wm.LiveRoomC.n_moment (by assumption)) | (with_reducible exact Wm.LiveRoomC.n_earlier (by assumption)) | (with_reducible exact Wm.LiveRoomC.n_done (by assumption)) | (with_reducible exact Wm.AttemptC.n_live (by assumption)) | (with_reducible exact Wm.AttemptC.n_kept (by assumption)) | (with_reducible exact Wm.AttemptC.n_stack (by assumption)) | (with_reducible exact Wm.AttemptC.n_steps (by assumption)))
local macro_rules | `(tactic| walk_at "at") => `(tactic| first | assumption | exact Wm.Hold.rd (by assumption) (by assumption) | exact Wm.Hold.get (i := 0) (by assumption) rfl | exact Wm.Hold.get (i := 1) (by assumption) rfl | exact Wm.Hold.get (i := 2) (by assumption) rfl | exact Wm.Hold.get (i := 3) (by assumption) rfl | exact Wm.Hold.get (i := 4) (by assumption) rfl)
local macro_rules | `(tactic| walk_at "s1") => `(tactic| first
  | (with_reducible refine Wm.r_seq ?_)
  | (with_reducible refine Wm.r_op ?_)
  | ((with_reducible refine' Wm.r_var ?h ?_); (case h => rfl))
  | (with_reducible refine Wm.r_c ?_)
  | (with_reducible refine Wm.r_I0 ?_)
  | (with_reducible refine Wm.r_cons ?_)
  | (with_reducible refine Wm.r_nil ?_)
  | (with_reducible refine Wm.r_asg ?_)
  | (with_reducible refine Wm.r_gname ?_; try simp only [List.set_cons_zero, List.set_cons_succ])
  | (with_reducible refine Wm.r_nx ?_)
  | (with_reducible refine Wm.r_rt ?_)
  | (with_reducible refine Wm.r_ret ?_)
  | (with_reducible refine Wm.r_test ?_)
  | (with_reducible refine Wm.r_bl ?_)
  | (with_reducible refine Wm.r_B ?_)
  | (with_reducible refine Wm.r_eqI ?_)
  | (with_reducible refine Wm.r_neI ?_)
  | (with_reducible refine Wm.r_eqB ?_)
  | (with_reducible refine Wm.r_neB ?_)
  | (with_reducible refine Wm.r_fld ?_)
  | (with_reducible refine Wm.r_call ?_)
  | (with_reducible refine Wm.r_mtd ?_)
  | (with_reducible refine Wm.r_prp ?_)
  | (with_reducible refine Wm.r_mak ?_)
  | (with_reducible refine Wm.r_cb ?_)
  | (with_reducible refine Wm.r_tup ?_)
  | (with_reducible refine Wm.r_lst ?_)
  | (with_reducible refine Wm.r_chain ?_)
  | (with_reducible refine Wm.r_and ?_)
  | (with_reducible refine Wm.r_or ?_)
  | (with_reducible refine Wm.r_not ?_)
  | (with_reducible refine Wm.r_andV ?_)
  | (with_reducible refine Wm.r_orV ?_)
  | (with_reducible refine Wm.r_notV ?_)
  | (with_reducible refine Wm.r_if ?_)
  | (with_reducible refine Wm.r_un ?_)
  | (with_reducible refine Wm.r_U ?_)
  | (with_reducible refine Wm.r_iteT ?_)
  | (with_reducible refine Wm.r_iteF ?_)
  | (with_reducible refine Wm.r_next ?_)
  | (with_reducible refine Wm.r_drop ?_)
  | (with_reducible refine Wm.r_retN ?_)
  | ((with_reducible refine' Wm.r_aug ?h ?_); (case h => rfl))
  | (with_reducible refine Wm.r_ipI ?_)
  | (with_reducible refine Wm.r_par ?_)
  | (with_reducible refine Wm.r_two ?_; try simp only [List.set_cons_zero, List.set_cons_succ])
  | (with_reducible refine Wm.r_sl ?_)
  | (with_reducible refine Wm.r_nopart ?_)
  | (with_reducible refine Wm.r_part ?_)
  | (with_reducible refine Wm.r_xi ?_)
  | (with_reducible refine Wm.r_gcons ?_)
  | (with_reducible refine Wm.r_gnil ?_)
  | (with_reducible refine Wm.r_sub ?_)
  | (with_reducible refine Wm.r_setF ?_)
  | (with_reducible refine Wm.r_app ?_)
  | (with_reducible refine Wm.int_i ?_)
  | (with_reducible refine Wm.int_b ?_)
  | (with_reducible refine Wm.min2 ?_)
  | (with_reducible refine Wm.max2 ?_)
  | (with_reducible refine Wm.abs1 ?_)
  | (with_reducible refine Wm.isN ?_)
  | (with_reducible refine Wm.notN ?_)
  | ((with_reducible refine' Wm.r_ty ?e ?_); (case e => walk_at "at"))
  | ((with_reducible refine' Wm.setF_m ?h 0 ?e ?c ?a ?l ?_); (case h => assumption); (case e => rfl); (case c => walk_at "cls"); (case a => walk_at "noattr"); (case l => exact of_decide_eq_true rfl); intro H1 hh1; simp only [List.set_cons_zero, List.set_cons_succ] at hh1)
  | ((with_reducible refine' Wm.setF_m ?h 1 ?e ?c ?a ?l ?_); (case h => assumption); (case e => rfl); (case c => walk_at "cls"); (case a => walk_at "noattr"); (case l => exact of_decide_eq_true rfl); intro H1 hh1; simp only [List.set_cons_zero, List.set_cons_succ] at hh1)
  | ((with_reducible refine' Wm.setF_m ?h 2 ?e ?c ?a ?l ?_); (case h => assumption); (case e => rfl); (case c => walk_at "cls"); (case a => walk_at "noattr"); (case l => exact of_decide_eq_true rfl); intro H1 hh1; simp only [List.set_cons_zero, List.set_cons_succ] at hh1)
  | ((with_reducible refine' Wm.setF_m ?h 3 ?e ?c ?a ?l ?_); (case h => assumption); (case e => rfl); (case c => walk_at "cls"); (case a => walk_at "noattr"); (case l => exact of_decide_eq_true rfl); intro H1 hh1; simp only [List.set_cons_zero, List.set_cons_succ] at hh1)
  | (with_reducible refine Wm.r_forL ?_)
  | (with_reducible refine Wm.r_forT ?_)
  | (with_reducible refine Wm.r_forR1 ?_)
  | (with_reducible refine Wm.r_forR2 ?_)
  | (with_reducible refine Wm.r_lcL ?_)
  | (with_reducible refine Wm.r_lcT ?_)
  | (with_reducible refine Wm.r_lcR1 ?_)
  | (with_reducible refine Wm.r_lcR2 ?_)
  | ((with_reducible refine' Wm.fld_h ?e ?c ?n ?l ?_); (case e => walk_at "at"); (case c => walk_at "cls"); (case n => walk_at "noattr"); (case l => rfl))
  | ((with_reducible refine' Wm.mtd_h ?e ?l ?_); (case e => walk_at "at"); (case l => rfl))
  | ((with_reducible refine' Wm.prp_h ?e ?_); (case e => walk_at "at"))
  | ((with_reducible refine' Wm.rix_ht ?a ?b ?_); (case a => walk_at "at"); (case b => rfl))
  | ((with_reducible refine' Wm.rix_h ?a ?b ?_); (case a => walk_at "at"); (case b => rfl))
  | ((with_reducible refine' Wm.len_ht ?a ?_); (case a => walk_at "at"))
  | ((with_reducible refine' Wm.len_h ?a ?_); (case a => walk_at "at"))
  | ((with_reducible refine' Wm.len_l ?a ?b ?_); (case a => assumption); (case b => assumption))
  | ((with_reducible refine' Wm.len_t ?a ?b ?_); (case a => assumption); (case b => assumption))
  | ((with_reducible refine' Wm.gtup_h ?a ?b ?_); (case a => walk_at "at"); (case b => rfl))
  | (with_reducible refine Wm.r_I (Wm.cmulR (by decide)) ?_)
  | (with_reducible refine Wm.r_I (Wm.cmulL (by decide)) ?_)
  | (with_reducible refine Wm.r_I (Wm.cdiv (by decide) (by decide)) ?_)
  | (with_reducible refine Wm.r_I Wm.cpow18 ?_)
  | (with_reducible refine Wm.r_I Wm.cpow12 ?_)
  | (with_reducible refine Wm.r_I (by show (0 : Int) < _; decide) ?_))
local macro_rules | `(tactic| walk_at "s") => `(tactic| repeat (first | walk_at "s1" | (with_reducible refine Wm.r_ifS ?_)))
local macro_rules | `(tactic| walk_at "t") => `(tactic| repeat (walk_at "s1"))
local macro_rules | `(tactic| walk_at "sz") => `(tactic| exact of_decide_eq_true rfl)
namespace Wm
open PySem PySem.Spec PyProof.Rows L2 StX
/-! ## Runs -/
def psum (l : List Int) (i : Nat) : Int := (l.take i).sum
def sums (l : List Int) : List Int := (List.range (l.length + 1)).map (psum l)
def optI : Option Int → V
  | none => .non
  | some i => .int i
structure RunD where
  beg : Int
  fin : Option Int
  deg : Int
  on : Bool
  steps : List Int
def RunD.at_ (r : RunD) (t : Int) : Int := r.deg + (t - r.beg) / r.steps.length * r.steps.sum + psum r.steps ((t - r.beg) % r.steps.length).toNat
def runF (r : RunD) (s : Addr) : List (Str × V) := [("begin", .int r.beg), ("end", optI r.fin), ("degrees", .int r.deg), ("is_heating", .bl r.on), ("sums", .ref s), ("size", .int r.steps.length), ("drift", .int r.steps.sum)]
structure RunOk (r : RunD) : Prop where
  pos : 0 < r.steps.length
  len : r.steps.length ≤ 24
  ge : ∀ s ∈ r.steps, -100 ≤ s
  le : ∀ s ∈ r.steps, s ≤ 300
def IsRun (K : PySem.W.Frag) (A : Ads) (H : Hp) (p : Addr) (r : RunD) : Prop := RunC K A.cRun ∧ RunOk r ∧ ∃ dx s, H p = some (.ins A.cRun dx (runF r s)) ∧ H s = some (.lst ((sums r.steps).map V.int))
theorem IsRun.up {K : PySem.W.Frag} {A : Ads} {G H : Hp} {p : Addr} {r : RunD} (e : Ex G H) (h : IsRun K A G p r) : IsRun K A H p r := by
  obtain ⟨a, b, dx, s, h1, h2⟩ := h
  exact ⟨a, b, dx, s, e _ _ h1, e _ _ h2⟩
theorem psum_succ (l : List Int) {i : Nat} {x : Int} (h : l[i]? = some x) : psum l (i + 1) = psum l i + x := by
  unfold psum
  have hl := (List.getElem?_eq_some_iff.mp h).1
  rw [List.take_add_one, h]
  simp
theorem psum_all (l : List Int) : psum l l.length = l.sum := by unfold psum; rw [List.take_length]
theorem sums_len (l : List Int) : (sums l).length = l.length + 1 := by simp [sums]
theorem sums_at (l : List Int) {i : Nat} (h : i ≤ l.length) : (sums l)[i]? = some (psum l i) := by
  unfold sums
  rw [List.getElem?_map, List.getElem?_range (by omega)] <;> rfl
theorem sum_bound : ∀ (l : List Int), (∀ s ∈ l, -100 ≤ s) → (∀ s ∈ l, s ≤ 300) → -(100 * (l.length : Int)) ≤ l.sum ∧ l.sum ≤ 300 * l.length
  | [], _, _ => by simp
  | x :: l, h1, h2 => by
    have ih := sum_bound l (fun s hs => h1 s (List.mem_cons_of_mem _ hs)) (fun s hs => h2 s (List.mem_cons_of_mem _ hs))
    have a1 := h1 x List.mem_cons_self
    have a2 := h2 x List.mem_cons_self
    simp only [List.sum_cons, List.length_cons]
    omega
theorem RunOk.sumB {r : RunD} (h : RunOk r) : -2400 ≤ r.steps.sum ∧ r.steps.sum ≤ 7200 := by
  have := sum_bound r.steps h.ge h.le
  have := h.len
  omega
theorem RunOk.psumB {r : RunD} (h : RunOk r) (i : Nat) : -2400 ≤ psum r.steps i ∧ psum r.steps i ≤ 7200 := by
  have := sum_bound (r.steps.take i) (fun s hs => h.ge s (List.mem_of_mem_take hs)) (fun s hs => h.le s (List.mem_of_mem_take hs))
  have h2 : (r.steps.take i).length ≤ 24 := by rw [List.length_take]; have := h.len; omega
  unfold psum
  omega
def sp_Run_at (K : PySem.W.Frag) (A : Ads) : Sp := fun vs H Q _ => ∃ (p : Addr) (t : Int) (r : RunD), vs = [.ref p, .int t] ∧ IsRun K A H p r ∧ Q (.int (r.at_ t)) H
/-- where the bound is passed at a place of the round, for the first time -/
def fbAt (r : RunD) (bound sign : Int) (p : Nat) : Option Int :=
  if (bound - r.deg - psum r.steps p) * sign < 0 then some (r.beg + p)
  else if 0 < r.steps.sum * sign then some (r.beg + p + ((bound - r.deg - psum r.steps p) * sign / (r.steps.sum * sign) + 1) * r.steps.length)
  else none
def fbL (r : RunD) (bound sign : Int) (n : Nat) : List Int := (List.range n).filterMap (fbAt r bound sign)
def FB (r : RunD) (bound sign : Int) (o : Option Int) : Prop :=
  (o = none ∧ fbL r bound sign r.steps.length = []) ∨ ∃ m, o = some m ∧ m ∈ fbL r bound sign r.steps.length ∧ ∀ y ∈ fbL r bound sign r.steps.length, m ≤ y
theorem fbL_succ (r : RunD) (bound sign : Int) (n : Nat) : fbL r bound sign (n + 1) = fbL r bound sign n ++ (fbAt r bound sign n).toList := by
  unfold fbL
  rw [List.range_succ, List.filterMap_append]
  congr 1
theorem fbL_len (r : RunD) (bound sign : Int) (n : Nat) : (fbL r bound sign n).length ≤ n := by
  unfold fbL
  have := List.length_filterMap_le (fbAt r bound sign) (List.range n)
  rw [List.length_range] at this
  exact this
def sp_Run_first_beyond (K : PySem.W.Frag) (A : Ads) : Sp := fun vs H Q _ => ∃ (p : Addr) (bound sign : Int) (r : RunD), vs = [.ref p, .int bound, .int sign] ∧ IsRun K A H p r ∧ (sign = 1 ∨ sign = -1) ∧ ∀ o H', FB r bound sign o → Ex H H' → Q (optI o) H'
/-- (d, t): the greatest temperature times a sign up to a last tick, and the first such tick -/
def XIn (r : RunD) (last : Option Int) (u : Int) : Prop := r.beg ≤ u ∧ ∀ l, last = some l → u ≤ l
structure XT (r : RunD) (last : Option Int) (sign : Int) (n : Nat) (d t : Int) : Prop where
  inn : XIn r last t
  at_ : r.at_ t = d
  best : ∀ u, XIn r last u → ((u - r.beg) % r.steps.length).toNat < n → r.at_ u * sign ≤ d * sign ∧ (r.at_ u = d → t ≤ u)
theorem at_pk (r : RunD) (ok : RunOk r) {p k : Int} (h0 : 0 ≤ p) (h1 : p < r.steps.length) : r.at_ (r.beg + p + k * r.steps.length) = r.deg + k * r.steps.sum + psum r.steps p.toNat := by
  have op := ok.pos
  unfold RunD.at_
  have e : r.beg + p + k * r.steps.length - r.beg = p + k * r.steps.length := by omega
  rw [e, Int.add_mul_ediv_right _ _ (by omega), Int.add_mul_emod_self_right, Int.ediv_eq_zero_of_lt h0 h1, Int.emod_eq_of_lt h0 h1, Int.zero_add]
theorem at_beg (r : RunD) (ok : RunOk r) : r.at_ r.beg = r.deg := by
  have := at_pk r ok (p := 0) (k := 0) (Int.le_refl 0) (by have := ok.pos; omega)
  simpa [psum] using this
theorem pk_of (r : RunD) (ok : RunOk r) (u : Int) : u = r.beg + (u - r.beg) % r.steps.length + (u - r.beg) / r.steps.length * r.steps.length ∧ 0 ≤ (u - r.beg) % r.steps.length ∧ (u - r.beg) % r.steps.length < r.steps.length := by
  have op := ok.pos
  have h := Int.emod_add_mul_ediv (u - r.beg) r.steps.length
  refine ⟨?_, Int.emod_nonneg _ (by omega), Int.emod_lt_of_pos _ (by omega)⟩
  rw [Int.mul_comm] at h
  omega
theorem mul_le_of {a b s : Int} (h : a ≤ b) (h0 : 0 ≤ s) : a * s ≤ b * s := Int.mul_le_mul_of_nonneg_right h h0
/-- the tick of a place that is looked at -/
def xTick (r : RunD) (last : Option Int) (sign : Int) (p : Nat) : Int :=
  if 0 < r.steps.sum * sign then match last with
    | some l => r.beg + p + (l - (r.beg + p)) / r.steps.length * r.steps.length
    | none => r.beg + p
  else r.beg + p
theorem xTick_best (r : RunD) (ok : RunOk r) {last : Option Int} {sign : Int} (hs : sign = 1 ∨ sign = -1) (hn : last = none → ¬ 0 < r.steps.sum * sign) {p : Nat} (hp : p < r.steps.length) (hl : XIn r last (r.beg + p)) :
    XIn r last (xTick r last sign p) ∧ ∀ u, XIn r last u → ((u - r.beg) % r.steps.length).toNat = p → r.at_ u * sign ≤ r.at_ (xTick r last sign p) * sign ∧ (r.at_ u = r.at_ (xTick r last sign p) → xTick r last sign p ≤ u) := by
  have op := ok.pos
  have key : ∀ k : Int, r.at_ (r.beg + p + k * r.steps.length) = r.deg + k * r.steps.sum + psum r.steps p := fun k => by
    have := at_pk r ok (p := (p : Int)) (k := k) (by omega) (by omega)
    rw [Int.toNat_natCast] at this
    exact this
  by_cases hd : 0 < r.steps.sum * sign
  · cases last with
    | none => exact absurd hd (hn rfl)
    | some l =>
      have e : xTick r (some l) sign p = r.beg + p + (l - (r.beg + p)) / r.steps.length * r.steps.length := by unfold xTick; rw [if_pos hd]
      rw [e]
      have hle := hl.2 l rfl
      have k0 : 0 ≤ (l - (r.beg + p)) / r.steps.length := Int.ediv_nonneg (by omega) (by omega)
      have kl : (l - (r.beg + p)) / r.steps.length * r.steps.length ≤ l - (r.beg + p) := Int.ediv_mul_le _ (by omega)
      have kp : 0 ≤ (l - (r.beg + p)) / r.steps.length * r.steps.length := Int.mul_nonneg k0 (by omega)
      refine ⟨⟨by omega, fun l' h => by cases h; omega⟩, fun u hu hm => ?_⟩
      obtain ⟨eu, u0, u1⟩ := pk_of r ok u
      have hm' : (u - r.beg) % r.steps.length = p := by omega
      rw [hm'] at eu
      have hul := hu.2 l rfl
      rw [eu, key, key]
      generalize hk : (u - r.beg) / (r.steps.length : Int) = k at eu
      generalize hK : (l - (r.beg + p)) / (r.steps.length : Int) = k2
      have hkk : k ≤ k2 := by
        rw [← hK]
        exact (Int.le_ediv_iff_mul_le (by omega)).mpr (by omega)
      rcases hs with rfl | rfl
      · have hd' : 0 < r.steps.sum := by omega
        have m1 := Int.mul_le_mul_of_nonneg_right hkk (Int.le_of_lt hd')
        refine ⟨by omega, fun h => ?_⟩
        have h2 : k * r.steps.sum = k2 * r.steps.sum := by omega
        have h3 := Int.eq_of_mul_eq_mul_right (by omega) h2
        rw [h3]
        exact Int.le_refl _
      · have hd' : 0 < -r.steps.sum := by omega
        have m1 := Int.mul_le_mul_of_nonneg_right hkk (Int.le_of_lt hd')
        rw [Int.mul_neg, Int.mul_neg] at m1
        refine ⟨by omega, fun h => ?_⟩
        have h2 : k * r.steps.sum = k2 * r.steps.sum := by omega
        have h3 := Int.eq_of_mul_eq_mul_right (by omega) h2
        rw [h3]
        exact Int.le_refl _
  · have e : xTick r last sign p = r.beg + p := by unfold xTick; rw [if_neg hd]
    rw [e]
    refine ⟨hl, fun u hu hm => ?_⟩
    obtain ⟨eu, u0, u1⟩ := pk_of r ok u
    have hm' : (u - r.beg) % r.steps.length = p := by omega
    rw [hm'] at eu
    have k0 := key 0
    rw [Int.zero_mul, Int.add_zero] at k0
    rw [eu, key, k0]
    generalize hk : (u - r.beg) / (r.steps.length : Int) = k at eu
    have hk0 : 0 ≤ k := by
      rw [← hk]
      exact Int.ediv_nonneg (by have := hu.1; omega) (by omega)
    have hkl : 0 ≤ k * (r.steps.length : Int) := Int.mul_nonneg hk0 (by omega)
    rcases hs with rfl | rfl
    · have hd' : 0 ≤ -r.steps.sum := by omega
      have m1 := Int.mul_nonneg hk0 hd'
      rw [Int.mul_neg] at m1
      exact ⟨by omega, fun _ => by omega⟩
    · have hd' : 0 ≤ r.steps.sum := by omega
      have m1 := Int.mul_nonneg hk0 hd'
      exact ⟨by omega, fun _ => by omega⟩
theorem XT.start (r : RunD) (ok : RunOk r) {last : Option Int} {sign : Int} (hl : XIn r last r.beg) : XT r last sign 0 r.deg r.beg := ⟨hl, at_beg r ok, fun _ _ h => absurd h (Nat.not_lt_zero _)⟩
theorem XT.step {r : RunD} (ok : RunOk r) {last : Option Int} {sign d t : Int} (hs : sign = 1 ∨ sign = -1) (hn : last = none → ¬ 0 < r.steps.sum * sign) {p : Nat} (hp : p < r.steps.length) (hl : XIn r last (r.beg + p)) (h : XT r last sign p d t) :
    (if d * sign < r.at_ (xTick r last sign p) * sign ∨ (r.at_ (xTick r last sign p) = d ∧ xTick r last sign p < t) then XT r last sign (p + 1) (r.at_ (xTick r last sign p)) (xTick r last sign p) else XT r last sign (p + 1) d t) := by
  obtain ⟨b1, b2⟩ := xTick_best r ok hs hn hp hl
  generalize hx : xTick r last sign p = x at b1 b2
  generalize hv : r.at_ x = v at b2
  split
  · rename_i c
    refine ⟨b1, hv, fun u hu hlt => ?_⟩
    by_cases e : ((u - r.beg) % r.steps.length).toNat = p
    · exact b2 u hu e
    · obtain ⟨c1, c2⟩ := h.best u hu (by omega)
      rcases c with c | ⟨ce, cl⟩
      · refine ⟨by omega, fun z => ?_⟩
        rw [z] at c1
        omega
      · subst ce
        exact ⟨c1, fun z => by have := c2 z; omega⟩
  · rename_i c
    refine ⟨h.inn, h.at_, fun u hu hlt => ?_⟩
    by_cases e : ((u - r.beg) % r.steps.length).toNat = p
    · obtain ⟨c1, c2⟩ := b2 u hu e
      have c3 : ¬ d * sign < v * sign := fun z => c (.inl z)
      refine ⟨by omega, fun z => ?_⟩
      have ve : v = d := by
        rw [z] at c1
        rcases hs with rfl | rfl <;> omega
      have c4 := c2 (z.trans ve.symm)
      have c5 : ¬ x < t := fun w => c (.inr ⟨ve, w⟩)
      omega
    · exact h.best u hu (by omega)
def sp_Run_extreme (K : PySem.W.Frag) (A : Ads) : Sp := fun vs H Q _ => ∃ (p : Addr) (last : Option Int) (sign : Int) (r : RunD), vs = [.ref p, optI last, .int sign] ∧ IsRun K A H p r ∧ (sign = 1 ∨ sign = -1) ∧ XIn r last r.beg ∧
  (last = none → 0 < r.steps.sum * sign → Q .non H) ∧
  ((last = none → ¬ 0 < r.steps.sum * sign) → ∀ d t q H', XT r last sign r.steps.length d t → Ex H H' → H q = none → H' q = some (.tup [.int d, .int t]) → Q (.ref q) H')
def t_Run_init (K : PySem.W.Frag) (A : Ads) : TS := tSeq (sFld K (tVar 0) (tVar 1) "begin") (tSeq (sFld K (tVar 0) (tC .non) "end") (tSeq (sFld K (tVar 0) (tVar 2) "degrees") (tSeq (sFld K (tVar 0) (tVar 3) "is_heating") (tSeq (sFld K (tVar 0) (tLst (tCons (tC (.int 0)) (tNil))) "sums") (tSeq (tFor (iList K (tVar 4)) (gName 5) (tDrop (tBM K "list" rAppend (tFld K (tVar 0) "sums") (tCons (tOp (rI0 fun i j => .int (i + j)) (tOp (rIx K) (tFld K (tVar 0) "sums") (tUn (rU fun i => .int (-i)) (tC (.int 1)))) (tVar 5)) (tNil))))) (tSeq (sFld K (tVar 0) (tCB (rLen K) (tCons (tVar 4) (tNil))) "size") (sFld K (tVar 0) (tOp (rIx K) (tFld K (tVar 0) "sums") (tUn (rU fun i => .int (-i)) (tC (.int 1)))) "drift")))))))
def t_Run_at (K : PySem.W.Frag) (A : Ads) : TS := tSeq (tAsg (tOp (rI0 fun i j => .int (i - j)) (tVar 1) (tFld K (tVar 0) "begin")) (gName 2)) (tRet (tOp (rI0 fun i j => .int (i + j)) (tOp (rI0 fun i j => .int (i + j)) (tFld K (tVar 0) "degrees") (tOp (rI CMul fun i j => .int (i * j)) (tOp (rI CDivW fun i j => .int (i / j)) (tVar 2) (tFld K (tVar 0) "size")) (tFld K (tVar 0) "drift"))) (tOp (rIx K) (tFld K (tVar 0) "sums") (tOp (rI (fun _ j => 0 < j) fun i j => .int (i % j)) (tCB rInt (tCons (tVar 2) (tNil))) (tFld K (tVar 0) "size")))))
def t_Run_first_beyond (K : PySem.W.Frag) (A : Ads) : TS := tSeq (tAsg (tLst (tNil)) (gName 3)) (tSeq (tFor (iRng1 (tCons (tFld K (tVar 0) "size") (tNil))) (gName 4) (tSeq (tAsg (tOp (rI CMul fun i j => .int (i * j)) (tOp (rI0 fun i j => .int (i - j)) (tOp (rI0 fun i j => .int (i - j)) (tVar 1) (tFld K (tVar 0) "degrees")) (tOp (rIx K) (tFld K (tVar 0) "sums") (tVar 4))) (tVar 2)) (gName 5)) (tIfS (tTest (tOp (rI0 fun i j => .bl (decide (i < j))) (tVar 5) (tC (.int 0)))) (tDrop (tBM K "list" rAppend (tVar 3) (tCons (tOp (rI0 fun i j => .int (i + j)) (tFld K (tVar 0) "begin") (tVar 4)) (tNil)))) (tIfS (tTest (tOp (rI0 fun i j => .bl (decide (j < i))) (tOp (rI CMul fun i j => .int (i * j)) (tFld K (tVar 0) "drift") (tVar 2)) (tC (.int 0)))) (tDrop (tBM K "list" rAppend (tVar 3) (tCons (tOp (rI0 fun i j => .int (i + j)) (tOp (rI0 fun i j => .int (i + j)) (tFld K (tVar 0) "begin") (tVar 4)) (tOp (rI CMul fun i j => .int (i * j)) (tOp (rI0 fun i j => .int (i + j)) (tOp (rI CDivW fun i j => .int (i / j)) (tVar 5) (tOp (rI CMul fun i j => .int (i * j)) (tFld K (tVar 0) "drift") (tVar 2))) (tC (.int 1))) (tFld K (tVar 0) "size"))) (tNil)))) (tNext))))) (tRet (tIf (tTest (tOp (rNeD K) (tVar 3) (tLst (tNil)))) (tCB (rMin K) (tCons (tVar 3) (tNil))) (tC .non))))
def t_Run_extreme_c1 (K : PySem.W.Frag) (A : Ads) : TS := tSeq (tAsg (tMtd A.cRun "at" (sp_Run_at K A) E0 (tVar 0) (tCons (tVar 5) (tNil))) (gName 6)) (tIfS (tOr (tTest (tOp (rI0 fun i j => .bl (decide (j < i))) (tOp (rI CMul fun i j => .int (i * j)) (tVar 6) (tVar 2)) (tOp (rI CMul fun i j => .int (i * j)) (tOp (rIx K) (tVar 3) (tC (.int 0))) (tVar 2)))) (tAnd (tTest (tOp rEq (tVar 6) (tOp (rIx K) (tVar 3) (tC (.int 0))))) (tTest (tOp (rI0 fun i j => .bl (decide (i < j))) (tVar 5) (tOp (rIx K) (tVar 3) (tC (.int 1))))))) (tAsg (tTup (tCons (tVar 6) (tCons (tVar 5) (tNil)))) (gName 3)) (tNext))
def t_Run_extreme (K : PySem.W.Frag) (A : Ads) : TS := tSeq (tIfS (tAnd (tTest (tOp rIsN (tVar 1) (tC .non))) (tTest (tOp (rI0 fun i j => .bl (decide (j < i))) (tOp (rI CMul fun i j => .int (i * j)) (tFld K (tVar 0) "drift") (tVar 2)) (tC (.int 0))))) (tRet (tC .non)) (tNext)) (tSeq (tAsg (tTup (tCons (tFld K (tVar 0) "degrees") (tCons (tFld K (tVar 0) "begin") (tNil)))) (gName 3)) (tSeq (tFor (iRng1 (tCons (tFld K (tVar 0) "size") (tNil))) (gName 4) (tSeq (tAsg (tOp (rI0 fun i j => .int (i + j)) (tFld K (tVar 0) "begin") (tVar 4)) (gName 5)) (tSeq (tIfS (tAnd (tTest (tOp rNotN (tVar 1) (tC .non))) (tTest (tOp (rI0 fun i j => .bl (decide (j < i))) (tVar 5) (tVar 1)))) (tRet (tVar 3)) (tNext)) (tSeq (tIfS (tTest (tOp (rI0 fun i j => .bl (decide (j < i))) (tOp (rI CMul fun i j => .int (i * j)) (tFld K (tVar 0) "drift") (tVar 2)) (tC (.int 0)))) (tAug 5 (tOp (rI CMul fun i j => .int (i * j)) (tOp (rI CDivW fun i j => .int (i / j)) (tOp (rI0 fun i j => .int (i - j)) (tVar 1) (tVar 5)) (tFld K (tVar 0) "size")) (tFld K (tVar 0) "size")) (ipI fun i j => i + j)) (tNext)) (t_Run_extreme_c1 K A))))) (tRet (tVar 3))))
section
variable {K : PySem.W.Frag} {A : Ads}
theorem pure_Run_at (vs : List V) (H : Hp) (Q : VK) (E : XK) (h : sp_Run_at K A vs H Q E) : t_Run_at K A { nx := fun _ H' => Q .non H', rt := Q } (start ["self", "tick", "place"] vs) H := by
  obtain ⟨p, t, r, rfl, ⟨TR, ok, dx, s, h1, h2⟩, k⟩ := h
  have ol := ok.len
  have op := ok.pos
  have os := ok.sumB
  show t_Run_at K A _ [some (.ref p), some (.int t), none] H
  unfold t_Run_at
  walk_at "s"
  refine r_I (cdiv (by omega) (by omega)) ?_
  walk_at "s"
  refine r_I (cmulR (by omega)) ?_
  walk_at "s"
  refine r_I (show (0 : Int) < (r.steps.length : Int) by omega) ?_
  have m0 := Int.emod_nonneg (t - r.beg) (show (r.steps.length : Int) ≠ 0 by omega)
  have m1 := Int.emod_lt_of_pos (t - r.beg) (show (0 : Int) < (r.steps.length : Int) by omega)
  refine rix_h h2 (atI_of m0 (ints_at (sums_at r.steps (by omega)))) ?_
  walk_at "s"
  exact k
def sp_Run_init (K : PySem.W.Frag) (A : Ads) : Sp := fun vs H Q _ => ∃ (p dx st : Addr) (b d : Int) (on : Bool) (steps : List Int) (G : Hp) (mu : Mu), vs = [.ref p, .int b, .int d, .bl on, .ref st] ∧ RunC K A.cRun ∧ Hold G ((p, .ins A.cRun dx []) :: mu) H ∧ SqL K G st (steps.map V.int) ∧ steps.length ≤ 24 ∧
  ∀ (s : Addr) (G' H' : Hp), Ex G G' → G' s = some (.lst ((sums steps).map V.int)) → Hold G' ((p, .ins A.cRun dx (runF ⟨b, none, d, on, steps⟩ s)) :: mu) H' → Q .non H'
theorem pure_Run_init (vs : List V) (H : Hp) (Q : VK) (E : XK) (h : sp_Run_init K A vs H Q E) : t_Run_init K A { nx := fun _ H' => Q .non H', rt := Q } (start ["self", "begin", "degrees", "is_heating", "steps", "step"] vs) H := by
  obtain ⟨p, dx, st, b, d, on, steps, G, mu, rfl, TR, hh, hst, hl, k⟩ := h
  show t_Run_init K A _ [some (.ref p), some (.int b), some (.int d), some (.bl on), some (.ref st), none] H
  unfold t_Run_init
  walk_at "s"
  refine lst_m (by decide) (by assumption) fun s H1 hh => ?_
  walk_at "s"
  rename_i H2 hh2
  refine forL_by (hh2.lst hst) (fun i σ H => ∃ v : Option V, σ = [some (.ref p), some (.int b), some (.int d), some (.bl on), some (.ref st), v] ∧
    Hold G ((s, .lst (((sums steps).take (i + 1)).map V.int)) :: (p, .ins A.cRun dx ([("begin", .int b), ("end", .non), ("degrees", .int d), ("is_heating", .bl on), ("sums", .ref s)] : List (Str × V))) :: mu) H)
    ⟨none, rfl, ?_⟩ (fun i σ H _ ⟨_, _, hh⟩ => hh.lst hst) ?_ ?_
  · have e : (sums steps).take 1 = [0] := by
      unfold sums
      rw [List.range_succ_eq_map]
      rfl
    rw [show 0 + 1 = 1 from rfl, e]
    exact hh2
  · rintro i x σ H3 hi ⟨v, rfl, hh⟩
    obtain ⟨z, hz, rfl⟩ := ints_of hi
    have il := (List.getElem?_eq_some_iff.mp hz).1
    have hlen : ((sums steps).take (i + 1)).length = i + 1 := by rw [List.length_take, sums_len]; omega
    walk_at "s"
    refine rix_h (hh.get (i := 0) rfl) (last_at (ints_at (z := psum steps i) ?_)) ?_
    · rw [List.length_map, hlen, Nat.add_sub_cancel, List.getElem?_take_of_lt (by omega)]
      exact sums_at steps (by omega)
    walk_at "s"
    refine app_m hh 0 rfl (szl (by rw [List.length_map, hlen]; omega)) fun H4 hh4 => ?_
    walk_at "s"
    refine ⟨_, rfl, ?_⟩
    rw [take_one (sums_at steps (show i + 1 ≤ steps.length by omega)), psum_succ steps hz, List.map_append]
    exact hh4
  · rintro σ H3 ⟨v, rfl, hh⟩
    rw [List.length_map, show (sums steps).take (steps.length + 1) = sums steps by rw [← sums_len, List.take_length]] at hh
    walk_at "s"
    refine rix_h (by walk_at "at") (last_at (ints_at (z := steps.sum) ?_)) ?_
    · rw [List.length_map, sums_len, Nat.add_sub_cancel, sums_at steps (Nat.le_refl _), psum_all]
    walk_at "s"
    rename_i H5 hh5
    rw [List.length_map] at hh5
    exact k s _ _ hh5.frz_ex upd_same hh5.frz
theorem pure_Run_first_beyond (vs : List V) (H : Hp) (Q : VK) (E : XK) (h : sp_Run_first_beyond K A vs H Q E) : t_Run_first_beyond K A { nx := fun _ H' => Q .non H', rt := Q } (start ["self", "bound", "sign", "found", "place", "gap"] vs) H := by
  obtain ⟨p, bound, sign, r, rfl, ⟨TR, ok, dx, s, h1, h2⟩, hs, k⟩ := h
  have ol := ok.len
  have op := ok.pos
  have os := ok.sumB
  have hh := Hold.start H
  show t_Run_first_beyond K A _ [some (.ref p), some (.int bound), some (.int sign), none, none, none] H
  unfold t_Run_first_beyond
  walk_at "s"
  refine lst_m (by decide) (by assumption) fun f H1 hh1 => ?_
  walk_at "s"
  refine forR1_by (by omega) (by omega) (fun i σ H' => ∃ v1 v2 : Option V, σ = [some (.ref p), some (.int bound), some (.int sign), some (.ref f), v1, v2] ∧ Hold H [(f, .lst ((fbL r bound sign i).map V.int))] H')
    ⟨none, none, rfl, hh1⟩ ?_ ?_
  · rintro i σ H2 hi ⟨v1, v2, rfl, hh2⟩
    have fl := fbL_len r bound sign i
    walk_at "s"
    refine rix_h (hh2.rd h2) (atI_of (by omega) (ints_at (sums_at r.steps (show ((i : Int)).toNat ≤ r.steps.length by omega)))) ?_
    walk_at "s"
    refine r_I (cmulR (by omega)) ?_
    walk_at "s"
    rw [Int.toNat_natCast]
    refine r_ite (fun c => ?_) (fun c => ?_)
    · have e : fbAt r bound sign i = some (r.beg + i) := if_pos (of_decide_eq_true c)
      walk_at "s"
      refine app_m hh2 0 rfl (szl (by simp; omega)) fun H3 hh3 => ?_
      walk_at "s"
      refine ⟨_, _, rfl, ?_⟩
      rw [fbL_succ, e, List.map_append]
      exact hh3
    · walk_at "s"
      refine r_I (cmulR (by omega)) ?_
      walk_at "s"
      refine r_ite (fun c2 => ?_) (fun c2 => ?_)
      · have c1 := of_decide_eq_false c
        have c3 := of_decide_eq_true c2
        have e : fbAt r bound sign i = some (r.beg + i + ((bound - r.deg - psum r.steps i) * sign / (r.steps.sum * sign) + 1) * r.steps.length) := by
          unfold fbAt
          rw [if_neg c1, if_pos c3]
        walk_at "s"
        refine r_I (cmulR (by omega)) ?_
        walk_at "s"
        refine r_I (cdiv c3 (by rcases hs with rfl | rfl <;> omega)) ?_
        walk_at "s"
        refine r_I (cmulR (by omega)) ?_
        walk_at "s"
        refine app_m hh2 0 rfl (szl (by simp; omega)) fun H3 hh3 => ?_
        walk_at "s"
        refine ⟨_, _, rfl, ?_⟩
        rw [fbL_succ, e, List.map_append]
        exact hh3
      · have c1 := of_decide_eq_false c
        have c3 := of_decide_eq_false c2
        have e : fbAt r bound sign i = none := by
          unfold fbAt
          rw [if_neg c1, if_neg c3]
        walk_at "s"
        refine ⟨_, _, rfl, ?_⟩
        rw [fbL_succ, e]
        simpa using hh2
  · rintro σ H2 ⟨v1, v2, rfl, hh2⟩
    rw [Int.toNat_natCast] at hh2
    walk_at "s"
    refine lst_x (by decide) (by assumption) fun q H3 hq hh3 => ?_
    refine neI (SqL.of (hh3.get (i := 0) rfl)) (SqL.of (hq.trans (by rfl : some (HO.lst []) = some (.lst (([] : List Int).map V.int))))) ?_
    walk_at "s"
    refine r_ite (fun c => ?_) (fun c => ?_)
    · have ne : fbL r bound sign r.steps.length ≠ [] := by simpa using c
      walk_at "s"
      refine min_by (SqL.of (hh3.get (i := 0) rfl)) (List.length_pos_iff.mpr ne) fun m hm hle => ?_
      walk_at "s"
      exact k (some m) H3 (.inr ⟨m, rfl, hm, hle⟩) hh3.ex
    · have ne : fbL r bound sign r.steps.length = [] := by simpa using c
      walk_at "s"
      exact k none H3 (.inl ⟨rfl, ne⟩) hh3.ex
theorem pure_Run_extreme (vs : List V) (H : Hp) (Q : VK) (E : XK) (h : sp_Run_extreme K A vs H Q E) : t_Run_extreme K A { nx := fun _ H' => Q .non H', rt := Q } (start ["self", "last", "sign", "best", "place", "tick", "degrees"] vs) H := by
  obtain ⟨p, last, sign, r, rfl, ir, hs, hb, kN, kS⟩ := h
  have ir' := ir
  obtain ⟨TR, ok, dx, s, h1, h2⟩ := ir'
  have ol := ok.len
  have op := ok.pos
  have os := ok.sumB
  have hh := Hold.start H
  show t_Run_extreme K A _ [some (.ref p), some (optI last), some (.int sign), none, none, none, none] H
  unfold t_Run_extreme
  have an : Ans (tTest (tOp (rI0 fun i j => .bl (decide (j < i))) (tOp (rI CMul fun i j => .int (i * j)) (tFld K (tVar 0) "drift") (tVar 2)) (tC (.int 0)))) [some (.ref p), some (optI last), some (.int sign), none, none, none, none] H (decide (0 < r.steps.sum * sign)) := fun Q q => by
    walk_at "s"
    refine r_I (cmulR (by omega)) ?_
    walk_at "s"
    exact q
  refine r_seq (ifA (ans_and2 (b1 := decide (optI last = .non)) (fun Q q => by walk_at "s"; exact q) an) (fun c1 => ?_) (fun c1 => ?_))
  · walk_at "s"
    rw [Bool.and_eq_true] at c1
    have e : last = none := by
      cases last with
      | none => rfl
      | some l => exact absurd (of_decide_eq_true c1.1) (by intro z; cases z)
    exact kN e (of_decide_eq_true c1.2)
  · have hn : last = none → ¬ 0 < r.steps.sum * sign := fun e z => by
      subst e
      rw [decide_eq_true z] at c1
      exact absurd c1 (by decide)
    have kS := kS hn
    walk_at "s"
    refine tup_n (by walk_at "sz") (by assumption) fun q0 H1 hq0 e0 hh1 => ?_
    walk_at "s"
    refine forR1_by (by omega) (by omega) (fun i σ H' => ∃ (v4 v5 v6 : Option V) (q : Addr) (d t : Int), σ = [some (.ref p), some (optI last), some (.int sign), some (.ref q), v4, v5, v6] ∧ Hold H [] H' ∧ H q = none ∧ H' q = some (.tup [.int d, .int t]) ∧ XT r last sign i d t)
      ⟨none, none, none, q0, r.deg, r.beg, rfl, hh1, hq0, e0, XT.start r ok hb⟩ ?_ ?_
    · rintro i σ H2 hi ⟨v4, v5, v6, q, d, t, rfl, hh2, hq, eq, xt⟩
      have hp : i < r.steps.length := by omega
      have an2 : ∀ (σ : L2.St) (H' : Hp), σ[0]? = some (some (.ref p)) → σ[2]? = some (some (.int sign)) → Hold H [] H' → Ans (tTest (tOp (rI0 fun i j => .bl (decide (j < i))) (tOp (rI CMul fun i j => .int (i * j)) (tFld K (tVar 0) "drift") (tVar 2)) (tC (.int 0)))) σ H' (decide (0 < r.steps.sum * sign)) := fun σ H' e0 e2 hh Q q => by
        refine r_test (r_op (r_op (r_fld (r_var e0 ?_))))
        walk_at "s"
        refine r_var e2 ?_
        refine r_I (cmulR (by omega)) ?_
        walk_at "s"
        exact q
      have fin : ∀ (H3 : Hp) (x : Int), Hold H [] H3 → H3 q = some (.tup [.int d, .int t]) → XIn r last (r.beg + i) → x = xTick r last sign i →
          t_Run_extreme_c1 K A
          { nx := fun σ H' => ∃ (v4 v5 v6 : Option V) (q : Addr) (d t : Int), σ = [some (.ref p), some (optI last), some (.int sign), some (.ref q), v4, v5, v6] ∧ Hold H [] H' ∧ H q = none ∧ H' q = some (.tup [.int d, .int t]) ∧ XT r last sign (i + 1) d t,
            ct := fun σ H' => ∃ (v4 v5 v6 : Option V) (q : Addr) (d t : Int), σ = [some (.ref p), some (optI last), some (.int sign), some (.ref q), v4, v5, v6] ∧ Hold H [] H' ∧ H q = none ∧ H' q = some (.tup [.int d, .int t]) ∧ XT r last sign (i + 1) d t,
            bk := fun σ H' => tRet (tVar 3) { nx := fun _ H' => Q .non H', rt := Q } σ H', rt := Q } [some (.ref p), some (optI last), some (.int sign), some (.ref q), some (.int (i : Int)), some (.int x), v6] H3 := by
        intro H3 x hh3 eq3 hin hx
        have st := XT.step ok hs hn hp hin xt
        rw [← hx] at st
        unfold t_Run_extreme_c1
        walk_at "s"
        refine ⟨p, x, r, rfl, ir.up hh3.ex, ?_⟩
        walk_at "t"
        generalize hy : r.at_ x = y at st
        refine ifA (b := decide (d * sign < y * sign) || (decide (y = d) && decide (x < t))) (ans_or2 (fun Q q => ?_) (ans_and2 (fun Q q => ?_) (fun Q q => ?_))) (fun c => ?_) (fun c => ?_)
        · walk_at "s"
          refine r_I (cmulR (by omega)) ?_
          walk_at "s"
          refine r_I (cmulR (by omega)) ?_
          walk_at "s"
          exact q
        · walk_at "s"
          exact q
        · walk_at "s"
          exact q
        · rw [Bool.or_eq_true, Bool.and_eq_true, decide_eq_true_eq, decide_eq_true_eq, decide_eq_true_eq] at c
          rw [if_pos c] at st
          walk_at "s"
          refine tup_n (by walk_at "sz") (by assumption) fun q4 H4 hq4 e4 hh4 => ?_
          walk_at "s"
          exact ⟨_, _, _, q4, _, _, rfl, hh4, hq4, e4, st⟩
        · have c' : ¬ (d * sign < y * sign ∨ y = d ∧ x < t) := fun z => by
            rw [← decide_eq_true_eq (p := d * sign < y * sign), ← decide_eq_true_eq (p := y = d), ← decide_eq_true_eq (p := x < t), ← Bool.and_eq_true, ← Bool.or_eq_true, c] at z
            cases z
          rw [if_neg c'] at st
          walk_at "s"
          exact ⟨_, _, _, q, _, _, rfl, hh3, hq, eq3, st⟩
      cases last with
      | none =>
        walk_at "t"
        refine r_ifS ?_
        walk_at "t"
        refine r_iteF ?_
        walk_at "t"
        refine ifA (an2 _ _ rfl rfl hh2) (fun c => absurd (of_decide_eq_true c) (hn rfl)) (fun c => ?_)
        refine r_next ?_
        refine fin H2 _ hh2 eq ⟨by omega, fun l h => by cases h⟩ ?_
        unfold xTick
        rw [if_neg (of_decide_eq_false c)]
      | some l =>
        have eo : optI (some l) = .int l := rfl
        rw [eo]
        walk_at "t"
        refine r_ifS ?_
        walk_at "t"
        refine r_iteT ?_
        walk_at "t"
        refine r_ite (fun c => ?_) (fun c => ?_)
        · -- past the last tick: all places are done
          have c2 : l < r.beg + i := of_decide_eq_true c
          walk_at "t"
          refine kS d t q H2 ⟨xt.inn, xt.at_, fun u hu hlt => xt.best u hu ?_⟩ hh2.ex hq eq
          obtain ⟨eu, u0, u1⟩ := pk_of r ok u
          have hul := hu.2 l rfl
          have k0 : 0 ≤ (u - r.beg) / (r.steps.length : Int) * r.steps.length := Int.mul_nonneg (Int.ediv_nonneg (by have := hu.1; omega) (by omega)) (by omega)
          omega
        · have c2 : ¬ l < r.beg + i := of_decide_eq_false c
          have hin : XIn r (some l) (r.beg + i) := ⟨by omega, fun l' h => by cases h; omega⟩
          walk_at "t"
          refine ifA (an2 _ _ rfl rfl hh2) (fun c3 => ?_) (fun c3 => ?_)
          · walk_at "t"
            refine r_I (cdiv (by omega) (by omega)) ?_
            walk_at "t"
            refine r_I (cmulR (by omega)) ?_
            walk_at "t"
            refine fin H2 _ hh2 eq hin ?_
            unfold xTick
            rw [if_pos (of_decide_eq_true c3)]
          · refine r_next ?_
            refine fin H2 _ hh2 eq hin ?_
            unfold xTick
            rw [if_neg (of_decide_eq_false c3)]
    · rintro σ H2 ⟨v4, v5, v6, q, d, t, rfl, hh2, hq, eq, xt⟩
      rw [Int.toNat_natCast] at xt
      walk_at "s"
      exact kS d t q H2 xt hh2.ex hq eq
end
end Wm
end

section
/-! ## What runs mean -/
namespace Wm
open PySem
def Beyond (r : RunD) (bound sign u : Int) : Prop := bound * sign < r.at_ u * sign
theorem fb_class (r : RunD) (ok : RunOk r) {bound sign : Int} (hs : sign = 1 ∨ sign = -1) {p : Nat} (hp : p < r.steps.length) :
    match fbAt r bound sign p with
    | some u => ∃ k : Int, 0 ≤ k ∧ u = r.beg + p + k * r.steps.length ∧ Beyond r bound sign u ∧ ∀ k', 0 ≤ k' → k' < k → ¬ Beyond r bound sign (r.beg + p + k' * r.steps.length)
    | none => ∀ k', 0 ≤ k' → ¬ Beyond r bound sign (r.beg + p + k' * r.steps.length) := by
  have key : ∀ k : Int, r.at_ (r.beg + p + k * r.steps.length) = r.deg + k * r.steps.sum + psum r.steps p := fun k => by
    have := at_pk r ok (p := (p : Int)) (k := k) (by omega) (by omega)
    rw [Int.toNat_natCast] at this
    exact this
  have bk : ∀ k : Int, Beyond r bound sign (r.beg + p + k * r.steps.length) ↔ (bound - r.deg - psum r.steps p) * sign < k * (r.steps.sum * sign) := fun k => by
    unfold Beyond
    rw [key]
    rcases hs with rfl | rfl
    · simp only [Int.mul_one]; omega
    · rw [Int.mul_neg_one, Int.mul_neg_one, Int.mul_neg_one, Int.mul_neg_one, Int.mul_neg]; omega
  unfold fbAt
  by_cases c1 : (bound - r.deg - psum r.steps p) * sign < 0
  · rw [if_pos c1]
    refine ⟨0, Int.le_refl 0, by omega, ?_, fun k' h0 h1 => by omega⟩
    have := (bk 0).mpr (by rw [Int.zero_mul]; exact c1)
    rw [Int.zero_mul, Int.add_zero] at this
    exact this
  · rw [if_neg c1]
    by_cases c2 : 0 < r.steps.sum * sign
    · rw [if_pos c2]
      have g0 : 0 ≤ (bound - r.deg - psum r.steps p) * sign := by omega
      generalize hg : (bound - r.deg - psum r.steps p) * sign = g at *
      generalize hd : r.steps.sum * sign = d at *
      have q0 : 0 ≤ g / d := Int.ediv_nonneg g0 (Int.le_of_lt c2)
      refine ⟨g / d + 1, by omega, rfl, (bk _).mpr ?_, fun k' h0 h1 z => ?_⟩
      · have := Int.lt_ediv_add_one_mul_self g c2
        exact this
      · have z' := (bk _).mp z
        have hk : k' ≤ g / d := by omega
        have m := Int.mul_le_mul_of_nonneg_right hk (Int.le_of_lt c2)
        have m2 := Int.ediv_mul_le g (Int.ne_of_gt c2)
        omega
    · rw [if_neg c2]
      intro k' h0 z
      have z' := (bk _).mp z
      have hd : 0 ≤ -(r.steps.sum * sign) := by omega
      have m := Int.mul_nonneg h0 hd
      rw [Int.mul_neg] at m
      omega
theorem fb_mem {r : RunD} {bound sign : Int} {y : Int} {n : Nat} : y ∈ fbL r bound sign n ↔ ∃ p, p < n ∧ fbAt r bound sign p = some y := by
  unfold fbL
  simp only [List.mem_filterMap, List.mem_range]
theorem FB.some_ {r : RunD} (ok : RunOk r) {bound sign e : Int} (hs : sign = 1 ∨ sign = -1) (h : FB r bound sign (some e)) : r.beg ≤ e ∧ Beyond r bound sign e ∧ ∀ u, r.beg ≤ u → u < e → ¬ Beyond r bound sign u := by
  rcases h with ⟨h, _⟩ | ⟨m, h, hm, hle⟩
  · cases h
  · cases h
    obtain ⟨p, hp, hpe⟩ := fb_mem.mp hm
    have c := fb_class r ok (bound := bound) hs hp
    rw [hpe] at c
    obtain ⟨k, hk, he, hb, hno⟩ := c
    have kl : 0 ≤ k * (r.steps.length : Int) := Int.mul_nonneg hk (by omega)
    refine ⟨by omega, hb, fun u hu hlt hbu => ?_⟩
    obtain ⟨eu, u0, u1⟩ := pk_of r ok u
    generalize hq : (u - r.beg) % (r.steps.length : Int) = q at *
    generalize hk2 : (u - r.beg) / (r.steps.length : Int) = k2 at *
    have hqn : q.toNat < r.steps.length := by omega
    have c2 := fb_class r ok (bound := bound) hs hqn
    have k20 : 0 ≤ k2 := by rw [← hk2]; exact Int.ediv_nonneg (by omega) (by omega)
    have eq : ((q.toNat : Nat) : Int) = q := Int.toNat_of_nonneg u0
    cases hf : fbAt r bound sign q.toNat with
    | none =>
      rw [hf] at c2
      have := c2 k2 k20
      rw [eq, ← eu] at this
      exact this hbu
    | some y =>
      rw [hf] at c2
      obtain ⟨k3, hk3, hy, hby, hno3⟩ := c2
      have hey := hle y (fb_mem.mpr ⟨q.toNat, hqn, hf⟩)
      rw [eq] at hy hno3
      by_cases hkk : k2 < k3
      · have := hno3 k2 k20 hkk
        rw [← eu] at this
        exact this hbu
      · have m := Int.mul_le_mul_of_nonneg_right (show k3 ≤ k2 by omega) (show (0 : Int) ≤ r.steps.length by omega)
        omega
theorem FB.none_ {r : RunD} (ok : RunOk r) {bound sign : Int} (hs : sign = 1 ∨ sign = -1) (h : FB r bound sign none) : ∀ u, r.beg ≤ u → ¬ Beyond r bound sign u := by
  rcases h with ⟨_, h⟩ | ⟨m, h, _⟩
  · intro u hu hbu
    obtain ⟨eu, u0, u1⟩ := pk_of r ok u
    generalize hq : (u - r.beg) % (r.steps.length : Int) = q at *
    generalize hk2 : (u - r.beg) / (r.steps.length : Int) = k2 at *
    have hqn : q.toNat < r.steps.length := by omega
    have c2 := fb_class r ok (bound := bound) hs hqn
    have k20 : 0 ≤ k2 := by rw [← hk2]; exact Int.ediv_nonneg (by omega) (by omega)
    have eq : ((q.toNat : Nat) : Int) = q := Int.toNat_of_nonneg u0
    cases hf : fbAt r bound sign q.toNat with
    | none =>
      rw [hf] at c2
      have := c2 k2 k20
      rw [eq, ← eu] at this
      exact this hbu
    | some y =>
      have := fb_mem.mpr ⟨q.toNat, hqn, hf⟩
      rw [h] at this
      cases this
  · cases h
/-- one tick further -/
theorem at_succ (r : RunD) (ok : RunOk r) (u : Int) : ∃ x, r.steps[((u - r.beg) % r.steps.length).toNat]? = some x ∧ r.at_ (u + 1) = r.at_ u + x := by
  have op := ok.pos
  obtain ⟨eu, u0, u1⟩ := pk_of r ok u
  generalize hq : (u - r.beg) % (r.steps.length : Int) = q at *
  generalize hk : (u - r.beg) / (r.steps.length : Int) = k at *
  obtain ⟨x, hx⟩ := get_some (l := r.steps) (i := q.toNat) (by omega)
  refine ⟨x, hx, ?_⟩
  have a0 := at_pk r ok (p := q) (k := k) u0 u1
  rw [← eu] at a0
  rw [a0]
  by_cases hl : q + 1 < r.steps.length
  · have a1 := at_pk r ok (p := q + 1) (k := k) (by omega) hl
    have e1 : r.beg + (q + 1) + k * r.steps.length = u + 1 := by omega
    rw [e1] at a1
    rw [a1, show (q + 1).toNat = q.toNat + 1 by omega, psum_succ r.steps hx]
    omega
  · have a1 := at_pk r ok (p := 0) (k := k + 1) (Int.le_refl 0) (by omega)
    have e1 : r.beg + 0 + (k + 1) * r.steps.length = u + 1 := by
      rw [Int.add_mul, Int.one_mul]
      omega
    rw [e1] at a1
    have hs := psum_succ r.steps hx
    rw [show q.toNat + 1 = r.steps.length by omega, psum_all] at hs
    have e0 : psum r.steps (0 : Int).toNat = 0 := by simp [psum]
    rw [a1, e0, Int.add_mul, Int.one_mul]
    omega
theorem at_next (r : RunD) (ok : RunOk r) (u : Int) : -100 ≤ r.at_ (u + 1) - r.at_ u ∧ r.at_ (u + 1) - r.at_ u ≤ 300 := by
  obtain ⟨x, hx, h⟩ := at_succ r ok u
  have m := List.mem_of_getElem? hx
  have := ok.ge x m
  have := ok.le x m
  omega
end Wm
end

section
/-! ## Histories: chains of runs, their bounds, and that they end -/
namespace Wm
open PySem
structure Par where
  ch : List Int
  gain : Int
  lo : Int
  hi : Int
  start : Int
  was : Bool
structure ParOk (P : Par) : Prop where
  pos : 0 < P.ch.length
  len : P.ch.length ≤ 24
  chB : ∀ x ∈ P.ch, -100 ≤ x ∧ x ≤ 100
  g1 : 1 ≤ P.gain
  g2 : P.gain ≤ 200
  lh : P.lo ≤ P.hi
  lo1 : -(10 ^ 12) ≤ P.lo
  hi1 : P.hi ≤ 10 ^ 12
  s1 : -(10 ^ 12) ≤ P.start
  s2 : P.start ≤ 10 ^ 12
def Par.dec (P : Par) (d : Int) (b : Bool) : Bool := if d < P.lo then true else (b && decide (d ≤ P.hi))
structure S3 where
  t : Int
  d : Int
  on : Bool
def Par.heat (P : Par) (on : Bool) : Int := if on = true then P.gain else 0
def phase (P : Par) (t : Int) : Nat := (t % P.ch.length).toNat
def stepsOf (P : Par) (t : Int) (on : Bool) : List Int := (P.ch.drop (phase P t) ++ P.ch.take (phase P t)).map (· + P.heat on)
def runFrom (P : Par) (s : S3) (e : Option Int) : RunD := ⟨s.t, e, s.d, s.on, stepsOf P s.t s.on⟩
def bnd (P : Par) (on : Bool) : Int := if on = true then P.hi else P.lo
def sgn (on : Bool) : Int := if on = true then 1 else -1
def nextS (P : Par) (s : S3) (e : Int) : S3 := ⟨e, (runFrom P s none).at_ e, !s.on⟩
def start3 (P : Par) : S3 := ⟨0, P.start, P.dec P.start P.was⟩
inductive Chn (P : Par) : List RunD → S3 → Prop
  | nil : Chn P [] (start3 P)
  | snoc {rs : List RunD} {s : S3} {e : Int} : Chn P rs s → FB (runFrom P s none) (bnd P s.on) (sgn s.on) (some e) → Chn P (rs ++ [runFrom P s (some e)]) (nextS P s e)
def keyS (P : Par) (s : S3) : Int × Int × Bool := (s.t % P.ch.length, s.d, s.on)
def keyR (P : Par) (r : RunD) : Int × Int × Bool := (r.beg % P.ch.length, r.deg, r.on)
theorem sgn_or (on : Bool) : sgn on = 1 ∨ sgn on = -1 := by cases on; exact .inr rfl; exact .inl rfl
theorem phase_lt {P : Par} (ok : ParOk P) (t : Int) : phase P t < P.ch.length := by
  have := ok.pos
  have := Int.emod_nonneg t (show (P.ch.length : Int) ≠ 0 by omega)
  have := Int.emod_lt_of_pos t (show (0 : Int) < P.ch.length by omega)
  unfold phase
  omega
theorem phase_cast {P : Par} (ok : ParOk P) (t : Int) : ((phase P t : Nat) : Int) = t % P.ch.length := by
  have := ok.pos
  have := Int.emod_nonneg t (show (P.ch.length : Int) ≠ 0 by omega)
  unfold phase
  omega
theorem steps_len {P : Par} (ok : ParOk P) (t : Int) (on : Bool) : (stepsOf P t on).length = P.ch.length := by
  have := phase_lt ok t
  unfold stepsOf
  simp only [List.length_map, List.length_append, List.length_drop, List.length_take]
  omega
theorem heat_ge {P : Par} (ok : ParOk P) (on : Bool) : 0 ≤ P.heat on ∧ P.heat on ≤ 200 := by
  have := ok.g1
  have := ok.g2
  unfold Par.heat
  split <;> omega
theorem steps_mem {P : Par} (ok : ParOk P) {t : Int} {on : Bool} {x : Int} (h : x ∈ stepsOf P t on) : -100 + P.heat on ≤ x ∧ x ≤ 100 + P.heat on := by
  unfold stepsOf at h
  obtain ⟨y, hy, rfl⟩ := List.mem_map.mp h
  have hm : y ∈ P.ch := by
    rcases List.mem_append.mp hy with h | h
    · exact List.mem_of_mem_drop h
    · exact List.mem_of_mem_take h
  have := ok.chB y hm
  omega
theorem run_ok {P : Par} (ok : ParOk P) (s : S3) (e : Option Int) : RunOk (runFrom P s e) := by
  have hl : (runFrom P s e).steps.length = P.ch.length := steps_len ok _ _
  have h0 := ok.pos
  have h1 := ok.len
  have hg := heat_ge ok s.on
  refine ⟨by omega, by omega, fun x hx => ?_, fun x hx => ?_⟩
  · have := steps_mem ok (t := s.t) (on := s.on) hx; omega
  · have := steps_mem ok (t := s.t) (on := s.on) hx; omega
/-- what holds of each state at which a run begins -/
structure StOk (P : Par) (n : Nat) (s : S3) : Prop where
  t0 : 0 ≤ s.t
  t1 : s.t ≤ n * 10 ^ 14
  d0 : -(10 ^ 12) - 100 ≤ s.d
  d1 : s.d ≤ 10 ^ 12 + 300
  on_ : s.on = true → s.d ≤ P.hi
  off : s.on = false → P.lo ≤ s.d
  onI : 0 < n → s.on = true → P.lo - 100 ≤ s.d ∧ s.d < P.lo
  offI : 0 < n → s.on = false → P.hi < s.d ∧ s.d ≤ P.hi + 300
theorem start_ok {P : Par} (ok : ParOk P) : StOk P 0 (start3 P) := by
  have := ok.s1
  have := ok.s2
  have := ok.lh
  refine ⟨Int.le_refl 0, by show (0 : Int) ≤ _; omega, by show _ ≤ P.start; omega, by show P.start ≤ _; omega, fun h => ?_, fun h => ?_, fun h => absurd h (Nat.lt_irrefl 0), fun h => absurd h (Nat.lt_irrefl 0)⟩
  · have h : P.dec P.start P.was = true := h
    show P.start ≤ P.hi
    unfold Par.dec at h
    split at h
    · omega
    · rw [Bool.and_eq_true] at h
      exact of_decide_eq_true h.2
  · have h : P.dec P.start P.was = false := h
    show P.lo ≤ P.start
    unfold Par.dec at h
    split at h
    · cases h
    · omega
/-- not beyond: cold enough, warm enough -/
theorem beyond_on {P : Par} {s : S3} (h : s.on = true) {u : Int} : Beyond (runFrom P s none) (bnd P s.on) (sgn s.on) u ↔ P.hi < (runFrom P s none).at_ u := by
  unfold Beyond bnd sgn
  rw [h, if_pos rfl, if_pos rfl, Int.mul_one, Int.mul_one]
theorem beyond_off {P : Par} {s : S3} (h : s.on = false) {u : Int} : Beyond (runFrom P s none) (bnd P s.on) (sgn s.on) u ↔ (runFrom P s none).at_ u < P.lo := by
  unfold Beyond bnd sgn
  rw [h, if_neg Bool.false_ne_true, if_neg Bool.false_ne_true, Int.mul_neg_one, Int.mul_neg_one]
  omega
theorem not_beyond_beg {P : Par} (ok : ParOk P) {n : Nat} {s : S3} (h : StOk P n s) : ¬ Beyond (runFrom P s none) (bnd P s.on) (sgn s.on) s.t := by
  have e : (runFrom P s none).at_ s.t = s.d := at_beg (runFrom P s none) (run_ok ok s none)
  cases ho : s.on with
  | true => rw [← ho, beyond_on ho, e]; have := h.on_ ho; omega
  | false => rw [← ho, beyond_off ho, e]; have := h.off ho; omega
theorem fb_far {r : RunD} (ok : RunOk r) {bound sign e : Int} (hs : sign = 1 ∨ sign = -1) (h : FB r bound sign (some e)) (hb : -(10 ^ 12) ≤ bound ∧ bound ≤ 10 ^ 12) (hd : -(10 ^ 12) - 100 ≤ r.deg ∧ r.deg ≤ 10 ^ 12 + 300) : e ≤ r.beg + 10 ^ 14 := by
  rcases h with ⟨h, _⟩ | ⟨m, h, hm, _⟩
  · cases h
  · cases h
    obtain ⟨p, hp, hpe⟩ := fb_mem.mp hm
    have hl := ok.len
    unfold fbAt at hpe
    split at hpe
    · cases hpe; omega
    · split at hpe
      · cases hpe
        rename_i c1 c2
        have ps := ok.psumB p
        have g1 : (bound - r.deg - psum r.steps p) * sign ≤ 10 ^ 12 + 10 ^ 12 + 8000 := by rcases hs with rfl | rfl <;> omega
        have q1 : (bound - r.deg - psum r.steps p) * sign / (r.steps.sum * sign) ≤ (bound - r.deg - psum r.steps p) * sign := Int.ediv_le_self _ (by omega)
        generalize (bound - r.deg - psum r.steps p) * sign / (r.steps.sum * sign) = q at *
        have q2 : q + 1 ≤ 2000000008001 := by omega
        have m := Int.mul_le_mul_of_nonneg_right q2 (show (0 : Int) ≤ r.steps.length by omega)
        omega
      · cases hpe
theorem next_ok {P : Par} (ok : ParOk P) {n : Nat} {s : S3} {e : Int} (h : StOk P n s) (hf : FB (runFrom P s none) (bnd P s.on) (sgn s.on) (some e)) : s.t < e ∧ StOk P (n + 1) (nextS P s e) := by
  have rok := run_ok ok s none
  obtain ⟨f1, f2, f3⟩ := hf.some_ rok (sgn_or _)
  have f1 : s.t ≤ e := f1
  have nb := not_beyond_beg ok h
  have hlt : s.t < e := by
    rcases Int.lt_or_eq_of_le f1 with h | h
    · exact h
    · rw [h] at nb; exact absurd f2 nb
  have nb2 := f3 (e - 1) (show s.t ≤ e - 1 by omega) (by omega)
  have l1 := ok.lo1
  have h1 := ok.hi1
  have lh := ok.lh
  have d0 := h.d0
  have d1 := h.d1
  have far := fb_far rok (sgn_or _) hf (by unfold bnd; split <;> omega) ⟨h.d0, h.d1⟩
  have far : e ≤ s.t + 10 ^ 14 := far
  obtain ⟨x, hx, ha⟩ := at_succ (runFrom P s none) rok (e - 1)
  have hxm := steps_mem ok (t := s.t) (on := s.on) (List.mem_of_getElem? hx)
  rw [show e - 1 + 1 = e by omega] at ha
  have t0 := h.t0
  have t1 := h.t1
  have hg := heat_ge ok s.on
  cases ho : s.on with
  | true =>
    rw [beyond_on ho] at f2 nb2
    have eq : P.lo ≤ (runFrom P s none).at_ e := by omega
    have eq2 : (runFrom P s none).at_ e ≤ P.hi + 300 := by omega
    have no : (nextS P s e).on = false := by show (!s.on) = false; rw [ho]; rfl
    refine ⟨hlt, ⟨by show 0 ≤ e; omega, by show e ≤ _; omega, ?_, ?_, fun z => ?_, fun _ => eq, fun _ z => ?_, fun _ _ => ⟨f2, eq2⟩⟩⟩
    · show _ ≤ (runFrom P s none).at_ e; omega
    · show (runFrom P s none).at_ e ≤ _; omega
    · rw [no] at z; cases z
    · rw [no] at z; cases z
  | false =>
    rw [beyond_off ho] at f2 nb2
    have h0 : P.heat s.on = 0 := by rw [ho]; rfl
    have eq : (runFrom P s none).at_ e ≤ P.hi := by omega
    have eq2 : P.lo - 100 ≤ (runFrom P s none).at_ e := by omega
    have no : (nextS P s e).on = true := by show (!s.on) = true; rw [ho]; rfl
    refine ⟨hlt, ⟨by show 0 ≤ e; omega, by show e ≤ _; omega, ?_, ?_, fun _ => eq, fun z => ?_, fun _ _ => ⟨eq2, f2⟩, fun _ z => ?_⟩⟩
    · show _ ≤ (runFrom P s none).at_ e; omega
    · show (runFrom P s none).at_ e ≤ _; omega
    · rw [no] at z; cases z
    · rw [no] at z; cases z
theorem Chn.ok {P : Par} (ok : ParOk P) {rs : List RunD} {s : S3} (h : Chn P rs s) : StOk P rs.length s := by
  induction h with
  | nil => exact start_ok ok
  | snoc hc hf ih =>
    have := (next_ok ok ih hf).2
    simpa using this
/-- the run of number i of a chain -/
theorem Chn.at_ {P : Par} {rs : List RunD} {s : S3} (h : Chn P rs s) : ∀ {i : Nat} {r : RunD}, rs[i]? = some r → ∃ s' e, Chn P (rs.take i) s' ∧ r = runFrom P s' (some e) ∧ FB (runFrom P s' none) (bnd P s'.on) (sgn s'.on) (some e) ∧
    ((∃ r2, rs[i + 1]? = some r2 ∧ r2.beg = e ∧ r2.deg = (runFrom P s' none).at_ e ∧ r2.on = !s'.on) ∨ (i + 1 = rs.length ∧ s = nextS P s' e)) := by
  induction h with
  | nil => intro i r h; simp at h
  | @snoc rs s e hc hf ih =>
    intro i r hi
    by_cases hlt : i < rs.length
    · rw [List.getElem?_append_left hlt] at hi
      obtain ⟨s', e', h1, h2, h3, h4⟩ := ih hi
      refine ⟨s', e', by rw [List.take_append_of_le_length (Nat.le_of_lt hlt)]; exact h1, h2, h3, .inl ?_⟩
      rcases h4 with ⟨r2, h5, h6⟩ | ⟨h5, h6⟩
      · exact ⟨r2, by rw [List.getElem?_append_left (List.getElem?_eq_some_iff.mp h5).1]; exact h5, h6⟩
      · subst h6
        exact ⟨runFrom P (nextS P s' e') (some e), by rw [h5, List.getElem?_append_right (Nat.le_refl _)]; simp, rfl, rfl, rfl⟩
    · have hl := (List.getElem?_eq_some_iff.mp hi).1
      have e1 : i = rs.length := by simp at hl; omega
      subst e1
      rw [List.getElem?_append_right (Nat.le_refl _)] at hi
      simp at hi
      subst hi
      exact ⟨s, e, by simpa using hc, rfl, hf, .inr ⟨by simp, rfl⟩⟩
theorem pigeon : ∀ (n : Nat) (l : List Nat), l.Nodup → (∀ x ∈ l, x < n) → l.length ≤ n
  | 0, l, _, h => by
    cases l with
    | nil => exact Nat.le_refl 0
    | cons x l => exact absurd (h x List.mem_cons_self) (Nat.not_lt_zero _)
  | n + 1, l, nd, h => by
    by_cases hm : n ∈ l
    · have := pigeon n (l.erase n) (nd.erase n) (fun x hx => by
        have h1 := h x (List.mem_of_mem_erase hx)
        have h2 : x ≠ n := fun e => by
          rw [e, nd.mem_erase_iff] at hx
          exact hx.1 rfl
        omega)
      rw [List.length_erase_of_mem hm] at this
      omega
    · have := pigeon n l nd (fun x hx => by
        have h1 := h x hx
        have h2 : x ≠ n := fun e => hm (e ▸ hx)
        omega)
      omega
/-- a number of a key below 9,601: 0 for the first one -/
def codeK (P : Par) (k : Int × Int × Bool) : Nat := (k.1 * 400 + (if k.2.2 = true then k.2.1 - (P.lo - 100) else k.2.1 - (P.hi + 1) + 100)).toNat
theorem Chn.code {P : Par} (ok : ParOk P) {rs : List RunD} {s : S3} (h : Chn P rs s) {i : Nat} {r : RunD} (hi : rs[i + 1]? = some r) :
    ∃ q : Int, (codeK P (keyR P r) : Int) = (r.beg % P.ch.length) * 400 + q ∧ 0 ≤ q ∧ q < 400 ∧ (r.on = true → q = r.deg - (P.lo - 100) ∧ q < 100) ∧ (r.on = false → q = r.deg - (P.hi + 1) + 100 ∧ 100 ≤ q) := by
  obtain ⟨s', e, h1, rfl, _, _⟩ := h.at_ hi
  have so := h1.ok ok
  have hl : 0 < (rs.take (i + 1)).length := by
    have := (List.getElem?_eq_some_iff.mp hi).1
    rw [List.length_take]
    omega
  have m0 := Int.emod_nonneg s'.t (show (P.ch.length : Int) ≠ 0 by have := ok.pos; omega)
  cases ho : s'.on with
  | true =>
    have := so.onI hl ho
    refine ⟨s'.d - (P.lo - 100), ?_, by omega, by omega, fun _ => ⟨rfl, by omega⟩, fun z => absurd (ho.symm.trans z) (by decide)⟩
    show (((s'.t % P.ch.length) * 400 + (if s'.on = true then s'.d - (P.lo - 100) else s'.d - (P.hi + 1) + 100)).toNat : Int) = s'.t % P.ch.length * 400 + _
    rw [if_pos ho]
    omega
  | false =>
    have := so.offI hl ho
    refine ⟨s'.d - (P.hi + 1) + 100, ?_, by omega, by omega, fun z => absurd (ho.symm.trans z) (by decide), fun _ => ⟨rfl, by omega⟩⟩
    show (((s'.t % P.ch.length) * 400 + (if s'.on = true then s'.d - (P.lo - 100) else s'.d - (P.hi + 1) + 100)).toNat : Int) = s'.t % P.ch.length * 400 + _
    rw [if_neg (by rw [ho]; exact Bool.false_ne_true)]
    omega
theorem Chn.bound {P : Par} (ok : ParOk P) {rs : List RunD} {s : S3} (h : Chn P rs s) (nd : (rs.map (keyR P)).Nodup) : rs.length ≤ 9601 := by
  cases rs with
  | nil => exact Nat.zero_le _
  | cons r rs =>
    have nd2 : (rs.map (keyR P)).Nodup := (List.nodup_cons.mp nd).2
    have key : ∀ {i : Nat} {x : RunD}, rs[i]? = some x → _ := fun {i x} hi => h.code ok (i := i) (r := x) (by simpa using hi)
    have hl := ok.len
    have hp := ok.pos
    have nd3 : ((rs.map (keyR P)).map (codeK P)).Nodup := by
      rw [List.Nodup, List.pairwise_map]
      have nd2' := nd2
      rw [List.Nodup, List.pairwise_iff_getElem] at nd2'
      rw [List.pairwise_iff_getElem]
      intro i j hi hj hij e
      apply nd2' i j hi hj hij
      rw [List.getElem_map, List.getElem_map] at e ⊢
      have hi' : i < rs.length := by simpa using hi
      have hj' : j < rs.length := by simpa using hj
      obtain ⟨q1, a1, a2, a3, a4, a5⟩ := key (List.getElem?_eq_getElem hi')
      obtain ⟨q2, b1, b2, b3, b4, b5⟩ := key (List.getElem?_eq_getElem hj')
      generalize rs[i] = x at *
      generalize rs[j] = y at *
      rw [e] at a1
      have hq : q1 = q2 := by omega
      have hph : x.beg % (P.ch.length : Int) = y.beg % P.ch.length := by omega
      have hon : x.on = y.on := by
        cases hx : x.on <;> cases hy : y.on
        · rfl
        · have := (a5 hx).2; have := (b4 hy).2; omega
        · have := (a4 hx).2; have := (b5 hy).2; omega
        · rfl
      have hdeg : x.deg = y.deg := by
        cases hx : x.on
        · have := (a5 hx).1; have := (b5 (hon ▸ hx)).1; omega
        · have := (a4 hx).1; have := (b4 (hon ▸ hx)).1; omega
      unfold keyR
      rw [hph, hdeg, hon]
    have := pigeon 9600 _ nd3 (fun c hc => by
      obtain ⟨k, hk, rfl⟩ := List.mem_map.mp hc
      obtain ⟨x, hx, rfl⟩ := List.mem_map.mp hk
      obtain ⟨i, hi⟩ := List.mem_iff_getElem?.mp hx
      obtain ⟨q, a1, a2, a3, _⟩ := key hi
      have m1 := Int.emod_lt_of_pos x.beg (show (0 : Int) < P.ch.length by omega)
      omega)
    simp only [List.length_map] at this
    simp only [List.length_cons]
    omega
/-- a whole history -/
structure HistOk (P : Par) (rs : List RunD) (loop : Option Int) : Prop where
  par : ParOk P
  nd : (rs.map (keyR P)).Nodup
  shape : (loop = none ∧ ∃ rs0 s, Chn P rs0 s ∧ rs = rs0 ++ [runFrom P s none] ∧ FB (runFrom P s none) (bnd P s.on) (sgn s.on) none) ∨
    (∃ (j : Nat) (r : RunD) (s : S3), loop = some (j : Int) ∧ Chn P rs s ∧ rs[j]? = some r ∧ keyR P r = keyS P s)
end Wm
end

section
/-! ## More rules -/
namespace Wm
open PySem PySem.Spec PyProof.Rows L2 StX
section
variable {K : PySem.W.Frag} {G H : Hp} {mu : Mu} {Q : VK} {xs ys : List V} {a b : Addr} {σ : L2.St} {D : Ends}
theorem r_yes {QT : Bool → Hp → Prop} (k : QT true H) : tYes σ H QT := k
theorem ints_snoc {L : List Int} {i : Nat} {z : Int} (h : L[i]? = some z) : (L.take i).map V.int ++ [V.int z] = (L.take (i + 1)).map V.int := by
  rw [take_one h, List.map_append] <;> rfl
theorem r_par2 {i j : Nat} {tr : TA} (k : tr σ H fun vs H1 => ∃ v w, vs = [v, w] ∧ D.nx ((σ.set i (some v)).set j (some w)) H1) : tPar i j tr D σ H := k
theorem r_par3 {i j l : Nat} {ta : TA} (k : ta σ H fun vs H1 => ∃ u v w, vs = [u, v, w] ∧ D.nx (((σ.set i (some u)).set j (some v)).set l (some w)) H1) : tPar3 i j l ta D σ H := k
theorem r_three {P : V → V → V → Prop} {x y z : V} (k : P x y z) : ∃ u v w, [x, y, z] = [u, v, w] ∧ P u v w := ⟨x, y, z, rfl, k⟩
theorem catA_by (h1 : SqT K H a xs) (h2 : SqT K H b ys) (hz : xs.length + ys.length ≤ sizeLine) (k : ∀ p H', Ex H H' → SqT K H' p (xs ++ ys) → Q (.ref p) H') : rCatA K (.ref a) (.ref b) H Q := by
  refine ⟨a, b, xs, ys, rfl, rfl, h1, h2, hz, fun e => ?_, fun _ e => ?_, fun _ _ p hp => k p _ (Ex.new hp) (SqT.of_ upd_same)⟩
  · subst e
    exact k b H (Ex.refl H) h2
  · subst e
    exact k a H (Ex.refl H) (by rw [List.append_nil]; exact h1)
theorem slA_by {lo hi : Option Int} (h : SqT K H a xs) (k : ∀ p H', Ex H H' → SqT K H' p (cutV xs lo hi) → Q (.ref p) H') : rSlA K (.ref a) lo hi H Q := by
  refine ⟨a, xs, rfl, h, fun e => ?_, fun _ p hp => k p _ (Ex.new hp) (SqT.of_ upd_same)⟩
  refine k a H (Ex.refl H) ?_
  have : cutV xs lo hi = xs := by
    unfold cutV
    rw [e.1, e.2]
    simp
  rw [this]
  exact h
theorem catA_G (hh : Hold G mu H) (h1 : SqT K G a xs) (h2 : SqT K G b ys) (hz : xs.length + ys.length ≤ sizeLine) (k : ∀ p G' H', Ex G G' → SqT K G' p (xs ++ ys) → Hold G' mu H' → Q (.ref p) H') : rCatA K (.ref a) (.ref b) H Q := by
  refine ⟨a, b, xs, ys, rfl, rfl, hh.tup h1, hh.tup h2, hz, fun e => ?_, fun _ e => ?_, fun _ _ p hp => k p _ _ (Ex.new (hh.g_none hp)) (SqT.of_ upd_same) (hh.new hp)⟩
  · subst e
    exact k b G H (Ex.refl G) h2 hh
  · subst e
    exact k a G H (Ex.refl G) (by rw [List.append_nil]; exact h1) hh
theorem slA_G {lo hi : Option Int} (hh : Hold G mu H) (h : SqT K G a xs) (k : ∀ p G' H', Ex G G' → SqT K G' p (cutV xs lo hi) → Hold G' mu H' → Q (.ref p) H') : rSlA K (.ref a) lo hi H Q := by
  refine ⟨a, xs, rfl, hh.tup h, fun e => ?_, fun _ p hp => k p _ _ (Ex.new (hh.g_none hp)) (SqT.of_ upd_same) (hh.new hp)⟩
  refine k a G H (Ex.refl G) ?_ hh
  have : cutV xs lo hi = xs := by
    unfold cutV
    rw [e.1, e.2]
    simp
  rw [this]
  exact h
theorem seenNew_m {P : Program} {w : World} (hh : Hold G mu H) (k : ∀ p H', Hold G ((p, SeenO P w p []) :: mu) H' → Q (.ref p) H') : tSeenNew P w σ H Q := fun p hp => k p _ (hh.newm hp)
def rSeenPut (P : Program) (w : World) (D : Ends) (σ : L2.St) (z x y : V) (H3 : Hp) : Prop := ∃ (a t : Addr) (ks : List (K3 × Addr)) (k : K3), z = .int (ks.length : Int) ∧ x = .ref a ∧ y = .ref t ∧ H3 a = some (SeenO P w a ks) ∧ H3 t = some (.tup (tv3 k)) ∧
  (∀ q ∈ ks, H3 q.2 = some (.tup (tv3 q.1))) ∧ k ∉ ks.map (·.1) ∧ ks.length < sizeLine ∧ D.nx σ (upd H3 a (SeenO P w a (ks ++ [(k, t)])))
theorem r_seenPut {P : Program} {w : World} {td ty tv : TE} (k : tv σ H fun z H1 => td σ H1 fun x H2 => ty σ H2 fun y H3 => rSeenPut P w D σ z x y H3) : sSeenPut P w td ty tv D σ H := k
theorem r_seenGet {P : Program} {w : World} {td ty : TE} (k : td σ H fun x H1 => ty σ H1 fun y H2 => rSeenGet P w x y H2 Q) : tSeenGet P w td ty σ H Q := k
theorem cut_from (xs : List V) {i : Int} {n : Nat} (h : i = (n : Int)) (hn : n ≤ xs.length) : cutV xs (some i) none = xs.drop n := by
  subst h
  unfold cutV
  rw [HT.sIx_nat, HT.sIx_none, Nat.min_eq_left hn]
  exact List.take_of_length_le (by simp)
theorem cut_to (xs : List V) {i : Int} {n : Nat} (h : i = (n : Int)) (hn : n ≤ xs.length) : cutV xs none (some i) = xs.take n := by
  subst h
  unfold cutV
  rw [HT.sIx_nat, HT.sIx_none, Nat.min_eq_left hn]
  simp
end
end Wm
end

section
/-! ## A for in a generator's body -/
namespace Wm
open PySem PySem.Spec PyProof.Rows L2 GenW
def tGFor (wi : TI) (g : TG) (tb : TGn) : TGn := fun D ys σ H => wi σ H fun J H1 => ∃ W : Nat → Nat → List V → L2.St → Hp → Prop, (∃ m, W 0 m ys σ H1) ∧ ∀ i m ys σ H, W i m ys σ H →
  (J.stop i H ∧ D.nx ys σ H) ∨ (J.go i H ∧ ∃ N : List V → L2.St → Hp → Prop, (∀ ys' σ' H', N ys' σ' H' → ∃ m', m' < m ∧ W (i + 1) m' ys' σ' H') ∧
    ∀ x H', J.yld i H x H' → g x σ H' fun σ2 H2 => tb { D with nx := N, ct := N, bk := D.nx } ys σ2 H2)
section
variable {X : Cx} {S : Addr} {ip : List (Addr × Obj)} {A : Around} {c c' : Code} {fs : List Frame} {gd : Bool → Bool} {l kp : List Value} {p : Pos}
/-- what the loop's code does with an exception of its own -/
def ownEnd (env : Env) (x : Value) : Sem PySem.Fin := (do noteFrame x env; theTreesLotGoes x : Sem Unit).wrap (fun _ => .raise x) .raise id id
theorem seg_forTurn {M : Model} {R : GenEnd} {Y : Protocol} {n : Nat} {s₀ s : Shared} {tg : Expr} {it : Value} {body : List Stmt} {env : Env} {cc : Code}
    (h : wpAny M (A.over cc fs) (pyNext it) (fun r s1 => match r with
      | none => Seg M A R Y n s₀ cc (.pure (.again (.block [] env))) fs s1
      | some v => wpAny M (A.over cc fs) (letOwnedTupleGo tg it v) (fun _ s2 => wpAny M (A.over cc fs) (assign tg env v) (fun _ s3 =>
          Seg M A R Y n s₀ cc ((execs body env).wrap (fun f => match f with
            | .next | .cont => .pure (.again (.forLoop tg it body [] env))
            | .brk => .pure (.done .next)
            | .ret v => .pure (.done (.ret v))) (ownEnd env) id id) fs s3)
          (fun x s3 => Seg M A R Y n s₀ cc (ownEnd env x) fs s3) s2) (fun x s2 => Seg M A R Y n s₀ cc (ownEnd env x) fs s2) s1)
      (fun x s1 => Seg M A R Y n s₀ cc (ownEnd env x) fs s1) s) :
    Seg M A R Y n s₀ cc ((forTurn tg it body [] env).onRaise (fun x => do noteFrame x env; theTreesLotGoes x)) fs s := by
  rw [Sem.onRaise_eq_wrap]
  have eJ : (fun e => (do noteFrame e env; theTreesLotGoes e : Sem Unit).bind fun _ => (Sem.raise e : Sem PySem.Fin)) = ownEnd env := by
    funext e
    unfold ownEnd
    rw [Sem.bind_eq_wrap]
  rw [eJ]
  unfold forTurn
  refine seg_bind_wrap (wpAny_standAt ?_)
  refine seg_bind_wrap (wpAny_onRaise (wpAny_mono h (fun r s1 h1 => ?_) fun x s1 h1 => wpAny_standAt h1))
  cases r with
  | none => exact h1
  | some v =>
    refine seg_bind_wrap (wpAny_mono h1 (fun _ s2 h2 => ?_) fun x s2 h2 => h2)
    refine seg_bind_wrap (wpAny_mono h2 (fun _ s3 h3 => ?_) fun x s3 h3 => h3)
    rw [Sem.bind_eq_wrap', Sem.wrap_wrap]
    rw [Sem.wrap_congr (execs body env) _ _ (K' := fun f => match f with
            | .next | .cont => .pure (.again (.forLoop tg it body [] env))
            | .brk => .pure (.done .next)
            | .ret v => .pure (.done (.ret v))) (H' := ownEnd env) (fun f => by cases f <;> rfl) (fun e => by rfl)]
    exact h3
theorem gs_for {tg iter : Expr} {body : List Stmt} {wi : TI} {g : TG} {tb : TGn} {pos : Pos} (hp : PassesOwn (model X.prog X.w) X.A X.env X.xe) (hc : X.calm = true) (hi : PI X tg iter wi) (hg : PG X tg g) (hb : GSs X body tb)
    (hs : ∀ x, foldedSetIterable iter X.env x = pure x := by intro _; rfl) : GS X (.For tg iter body [] pos) (tGFor wi g tb) := by
  refine ⟨fun A S ip R n ys s₀ c fs K J gd lv s σ H D gc hn k hI ht => ?_⟩
  obtain ⟨acc, cc, r, I⟩ := hI
  rw [PySem.exec_For]
  refine seg_bind_wrap (wpAny_standAt ?_)
  refine seg_bind_wrap ?_
  rw [gc.over]
  refine wpAny_mono (hi.run _ s σ H _ I ht) (fun v s1 h1 => ?_) fun x s' hx => k.exc n s₀ x s' hx
  refine seg_bind_wrap (wpAny_of_eq (hs v) ?_)
  refine seg_bind_wrap (wpAny_standAt ?_)
  refine seg_bind_wrap (wpAny_holding ?_)
  rw [gc.over]
  refine wpAny_mono h1 (fun itv s2 h2 => ?_) fun x s' hx => k.exc n s₀ x s' hx
  obtain ⟨it, fp, tn, Jt, H2, e, I2, T, st2, f2, W, ⟨m0, w0⟩, turn⟩ := h2
  subst e
  refine seg_call fun p => ?_
  have gl := fun (kk : Result → Sem PySem.Fin) => gc_loop (k := kk) (c' := .forLoop tg (.ref it) body [] X.env) (l := lv []) (kp := []) (p := p) gc rfl rfl
  have glb := fun (kk : Result → Sem PySem.Fin) => gc_loop (k := kk) (c' := .block [] X.env) (l := lv []) (kp := []) (p := p) gc rfl rfl
  have fpo : ∀ {ac : Array Value} {c2 : Nat} {H' : Hp}, (∀ b ∈ fp, H' b = none) → ∀ b ∈ fp, FpOk X ((S, lstObj ac c2) :: ip) H' b := fun {ac c2 H'} hn b hb => by
    obtain ⟨q0, q1, q2, q3, q4, q5⟩ := f2 b hb
    refine ⟨hn b hb, q1, q2, q3, q4, fun p hp => ?_⟩
    rcases List.mem_append.mp hp with z | z
    · exact q5 p (List.mem_append_left _ z)
    · rcases List.mem_cons.mp z with z | z
      · rw [z]; exact q5 (S, lstObj acc cc) (List.mem_append_right _ List.mem_cons_self)
      · exact q5 p (List.mem_append_right _ (List.mem_cons_of_mem _ z))
  have fpS : ∀ b ∈ fp, b ≠ S := fun b hb z => by
    obtain ⟨_, _, _, _, _, q5⟩ := f2 b hb
    exact q5 (S, lstObj acc cc) (List.mem_append_right _ List.mem_cons_self) z.symm
  have loop : ∀ (m i n : Nat) (ys : List V) (s₀ s : Shared) (σ : L2.St) (H : Hp), n + ys.length = sizeLine → W i m ys σ H → GI X S ip ys σ H s → tn i s.heap → (∀ b ∈ fp, H b = none) →
      Seg (model X.prog X.w) A R (GY X S) n s₀ (.forLoop tg (.ref it) body [] X.env) ((model X.prog X.w).den (.forLoop tg (.ref it) body [] X.env))
        (.ret (fun r => ((match r with | .ok f => (.pure f : Sem Flow) | .error e => .raise e).onRaise (cameBack X.env)).wrap K J gd lv) none (gd false) (lv []) c p [] :: fs) s := by
    intro m
    induction m using Nat.strongRecOn with
    | ind m ih =>
      intro i n ys s₀ s3 σ3 H3 hn w3 hI st3 fr3
      have ee : ∀ (n : Nat) (s₀ : Shared) (x : Value) (s' : Shared), X.xe x s' → Seg (model X.prog X.w) A R (GY X S) n s₀ (.forLoop tg (.ref it) body [] X.env) (ownEnd X.env x)
          (.ret (fun r => ((match r with | .ok f => (.pure f : Sem Flow) | .error e => .raise e).onRaise (cameBack X.env)).wrap K J gd lv) none (gd false) (lv []) c p [] :: fs) s' := fun n s₀ x s' hx => by
        unfold ownEnd
        refine seg_wrap ?_
        rw [(gl _).over]
        refine wpAny_bind (wpAny_mono (hp x s' hx) (fun _ s'' hcb => wpAny_theTreesLotGoes ?_) fun y s'' hcb => ?_)
        · exact seg_leaf (.error x) (seg_cameBack gc k hcb)
        · exact seg_leaf (.error y) (seg_cameBack gc k hcb)
      refine seg_forTurn ?_
      rw [(gl _).over]
      obtain ⟨acc, cc, r, I3⟩ := hI
      rcases turn i m ys σ3 H3 w3 with ⟨stop, qn⟩ | ⟨go, N, hN, step⟩
      · refine wpAny_mono (T.done X rfl rfl rfl hc i _ s3 σ3 H3 X.xe I3 (fpo fr3) st3 stop) (fun r' s4 h4 => ?_) fun x s' hx => ee n s₀ x s' hx
        obtain ⟨hr, I4⟩ := h4
        subst hr
        refine seg_again rfl ?_
        exact seg_leaf (.ok .next) (k.ok n ys s₀ s4 .next hn ⟨σ3, H3, ⟨acc, cc, r, I4⟩, qn⟩)
      · refine wpAny_mono (T.item X rfl rfl rfl hc i _ s3 σ3 H3 X.xe I3 (fpo fr3) st3 go) (fun r' s4 h4 => ?_) fun x s' hx => ee n s₀ x s' hx
        obtain ⟨u, hr, h4⟩ := h4
        subst hr
        refine wpAny_mono h4 (fun _ s5 h5 => ?_) fun x s' hx => ee n s₀ x s' hx
        obtain ⟨x, H5, I5, r5, y5, st5, fr5⟩ := h5
        have I5' := I5.pinned (fpo fr5) (T.obj _ _ st5)
        refine wpAny_mono (hg.run _ s5 σ3 H5 x u _ I5' r5 (step x H5 y5)) (fun _ s6 h6 => ?_) fun x s' hx => ee n s₀ x s' hx
        obtain ⟨σ6, H6, I6, q6⟩ := h6
        have gc6 : ∀ kk, GC X S (ip ++ pinsAt fp s5.heap) A (.forLoop tg (.ref it) body [] X.env) (.ret kk none (gd false) (lv []) c p [] :: fs) id := fun kk => ⟨(gl kk).pn, fun p hp => (List.mem_append.mp hp).elim (fun z => gc.ip p z) fun z => fpS _ (of_pinsAt z).1, (gl kk).apart, (gl kk).over, (gl kk).split, (gl kk).guard, (gl kk).gd⟩
        have again : ∀ (n' : Nat) (ys' : List V) (s₀' s7 : Shared), n' + ys'.length = sizeLine → (∃ σ7 H7, GI X S (ip ++ pinsAt fp s5.heap) ys' σ7 H7 s7 ∧ N ys' σ7 H7) →
            Seg (model X.prog X.w) A R (GY X S) n' s₀' (.forLoop tg (.ref it) body [] X.env) (.pure (.again (.forLoop tg (.ref it) body [] X.env)))
              (.ret (fun r => ((match r with | .ok f => (.pure f : Sem Flow) | .error e => .raise e).onRaise (cameBack X.env)).wrap K J gd lv) none (gd false) (lv []) c p [] :: fs) s7 := fun n' ys' s₀' s7 hn' h7 => by
          obtain ⟨σ7, H7, ⟨ac7, c7, r7, I7⟩, n7⟩ := h7
          obtain ⟨m', hm, w7⟩ := hN ys' σ7 H7 n7
          have pin7 : ∀ b ∈ fp, ∀ o, s5.heap.get? b = some o → s7.heap.get? b = some o ∧ H7 b = none := fun b hb o e => by
            have := I7.pin (b, o) (List.mem_append_right _ (List.mem_cons_of_mem _ (List.mem_append_right _ (mem_pinsAt hb e))))
            exact ⟨this.1, this.2.1⟩
          have J7 : Inv X ((S, lstObj ac7 c7) :: ip) σ7 H7 s7 := Inv.unpinned (pins := (S, lstObj ac7 c7) :: ip) I7
          refine seg_again rfl (ih m' hm (i + 1) n' ys' s₀' s7 σ7 H7 hn' w7 ⟨ac7, c7, r7, J7⟩ (T.keep _ _ _ st5 fun b hb o e => (pin7 b hb o e).1) fun b hb => ?_)
          obtain ⟨o, e, d⟩ := T.obj _ _ st5 b hb
          exact (pin7 b hb o e).2
        have un : ∀ {ys' : List V} {σ7 : L2.St} {H7 : Hp} {s7 : Shared}, GI X S (ip ++ pinsAt fp s5.heap) ys' σ7 H7 s7 → GI X S ip ys' σ7 H7 s7 := fun {ys' σ7 H7 s7} h7 => by
          obtain ⟨ac7, c7, r7, I7⟩ := h7
          exact ⟨ac7, c7, r7, Inv.unpinned (pins := (S, lstObj ac7 c7) :: ip) I7⟩
        refine hb.run A S (ip ++ pinsAt fp s5.heap) R n ys s₀ _ _ _ _ id id s6 σ6 H6 { D with nx := N, ct := N, bk := D.nx } (gc6 _) hn ⟨fun n' ys' s₀' s7 f hn' hs => ?_, fun n' s₀' x s7 hx => ee n' s₀' x s7 hx⟩ ⟨acc, cc, r, I6⟩ q6
        cases f with
        | next => exact again n' ys' s₀' s7 hn' hs
        | cont => exact again n' ys' s₀' s7 hn' hs
        | brk =>
          obtain ⟨σ7, H7, h7, q7⟩ := hs
          exact seg_leaf (.ok .next) (k.ok n' ys' s₀' s7 .next hn' ⟨σ7, H7, un h7, q7⟩)
        | ret v =>
          obtain ⟨x7, σ7, H7, h7, rv, q7⟩ := hs
          exact seg_leaf (.ok (.ret v)) (k.ok n' ys' s₀' s7 (.ret v) hn' ⟨x7, σ7, H7, un h7, rv, q7⟩)
  exact loop m0 0 n ys s₀ s2 σ H2 hn w0 ⟨acc, cc, r, I2⟩ st2 fun b hb => (f2 b hb).1
end
end Wm
end

section
local macro_rules | `(tactic| walk_at "cls") => `(tactic| first | (with_reducible exact Wm.WeatherC.cl (by assumption)) | (with_reducible exact Wm.HeaterC.cl (by assumption)) | (with_reducible exact Wm.RoomC.cl (by assumption)) | (with_reducible exact Wm.RunC.cl (by assumption)) | (with_reducible exact Wm.HistoryC.cl (by assumption)) | (with_reducible exact Wm.ThresholdObserverC.cl (by assumption)) | (with_reducible exact Wm.SettingC.cl (by assumption)) | (with_reducible exact Wm.HourSettingC.cl (by assumption)) | (with_reducible exact Wm.RestSettingC.cl (by assumption)) | (with_reducible exact Wm.PricesC.cl (by assumption)) | (with_reducible exact Wm.MomentC.cl (by assumption)) | (with_reducible exact Wm.LiveRoomC.cl (by assumption)) | (with_reducible exact Wm.AttemptC.cl (by assumption)))
local macro_rules | `(tactic| walk_at "noattr") => `(tactic| first | (with_reducible exact Wm.WeatherC.n_pattern (by assumption)) | (with_reducible exact Wm.HeaterC.n_power (by assumption)) | (with_reducible exact Wm.HeaterC.n_below (by assumption)) | (with_reducible exact Wm.HeaterC.n_above (by assumption)) | (with_reducible exact Wm.RoomC.n_outside (by assumption)) | (with_reducible exact Wm.RoomC.n_inside (by assumption)) | (with_reducible exact Wm.RoomC.n_begin_degrees (by assumption)) | (with_reducible exact Wm.RoomC.n_past (by assumption)) | (with_reducible exact Wm.RoomC.n_repeated (by assumption)) | (with_reducible exact Wm.RoomC.n_share (by assumption)) | (with_reducible exact Wm.RoomC.n_coldest (by assumption)) | (with_reducible exact Wm.RoomC.n_warmest (by assumption)) | (with_reducible exact Wm.RunC.n_begin (by assumption)) | (with_reducible exact Wm.RunC.n_end (by assumption)) | (with_reducible exact Wm.RunC.n_degrees (by assumption)) | (with_reducible exact Wm.RunC.n_is_heating (by assumption)) | (with_reducible exact Wm.RunC.n_sums (by assumption)) | (with_reducible exact Wm.RunC.n_size (by assumption)) | (with_reducible exact Wm.RunC.n_drift (by assumption)) | (with_reducible exact Wm.HistoryC.n_shifts (by assumption)) | (with_reducible exact Wm.HistoryC.n_added (by assumption)) | (with_reducible exact Wm.HistoryC.n_floor (by assumption)) | (with_reducible exact Wm.HistoryC.n_ceiling (by assumption)) | (with_reducible exact Wm.HistoryC.n_was_heating (by assumption)) | (with_reducible exact Wm.HistoryC.n_runs (by assumption)) | (with_reducible exact Wm.HistoryC.n_loop (by assumption)) | (with_reducible exact Wm.ThresholdObserverC.n_outside (by assumption)) | (with_reducible exact Wm.ThresholdObserverC.n_power (by assumption)) | (with_reducible exact Wm.ThresholdObserverC.n_tick (by assumption)) | (with_reducible exact Wm.ThresholdObserverC.n_degrees (by assumption)) | (with_reducible exact Wm.ThresholdObserverC.n_is_heating (by assumption)) | (with_reducible exact Wm.ThresholdObserverC.n_lows (by assumption)) | (with_reducible exact Wm.ThresholdObserverC.n_highs (by assumption)) | (with_reducible exact Wm.ThresholdObserverC.n_noted (by assumption)) | (with_reducible exact Wm.SettingC.n_least (by assumption)) | (with_reducible exact Wm.SettingC.n_most (by assumption)) | (with_reducible exact Wm.HourSettingC.n_least (by assumption)) | (with_reducible exact Wm.HourSettingC.n_most (by assumption)) | (with_reducible exact Wm.HourSettingC.n_length (by assumption)) | (with_reducible exact Wm.HourSettingC.n_hours (by assumption)) | (with_reducible exact Wm.RestSettingC.n_least (by assumption)) | (with_reducible exact Wm.RestSettingC.n_most (by assumption)) | (with_reducible exact Wm.RestSettingC.n_rest (by assumption)) | (with_reducible exact Wm.PricesC.n_table (by assumption)) | (with_reducible exact Wm.MomentC.n_tick (by assumption)) | (with_reducible exact Wm.MomentC.n_heat (by assumption)) | (with_reducible exact Wm.MomentC.n_on (by assumption)) | (with_reducible exact Wm.MomentC.n_burnt (by assumption)) | (with_reducible exact Wm.MomentC.n_sky (by assumption)) | (with_reducible exact Wm.MomentC.n_stove (by assumption)) | (with_reducible exact Wm.LiveRoomC.n_moment (by assumption)) | (with_reducible exact Wm.LiveRoomC.n_earlier (by assumption)) | (with_reducible exact Wm.LiveRoomC.n_done (by assumption)) | (with_reducible exact Wm.AttemptC.n_live (by assumption)) | (with_reducible exact Wm.AttemptC.n_kept (by assumption)) | (with_reducible exact Wm.AttemptC.n_stack (by assumption)) | (with_reducible exact Wm.AttemptC.n_steps (by assumption)))
local macro_rules | `(tactic| walk_at "at") => `(tactic| first | assumption | exact Wm.Hold.rd (by assumption) (by assumption) | exact Wm.Hold.get (i := 0) (by assumption) rfl | exact Wm.Hold.get (i := 1) (by assumption) rfl | exact Wm.Hold.get (i := 2) (by assumption) rfl | exact Wm.Hold.get (i := 3) (by assumption) rfl | exact Wm.Hold.get (i := 4) (by assumption) rfl)
local macro_rules | `(tactic| walk_at "s1") => `(tactic| first
  | (with_reducible refine Wm.r_seq ?_)
  | (with_reducible refine Wm.r_op ?_)
  | ((with_reducible refine' Wm.r_var ?h ?_); (case h => rfl))
  | (with_reducible refine Wm.r_c ?_)
  | (with_reducible refine Wm.r_I0 ?_)
  | (with_reducible refine Wm.r_cons ?_)
  | (with_reducible refine Wm.r_nil ?_)
  | (with_reducible refine Wm.r_asg ?_)
  | (with_reducible refine Wm.r_gname ?_; try simp only [List.set_cons_zero, List.set_cons_succ])
  | (with_reducible refine Wm.r_nx ?_)
  | (with_reducible refine Wm.r_rt ?_)
  | (with_reducible refine Wm.r_ret ?_)
  | (with_reducible refine Wm.r_test ?_)
  | (with_reducible refine Wm.r_bl ?_)
  | (with_reducible refine Wm.r_B ?_)
  | (with_reducible refine Wm.r_eqI ?_)
  | (with_reducible refine Wm.r_neI ?_)
  | (with_reducible refine Wm.r_eqB ?_)
  | (with_reducible refine Wm.r_neB ?_)
  | (with_reducible refine Wm.r_fld ?_)
  | (with_reducible refine Wm.r_call ?_)
  | (with_reducible refine Wm.r_mtd ?_)
  | (with_reducible refine Wm.r_prp ?_)
  | (with_reducible refine Wm.r_mak ?_)
  | (with_reducible refine Wm.r_cb ?_)
  | (with_reducible refine Wm.r_tup ?_)
  | (with_reducible refine Wm.r_lst ?_)
  | (with_reducible refine Wm.r_chain ?_)
  | (with_reducible refine Wm.r_and ?_)
  | (with_reducible refine Wm.r_or ?_)
  | (with_reducible refine Wm.r_not ?_)
  | (with_reducible refine Wm.r_andV ?_)
  | (with_reducible refine Wm.r_orV ?_)
  | (with_reducible refine Wm.r_notV ?_)
  | (with_reducible refine Wm.r_if ?_)
  | (with_reducible refine Wm.r_un ?_)
  | (with_reducible refine Wm.r_U ?_)
  | (with_reducible refine Wm.r_iteT ?_)
  | (with_reducible refine Wm.r_iteF ?_)
  | (with_reducible refine Wm.r_next ?_)
  | (with_reducible refine Wm.r_drop ?_)
  | (with_reducible refine Wm.r_retN ?_)
  | ((with_reducible refine' Wm.r_aug ?h ?_); (case h => rfl))
  | (with_reducible refine Wm.r_ipI ?_)
  | (with_reducible refine Wm.r_par2 ?_)
  | (with_reducible refine Wm.r_two ?_; try simp only [List.set_cons_zero, List.set_cons_succ])
  | (with_reducible refine Wm.r_yes ?_)
  | (with_reducible refine Wm.r_par3 ?_)
  | (with_reducible refine Wm.r_seenPut ?_)
  | (with_reducible refine Wm.r_seenGet ?_)
  | (with_reducible refine Wm.r_three ?_; try simp only [List.set_cons_zero, List.set_cons_succ])
  | (with_reducible refine Wm.r_sl ?_)
  | (with_reducible refine Wm.r_nopart ?_)
  | (with_reducible refine Wm.r_part ?_)
  | (with_reducible refine Wm.r_xi ?_)
  | (with_reducible refine Wm.r_gcons ?_)
  | (with_reducible refine Wm.r_gnil ?_)
  | (with_reducible refine Wm.r_sub ?_)
  | (with_reducible refine Wm.r_setF ?_)
  | (with_reducible refine Wm.r_app ?_)
  | (with_reducible refine Wm.int_i ?_)
  | (with_reducible refine Wm.int_b ?_)
  | (with_reducible refine Wm.min2 ?_)
  | (with_reducible refine Wm.max2 ?_)
  | (with_reducible refine Wm.abs1 ?_)
  | (with_reducible refine Wm.isN ?_)
  | (with_reducible refine Wm.notN ?_)
  | ((with_reducible refine' Wm.r_ty ?e ?_); (case e => walk_at "at"))
  | ((with_reducible refine' Wm.setF_m ?h 0 ?e ?c ?a ?l ?_); (case h => assumption); (case e => rfl); (case c => walk_at "cls"); (case a => walk_at "noattr"); (case l => exact of_decide_eq_true rfl); intro H1 hh1; simp only [List.set_cons_zero, List.set_cons_succ] at hh1)
  | ((with_reducible refine' Wm.setF_m ?h 1 ?e ?c ?a ?l ?_); (case h => assumption); (case e => rfl); (case c => walk_at "cls"); (case a => walk_at "noattr"); (case l => exact of_decide_eq_true rfl); intro H1 hh1; simp only [List.set_cons_zero, List.set_cons_succ] at hh1)
  | ((with_reducible refine' Wm.setF_m ?h 2 ?e ?c ?a ?l ?_); (case h => assumption); (case e => rfl); (case c => walk_at "cls"); (case a => walk_at "noattr"); (case l => exact of_decide_eq_true rfl); intro H1 hh1; simp only [List.set_cons_zero, List.set_cons_succ] at hh1)
  | ((with_reducible refine' Wm.setF_m ?h 3 ?e ?c ?a ?l ?_); (case h => assumption); (case e => rfl); (case c => walk_at "cls"); (case a => walk_at "noattr"); (case l => exact of_decide_eq_true rfl); intro H1 hh1; simp only [List.set_cons_zero, List.set_cons_succ] at hh1)
  | (with_reducible refine Wm.r_forL ?_)
  | (with_reducible refine Wm.r_forT ?_)
  | (with_reducible refine Wm.r_forR1 ?_)
  | (with_reducible refine Wm.r_forR2 ?_)
  | (with_reducible refine Wm.r_lcL ?_)
  | (with_reducible refine Wm.r_lcT ?_)
  | (with_reducible refine Wm.r_lcR1 ?_)
  | (with_reducible refine Wm.r_lcR2 ?_)
  | ((with_reducible refine' Wm.fld_h ?e ?c ?n ?l ?_); (case e => walk_at "at"); (case c => walk_at "cls"); (case n => walk_at "noattr"); (case l => rfl))
  | ((with_reducible refine' Wm.mtd_h ?e ?l ?_); (case e => walk_at "at"); (case l => rfl))
  | ((with_reducible refine' Wm.prp_h ?e ?_); (case e => walk_at "at"))
  | ((with_reducible refine' Wm.rix_ht ?a ?b ?_); (case a => walk_at "at"); (case b => rfl))
  | ((with_reducible refine' Wm.rix_h ?a ?b ?_); (case a => walk_at "at"); (case b => rfl))
  | ((with_reducible refine' Wm.len_ht ?a ?_); (case a => walk_at "at"))
  | ((with_reducible refine' Wm.len_h ?a ?_); (case a => walk_at "at"))
  | ((with_reducible refine' Wm.len_l ?a ?b ?_); (case a => assumption); (case b => assumption))
  | ((with_reducible refine' Wm.len_t ?a ?b ?_); (case a => assumption); (case b => assumption))
  | ((with_reducible refine' Wm.gtup_h ?a ?b ?_); (case a => walk_at "at"); (case b => rfl))
  | (with_reducible refine Wm.r_I (Wm.cmulR (by decide)) ?_)
  | (with_reducible refine Wm.r_I (Wm.cmulL (by decide)) ?_)
  | (with_reducible refine Wm.r_I (Wm.cdiv (by decide) (by decide)) ?_)
  | (with_reducible refine Wm.r_I Wm.cpow18 ?_)
  | (with_reducible refine Wm.r_I Wm.cpow12 ?_)
  | (with_reducible refine Wm.r_I (by show (0 : Int) < _; decide) ?_))
local macro_rules | `(tactic| walk_at "s") => `(tactic| repeat (first | walk_at "s1" | (with_reducible refine Wm.r_ifS ?_)))
local macro_rules | `(tactic| walk_at "t") => `(tactic| repeat (walk_at "s1"))
local macro_rules | `(tactic| walk_at "sz") => `(tactic| exact of_decide_eq_true rfl)
namespace Wm
open PySem PySem.Spec PyProof.Rows L2 StX
/-! ## Histories: the object and its methods -/
def histF (P : Par) (sh ru : Addr) (loop : Option Int) : List (Str × V) := [("shifts", .ref sh), ("added", .int P.gain), ("floor", .int P.lo), ("ceiling", .int P.hi), ("was_heating", .bl P.was), ("runs", .ref ru), ("loop", optI loop)]
structure RunsAt (K : PySem.W.Frag) (A : Ads) (H : Hp) (ras : List Addr) (rs : List RunD) : Prop where
  len : ras.length = rs.length
  at_ : ∀ (i : Nat) (a : Addr) (r : RunD), ras[i]? = some a → rs[i]? = some r → IsRun K A H a r
def IsHist (K : PySem.W.Frag) (A : Ads) (H : Hp) (p : Addr) (P : Par) (rs : List RunD) (loop : Option Int) : Prop :=
  HistoryC K A.cHistory ∧ RunC K A.cRun ∧ HistOk P rs loop ∧ ∃ dx sh ru ras, H p = some (.ins A.cHistory dx (histF P sh ru loop)) ∧ H sh = some (.tup (P.ch.map V.int)) ∧ H ru = some (.lst (ras.map V.ref)) ∧ RunsAt K A H ras rs
theorem RunsAt.up {K : PySem.W.Frag} {A : Ads} {G H : Hp} {ras : List Addr} {rs : List RunD} (e : Ex G H) (h : RunsAt K A G ras rs) : RunsAt K A H ras rs := ⟨h.len, fun i a r h1 h2 => (h.at_ i a r h1 h2).up e⟩
theorem IsHist.up {K : PySem.W.Frag} {A : Ads} {G H : Hp} {p : Addr} {P : Par} {rs : List RunD} {loop : Option Int} (e : Ex G H) (h : IsHist K A G p P rs loop) : IsHist K A H p P rs loop := by
  obtain ⟨a, b, c, dx, sh, ru, ras, h1, h2, h3, h4⟩ := h
  exact ⟨a, b, c, dx, sh, ru, ras, e _ _ h1, e _ _ h2, e _ _ h3, h4.up e⟩
theorem refs_at {as : List Addr} {i : Nat} {a : Addr} (h : as[i]? = some a) : (as.map V.ref)[i]? = some (V.ref a) := by rw [List.getElem?_map, h] <;> rfl
theorem RunsAt.add {K : PySem.W.Frag} {A : Ads} {H : Hp} {ras : List Addr} {rs : List RunD} {a : Addr} {r : RunD} (h : RunsAt K A H ras rs) (hr : IsRun K A H a r) : RunsAt K A H (ras ++ [a]) (rs ++ [r]) := by
  refine ⟨by simp [h.len], fun i b x h1 h2 => ?_⟩
  by_cases hl : i < rs.length
  · rw [List.getElem?_append_left (by rw [h.len]; exact hl)] at h1
    rw [List.getElem?_append_left hl] at h2
    exact h.at_ i b x h1 h2
  · have hl2 := (List.getElem?_eq_some_iff.mp h2).1
    have e : i = rs.length := by simp at hl2; omega
    subst e
    rw [List.getElem?_append_right (by rw [h.len]; exact Nat.le_refl _)] at h1
    rw [List.getElem?_append_right (Nat.le_refl _)] at h2
    simp [h.len] at h1 h2
    subst h1 h2
    exact hr
/-- one run of a list -/
theorem RunsAt.get {K : PySem.W.Frag} {A : Ads} {H : Hp} {ras : List Addr} {rs : List RunD} (h : RunsAt K A H ras rs) {i : Nat} {r : RunD} (hi : rs[i]? = some r) : ∃ a dx s, ras[i]? = some a ∧ IsRun K A H a r ∧ H a = some (.ins A.cRun dx (runF r s)) := by
  have hl : i < ras.length := by rw [h.len]; exact (List.getElem?_eq_some_iff.mp hi).1
  obtain ⟨a, ha⟩ := get_some hl
  have := h.at_ i a r ha hi
  obtain ⟨_, _, dx, s, h1, _⟩ := id this
  exact ⟨a, dx, s, ha, this, h1⟩
def sp_History_decide (K : PySem.W.Frag) (A : Ads) : Sp := fun vs H Q _ => ∃ (p dx sh ru : Addr) (d : Int) (b : Bool) (P : Par) (loop : Option Int), vs = [.ref p, .int d, .bl b] ∧ HistoryC K A.cHistory ∧ H p = some (.ins A.cHistory dx (histF P sh ru loop)) ∧ Q (.bl (P.dec d b)) H
def sp_History_find_runs (K : PySem.W.Frag) (A : Ads) : Sp := fun vs H Q _ => ∃ (p dx sh ru : Addr) (P : Par) (G : Hp) (mu : Mu), vs = [.ref p, .int P.start, .bl P.was] ∧ HistoryC K A.cHistory ∧ RunC K A.cRun ∧ ParOk P ∧
  Hold G ((ru, .lst []) :: (p, .ins A.cHistory dx (histF P sh ru none)) :: mu) H ∧ G sh = some (.tup (P.ch.map V.int)) ∧
  ∀ (rs : List RunD) (loop : Option Int) (G' H' : Hp), Ex G G' → IsHist K A G' p P rs loop → Hold G' mu H' → Q .non H'
def sp_History_init (K : PySem.W.Frag) (A : Ads) : Sp := fun vs H Q _ => ∃ (p dx sh : Addr) (P : Par) (G : Hp) (mu : Mu), vs = [.ref p, .ref sh, .int P.gain, .int P.lo, .int P.hi, .int P.start, .bl P.was] ∧ HistoryC K A.cHistory ∧ RunC K A.cRun ∧ ParOk P ∧
  Hold G ((p, .ins A.cHistory dx []) :: mu) H ∧ G sh = some (.tup (P.ch.map V.int)) ∧
  ∀ (rs : List RunD) (loop : Option Int) (G' H' : Hp), Ex G G' → IsHist K A G' p P rs loop → Hold G' mu H' → Q .non H'
def t_History_init (K : PySem.W.Frag) (A : Ads) : TS := tSeq (sFld K (tVar 0) (tVar 1) "shifts") (tSeq (sFld K (tVar 0) (tVar 2) "added") (tSeq (sFld K (tVar 0) (tVar 3) "floor") (tSeq (sFld K (tVar 0) (tVar 4) "ceiling") (tSeq (sFld K (tVar 0) (tVar 6) "was_heating") (tSeq (sFld K (tVar 0) (tLst (tNil)) "runs") (tSeq (sFld K (tVar 0) (tC .non) "loop") (tDrop (tMtd A.cHistory "find_runs" (sp_History_find_runs K A) E0 (tVar 0) (tCons (tVar 5) (tCons (tVar 6) (tNil)))))))))))
def t_History_decide (K : PySem.W.Frag) (A : Ads) : TS := tSeq (tIfS (tTest (tOp (rI0 fun i j => .bl (decide (i < j))) (tVar 1) (tFld K (tVar 0) "floor"))) (tRet (tC (.bl true))) (tNext)) (tRet (tAndV (tVar 2) (tOp (rI0 fun i j => .bl (decide (i ≤ j))) (tVar 1) (tFld K (tVar 0) "ceiling"))))
def t_History_find_runs (K : PySem.W.Frag) (A : Ads) : TS := tSeq (tPar3 3 4 5 (tCons (tC (.int 0)) (tCons (tSeenNew A.P A.w) (tCons (tC (.bl true)) (tNil))))) (tSeq (tAsg (tMtd A.cHistory "decide" (sp_History_decide K A) E0 (tVar 0) (tCons (tVar 1) (tCons (tVar 2) (tNil)))) (gName 2)) (tWhile (tB (tVar 5)) (tSeq (tAsg (tOp (rI (fun _ j => 0 < j) fun i j => .int (i % j)) (tCB rInt (tCons (tVar 3) (tNil))) (tCB (rLen K) (tCons (tFld K (tVar 0) "shifts") (tNil)))) (gName 6)) (tSeq (tAsg (tTup (tCons (tVar 6) (tCons (tVar 1) (tCons (tVar 2) (tNil))))) (gName 7)) (tIfS (tTest (tOp (rSeenIn A.P A.w) (tVar 7) (tVar 4))) (tSeq (sFld K (tVar 0) (tSeenGet A.P A.w (tVar 4) (tVar 7)) "loop") (tAsg (tC (.bl false)) (gName 5))) (tSeq (sSeenPut A.P A.w (tVar 4) (tVar 7) (tCB (rLen K) (tCons (tFld K (tVar 0) "runs") (tNil)))) (tSeq (tAsg (tIf (tB (tVar 2)) (tFld K (tVar 0) "added") (tC (.int 0))) (gName 8)) (tSeq (tAsg (tOp (rCatA K) (tSl (rSlA K) (tFld K (tVar 0) "shifts") (tPart (tVar 6)) (tNoPart)) (tSl (rSlA K) (tFld K (tVar 0) "shifts") (tNoPart) (tPart (tVar 6)))) (gName 9)) (tSeq (tAsg (tMak A.cRun (sp_Run_init K A) E0 (tCons (tVar 3) (tCons (tVar 1) (tCons (tVar 2) (tCons (tLc (iTup K (tVar 9)) (gName 11) (tYes) (tOp (rI0 fun i j => .int (i + j)) (tVar 11) (tVar 8)) [11]) (tNil)))))) (gName 10)) (tSeq (sFld K (tVar 10) (tIf (tB (tVar 2)) (tMtd A.cRun "first_beyond" (sp_Run_first_beyond K A) E0 (tVar 10) (tCons (tFld K (tVar 0) "ceiling") (tCons (tC (.int 1)) (tNil)))) (tMtd A.cRun "first_beyond" (sp_Run_first_beyond K A) E0 (tVar 10) (tCons (tFld K (tVar 0) "floor") (tCons (tUn (rU fun i => .int (-i)) (tC (.int 1))) (tNil))))) "end") (tSeq (tDrop (tBM K "list" rAppend (tFld K (tVar 0) "runs") (tCons (tVar 10) (tNil)))) (tIfS (tTest (tOp rIsN (tFld K (tVar 10) "end") (tC .non))) (tAsg (tC (.bl false)) (gName 5)) (tPar3 3 1 2 (tCons (tFld K (tVar 10) "end") (tCons (tMtd A.cRun "at" (sp_Run_at K A) E0 (tVar 10) (tCons (tFld K (tVar 10) "end") (tNil))) (tCons (tNotV (tVar 2)) (tNil)))))))))))))))))
section
variable {K : PySem.W.Frag} {A : Ads}
theorem pure_History_decide (vs : List V) (H : Hp) (Q : VK) (E : XK) (h : sp_History_decide K A vs H Q E) : t_History_decide K A { nx := fun _ H' => Q .non H', rt := Q } (start ["self", "degrees", "is_heating"] vs) H := by
  obtain ⟨p, dx, sh, ru, d, b, P, loop, rfl, TH, h1, k⟩ := h
  show t_History_decide K A _ [some (.ref p), some (.int d), some (.bl b)] H
  unfold t_History_decide
  unfold Par.dec at k
  walk_at "s"
  refine r_ite (fun c => ?_) (fun c => ?_)
  · rw [if_pos (of_decide_eq_true c)] at k
    walk_at "s"
    exact k
  · rw [if_neg (of_decide_eq_false c)] at k
    walk_at "s"
    cases b with
    | true =>
      walk_at "s"
      rw [Bool.true_and] at k
      exact k
    | false => exact r_iteF k
theorem pure_History_init (vs : List V) (H : Hp) (Q : VK) (E : XK) (h : sp_History_init K A vs H Q E) : t_History_init K A { nx := fun _ H' => Q .non H', rt := Q } (start ["self", "changes", "gain", "low", "high", "start", "is_heating"] vs) H := by
  obtain ⟨p, dx, sh, P, G, mu, rfl, TH, TR, ok, hh, hsh, k⟩ := h
  show t_History_init K A _ [some (.ref p), some (.ref sh), some (.int P.gain), some (.int P.lo), some (.int P.hi), some (.int P.start), some (.bl P.was)] H
  unfold t_History_init
  walk_at "s"
  rename_i H1 hh1
  refine lst_m (by decide) hh1 fun ru H2 hh2 => ?_
  walk_at "s"
  rename_i H3 hh3 H4 hh4
  refine ⟨p, dx, sh, ru, P, G, mu, rfl, TH, TR, ok, hh4, hsh, fun rs loop G' H' ex ih hh' => ?_⟩
  walk_at "s"
  exact k rs loop G' H' ex ih hh'
/-- the loop of find_runs, open and shut -/
def FOpen (K : PySem.W.Frag) (A : Ads) (P : Par) (p dx sh ru se : Addr) (G : Hp) (mu : Mu) (m : Nat) (σ : L2.St) (H : Hp) : Prop := ∃ (s : S3) (rs : List RunD) (ras : List Addr) (ks : List (K3 × Addr)) (G1 : Hp) (v6 v7 v8 v9 v10 v11 : Option V),
  σ = [some (.ref p), some (.int s.d), some (.bl s.on), some (.int s.t), some (.ref se), some (.bl true), v6, v7, v8, v9, v10, v11] ∧ Ex G G1 ∧
  Hold G1 ((se, SeenO A.P A.w se ks) :: (ru, .lst (ras.map V.ref)) :: (p, .ins A.cHistory dx (histF P sh ru none)) :: mu) H ∧ Chn P rs s ∧ (rs.map (keyR P)).Nodup ∧ RunsAt K A G1 ras rs ∧ ks.map (·.1) = rs.map (keyR P) ∧
  (∀ q ∈ ks, G1 q.2 = some (.tup (tv3 q.1))) ∧ m = 9603 - rs.length
def FShut (K : PySem.W.Frag) (A : Ads) (P : Par) (p dx sh ru se : Addr) (G : Hp) (mu : Mu) (m : Nat) (σ : L2.St) (H : Hp) : Prop := ∃ (rs : List RunD) (loop : Option Int) (ras : List Addr) (o : HO) (G1 : Hp) (v1 v2 v3 v6 v7 v8 v9 v10 v11 : Option V),
  σ = [some (.ref p), v1, v2, v3, some (.ref se), some (.bl false), v6, v7, v8, v9, v10, v11] ∧ Ex G G1 ∧
  Hold G1 ((se, o) :: (ru, .lst (ras.map V.ref)) :: (p, .ins A.cHistory dx (histF P sh ru loop)) :: mu) H ∧ HistOk P rs loop ∧ RunsAt K A G1 ras rs ∧ m = 0
theorem pure_History_find_runs (vs : List V) (H : Hp) (Q : VK) (E : XK) (h : sp_History_find_runs K A vs H Q E) : t_History_find_runs K A { nx := fun _ H' => Q .non H', rt := Q } (start ["self", "degrees", "is_heating", "tick", "seen", "is_open", "phase", "key", "added", "shifts", "run", "shift"] vs) H := by
  obtain ⟨p, dx, sh, ru, P, G, mu, rfl, TH, TR, ok, hh, hsh, k⟩ := h
  show t_History_find_runs K A _ [some (.ref p), some (.int P.start), some (.bl P.was), none, none, none, none, none, none, none, none, none] H
  unfold t_History_find_runs
  walk_at "s"
  refine seenNew_m hh fun se H1 hh1 => ?_
  walk_at "s"
  refine ⟨p, dx, sh, ru, P.start, P.was, P, none, rfl, TH, hh1.get (i := 2) rfl, ?_⟩
  walk_at "s"
  refine whileA (fun m σ H' => FOpen K A P p dx sh ru se G mu m σ H' ∨ FShut K A P p dx sh ru se G mu m σ H') 9603
    (.inl ⟨start3 P, [], [], [], G, none, none, none, none, none, none, rfl, Ex.refl G, hh1, .nil, List.nodup_nil, ⟨rfl, fun i a r h1 _ => by simp at h1⟩, rfl, (fun q hq => by cases hq), rfl⟩) ?_
  rintro m σ H2 (⟨s, rs, ras, ks, G1, v6, v7, v8, v9, v10, v11, rfl, ex1, hh2, hc, nd, hrs, hks, hkt, rfl⟩ | ⟨rs, loop, ras, o, G1, v1, v2, v3, v6, v7, v8, v9, v10, v11, rfl, ex1, hh2, hok, hrs, rfl⟩)
  · refine ⟨true, fun Q q => by walk_at "s"; exact q, fun _ => ?_, fun z => by cases z⟩
    have hl := hc.bound ok nd
    have so := hc.ok ok
    have op := ok.pos
    have ol := ok.len
    have hsh1 := ex1 _ _ hsh
    walk_at "s"
    refine r_I (show (0 : Int) < ((P.ch.map V.int).length : Nat) by rw [List.length_map]; omega) ?_
    walk_at "s"
    rw [List.length_map]
    refine tup_G (by walk_at "sz") hh2 fun kt G2 H3 ex2 hkt2 hh3 => ?_
    have hkt2 : G2 kt = some (.tup (tv3 (keyS P s))) := hkt2
    have hkk : ∀ q ∈ ks, G2 q.2 = some (.tup (tv3 q.1)) := fun q hq => ex2 _ _ (hkt q hq)
    have hsh2 := ex2 _ _ hsh1
    walk_at "s"
    refine ⟨se, kt, ks, keyS P s, rfl, rfl, hh3.get (i := 0) rfl, hh3.rd hkt2, fun q hq => hh3.rd (hkk q hq), ?_⟩
    walk_at "s"
    refine r_ite (fun c => ?_) (fun c => ?_)
    · have hm := of_decide_eq_true c
      rw [hks] at hm
      obtain ⟨r, hr, hrk⟩ := List.mem_map.mp hm
      obtain ⟨j, hj⟩ := List.mem_iff_getElem?.mp hr
      have hkj : ∃ q, ks[j]? = some (keyS P s, q) := by
        have e : (ks.map (·.1))[j]? = some (keyS P s) := by rw [hks, List.getElem?_map, hj, ← hrk] <;> rfl
        rw [List.getElem?_map] at e
        cases hq : ks[j]? with
        | none => rw [hq] at e; cases e
        | some x =>
          rw [hq] at e
          obtain ⟨x1, x2⟩ := x
          cases e
          exact ⟨x2, rfl⟩
      obtain ⟨q, hq⟩ := hkj
      walk_at "s"
      refine ⟨se, kt, ks, keyS P s, j, q, rfl, rfl, hh3.get (i := 0) rfl, hh3.rd hkt2, fun q hq => hh3.rd (hkk q hq), hq, ?_⟩
      walk_at "s"
      rename_i H4 hh4
      refine ⟨0, by omega, .inr ⟨rs, some (j : Int), ras, _, G2, _, _, _, _, _, _, _, _, _, rfl, ex1.trans ex2, hh4, ⟨ok, nd, .inr ⟨j, r, s, rfl, hc, hj, hrk⟩⟩, hrs.up ex2, rfl⟩⟩
    · have hm := of_decide_eq_false c
      have hkl : ks.length = rs.length := by
        have := congrArg List.length hks
        rw [List.length_map, List.length_map] at this
        exact this
      walk_at "s"
      refine ⟨se, kt, ks, keyS P s, by rw [List.length_map, hrs.len, hkl], rfl, rfl, hh3.get (i := 0) rfl, hh3.rd hkt2, fun q hq => hh3.rd (hkk q hq), hm, szl (by omega), ?_⟩
      have hh4 := hh3.set (i := 0) (o' := SeenO A.P A.w se (ks ++ [(keyS P s, kt)])) rfl
      rw [List.set_cons_zero] at hh4
      generalize upd H3 se (SeenO A.P A.w se (ks ++ [(keyS P s, kt)])) = H4 at hh4 ⊢
      refine r_nx (r_seq (r_asg ((show Val _ _ _ (.int (P.heat s.on)) from fun Q q => ?_) _ ?_)))
      · revert q
        unfold Par.heat
        cases s.on with
        | true => intro q; walk_at "s"; exact q
        | false => intro q; walk_at "s"; exact q
      walk_at "s"
      refine slA_G hh4 (SqT.of_ hsh2) fun a1 G5 H5 ex5 h5 hh5 => ?_
      walk_at "s"
      refine slA_G hh5 (SqT.of_ (ex5 _ _ hsh2)) fun a2 G6 H6 ex6 h6 hh6 => ?_
      have pl := phase_lt ok s.t
      rw [cut_from _ (phase_cast ok s.t).symm (by rw [List.length_map]; omega)] at h5
      rw [cut_to _ (phase_cast ok s.t).symm (by rw [List.length_map]; omega)] at h6
      walk_at "s"
      refine catA_G hh6 (h5.up ex6) h6 (sz (by rw [List.length_drop, List.length_take, List.length_map]; omega)) fun a3 G7 H7 ex7 h7 hh7 => ?_
      rw [← List.map_drop, ← List.map_take, ← List.map_append] at h7
      walk_at "s"
      refine lcT_by hh7 h7 (fun i acc G' mu' => acc = (((P.ch.drop (phase P s.t) ++ P.ch.take (phase P s.t)).map (· + P.heat s.on)).take i).map V.int ∧ mu' = ((se, SeenO A.P A.w se (ks ++ [(keyS P s, kt)])) :: (ru, .lst (ras.map V.ref)) :: (p, .ins A.cHistory dx (histF P sh ru none)) :: mu)) ⟨rfl, rfl⟩ ?_ ?_
      · rintro i x D acc G' mu' H8 hx hal exx hhx ⟨rfl, rfl⟩
        obtain ⟨z, hz, rfl⟩ := ints_of hx
        have il := (List.getElem?_eq_some_iff.mp hz).1
        walk_at "s"
        refine ⟨rfl, ?_⟩
        walk_at "s"
        refine lcY hhx exx hal (by simp only [List.length_append, List.length_drop, List.length_take] at il; omega) ⟨?_, rfl⟩
        exact ints_snoc (by rw [List.getElem?_map, hz] <;> rfl)
      rintro D acc G8 mu' H8 hal ex8 hh8 ⟨rfl, rfl⟩
      rw [List.length_map] at hh8
      rw [show ∀ l : List Int, (l.map (· + P.heat s.on)).take l.length = l.map (· + P.heat s.on) from fun l => by rw [List.take_of_length_le (by simp)]] at hh8
      have e9 := hh8.frz_ex
      have hh9 := hh8.frz
      have hD : (upd G8 D (.lst ((stepsOf P s.t s.on).map V.int))) D = some (.lst ((stepsOf P s.t s.on).map V.int)) := upd_same
      have hh9 : Hold (upd G8 D (.lst ((stepsOf P s.t s.on).map V.int))) _ H8 := hh9
      have e9 : Ex G8 (upd G8 D (.lst ((stepsOf P s.t s.on).map V.int))) := e9
      generalize upd G8 D (.lst ((stepsOf P s.t s.on).map V.int)) = G9 at hh9 hD e9
      walk_at "s"
      refine make_m hh9 fun x dx' H10 hh10 => ⟨x, dx', D, s.t, s.d, s.on, stepsOf P s.t s.on, G9, _, rfl, TR, hh10, SqL.of_ hD, by rw [steps_len ok]; omega, fun sm G11 H11 ex11 hs11 hh11 => ⟨rfl, ?_⟩⟩
      have rk : ∀ e, RunOk (runFrom P s e) := run_ok ok s
      have exA : Ex G2 G11 := ex5.trans (ex6.trans (ex7.trans (ex8.trans (e9.trans ex11))))
      walk_at "s"
      have ir : IsRun K A H11 x (runFrom P s none) := ⟨TR, rk none, dx', sm, hh11.get (i := 0) rfl, hh11.rd hs11⟩
      have fb : ∀ (σ' : L2.St) (Q : VK), σ'[0]? = some (some (.ref p)) → σ'[2]? = some (some (.bl s.on)) → σ'[10]? = some (some (.ref x)) → (∀ o H', FB (runFrom P s none) (bnd P s.on) (sgn s.on) o → Ex H11 H' → Q (optI o) H') →
          if s.on = true then (tMtd A.cRun "first_beyond" (sp_Run_first_beyond K A) E0 (tVar 10) (tCons (tFld K (tVar 0) "ceiling") (tCons (tC (.int 1)) (tNil)))) σ' H11 Q else (tMtd A.cRun "first_beyond" (sp_Run_first_beyond K A) E0 (tVar 10) (tCons (tFld K (tVar 0) "floor") (tCons (tUn (rU fun i => .int (-i)) (tC (.int 1))) (tNil)))) σ' H11 Q := by
        intro σ' Q i0 i2 i10 q
        refine r_ite (fun c => ?_) (fun c => ?_)
        · refine r_mtd (r_var i10 (mtd_h (hh11.get (i := 0) rfl) rfl (r_cons (r_fld (r_var i0 ?_)))))
          walk_at "s"
          refine ⟨x, P.hi, 1, runFrom P s none, rfl, ir, .inl rfl, fun o H' h1 h2 => q o H' ?_ h2⟩
          rw [c]
          exact h1
        · refine r_mtd (r_var i10 (mtd_h (hh11.get (i := 0) rfl) rfl (r_cons (r_fld (r_var i0 ?_)))))
          walk_at "s"
          refine ⟨x, P.lo, -1, runFrom P s none, rfl, ir, .inr rfl, fun o H' h1 h2 => q o H' ?_ h2⟩
          rw [c]
          exact h1
      refine fb _ _ rfl rfl rfl fun o H12 hfb ex12 => ?_
      have hh12 := hh11.grow ex12
      walk_at "s"
      rename_i H13 hh13
      have hh13 : Hold G11 ((x, .ins A.cRun dx' (runF (runFrom P s o) sm)) :: (se, SeenO A.P A.w se (ks ++ [(keyS P s, kt)])) :: (ru, .lst (ras.map V.ref)) :: (p, .ins A.cHistory dx (histF P sh ru none)) :: mu) H13 := hh13
      walk_at "s"
      refine app_m hh13 2 rfl (szl (by rw [List.length_map, hrs.len]; omega)) fun H14 hh14 => ?_
      simp only [List.set_cons_zero, List.set_cons_succ] at hh14
      have e15 := hh14.frz_ex
      have hh15 := hh14.frz
      have hx15 : (upd G11 x (.ins A.cRun dx' (runF (runFrom P s o) sm))) x = some (.ins A.cRun dx' (runF (runFrom P s o) sm)) := upd_same
      generalize hG : upd G11 x (.ins A.cRun dx' (runF (runFrom P s o) sm)) = G15 at hh15 hx15 e15
      have ir15 : IsRun K A G15 x (runFrom P s o) := ⟨TR, rk o, dx', sm, hx15, e15 _ _ hs11⟩
      have exB : Ex G2 G15 := exA.trans e15
      have hrs15 : RunsAt K A G15 (ras ++ [x]) (rs ++ [runFrom P s o]) := (hrs.up (ex2.trans exB)).add ir15
      have nd15 : ((rs ++ [runFrom P s o]).map (keyR P)).Nodup := by
        rw [List.map_append, List.nodup_append]
        refine ⟨nd, by simp, fun a ha b hb e => ?_⟩
        simp only [List.map_cons, List.map_nil, List.mem_singleton] at hb
        rw [hks] at hm
        apply hm
        rw [show keyS P s = b from hb.symm, ← e]
        exact ha
      rw [show (ras.map V.ref) ++ [V.ref x] = (ras ++ [x]).map V.ref from by rw [List.map_append] <;> rfl] at hh15
      have hx14 : H14 x = some (.ins A.cRun dx' (runF (runFrom P s o) sm)) := hh14.get (i := 0) rfl
      walk_at "s"
      refine r_ite (fun c => ?_) (fun c => ?_)
      · have eo : o = none := by
          cases o with
          | none => rfl
          | some l => exact absurd (of_decide_eq_true c) (by intro z; cases z)
        subst eo
        walk_at "s"
        refine ⟨0, by omega, .inr ⟨_, none, _, _, G15, _, _, _, _, _, _, _, _, _, rfl, (ex1.trans ex2).trans exB, hh15, ⟨ok, nd15, .inl ⟨rfl, rs, s, hc, rfl, hfb⟩⟩, hrs15, rfl⟩⟩
      · obtain ⟨e, rfl⟩ : ∃ e, o = some e := by
          cases o with
          | none => exact absurd rfl (of_decide_eq_false c)
          | some l => exact ⟨l, rfl⟩
        walk_at "s"
        refine ⟨x, e, runFrom P s (some e), rfl, ir15.up hh15.ex, ?_⟩
        walk_at "s"
        refine ⟨_, ?_, .inl ⟨nextS P s e, _, _, _, G15, _, _, _, _, _, _, rfl, (ex1.trans ex2).trans exB, hh15, .snoc hc hfb, nd15, hrs15, ?_, ?_, rfl⟩⟩
        · rw [List.length_append, List.length_singleton]
          omega
        · rw [List.map_append, List.map_append, hks]
          rfl
        · intro q hq
          rcases List.mem_append.mp hq with h | h
          · exact exB _ _ (hkk q h)
          · rw [List.mem_singleton] at h
            subst h
            exact exB _ _ hkt2
  · refine ⟨false, fun Q q => by walk_at "s"; exact q, fun z => (by cases z), fun _ => ?_⟩
    have hh3 := hh2.drop
    have e3 := hh3.frz_ex
    have hh4 := hh3.frz
    have e4 := hh4.frz_ex
    have hh5 := hh4.frz
    refine k rs loop _ _ (ex1.trans (e3.trans e4)) ⟨TH, TR, hok, dx, sh, ru, ras, upd_same, e4 _ _ (e3 _ _ (ex1 _ _ hsh)), e4 _ _ upd_same, hrs.up (e3.trans e4)⟩ hh5
end
end Wm
end

section
/-! ## The simulation tick by tick, and that the runs are it -/
namespace Wm
open PySem
def chAt (P : Par) (t : Int) : Int := P.ch.getD (phase P t) 0
def simN (P : Par) : Nat → Int × Bool
  | 0 => (P.start, P.dec P.start P.was)
  | t + 1 => ((simN P t).1 + chAt P t + P.heat (simN P t).2, P.dec ((simN P t).1 + chAt P t + P.heat (simN P t).2) (simN P t).2)
@[irreducible] def dAt (P : Par) (t : Int) : Int := (simN P t.toNat).1
@[irreducible] def oAt (P : Par) (t : Int) : Bool := (simN P t.toNat).2
theorem d_succ (P : Par) {t : Int} (h : 0 ≤ t) : dAt P (t + 1) = dAt P t + chAt P t + P.heat (oAt P t) := by
  unfold dAt oAt
  rw [show (t + 1).toNat = t.toNat + 1 by omega]
  show (simN P t.toNat).1 + chAt P ((t.toNat : Nat) : Int) + P.heat (simN P t.toNat).2 = _
  rw [Int.toNat_of_nonneg h]
theorem o_succ (P : Par) {t : Int} (h : 0 ≤ t) : oAt P (t + 1) = P.dec (dAt P (t + 1)) (oAt P t) := by
  rw [d_succ P h]
  unfold dAt oAt
  rw [show (t + 1).toNat = t.toNat + 1 by omega]
  show P.dec ((simN P t.toNat).1 + chAt P ((t.toNat : Nat) : Int) + P.heat (simN P t.toNat).2) _ = _
  rw [Int.toNat_of_nonneg h]
theorem d_zero (P : Par) : dAt P 0 = P.start := by unfold dAt; rfl
theorem o_zero (P : Par) : oAt P 0 = P.dec P.start P.was := by unfold oAt; rfl
theorem rot_at (l : List Int) {p q : Nat} (hp : p < l.length) (hq : q < l.length) : (l.drop p ++ l.take p)[q]? = l[(p + q) % l.length]? := by
  by_cases h : p + q < l.length
  · rw [List.getElem?_append_left (by rw [List.length_drop]; omega), List.getElem?_drop, Nat.mod_eq_of_lt h]
  · rw [List.getElem?_append_right (by rw [List.length_drop]; omega), List.length_drop, List.getElem?_take_of_lt (by omega), Nat.mod_eq_sub_mod (by omega), Nat.mod_eq_of_lt (by omega)]
    congr 1
    omega
theorem ch_some {P : Par} (ok : ParOk P) (t : Int) : P.ch[phase P t]? = some (chAt P t) := by
  unfold chAt
  rw [List.getD_eq_getElem?_getD, List.getElem?_eq_getElem (phase_lt ok t)] <;> rfl
theorem ch_mem {P : Par} (ok : ParOk P) (t : Int) : chAt P t ∈ P.ch := List.mem_of_getElem? (ch_some ok t)
theorem ch_per {P : Par} {t u : Int} (h : t % P.ch.length = u % P.ch.length) : chAt P t = chAt P u := by
  unfold chAt phase
  rw [h]
theorem steps_at {P : Par} (ok : ParOk P) (t u : Int) (on : Bool) : (stepsOf P t on)[((u - t) % P.ch.length).toNat]? = some (chAt P u + P.heat on) := by
  have op := ok.pos
  have hl := phase_lt ok t
  have hc := phase_cast ok t
  have q0 := Int.emod_nonneg (u - t) (show (P.ch.length : Int) ≠ 0 by omega)
  have q1 := Int.emod_lt_of_pos (u - t) (show (0 : Int) < P.ch.length by omega)
  unfold stepsOf
  rw [List.getElem?_map, rot_at P.ch hl (by omega)]
  have e : (phase P t + ((u - t) % P.ch.length).toNat) % P.ch.length = phase P u := by
    have e2 : ((phase P t + ((u - t) % P.ch.length).toNat : Nat) : Int) % P.ch.length = u % P.ch.length := by
      rw [Int.natCast_add, hc, Int.toNat_of_nonneg q0, ← Int.add_emod]
      congr 1
      omega
    have := phase_cast ok u
    rw [← e2] at this
    omega
  rw [e, ch_some ok u]
  rfl
theorem run_succ {P : Par} (ok : ParOk P) (s : S3) (u : Int) : (runFrom P s none).at_ (u + 1) = (runFrom P s none).at_ u + (chAt P u + P.heat s.on) := by
  obtain ⟨x, hx, ha⟩ := at_succ (runFrom P s none) (run_ok ok s none) u
  have e : (runFrom P s none).steps.length = P.ch.length := steps_len ok _ _
  rw [e] at hx
  have h2 := steps_at ok s.t u s.on
  have : x = chAt P u + P.heat s.on := Option.some.inj (hx.symm.trans h2)
  rw [ha, this]
theorem dec_beyond {P : Par} (ok : ParOk P) (s : S3) (u : Int) : (Beyond (runFrom P s none) (bnd P s.on) (sgn s.on) u → P.dec ((runFrom P s none).at_ u) s.on = !s.on) ∧ (¬ Beyond (runFrom P s none) (bnd P s.on) (sgn s.on) u → P.dec ((runFrom P s none).at_ u) s.on = s.on) := by
  have lh := ok.lh
  unfold Par.dec
  cases ho : s.on with
  | true =>
    rw [← ho, beyond_on ho, ho]
    refine ⟨fun h => ?_, fun h => ?_⟩
    · rw [if_neg (by omega), Bool.true_and]
      exact decide_eq_false (by omega)
    · split
      · rfl
      · rw [Bool.true_and]
        exact decide_eq_true (by omega)
  | false =>
    rw [← ho, beyond_off ho, ho]
    refine ⟨fun h => ?_, fun h => ?_⟩
    · rw [if_pos h] <;> rfl
    · rw [if_neg h] <;> rfl
theorem run_sim {P : Par} (ok : ParOk P) {s : S3} (h0 : 0 ≤ s.t) (hd : dAt P s.t = s.d) (ho : oAt P s.t = s.on) : ∀ k : Nat, (∀ v, s.t ≤ v → v < s.t + k → ¬ Beyond (runFrom P s none) (bnd P s.on) (sgn s.on) v) →
    dAt P (s.t + k) = (runFrom P s none).at_ (s.t + k) ∧ (¬ Beyond (runFrom P s none) (bnd P s.on) (sgn s.on) (s.t + k) → oAt P (s.t + k) = s.on) ∧ (0 < k → Beyond (runFrom P s none) (bnd P s.on) (sgn s.on) (s.t + k) → oAt P (s.t + k) = !s.on)
  | 0, _ => by
    have e : (runFrom P s none).at_ s.t = s.d := at_beg (runFrom P s none) (run_ok ok s none)
    rw [show s.t + ((0 : Nat) : Int) = s.t by omega, e]
    exact ⟨hd, fun _ => ho, fun z => absurd z (Nat.lt_irrefl 0)⟩
  | k + 1, hn => by
    obtain ⟨i1, i2, _⟩ := run_sim ok h0 hd ho k (fun v a b => hn v a (by omega))
    have i2 := i2 (hn _ (by omega) (by omega))
    have e : s.t + ((k + 1 : Nat) : Int) = s.t + k + 1 := by omega
    rw [e]
    have hp : 0 ≤ s.t + (k : Int) := by omega
    have d1 : dAt P (s.t + k + 1) = (runFrom P s none).at_ (s.t + k + 1) := by
      rw [d_succ P hp, i1, i2, run_succ ok]
      omega
    refine ⟨d1, fun h => ?_, fun _ h => ?_⟩
    · rw [o_succ P hp, d1, i2]
      exact (dec_beyond ok s _).2 h
    · rw [o_succ P hp, d1, i2]
      exact (dec_beyond ok s _).1 h
/-- what a run of the list tells -/
structure RunV (P : Par) (r : RunD) : Prop where
  b0 : 0 ≤ r.beg
  sim : ∀ u, r.beg ≤ u → (∀ e, r.fin = some e → u < e) → dAt P u = r.at_ u ∧ oAt P u = r.on
  fin : ∀ e, r.fin = some e → r.beg < e ∧ dAt P e = r.at_ e ∧ oAt P e = !r.on
  shape : r = runFrom P ⟨r.beg, r.deg, r.on⟩ r.fin
theorem RunV.len {P : Par} (ok : ParOk P) {r : RunD} (h : RunV P r) : r.steps.length = P.ch.length := by
  rw [h.shape]
  exact steps_len ok _ _
theorem Chn.sim {P : Par} (ok : ParOk P) {rs : List RunD} {s : S3} (h : Chn P rs s) : dAt P s.t = s.d ∧ oAt P s.t = s.on ∧ ∀ r ∈ rs, RunV P r ∧ ∃ e, r.fin = some e := by
  induction h with
  | nil => exact ⟨d_zero P, o_zero P, fun r h => by cases h⟩
  | @snoc rs s e hc hf ih =>
    obtain ⟨i1, i2, i3⟩ := ih
    have so := hc.ok ok
    obtain ⟨lt, so2⟩ := next_ok ok so hf
    obtain ⟨f1, f2, f3⟩ := hf.some_ (run_ok ok s none) (sgn_or _)
    have key := fun k hk => run_sim ok so.t0 i1 i2 k hk
    have he : s.t + (((e - s.t).toNat : Nat) : Int) = e := by omega
    obtain ⟨a1, a2, a3⟩ := key (e - s.t).toNat (fun v hv hv2 => f3 v hv (by omega))
    rw [he] at a1 a2 a3
    have a3 := a3 (by omega) f2
    refine ⟨a1, a3, fun r hr => ?_⟩
    rcases List.mem_append.mp hr with hr | hr
    · exact i3 r hr
    · rw [List.mem_singleton] at hr
      subst hr
      refine ⟨⟨so.t0, fun u hu hlt => ?_, fun e' h' => ?_, rfl⟩, e, rfl⟩
      · have hu : s.t ≤ u := hu
        have hlt : u < e := hlt e rfl
        have hk : s.t + (((u - s.t).toNat : Nat) : Int) = u := by omega
        obtain ⟨b1, b2, _⟩ := key (u - s.t).toNat (fun v hv hv2 => f3 v hv (by omega))
        rw [hk] at b1 b2
        exact ⟨b1, b2 (f3 u hu hlt)⟩
      · cases h'
        exact ⟨lt, a1, a3⟩
theorem open_sim {P : Par} (ok : ParOk P) {rs : List RunD} {s : S3} (h : Chn P rs s) (hf : FB (runFrom P s none) (bnd P s.on) (sgn s.on) none) : RunV P (runFrom P s none) := by
  obtain ⟨i1, i2, _⟩ := h.sim ok
  have so := h.ok ok
  have nb := hf.none_ (run_ok ok s none) (sgn_or _)
  refine ⟨so.t0, fun u hu _ => ?_, fun e' h' => (by cases h'), rfl⟩
  have hu : s.t ≤ u := hu
  have hk : s.t + (((u - s.t).toNat : Nat) : Int) = u := by omega
  obtain ⟨b1, b2, _⟩ := run_sim ok so.t0 i1 i2 (u - s.t).toNat (fun v hv hv2 => nb v hv)
  rw [hk] at b1 b2
  exact ⟨b1, b2 (nb u hu)⟩
theorem per_sim (P : Par) {a b : Int} (ha : 0 ≤ a) (hb : 0 ≤ b) (hp : a % P.ch.length = b % P.ch.length) (hd : dAt P a = dAt P b) (ho : oAt P a = oAt P b) : ∀ k : Nat, dAt P (a + k) = dAt P (b + k) ∧ oAt P (a + k) = oAt P (b + k)
  | 0 => by simpa using ⟨hd, ho⟩
  | k + 1 => by
    obtain ⟨h1, h2⟩ := per_sim P ha hb hp hd ho k
    have e : ∀ x : Int, x + ((k + 1 : Nat) : Int) = x + k + 1 := fun x => by omega
    have hc : chAt P (a + k) = chAt P (b + k) := ch_per (by rw [Int.add_emod, hp, ← Int.add_emod])
    have d : dAt P (a + k + 1) = dAt P (b + k + 1) := by rw [d_succ P (by omega), d_succ P (by omega), h1, h2, hc]
    rw [e a, e b]
    exact ⟨d, by rw [o_succ P (by omega), o_succ P (by omega), d, h2]⟩
/-! ### lists of runs -/
def begAt (rs : List RunD) (j : Int) : Int := match rs[j.toNat]? with | some r => r.beg | none => 0
def finLast (rs : List RunD) : Int := match rs[rs.length - 1]? with | some ⟨_, some e, _, _, _⟩ => e | _ => 0
def circ (rs : List RunD) (j : Int) : Int := finLast rs - begAt rs j
def wrapT (rs : List RunD) (loop : Option Int) (t : Int) : Int := match loop with | none => 0 | some j => if t < finLast rs then 0 else (t - begAt rs j) / circ rs j
def wrapP (rs : List RunD) (loop : Option Int) (t : Int) : Int := match loop with | none => t | some j => if t < finLast rs then t else t - (t - begAt rs j) / circ rs j * circ rs j
/-- all that is told of a history's runs -/
structure HistV (P : Par) (rs : List RunD) (loop : Option Int) : Prop where
  par : ParOk P
  nd : (rs.map (keyR P)).Nodup
  ne : 0 < rs.length
  le : rs.length ≤ 9603
  each : ∀ r ∈ rs, RunV P r
  first : ∃ r, rs[0]? = some r ∧ r.beg = 0 ∧ r.on = P.dec P.start P.was ∧ r.deg = P.start
  next : ∀ (i : Nat) (r r2 : RunD), rs[i]? = some r → rs[i + 1]? = some r2 → r.fin = some r2.beg ∧ r2.on = !r.on ∧ r2.deg = r.at_ r2.beg
  small : ∀ r ∈ rs, r.beg ≤ 9603 * 10 ^ 14 ∧ ∀ e, r.fin = some e → e ≤ 9603 * 10 ^ 14
  open_ : loop = none → ∃ r, rs[rs.length - 1]? = some r ∧ r.fin = none
  shut : ∀ j, loop = some j → 0 ≤ j ∧ ∃ r l e, rs[j.toNat]? = some r ∧ rs[rs.length - 1]? = some l ∧ l.fin = some e ∧ r.beg < e ∧ (e - r.beg) % P.ch.length = 0 ∧ dAt P e = r.deg ∧ oAt P e = r.on ∧ r.on = !l.on
theorem Chn.first {P : Par} {rs : List RunD} {s : S3} (h : Chn P rs s) : (rs = [] ∧ s = start3 P) ∨ ∃ r, rs[0]? = some r ∧ r.beg = 0 ∧ r.on = P.dec P.start P.was ∧ r.deg = P.start := by
  induction h with
  | nil => exact .inl ⟨rfl, rfl⟩
  | @snoc rs s e hc hf ih =>
    rcases ih with ⟨rfl, rfl⟩ | ⟨r, h1, h2⟩
    · exact .inr ⟨_, rfl, rfl, rfl, rfl⟩
    · exact .inr ⟨r, by rw [List.getElem?_append_left (List.getElem?_eq_some_iff.mp h1).1]; exact h1, h2⟩
theorem Chn.next {P : Par} {rs : List RunD} {s : S3} (h : Chn P rs s) {i : Nat} {r r2 : RunD} (h1 : rs[i]? = some r) (h2 : rs[i + 1]? = some r2) : r.fin = some r2.beg ∧ r2.on = !r.on ∧ r2.deg = r.at_ r2.beg := by
  obtain ⟨s', e, _, rfl, _, h3⟩ := h.at_ h1
  rcases h3 with ⟨r3, h4, h5, h6, h7⟩ | ⟨h4, _⟩
  · rw [h2] at h4
    cases h4
    exact ⟨by rw [h5] <;> rfl, h7, by rw [h6, h5] <;> rfl⟩
  · have := (List.getElem?_eq_some_iff.mp h2).1
    omega
theorem Chn.last {P : Par} {rs : List RunD} {s : S3} (h : Chn P rs s) : (rs = [] ∧ s = start3 P) ∨ ∃ l, rs[rs.length - 1]? = some l ∧ l.fin = some s.t ∧ s.on = !l.on ∧ s.d = l.at_ s.t := by
  cases h with
  | nil => exact .inl ⟨rfl, rfl⟩
  | @snoc rs s e hc hf => exact .inr ⟨runFrom P s (some e), by simp, rfl, rfl, rfl⟩
theorem keyR_eq {P : Par} {r : RunD} {s : S3} (h : keyR P r = keyS P s) : r.beg % P.ch.length = s.t % P.ch.length ∧ r.deg = s.d ∧ r.on = s.on := by
  unfold keyR keyS at h
  simpa using h
theorem Chn.small {P : Par} (ok : ParOk P) {rs : List RunD} {s : S3} (h : Chn P rs s) : s.t ≤ rs.length * 10 ^ 14 ∧ ∀ r ∈ rs, r.beg ≤ rs.length * 10 ^ 14 ∧ ∀ e, r.fin = some e → e ≤ rs.length * 10 ^ 14 := by
  induction h with
  | nil => exact ⟨Int.le_refl 0, fun r h => by cases h⟩
  | @snoc rs s e hc hf ih =>
    obtain ⟨i1, i2⟩ := ih
    have so := hc.ok ok
    obtain ⟨lt, so2⟩ := next_ok ok so hf
    have h1 : e ≤ ((rs.length + 1 : Nat) : Int) * 10 ^ 14 := so2.t1
    rw [List.length_append, List.length_singleton]
    refine ⟨h1, fun r hr => ?_⟩
    rcases List.mem_append.mp hr with hr | hr
    · obtain ⟨a, b⟩ := i2 r hr
      exact ⟨by omega, fun e he => by have := b e he; omega⟩
    · rw [List.mem_singleton] at hr
      subst hr
      exact ⟨show s.t ≤ _ by omega, fun e' he => by cases he; exact h1⟩
theorem HistOk.v {P : Par} {rs : List RunD} {loop : Option Int} (h : HistOk P rs loop) : HistV P rs loop := by
  have ok := h.par
  rcases h.shape with ⟨rfl, rs0, s, hc, rfl, hf⟩ | ⟨j, r, s, rfl, hc, hj, hk⟩
  · have nd0 : (rs0.map (keyR P)).Nodup := by
      have := h.nd
      rw [List.map_append, List.nodup_append] at this
      exact this.1
    have hb := hc.bound ok nd0
    obtain ⟨sm1, sm2⟩ := hc.small ok
    obtain ⟨_, _, hs⟩ := hc.sim ok
    have last : (rs0 ++ [runFrom P s none])[(rs0 ++ [runFrom P s none]).length - 1]? = some (runFrom P s none) := by simp
    refine ⟨ok, h.nd, by simp, by simp; omega, fun r hr => ?_, ?_, fun i r r2 h1 h2 => ?_, fun r hr => ?_, fun _ => ⟨_, last, rfl⟩, fun j hj => by cases hj⟩
    · rcases List.mem_append.mp hr with hr | hr
      · exact (hs r hr).1
      · rw [List.mem_singleton] at hr
        subst hr
        exact open_sim ok hc hf
    · rcases hc.first with ⟨rfl, rfl⟩ | ⟨r, h1, h2⟩
      · exact ⟨_, rfl, rfl, rfl, rfl⟩
      · exact ⟨r, by rw [List.getElem?_append_left (List.getElem?_eq_some_iff.mp h1).1]; exact h1, h2⟩
    · have l2 := (List.getElem?_eq_some_iff.mp h2).1
      rw [List.length_append, List.length_singleton] at l2
      rw [List.getElem?_append_left (by omega)] at h1
      by_cases hl : i + 1 < rs0.length
      · rw [List.getElem?_append_left hl] at h2
        exact hc.next h1 h2
      · have e : i + 1 = rs0.length := by omega
        rw [e, List.getElem?_append_right (Nat.le_refl _)] at h2
        simp at h2
        subst h2
        rcases hc.last with ⟨rfl, _⟩ | ⟨l, h3, h4, h5, h6⟩
        · simp at h1
        · have e2 : rs0.length - 1 = i := by omega
          rw [e2, h1] at h3
          cases h3
          exact ⟨h4, h5, h6⟩
    · rcases List.mem_append.mp hr with hr | hr
      · obtain ⟨a, b⟩ := sm2 r hr
        exact ⟨by omega, fun e he => by have := b e he; omega⟩
      · rw [List.mem_singleton] at hr
        subst hr
        exact ⟨show s.t ≤ _ by omega, fun e he => by cases he⟩
  · have hb := hc.bound ok h.nd
    obtain ⟨sm1, sm2⟩ := hc.small ok
    obtain ⟨sd, so, hs⟩ := hc.sim ok
    have hjl := (List.getElem?_eq_some_iff.mp hj).1
    have hne : rs ≠ [] := fun e => by rw [e] at hjl; exact absurd hjl (Nat.not_lt_zero _)
    obtain ⟨l, l1, l2, l3, l4⟩ : ∃ l, rs[rs.length - 1]? = some l ∧ l.fin = some s.t ∧ s.on = !l.on ∧ s.d = l.at_ s.t := by
      rcases hc.last with ⟨rfl, _⟩ | h
      · exact absurd rfl hne
      · exact h
    obtain ⟨k1, k2, k3⟩ := keyR_eq hk
    refine ⟨ok, h.nd, by omega, by omega, fun r hr => (hs r hr).1, ?_, fun i r r2 h1 h2 => hc.next h1 h2, fun r hr => ?_, fun z => (by cases z), fun j' hj' => ?_⟩
    · rcases hc.first with ⟨rfl, rfl⟩ | h
      · exact absurd rfl hne
      · exact h
    · obtain ⟨a, b⟩ := sm2 r hr
      exact ⟨by omega, fun e he => by have := b e he; omega⟩
    · cases hj'
      refine ⟨by omega, r, l, s.t, hj, l1, l2, ?_, ?_, sd.trans k2.symm, so.trans k3.symm, k3.trans l3⟩
      · have mono : ∀ (i : Nat) (a : RunD), rs[i]? = some a → a.beg < s.t := by
          intro i
          induction hn : rs.length - i generalizing i with
          | zero => intro a ha; have := (List.getElem?_eq_some_iff.mp ha).1; omega
          | succ n ih =>
            intro a ha
            obtain ⟨v, e, he⟩ := hs a (List.mem_of_getElem? ha)
            have hlt := (v.fin e he).1
            by_cases hl : i + 1 < rs.length
            · obtain ⟨b, hb⟩ := get_some hl
              have h1 := (hc.next ha hb).1
              rw [he] at h1
              cases h1
              have := ih (i + 1) (by omega) b hb
              omega
            · have e2 : i = rs.length - 1 := by have := (List.getElem?_eq_some_iff.mp ha).1; omega
              rw [e2, l1] at ha
              cases ha
              rw [he] at l2
              cases l2
              exact hlt
        exact mono j r hj
      · exact Int.emod_eq_emod_iff_emod_sub_eq_zero.mp k1.symm
end Wm
end

section
namespace Wm
open PySem
theorem begAt_of {rs : List RunD} {j : Int} {r : RunD} (h : rs[j.toNat]? = some r) : begAt rs j = r.beg := by unfold begAt; rw [h]
theorem finLast_of {rs : List RunD} {l : RunD} {e : Int} (h : rs[rs.length - 1]? = some l) (he : l.fin = some e) : finLast rs = e := by
  unfold finLast
  rw [h]
  obtain ⟨a, b, c, d, f⟩ := l
  cases he
  rfl
theorem HistV.pick {P : Par} {rs : List RunD} {loop : Option Int} (h : HistV P rs loop) {i : Nat} {r : RunD} {t : Int} (hi : rs[i]? = some r) (h1 : r.beg ≤ t) (h2 : ∀ r2, rs[i + 1]? = some r2 → t < r2.beg) (h3 : loop = none ∨ t < finLast rs) :
    dAt P t = r.at_ t ∧ oAt P t = r.on ∧ ∀ e, r.fin = some e → t < e := by
  have v := h.each r (List.mem_of_getElem? hi)
  have key : ∀ e, r.fin = some e → t < e := by
    intro e he
    by_cases hl : i + 1 < rs.length
    · obtain ⟨r2, hr2⟩ := get_some hl
      have := (h.next i r r2 hi hr2).1
      rw [he] at this
      cases this
      exact h2 r2 hr2
    · have hil := (List.getElem?_eq_some_iff.mp hi).1
      have e2 : i = rs.length - 1 := by omega
      rw [e2] at hi
      cases loop with
      | none =>
        obtain ⟨x, hx, hf⟩ := h.open_ rfl
        rw [hi] at hx
        cases hx
        rw [he] at hf
        cases hf
      | some j =>
        rcases h3 with h3 | h3
        · cases h3
        · rw [finLast_of hi he] at h3
          exact h3
  exact ⟨(v.sim t h1 key).1, (v.sim t h1 key).2, key⟩
structure Shut (P : Par) (rs : List RunD) (j : Int) : Prop where
  j0 : 0 ≤ j
  jl : j < rs.length
  b0 : 0 ≤ begAt rs j
  lt : begAt rs j < finLast rs
  big : finLast rs ≤ 9603 * 10 ^ 14
  c0 : 0 < circ rs j
  cB : circ rs j ≤ 9603 * 10 ^ 14
  ph : circ rs j % P.ch.length = 0
  d : dAt P (finLast rs) = dAt P (begAt rs j)
  o : oAt P (finLast rs) = oAt P (begAt rs j)
theorem HistV.shut_ {P : Par} {rs : List RunD} {j : Int} (h : HistV P rs (some j)) : Shut P rs j := by
  obtain ⟨j0, r, l, e, hj, hl, he, hlt, hm, hd, ho, _⟩ := h.shut j rfl
  have hjl := (List.getElem?_eq_some_iff.mp hj).1
  have b := begAt_of hj
  have f := finLast_of hl he
  have v := h.each r (List.mem_of_getElem? hj)
  have v2 := h.each l (List.mem_of_getElem? hl)
  have sm := (h.small l (List.mem_of_getElem? hl)).2 e he
  have s0 := v.sim r.beg (Int.le_refl _) (fun e' h' => (v.fin e' h').1)
  have ok : RunOk r := by rw [v.shape]; exact run_ok h.par _ _
  have hb := at_beg r ok
  have b0 := v.b0
  refine ⟨j0, by omega, by omega, by omega, by omega, ?_, ?_, ?_, ?_, ?_⟩
  · unfold circ; omega
  · unfold circ; omega
  · unfold circ; rw [b, f]; exact hm
  · rw [f, b, hd, s0.1, hb]
  · rw [f, b, ho, s0.2]
theorem Shut.per1 {P : Par} {rs : List RunD} {j : Int} (h : Shut P rs j) {t : Int} (ht : begAt rs j ≤ t) : dAt P (t + circ rs j) = dAt P t ∧ oAt P (t + circ rs j) = oAt P t := by
  have b0 := h.b0
  have lt := h.lt
  have e : begAt rs j + (((t - begAt rs j).toNat : Nat) : Int) = t := by omega
  have e2 : finLast rs + (((t - begAt rs j).toNat : Nat) : Int) = t + circ rs j := by unfold circ; omega
  have := per_sim P (a := finLast rs) (b := begAt rs j) (by omega) b0 (by
    have := h.ph
    unfold circ at this
    exact Int.emod_eq_emod_iff_emod_sub_eq_zero.mpr this) h.d h.o (t - begAt rs j).toNat
  rw [e, e2] at this
  exact this
theorem Shut.per {P : Par} {rs : List RunD} {j : Int} (h : Shut P rs j) {t : Int} (ht : begAt rs j ≤ t) : ∀ k : Nat, dAt P (t + k * circ rs j) = dAt P t ∧ oAt P (t + k * circ rs j) = oAt P t
  | 0 => by rw [show t + ((0 : Nat) : Int) * circ rs j = t by rw [Int.natCast_zero, Int.zero_mul]; omega]; exact ⟨rfl, rfl⟩
  | k + 1 => by
    obtain ⟨h1, h2⟩ := h.per ht k
    have c0 := h.c0
    have kc : 0 ≤ (k : Int) * circ rs j := Int.mul_nonneg (by omega) (by omega)
    obtain ⟨h3, h4⟩ := h.per1 (t := t + k * circ rs j) (by omega)
    have e : t + ((k + 1 : Nat) : Int) * circ rs j = t + k * circ rs j + circ rs j := by
      rw [Int.natCast_add, Int.add_mul]
      omega
    rw [e]
    exact ⟨h3.trans h1, h4.trans h2⟩
theorem Shut.perI {P : Par} {rs : List RunD} {j : Int} (h : Shut P rs j) {t k : Int} (ht : begAt rs j ≤ t) (hk : 0 ≤ k) : dAt P (t + k * circ rs j) = dAt P t ∧ oAt P (t + k * circ rs j) = oAt P t := by
  have := h.per ht k.toNat
  rw [Int.toNat_of_nonneg hk] at this
  exact this
/-- what wrapping tells -/
structure Wrap (P : Par) (rs : List RunD) (loop : Option Int) (t : Int) : Prop where
  p0 : 0 ≤ wrapP rs loop t
  pt : wrapP rs loop t ≤ t
  pl : loop = none ∨ wrapP rs loop t < finLast rs
  t0 : 0 ≤ wrapT rs loop t
  tt : wrapT rs loop t ≤ t
  d : dAt P (wrapP rs loop t) = dAt P t
  o : oAt P (wrapP rs loop t) = oAt P t
  ph : wrapP rs loop t % P.ch.length = t % P.ch.length
  eq : ∀ j, loop = some j → t = wrapP rs loop t + wrapT rs loop t * circ rs j ∧ (0 < wrapT rs loop t → begAt rs j ≤ wrapP rs loop t)
  zero : wrapT rs loop t = 0 → wrapP rs loop t = t
theorem HistV.wrap {P : Par} {rs : List RunD} {loop : Option Int} (h : HistV P rs loop) {t : Int} (ht : 0 ≤ t) : Wrap P rs loop t := by
  cases loop with
  | none => exact ⟨ht, Int.le_refl t, .inl rfl, Int.le_refl 0, ht, rfl, rfl, rfl, fun j hj => (by cases hj), fun _ => rfl⟩
  | some j =>
    have s := h.shut_
    have b0 := s.b0
    have lt := s.lt
    have c0 := s.c0
    by_cases hl : t < finLast rs
    · have e1 : wrapP rs (some j) t = t := by unfold wrapP; simp only; rw [if_pos hl]
      have e2 : wrapT rs (some j) t = 0 := by unfold wrapT; simp only; rw [if_pos hl]
      refine ⟨by omega, by omega, .inr (by omega), by omega, by omega, by rw [e1], by rw [e1], by rw [e1], fun j' hj' => ?_, fun _ => e1⟩
      rw [e1, e2, Int.zero_mul]
      exact ⟨by omega, fun z => absurd z (by omega)⟩
    · have e1 : wrapP rs (some j) t = t - (t - begAt rs j) / circ rs j * circ rs j := by unfold wrapP; simp only; rw [if_neg hl]
      have e2 : wrapT rs (some j) t = (t - begAt rs j) / circ rs j := by unfold wrapT; simp only; rw [if_neg hl]
      have q0 : 0 ≤ (t - begAt rs j) / circ rs j := Int.ediv_nonneg (by omega) (by omega)
      have q1 : (t - begAt rs j) / circ rs j ≤ t - begAt rs j := Int.ediv_le_self _ (by omega)
      have m := Int.emod_add_mul_ediv (t - begAt rs j) (circ rs j)
      have m0 := Int.emod_nonneg (t - begAt rs j) (show circ rs j ≠ 0 by omega)
      have m1 := Int.emod_lt_of_pos (t - begAt rs j) c0
      rw [Int.mul_comm] at m
      generalize hq : (t - begAt rs j) / circ rs j = q at *
      have qc : 0 ≤ q * circ rs j := Int.mul_nonneg q0 (by omega)
      have hc : circ rs j = finLast rs - begAt rs j := rfl
      have pb : begAt rs j ≤ t - q * circ rs j := by omega
      have per := s.perI pb q0
      rw [show t - q * circ rs j + q * circ rs j = t by omega] at per
      refine ⟨by omega, by omega, .inr (by omega), by omega, by omega, by rw [e1]; exact per.1.symm, by rw [e1]; exact per.2.symm, ?_, fun j' hj' => ?_, fun z => ?_⟩
      · rw [e1]
        have hd : (P.ch.length : Int) ∣ circ rs j := Int.dvd_of_emod_eq_zero s.ph
        have hd2 : (P.ch.length : Int) ∣ q * circ rs j := Int.dvd_trans hd (Int.dvd_mul_left _ _)
        refine Int.emod_eq_emod_iff_emod_sub_eq_zero.mpr ?_
        rw [show t - q * circ rs j - t = -(q * circ rs j) by omega]
        exact Int.emod_eq_zero_of_dvd (Int.dvd_neg.mpr hd2)
      · cases hj'
        rw [e1, e2]
        exact ⟨by omega, fun _ => pb⟩
      · rw [e2] at z
        rw [e1, z, Int.zero_mul, Int.sub_zero]
end Wm
end

section
local macro_rules | `(tactic| walk_at "cls") => `(tactic| first | (with_reducible exact Wm.WeatherC.cl (by assumption)) | (with_reducible exact Wm.HeaterC.cl (by assumption)) | (with_reducible exact Wm.RoomC.cl (by assumption)) | (with_reducible exact Wm.RunC.cl (by assumption)) | (with_reducible exact Wm.HistoryC.cl (by assumption)) | (with_reducible exact Wm.ThresholdObserverC.cl (by assumption)) | (with_reducible exact Wm.SettingC.cl (by assumption)) | (with_reducible exact Wm.HourSettingC.cl (by assumption)) | (with_reducible exact Wm.RestSettingC.cl (by assumption)) | (with_reducible exact Wm.PricesC.cl (by assumption)) | (with_reducible exact Wm.MomentC.cl (by assumption)) | (with_reducible exact Wm.LiveRoomC.cl (by assumption)) | (with_reducible exact Wm.AttemptC.cl (by assumption)))
local macro_rules | `(tactic| walk_at "noattr") => `(tactic| first | (with_reducible exact Wm.WeatherC.n_pattern (by assumption)) | (with_reducible exact Wm.HeaterC.n_power (by assumption)) | (with_reducible exact Wm.HeaterC.n_below (by assumption)) | (with_reducible exact Wm.HeaterC.n_above (by assumption)) | (with_reducible exact Wm.RoomC.n_outside (by assumption)) | (with_reducible exact Wm.RoomC.n_inside (by assumption)) | (with_reducible exact Wm.RoomC.n_begin_degrees (by assumption)) | (with_reducible exact Wm.RoomC.n_past (by assumption)) | (with_reducible exact Wm.RoomC.n_repeated (by assumption)) | (with_reducible exact Wm.RoomC.n_share (by assumption)) | (with_reducible exact Wm.RoomC.n_coldest (by assumption)) | (with_reducible exact Wm.RoomC.n_warmest (by assumption)) | (with_reducible exact Wm.RunC.n_begin (by assumption)) | (with_reducible exact Wm.RunC.n_end (by assumption)) | (with_reducible exact Wm.RunC.n_degrees (by assumption)) | (with_reducible exact Wm.RunC.n_is_heating (by assumption)) | (with_reducible exact Wm.RunC.n_sums (by assumption)) | (with_reducible exact Wm.RunC.n_size (by assumption)) | (with_reducible exact Wm.RunC.n_drift (by assumption)) | (with_reducible exact Wm.HistoryC.n_shifts (by assumption)) | (with_reducible exact Wm.HistoryC.n_added (by assumption)) | (with_reducible exact Wm.HistoryC.n_floor (by assumption)) | (with_reducible exact Wm.HistoryC.n_ceiling (by assumption)) | (with_reducible exact Wm.HistoryC.n_was_heating (by assumption)) | (with_reducible exact Wm.HistoryC.n_runs (by assumption)) | (with_reducible exact Wm.HistoryC.n_loop (by assumption)) | (with_reducible exact Wm.ThresholdObserverC.n_outside (by assumption)) | (with_reducible exact Wm.ThresholdObserverC.n_power (by assumption)) | (with_reducible exact Wm.ThresholdObserverC.n_tick (by assumption)) | (with_reducible exact Wm.ThresholdObserverC.n_degrees (by assumption)) | (with_reducible exact Wm.ThresholdObserverC.n_is_heating (by assumption)) | (with_reducible exact Wm.ThresholdObserverC.n_lows (by assumption)) | (with_reducible exact Wm.ThresholdObserverC.n_highs (by assumption)) | (with_reducible exact Wm.ThresholdObserverC.n_noted (by assumption)) | (with_reducible exact Wm.SettingC.n_least (by assumption)) | (with_reducible exact Wm.SettingC.n_most (by assumption)) | (with_reducible exact Wm.HourSettingC.n_least (by assumption)) | (with_reducible exact Wm.HourSettingC.n_most (by assumption)) | (with_reducible exact Wm.HourSettingC.n_length (by assumption)) | (with_reducible exact Wm.HourSettingC.n_hours (by assumption)) | (with_reducible exact Wm.RestSettingC.n_least (by assumption)) | (with_reducible exact Wm.RestSettingC.n_most (by assumption)) | (with_reducible exact Wm.RestSettingC.n_rest (by assumption)) | (with_reducible exact Wm.PricesC.n_table (by assumption)) | (with_reducible exact Wm.MomentC.n_tick (by assumption)) | (with_reducible exact Wm.MomentC.n_heat (by assumption)) | (with_reducible exact Wm.MomentC.n_on (by assumption)) | (with_reducible exact Wm.MomentC.n_burnt (by assumption)) | (with_reducible exact Wm.MomentC.n_sky (by assumption)) | (with_reducible exact Wm.MomentC.n_stove (by assumption)) | (with_reducible exact Wm.LiveRoomC.n_moment (by assumption)) | (with_reducible exact Wm.LiveRoomC.n_earlier (by assumption)) | (with_reducible exact Wm.LiveRoomC.n_done (by assumption)) | (with_reducible exact Wm.AttemptC.n_live (by assumption)) | (with_reducible exact Wm.AttemptC.n_kept (by assumption)) | (with_reducible exact Wm.AttemptC.n_stack (by assumption)) | (with_reducible exact Wm.AttemptC.n_steps (by assumption)))
local macro_rules | `(tactic| walk_at "at") => `(tactic| first | assumption | exact Wm.Hold.rd (by assumption) (by assumption) | exact Wm.Hold.get (i := 0) (by assumption) rfl | exact Wm.Hold.get (i := 1) (by assumption) rfl | exact Wm.Hold.get (i := 2) (by assumption) rfl | exact Wm.Hold.get (i := 3) (by assumption) rfl | exact Wm.Hold.get (i := 4) (by assumption) rfl)
local macro_rules | `(tactic| walk_at "s1") => `(tactic| first
  | (with_reducible refine Wm.r_seq ?_)
  | (with_reducible refine Wm.r_op ?_)
  | ((with_reducible refine' Wm.r_var ?h ?_); (case h => rfl))
  | (with_reducible refine Wm.r_c ?_)
  | (with_reducible refine Wm.r_I0 ?_)
  | (with_reducible refine Wm.r_cons ?_)
  | (with_reducible refine Wm.r_nil ?_)
  | (with_reducible refine Wm.r_asg ?_)
  | (with_reducible refine Wm.r_gname ?_; try simp only [List.set_cons_zero, List.set_cons_succ])
  | (with_reducible refine Wm.r_nx ?_)
  | (with_reducible refine Wm.r_rt ?_)
  | (with_reducible refine Wm.r_ret ?_)
  | (with_reducible refine Wm.r_test ?_)
  | (with_reducible refine Wm.r_bl ?_)
  | (with_reducible refine Wm.r_B ?_)
  | (with_reducible refine Wm.r_eqI ?_)
  | (with_reducible refine Wm.r_neI ?_)
  | (with_reducible refine Wm.r_eqB ?_)
  | (with_reducible refine Wm.r_neB ?_)
  | (with_reducible refine Wm.r_fld ?_)
  | (with_reducible refine Wm.r_call ?_)
  | (with_reducible refine Wm.r_mtd ?_)
  | (with_reducible refine Wm.r_prp ?_)
  | (with_reducible refine Wm.r_mak ?_)
  | (with_reducible refine Wm.r_cb ?_)
  | (with_reducible refine Wm.r_tup ?_)
  | (with_reducible refine Wm.r_lst ?_)
  | (with_reducible refine Wm.r_chain ?_)
  | (with_reducible refine Wm.r_and ?_)
  | (with_reducible refine Wm.r_or ?_)
  | (with_reducible refine Wm.r_not ?_)
  | (with_reducible refine Wm.r_andV ?_)
  | (with_reducible refine Wm.r_orV ?_)
  | (with_reducible refine Wm.r_notV ?_)
  | (with_reducible refine Wm.r_if ?_)
  | (with_reducible refine Wm.r_un ?_)
  | (with_reducible refine Wm.r_U ?_)
  | (with_reducible refine Wm.r_iteT ?_)
  | (with_reducible refine Wm.r_iteF ?_)
  | (with_reducible refine Wm.r_next ?_)
  | (with_reducible refine Wm.r_drop ?_)
  | (with_reducible refine Wm.r_retN ?_)
  | ((with_reducible refine' Wm.r_aug ?h ?_); (case h => rfl))
  | (with_reducible refine Wm.r_ipI ?_)
  | (with_reducible refine Wm.r_par2 ?_)
  | (with_reducible refine Wm.r_two ?_; try simp only [List.set_cons_zero, List.set_cons_succ])
  | (with_reducible refine Wm.r_yes ?_)
  | (with_reducible refine Wm.r_par3 ?_)
  | (with_reducible refine Wm.r_seenPut ?_)
  | (with_reducible refine Wm.r_seenGet ?_)
  | (with_reducible refine Wm.r_three ?_; try simp only [List.set_cons_zero, List.set_cons_succ])
  | (with_reducible refine Wm.r_sl ?_)
  | (with_reducible refine Wm.r_nopart ?_)
  | (with_reducible refine Wm.r_part ?_)
  | (with_reducible refine Wm.r_xi ?_)
  | (with_reducible refine Wm.r_gcons ?_)
  | (with_reducible refine Wm.r_gnil ?_)
  | (with_reducible refine Wm.r_sub ?_)
  | (with_reducible refine Wm.r_setF ?_)
  | (with_reducible refine Wm.r_app ?_)
  | (with_reducible refine Wm.int_i ?_)
  | (with_reducible refine Wm.int_b ?_)
  | (with_reducible refine Wm.min2 ?_)
  | (with_reducible refine Wm.max2 ?_)
  | (with_reducible refine Wm.abs1 ?_)
  | (with_reducible refine Wm.isN ?_)
  | (with_reducible refine Wm.notN ?_)
  | ((with_reducible refine' Wm.r_ty ?e ?_); (case e => walk_at "at"))
  | ((with_reducible refine' Wm.setF_m ?h 0 ?e ?c ?a ?l ?_); (case h => assumption); (case e => rfl); (case c => walk_at "cls"); (case a => walk_at "noattr"); (case l => exact of_decide_eq_true rfl); intro H1 hh1; simp only [List.set_cons_zero, List.set_cons_succ] at hh1)
  | ((with_reducible refine' Wm.setF_m ?h 1 ?e ?c ?a ?l ?_); (case h => assumption); (case e => rfl); (case c => walk_at "cls"); (case a => walk_at "noattr"); (case l => exact of_decide_eq_true rfl); intro H1 hh1; simp only [List.set_cons_zero, List.set_cons_succ] at hh1)
  | ((with_reducible refine' Wm.setF_m ?h 2 ?e ?c ?a ?l ?_); (case h => assumption); (case e => rfl); (case c => walk_at "cls"); (case a => walk_at "noattr"); (case l => exact of_decide_eq_true rfl); intro H1 hh1; simp only [List.set_cons_zero, List.set_cons_succ] at hh1)
  | ((with_reducible refine' Wm.setF_m ?h 3 ?e ?c ?a ?l ?_); (case h => assumption); (case e => rfl); (case c => walk_at "cls"); (case a => walk_at "noattr"); (case l => exact of_decide_eq_true rfl); intro H1 hh1; simp only [List.set_cons_zero, List.set_cons_succ] at hh1)
  | (with_reducible refine Wm.r_forL ?_)
  | (with_reducible refine Wm.r_forT ?_)
  | (with_reducible refine Wm.r_forR1 ?_)
  | (with_reducible refine Wm.r_forR2 ?_)
  | (with_reducible refine Wm.r_lcL ?_)
  | (with_reducible refine Wm.r_lcT ?_)
  | (with_reducible refine Wm.r_lcR1 ?_)
  | (with_reducible refine Wm.r_lcR2 ?_)
  | ((with_reducible refine' Wm.fld_h ?e ?c ?n ?l ?_); (case e => walk_at "at"); (case c => walk_at "cls"); (case n => walk_at "noattr"); (case l => rfl))
  | ((with_reducible refine' Wm.mtd_h ?e ?l ?_); (case e => walk_at "at"); (case l => rfl))
  | ((with_reducible refine' Wm.prp_h ?e ?_); (case e => walk_at "at"))
  | ((with_reducible refine' Wm.rix_ht ?a ?b ?_); (case a => walk_at "at"); (case b => rfl))
  | ((with_reducible refine' Wm.rix_h ?a ?b ?_); (case a => walk_at "at"); (case b => rfl))
  | ((with_reducible refine' Wm.len_ht ?a ?_); (case a => walk_at "at"))
  | ((with_reducible refine' Wm.len_h ?a ?_); (case a => walk_at "at"))
  | ((with_reducible refine' Wm.len_l ?a ?b ?_); (case a => assumption); (case b => assumption))
  | ((with_reducible refine' Wm.len_t ?a ?b ?_); (case a => assumption); (case b => assumption))
  | ((with_reducible refine' Wm.gtup_h ?a ?b ?_); (case a => walk_at "at"); (case b => rfl))
  | (with_reducible refine Wm.r_I (Wm.cmulR (by decide)) ?_)
  | (with_reducible refine Wm.r_I (Wm.cmulL (by decide)) ?_)
  | (with_reducible refine Wm.r_I (Wm.cdiv (by decide) (by decide)) ?_)
  | (with_reducible refine Wm.r_I Wm.cpow18 ?_)
  | (with_reducible refine Wm.r_I Wm.cpow12 ?_)
  | (with_reducible refine Wm.r_I (by show (0 : Int) < _; decide) ?_))
local macro_rules | `(tactic| walk_at "s") => `(tactic| repeat (first | walk_at "s1" | (with_reducible refine Wm.r_ifS ?_)))
local macro_rules | `(tactic| walk_at "t") => `(tactic| repeat (walk_at "s1"))
local macro_rules | `(tactic| walk_at "sz") => `(tactic| exact of_decide_eq_true rfl)
namespace Wm
open PySem PySem.Spec PyProof.Rows L2 StX
/-! ## Histories: asking -/
def sp_History_circle (K : PySem.W.Frag) (A : Ads) : Sp := fun vs H Q _ => ∃ (p : Addr) (P : Par) (rs : List RunD) (j : Int), vs = [.ref p] ∧ IsHist K A H p P rs (some j) ∧ Q (.int (circ rs j)) H
def sp_History_wrapped (K : PySem.W.Frag) (A : Ads) : Sp := fun vs H Q _ => ∃ (p : Addr) (t : Int) (P : Par) (rs : List RunD) (loop : Option Int), vs = [.ref p, .int t] ∧ IsHist K A H p P rs loop ∧
  ∀ q H', Ex H H' → H q = none → H' q = some (.tup [.int (wrapT rs loop t), .int (wrapP rs loop t)]) → Q (.ref q) H'
def sp_History_run_at (K : PySem.W.Frag) (A : Ads) : Sp := fun vs H Q _ => ∃ (p : Addr) (t : Int) (P : Par) (rs : List RunD) (loop : Option Int), vs = [.ref p, .int t] ∧ IsHist K A H p P rs loop ∧ 0 ≤ t ∧
  ∀ (i : Nat) (a : Addr) (r : RunD), rs[i]? = some r → IsRun K A H a r → r.beg ≤ t → (∀ r2, rs[i + 1]? = some r2 → t < r2.beg) → Q (.ref a) H
def t_History_circle (K : PySem.W.Frag) (A : Ads) : TS := tRet (tOp (rI0 fun i j => .int (i - j)) (tFld K (tOp (rIx K) (tFld K (tVar 0) "runs") (tUn (rU fun i => .int (-i)) (tC (.int 1)))) "end") (tFld K (tOp (rIx K) (tFld K (tVar 0) "runs") (tFld K (tVar 0) "loop")) "begin"))
def t_History_wrapped (K : PySem.W.Frag) (A : Ads) : TS := tSeq (tIfS (tOr (tTest (tOp rIsN (tFld K (tVar 0) "loop") (tC .non))) (tTest (tOp (rI0 fun i j => .bl (decide (i < j))) (tVar 1) (tFld K (tOp (rIx K) (tFld K (tVar 0) "runs") (tUn (rU fun i => .int (-i)) (tC (.int 1)))) "end")))) (tRet (tTup (tCons (tC (.int 0)) (tCons (tVar 1) (tNil))))) (tNext)) (tSeq (tAsg (tOp (rI CDivW fun i j => .int (i / j)) (tOp (rI0 fun i j => .int (i - j)) (tVar 1) (tFld K (tOp (rIx K) (tFld K (tVar 0) "runs") (tFld K (tVar 0) "loop")) "begin")) (tMtd A.cHistory "circle" (sp_History_circle K A) E0 (tVar 0) tNil)) (gName 2)) (tRet (tTup (tCons (tVar 2) (tCons (tOp (rI0 fun i j => .int (i - j)) (tVar 1) (tOp (rI CMul fun i j => .int (i * j)) (tVar 2) (tMtd A.cHistory "circle" (sp_History_circle K A) E0 (tVar 0) tNil))) (tNil))))))
def t_History_run_at (K : PySem.W.Frag) (A : Ads) : TS := tSeq (tPar 2 3 (tCons (tC (.int 0)) (tCons (tCB (rLen K) (tCons (tFld K (tVar 0) "runs") (tNil))) (tNil)))) (tSeq (tWhile (tTest (tOp (rI0 fun i j => .bl (decide (j < i))) (tOp (rI0 fun i j => .int (i - j)) (tVar 3) (tVar 2)) (tC (.int 1)))) (tSeq (tAsg (tOp (rI CDivW fun i j => .int (i / j)) (tOp (rI0 fun i j => .int (i + j)) (tVar 2) (tVar 3)) (tC (.int 2))) (gName 4)) (tIfS (tTest (tOp (rI0 fun i j => .bl (decide (i ≤ j))) (tFld K (tOp (rIx K) (tFld K (tVar 0) "runs") (tVar 4)) "begin") (tVar 1))) (tAsg (tVar 4) (gName 2)) (tAsg (tVar 4) (gName 3))))) (tRet (tOp (rIx K) (tFld K (tVar 0) "runs") (tVar 2))))
section
variable {K : PySem.W.Frag} {A : Ads}
theorem IsHist.last {H : Hp} {ras : List Addr} {rs : List RunD} (h : RunsAt K A H ras rs) {l : RunD} (hl : rs[rs.length - 1]? = some l) : ∃ a dx s, atI (ras.map V.ref) (-1) = some (V.ref a) ∧ IsRun K A H a l ∧ H a = some (.ins A.cRun dx (runF l s)) := by
  obtain ⟨a, dx, s, h1, h2, h3⟩ := h.get hl
  refine ⟨a, dx, s, last_at ?_, h2, h3⟩
  rw [List.length_map, h.len]
  exact refs_at h1
theorem IsHist.num {H : Hp} {ras : List Addr} {rs : List RunD} (h : RunsAt K A H ras rs) {j : Int} (j0 : 0 ≤ j) {r : RunD} (hj : rs[j.toNat]? = some r) : ∃ a dx s, atI (ras.map V.ref) j = some (V.ref a) ∧ IsRun K A H a r ∧ H a = some (.ins A.cRun dx (runF r s)) := by
  obtain ⟨a, dx, s, h1, h2, h3⟩ := h.get hj
  exact ⟨a, dx, s, atI_of j0 (refs_at h1), h2, h3⟩
theorem pure_History_circle (vs : List V) (H : Hp) (Q : VK) (E : XK) (h : sp_History_circle K A vs H Q E) : t_History_circle K A { nx := fun _ H' => Q .non H', rt := Q } (start ["self"] vs) H := by
  obtain ⟨p, P, rs, j, rfl, ⟨TH, TR, hok, dx, sh, ru, ras, h1, h2, h3, h4⟩, k⟩ := h
  obtain ⟨j0, r, l, e, hj, hl, he, _⟩ := hok.v.shut j rfl
  obtain ⟨a, dx1, s1, i1, ir1, o1⟩ := IsHist.num h4 j0 hj
  obtain ⟨b, dx2, s2, i2, ir2, o2⟩ := IsHist.last h4 hl
  show t_History_circle K A _ [some (.ref p)] H
  unfold t_History_circle
  walk_at "s"
  refine rix_h h3 i2 ?_
  walk_at "s"
  refine rix_h h3 i1 ?_
  walk_at "s"
  refine ⟨e, r.beg, by rw [he] <;> rfl, rfl, ?_⟩
  unfold circ at k
  rw [begAt_of hj, finLast_of hl he] at k
  exact k
theorem pure_History_wrapped (vs : List V) (H : Hp) (Q : VK) (E : XK) (h : sp_History_wrapped K A vs H Q E) : t_History_wrapped K A { nx := fun _ H' => Q .non H', rt := Q } (start ["self", "tick", "turns"] vs) H := by
  obtain ⟨p, t, P, rs, loop, rfl, ih, k⟩ := h
  obtain ⟨TH, TR, hok, dx, sh, ru, ras, h1, h2, h3, h4⟩ := id ih
  have hv := hok.v
  show t_History_wrapped K A _ [some (.ref p), some (.int t), none] H
  unfold t_History_wrapped
  cases loop with
  | none =>
    walk_at "s"
    refine r_ite (fun _ => ?_) (fun c => absurd rfl (of_decide_eq_false c))
    walk_at "s"
    refine tup_n (by walk_at "sz") (Hold.start H) fun q H' hq hq' hh => k q H' hh.ex hq hq'
  | some j =>
    obtain ⟨j0, r, l, e, hj, hl, he, _⟩ := hv.shut j rfl
    have sc := hv.shut_
    obtain ⟨a, dx1, s1, i1, ir1, o1⟩ := IsHist.num h4 j0 hj
    obtain ⟨b, dx2, s2, i2, ir2, o2⟩ := IsHist.last h4 hl
    walk_at "s"
    refine r_ite (fun c => absurd (of_decide_eq_true c) (by intro z; cases z)) (fun _ => ?_)
    walk_at "s"
    refine rix_h h3 i2 ?_
    walk_at "s"
    refine ⟨t, e, rfl, by rw [he] <;> rfl, ?_⟩
    have eb := begAt_of hj
    have ef := finLast_of hl he
    have c0 := sc.c0
    have cB := sc.cB
    unfold wrapT wrapP at k
    simp only [eb, ef] at k
    walk_at "s"
    refine r_ite (fun c => ?_) (fun c => ?_)
    · rw [if_pos (of_decide_eq_true c), if_pos (of_decide_eq_true c)] at k
      walk_at "s"
      refine tup_n (by walk_at "sz") (Hold.start H) fun q H' hq hq' hh => k q H' hh.ex hq hq'
    · rw [if_neg (of_decide_eq_false c), if_neg (of_decide_eq_false c)] at k
      walk_at "s"
      refine rix_h h3 i1 ?_
      walk_at "s"
      refine ⟨p, P, rs, j, rfl, ih, ?_⟩
      refine r_I (cdiv (by omega) (by omega)) ?_
      walk_at "s"
      refine ⟨p, P, rs, j, rfl, ih, ?_⟩
      refine r_I (cmulR (by omega)) ?_
      walk_at "s"
      refine tup_n (by walk_at "sz") (Hold.start H) fun q H' hq hq' hh => k q H' hh.ex hq hq'
theorem pure_History_run_at (vs : List V) (H : Hp) (Q : VK) (E : XK) (h : sp_History_run_at K A vs H Q E) : t_History_run_at K A { nx := fun _ H' => Q .non H', rt := Q } (start ["self", "tick", "low", "high", "middle"] vs) H := by
  obtain ⟨p, t, P, rs, loop, rfl, ih, t0, k⟩ := h
  obtain ⟨TH, TR, hok, dx, sh, ru, ras, h1, h2, h3, h4⟩ := id ih
  have hv := hok.v
  have hne := hv.ne
  show t_History_run_at K A _ [some (.ref p), some (.int t), none, none, none] H
  unfold t_History_run_at
  obtain ⟨r0, f1, f2, _⟩ := hv.first
  walk_at "s"
  rw [List.length_map, h4.len]
  refine whileA (fun m σ H' => H' = H ∧ ∃ (lo hi : Nat) (v : Option V), σ = [some (.ref p), some (.int t), some (.int (lo : Int)), some (.int (hi : Int)), v] ∧ lo < hi ∧ hi ≤ rs.length ∧ m = hi - lo ∧ (∃ r, rs[lo]? = some r ∧ r.beg ≤ t) ∧ (∀ r, rs[hi]? = some r → t < r.beg)) rs.length
    ⟨rfl, 0, rs.length, none, rfl, hne, Nat.le_refl _, rfl, ⟨r0, f1, by omega⟩, fun r hr => by have := (List.getElem?_eq_some_iff.mp hr).1; omega⟩ ?_
  rintro m σ H' ⟨rfl, lo, hi, v, rfl, hlt, hle, rfl, ⟨rl, hrl, hrlt⟩, hhi⟩
  have len := hv.le
  refine ⟨decide (1 < (hi : Int) - lo), fun Q q => by walk_at "s"; exact q, fun c => ?_, fun c => ?_⟩
  · have c := of_decide_eq_true c
    have m1 : (((lo + hi) / 2 : Nat) : Int) = ((lo : Int) + hi) / 2 := by omega
    obtain ⟨rm, hrm⟩ := get_some (l := rs) (i := (lo + hi) / 2) (by omega)
    obtain ⟨a, dx1, s1, i1, ir1, o1⟩ := IsHist.num h4 (j := ((lo : Int) + hi) / 2) (by omega) (by rw [← m1, Int.toNat_natCast]; exact hrm)
    walk_at "s"
    refine rix_h h3 i1 ?_
    walk_at "s"
    refine r_ite (fun c2 => ?_) (fun c2 => ?_)
    · walk_at "s"
      exact ⟨hi - (lo + hi) / 2, by omega, by trivial, (lo + hi) / 2, hi, _, by rw [m1], by omega, hle, rfl, ⟨rm, hrm, of_decide_eq_true c2⟩, hhi⟩
    · walk_at "s"
      refine ⟨(lo + hi) / 2 - lo, by omega, by trivial, lo, (lo + hi) / 2, _, by rw [m1], by omega, by omega, rfl, ⟨rl, hrl, hrlt⟩, fun r hr => ?_⟩
      rw [hrm] at hr
      cases hr
      have := of_decide_eq_false c2
      omega
  · have c := of_decide_eq_false c
    have e : hi = lo + 1 := by omega
    subst e
    obtain ⟨a, dx1, s1, i1, ir1, o1⟩ := IsHist.num h4 (j := (lo : Int)) (by omega) (by rw [Int.toNat_natCast]; exact hrl)
    walk_at "s"
    refine rix_h h3 i1 ?_
    exact k lo a rl hrl ir1 hrlt hhi
end
end Wm
end

section
/-! ## enumerate over a tuple -/
namespace PySem
open Sem (wp)
open AutoSeq1 (wpAny_loadPart')
theorem wm_meets_enum1 {v : Value} {o : Obj} {H : Heap → Prop} (B : Begins v o H) :
    Meets (Builtin.«enumerate.__new__» ⟨[.type "enumerate", v], []⟩) (fun _ R s => H s.heap ∧
      R (.ok (.ret (.ref (s.heap.push o).objs.size))) { s with heap := (s.heap.push o).push { cls := .type "enumerate", data := .fields #[.none, .bool false, .ref s.heap.objs.size, rawInt 0, .none, .none] } }) :=
  .of_wp fun prog w A R s h => by
    obtain ⟨hp, g, d, tk, os⟩ := s; obtain ⟨h1, h⟩ := h
    have hsub := sub_enumerate
    have q1 : ∀ {A' : Around} {E : Value → Shared → Prop} {Q : Value → Shared → Prop}, Q (.ref hp.objs.size) ⟨hp.push o, g, d, tk, os⟩ → wpAny (model prog w) A' (pyIter v) Q E ⟨hp, g, d, tk, os⟩ :=
      fun q => B.iter prog w _ _ ⟨hp, g, d, tk, os⟩ _ h1 q
    wp_walk using q1
    refine wpAny_stack_any fun st => wpAny_pure ?_
    split
    · rename_i c _ _ _ _ _
      cases (c == Value.type "enumerate")
      · wp_walk using q1
        exact ⟨_, rfl, h⟩
      · wp_walk using q1
        exact ⟨_, rfl, h⟩
    · wp_walk using q1
      exact ⟨_, rfl, h⟩
section
variable {prog : Program} {w : World} {A : Around} {E : Value → Shared → Prop} {s : Shared}
theorem wm_enum1 {v : Value} {o : Obj} {H : Heap → Prop} {Q : Value → Shared → Prop} (B : Begins v o H) (h1 : H s.heap)
    (h : ∀ h', IsEnum h' (s.heap.objs.size + 1) s.heap.objs.size 0 .none → h'.get? s.heap.objs.size = some o → h'.objs.size = s.heap.objs.size + 2 →
      (∀ b o, s.heap.get? b = some o → h'.get? b = some o) → Q (.ref (s.heap.objs.size + 1)) { s with heap := h' }) :
    wpAny (model prog w) A (call (.type "enumerate") [v]) Q E s := by
  refine callType_new F.called_enumerate (by decide) (F.typeCall_enumerate_1 _) (F.newCall_enumerate_1 _) (fun obj => F.args_object_init_2 obj _) F.entry_enumerate_new
    (wm_meets_enum1 B) ⟨h1, ?_⟩
  have hz : (s.heap.push o).objs.size = s.heap.objs.size + 1 := Heap.size_push ..
  show _ ∧ _
  rw [hz]
  have he : IsEnum ((s.heap.push o).push { cls := .type "enumerate", data := .fields #[.none, .bool false, .ref s.heap.objs.size, rawInt 0, .none, .none] }) (s.heap.objs.size + 1) s.heap.objs.size 0 .none := by
    have := Heap.get?_push_size (s.heap.push o) (o := { cls := .type "enumerate", data := .fields #[.none, .bool false, .ref s.heap.objs.size, rawInt 0, .none, .none] }) rfl
    rw [hz] at this; exact this
  refine ⟨⟨_, he, rfl⟩, h _ he (Heap.get?_push_of_some _ (Heap.get?_push_size _ B.free)) (by rw [Heap.size_push, hz]) fun b o x => Heap.get?_push_of_some _ (Heap.get?_push_of_some _ x)⟩
end
end PySem
namespace Wm
open PySem PySem.Spec PyProof.Rows L2 StX
/-- the tuple at a, each item in a new pair -/
def Iet (K : PySem.W.Frag) (a : Addr) : It :=
  ⟨fun i H => ∃ (xs : List V) (x : V), SqT K H a xs ∧ xs[i]? = some x, fun i H v H' => ∃ T x, v = .ref T ∧ H T = none ∧ H' = upd H T (.tup [.int (i : Nat), x]) ∧ ∀ xs, SqT K H a xs → xs[i]? = some x, fun i H => ∃ xs : List V, SqT K H a xs ∧ xs.length = i⟩
theorem sqT_inj {X : Cx} {pins : List (Addr × Obj)} {σ : L2.St} {H : Hp} {s : Shared} {a : Addr} {xs ys : List V} (I : Inv X pins σ H s) (h : SqT X.K H a xs) (h2 : SqT X.K H a ys) : xs = ys := I.tuple_inj h h2
theorem turn_enumT {P : Program} {w : World} {K : PySem.W.Frag} {elts : List Expr} {kk : Nat} {tpos : Pos} (a e it : Addr) (hai : a ≠ it) :
    Turn P w K (.Tuple elts kk tpos) (Iet K a) [e, it] e (fun i h => (∃ old, IsEnum h e it ((i : Nat) : Int) old) ∧ h.IsTupleIter it a i ∧ e ≠ it) where
  mem := by simp
  obj := fun i h st b hb => by
    obtain ⟨⟨old, he⟩, ⟨o, ho, hc, hd⟩, _⟩ := st
    have e' : b = e ∨ b = it := by simpa using hb
    rcases e' with z | z
    · rw [z]; exact ⟨_, he, fun v q => nomatch q⟩
    · rw [z]; exact ⟨o, ho, fun v q => by rw [hd] at q; cases q⟩
  keep := fun i h h' st k => let ⟨⟨old, he⟩, hi, hne⟩ := st; ⟨⟨old, k e (by simp) _ he⟩, hi.at fun o q => k it (by simp) o q, hne⟩
  item := by
    intro X hP hw hK hc i pins s σ H E I hf st hg
    subst hP hw hK
    obtain ⟨⟨old, he⟩, hit, hne⟩ := st
    obtain ⟨xs, x, hq, hx⟩ := hg
    obtain ⟨its, rv, p, hz⟩ := I.tuple hq
    obtain ⟨u, hu, ru⟩ := rv.get hx
    have hel : e < s.heap.objs.size := Heap.lt_size he
    have hil : it < s.heap.objs.size := by obtain ⟨_, q, _⟩ := hit; exact Heap.lt_size q
    have hil2 : i < its.toArray.size := by
      have := (List.getElem?_eq_some_iff.mp hu).1
      simpa using this
    have hea : e ≠ a := fun z => by
      obtain ⟨o, ho, hc', _⟩ := p
      rw [z] at he
      rw [he] at ho
      cases ho
      exact absurd (Value.type.inj hc') (by decide)
    refine wpAny_pyNext_enum_itemC (Draws.tuple (A := X.A.in1) (I.ok.hd hc) it a hai its.toArray) he ⟨hit, p⟩ hil2 hne (by simp [hne, hea]) fun x' h' tk hx' ho hst hT hsz hk => ?_
    have hxu : x' = u := by
      have h2 : its.toArray[i]? = some u := by simpa using hu
      rw [h2] at hx'
      cases hx'
      rfl
    subst hxu
    refine ⟨_, rfl, wpAny_letOwnedTupleGo_enum (s := { s with heap := h', toks := tk + 1 }) ho fun h'' he' sb => ?_⟩
    have hT2 : h''.get? s.heap.objs.size = some { cls := .type "tuple", data := .seq #[.int i tk, x'] } := (sb.2 _ (Nat.ne_of_gt hel)).trans hT
    have new : ObjOk X.prog X.w (upd H s.heap.objs.size (.tup [.int (i : Nat), x])) h'' s.heap.objs.size (.tup [.int (i : Nat), x]) :=
      ⟨by show 2 ≤ sizeLine; decide, [.int i tk, x'], .cons ⟨_, rfl⟩ (.cons ru .nil), ⟨_, hT2, rfl, _, rfl⟩⟩
    have I1 : Inv X pins σ (upd H s.heap.objs.size (.tup [.int (i : Nat), x])) { s with heap := h'', toks := tk + 1 } :=
      I.turnedNew (ch := [e, it]) (fun b ob hb q => (sb.2 b (fun z => hb (by simp [z]))).trans (hk b ob (fun z => hb (by simp [z])) (fun z => hb (by simp [z])) q)) hf (Nat.le_refl _) new
    refine ⟨.ref s.heap.objs.size, _, I1, rfl, ⟨_, x, rfl, I.hok.fresh (Nat.le_refl _), rfl, fun ys hy => by rw [sqT_inj I hy hq]; exact hx⟩, ⟨⟨x', ?_⟩, hst.1.at fun o q => (sb.2 it (Ne.symm hne)).trans q, hne⟩, fun b hb => ?_⟩
    · have e1 : ((i + 1 : Nat) : Int) = (i : Int) + 1 := by omega
      rw [e1]; exact he'
    · have hb' : b < s.heap.objs.size := by
        have e' : b = e ∨ b = it := by simpa using hb
        rcases e' with z | z
        · rw [z]; exact hel
        · rw [z]; exact hil
      rw [upd_ne (Nat.ne_of_lt hb')]
      exact (hf b hb).1
  done := by
    intro X hP hw hK hc i pins s σ H E I hf st hg
    subst hP hw hK
    obtain ⟨⟨old, he⟩, hit, hne⟩ := st
    obtain ⟨xs, hq, hx⟩ := hg
    obtain ⟨its, rv, p, hz⟩ := I.tuple hq
    obtain ⟨f0, f1, f2, f3, f4, f5⟩ := hf it (by simp)
    have hl := rv.length
    have p2 : s.heap.IsTuple a its.toArray := p
    have hn : its.toArray.size = i := by rw [List.size_toArray, ← hl]; exact hx
    subst hn
    exact wpAny_pyNext_enum_endD (Draws.tuple (A := X.A.in1) (I.ok.hd hc) it a hai its.toArray) he ⟨hit, p2⟩ fun h' eb => ⟨rfl, I.turned (t' := s.toks) (fun b o hb q => eb b o hb q) f0 f1 f3 f4 f5⟩
  self := fun A i s Q E st h => let ⟨⟨_, he⟩, _⟩ := st; wpAny_pyIter_enum he h
def iEnumT (K : PySem.W.Frag) (ta : TA) : TI := fun σ H R => ta σ H fun vs H1 => ∃ a xs, vs = [.ref a] ∧ SqT K H1 a xs ∧ R (Iet K a) H1
theorem pi_enumT {X : Cx} {e : Expr} {ta : TA} {p pos tpos : Pos} {elts : List Expr} {kk : Nat} (hg : Gl X "enumerate") (hm : X.mg "enumerate" = none) (ha : PA X [e] ta) (hs : starEach [e] X.env = [(false, eval e X.env)] := by rfl) :
    PI X (.Tuple elts kk tpos) (.Call (.Name "enumerate" p) [e] [] pos) (iEnumT X.K ta) := by
  refine ⟨fun pins s σ H R I h => ?_⟩
  refine Call_ (ld_blt I hg hm boot_enumerate (PyProof.Rows.callWith_type1 (thn (ha.run pos pins s σ H _ I h) fun us s1 ⟨vs, H1, I1, r1, q1⟩ => ?_) hs rfl))
  obtain ⟨a, xs, ex, hq, q⟩ := q1
  subst ex
  cases r1 with
  | cons r rr =>
    cases rr
    cases r
    obtain ⟨its, rv, p', hz⟩ := I1.tuple hq
    have p2 : s1.heap.IsTuple a its.toArray := p'
    have hal : a < s1.heap.objs.size := by obtain ⟨_, q, _⟩ := p2; exact Heap.lt_size q
    refine wm_enum1 (begins_tuple a its.toArray) p2 fun h' he hit hsz hk => wpAny_pyIter_enum he ?_
    have I2 : Inv X pins σ H1 { s1 with heap := h' } := I1.kept (t' := s1.toks) hk
    refine ⟨s1.heap.objs.size + 1, [s1.heap.objs.size + 1, s1.heap.objs.size], _, _, H1, rfl, I2, turn_enumT a (s1.heap.objs.size + 1) s1.heap.objs.size (Nat.ne_of_lt hal), ⟨⟨.none, he⟩, ⟨_, hit, rfl, rfl⟩, Nat.succ_ne_self _⟩, fun b hb => ?_, q⟩
    have e' : b = s1.heap.objs.size + 1 ∨ b = s1.heap.objs.size := by simpa using hb
    have hle : s1.heap.objs.size ≤ b := by
      rcases e' with z | z
      · rw [z]; exact Nat.le_add_right _ _
      · rw [z]; exact Nat.le_refl _
    exact I1.fpOk hle (I1.hok.fresh hle)
/-- for i, x in enumerate(t) -/
def ForET (K : PySem.W.Frag) (g : TG) (tb : TS) (D : Ends) (σ : L2.St) (vs : List V) (H1 : Hp) : Prop := ∃ a xs, vs = [.ref a] ∧ SqT K H1 a xs ∧ TurnsW (Iet K a) g tb D σ H1
section
variable {K : PySem.W.Frag} {H : Hp} {σ : L2.St} {D : Ends} {a : Addr} {xs : List V} {tr : TA} {g : TG} {tb : TS}
theorem r_forET (k : tr σ H fun vs H1 => ForET K g tb D σ vs H1) : tFor (iEnumT K tr) g tb D σ H := k
theorem forET_by (e : SqT K H a xs) (Pv : Nat → L2.St → Hp → Prop) (h0 : Pv 0 σ H) (hl : ∀ i σ H, i ≤ xs.length → Pv i σ H → Ex H H ∧ SqT K H a xs)
    (hs : ∀ i x σ H T, xs[i]? = some x → Pv i σ H → H T = none → g (.ref T) σ (upd H T (.tup [.int (i : Int), x])) fun σ2 H2 => tb { D with nx := Pv (i + 1), ct := Pv (i + 1), bk := D.nx } σ2 H2) (hd : ∀ σ H, Pv xs.length σ H → D.nx σ H) : ForET K g tb D σ [.ref a] H := by
  refine ⟨a, xs, rfl, e, fun i m σ H => m = xs.length - i ∧ i ≤ xs.length ∧ Pv i σ H, ⟨xs.length, rfl, Nat.zero_le _, h0⟩, ?_⟩
  rintro i m σ H ⟨rfl, hi, p⟩
  by_cases hlt : i < xs.length
  · obtain ⟨x, hx⟩ := get_some hlt
    refine .inr ⟨⟨xs, x, (hl i σ H hi p).2, hx⟩, Pv (i + 1), fun σ' H' h => ⟨xs.length - (i + 1), by omega, rfl, hlt, h⟩, ?_⟩
    rintro v H' ⟨T, y, rfl, hT, rfl, hy⟩
    exact hs i y σ H T (hy xs (hl i σ H hi p).2) p hT
  · have e : i = xs.length := by omega
    subst e
    exact .inl ⟨⟨xs, (hl _ σ H hi p).2, rfl⟩, hd σ H p⟩
end
end Wm
namespace Wm
open PySem PySem.Spec PyProof.Rows L2 StX
/-! ## a op b op c op d -/
def tChain3 (r r' r'' : R2) (ta tb tc td : TE) : TE := fun σ H Q => ta σ H fun x H1 => tb σ H1 fun y H2 => r x y H2 fun z H3 => ∃ k, z = .bl k ∧
  (if k = true then tc σ H3 fun w' H4 => r' y w' H4 (fun z' H5 => ∃ k', z' = .bl k' ∧ (if k' = true then td σ H5 fun v' H6 => r'' w' v' H6 Q else Q (.bl false) H5)) else Q (.bl false) H3)
section
variable {X : Cx} {a b c d : Expr} {ta tb tc td : TE} {op op' op'' : CmpOp} {r r' r'' : R2} {pos : Pos}
theorem pt_chain3 (ho : OpR X (compareOp op) r) (ho' : OpR X (compareOp op') r') (ho'' : OpR X (compareOp op'') r'') (ha : PE X a ta) (hb : PE X b tb) (hc : PE X c tc) (hd : PE X d td)
    (hm : lastMarks [op, op', op''] [b, c, d] = false := by with_unfolding_all rfl) : PT X (.Compare a [op, op', op''] [b, c, d] pos) (tTest (tChain3 r r' r'' ta tb tc td)) := by
  refine ⟨fun pins s σ H Q I h => ?_⟩
  refine isTrue_chain (thn (ha.run pins s σ H _ I h) fun v s1 ⟨x, H1, I1, r1, q1⟩ => test_link (thn (hb.run pins s1 σ H1 _ I1 q1) fun u s2 ⟨y, H2, I2, r2, q2⟩ =>
    thn (ho pins s2 σ H2 x y v u _ I2 r1 r2 q2) fun dd s3 ⟨z, H3, I3, r3, k, e, q3⟩ => ?_)) hm
  subst e
  cases r3
  refine wpAny_truthy_bool ?_
  cases k with
  | false =>
    obtain ⟨k', e', q'⟩ := q3
    cases e'
    exact ite_ff ⟨H3, I3, q'⟩
  | true =>
    refine ite_tt (test_link (thn (hc.run pins s3 σ H3 _ I3 q3) fun w' s4 ⟨z', H4, I4, r4, q4⟩ => thn (ho' pins s4 σ H4 y z' u w' _ I4 r2 r4 q4) fun d' s5 ⟨z2, H5, I5, r5, k2, e2, q5⟩ => ?_))
    subst e2
    cases r5
    refine wpAny_truthy_bool ?_
    cases k2 with
    | false =>
      obtain ⟨k', e', q'⟩ := q5
      cases e'
      exact ite_ff ⟨H5, I5, q'⟩
    | true =>
      refine ite_tt (test_last (thn (hd.run pins s5 σ H5 _ I5 q5) fun w6 s6 ⟨z6, H6, I6, r6, q6⟩ => thn (ho'' pins s6 σ H6 z' z6 w' w6 _ I6 r4 r6 q6) fun d7 s7 ⟨z7, H7, I7, r7, k7, e7, q7⟩ => ?_))
      subst e7
      cases r7
      exact wpAny_truthy_bool ⟨H7, I7, q7⟩
end
section
variable {σ : L2.St} {H : Hp} {Q : VK} {ta tb tc td : TE} {r r' r'' : R2}
theorem r_chain3 (k : ta σ H fun x H1 => tb σ H1 fun y H2 => r x y H2 fun z H3 => ∃ k, z = .bl k ∧
  (if k = true then tc σ H3 fun w' H4 => r' y w' H4 (fun z' H5 => ∃ k', z' = .bl k' ∧ (if k' = true then td σ H5 fun v' H6 => r'' w' v' H6 Q else Q (.bl false) H5)) else Q (.bl false) H3)) : tChain3 r r' r'' ta tb tc td σ H Q := k
theorem ans_leL3 {a b c d : Int} (ha : Val ta σ H (.int a)) (hb : Val tb σ H (.int b)) (hc : Val tc σ H (.int c)) (hd : Val td σ H (.int d)) :
    Ans (tTest (tChain3 (rI0 fun i j => .bl (decide (i ≤ j))) (rI0 fun i j => .bl (decide (i ≤ j))) (rI0 fun i j => .bl (decide (i ≤ j))) ta tb tc td)) σ H (decide (a ≤ b) && (decide (b ≤ c) && decide (c ≤ d))) := fun Q q => by
  refine r_test (r_chain3 (ha _ (hb _ (r_I0 ⟨_, rfl, ?_⟩))))
  by_cases h1 : a ≤ b
  · rw [if_pos (decide_eq_true h1)]
    refine hc _ (r_I0 ⟨_, rfl, ?_⟩)
    by_cases h2 : b ≤ c
    · rw [if_pos (decide_eq_true h2)]
      refine hd _ (r_I0 ⟨_, rfl, ?_⟩)
      rw [decide_eq_true h1, decide_eq_true h2, Bool.true_and, Bool.true_and] at q
      exact q
    · rw [if_neg (by rw [decide_eq_false h2]; exact Bool.false_ne_true)]
      rw [decide_eq_false h2, Bool.false_and, Bool.and_false] at q
      exact ⟨false, rfl, q⟩
  · rw [if_neg (by rw [decide_eq_false h1]; exact Bool.false_ne_true)]
    rw [decide_eq_false h1, Bool.false_and] at q
    exact ⟨false, rfl, q⟩
end
end Wm
namespace Wm
section
variable {A B P : Prop} [Decidable P]
theorem r_dT (h : P) (k : A) : if decide P = true then A else B := by rw [if_pos (decide_eq_true h)]; exact k
theorem r_dF (h : ¬ P) (k : B) : if decide P = true then A else B := by rw [if_neg (by rw [decide_eq_false h]; exact Bool.false_ne_true)]; exact k
theorem r_dN (h : P) (k : B) : if (!decide P) = true then A else B := by rw [decide_eq_true h]; exact k
theorem r_dM (h : ¬ P) (k : A) : if (!decide P) = true then A else B := by rw [decide_eq_false h]; exact k
theorem r_nT (k : B) : if (!true) = true then A else B := k
theorem r_nF (k : A) : if (!false) = true then A else B := k
end
end Wm
namespace Wm
open PySem PySem.Spec PyProof.Rows L2 StX
/-- C(e, .., k = v, ..) -/
def tMakKw (C : Addr) (n m : Nat) (sp : Sp) (E : XK) (t tk : TA) : TE := tMakeK C n m sp (fun us ws => us ++ ws) E t tk
def rMakKw (C : Addr) (n m : Nat) (sp : Sp) (E : XK) (vs zs : List V) (H2 : Hp) (Q : VK) : Prop := vs.length = n ∧ zs.length = m ∧ ∀ x dx, H2 x = none → H2 dx = none → dx ≠ x →
  sp ((.ref x :: vs) ++ zs) (upd (upd H2 dx (.own x)) x (.ins C dx [])) (fun v H3 => v = .non ∧ Q (.ref x) H3) E
theorem r_makKw {C : Addr} {n m : Nat} {sp : Sp} {E : XK} {t tk : TA} {σ : L2.St} {H : Hp} {Q : VK} (k : t σ H fun vs H1 => tk σ H1 fun zs H2 => rMakKw C n m sp E vs zs H2 Q) : tMakKw C n m sp E t tk σ H Q := k
theorem makeKw_m {C : Addr} {n m : Nat} {sp : Sp} {E : XK} {vs zs : List V} {H : Hp} {Q : VK} {G : Hp} {mu : Mu} (hh : Hold G mu H) (h1 : vs.length = n) (h2 : zs.length = m) (k : ∀ x dx H', Hold G ((x, .ins C dx []) :: mu) H' → sp ((.ref x :: vs) ++ zs) H' (fun v H2 => v = .non ∧ Q (.ref x) H2) E) : rMakKw C n m sp E vs zs H Q :=
  ⟨h1, h2, make_m (sp := fun vs' H' Q' E' => sp (vs' ++ zs) H' Q' E') hh k⟩
theorem lst_m2 {G : Hp} {mu : Mu} {H : Hp} {x y : Addr × HO} {xs : List V} {Q : VK} (hP : xs.length ≤ sizeLine) (hh : Hold G (x :: y :: mu) H) (k : ∀ p H', Hold G (x :: y :: (p, .lst xs) :: mu) H' → Q (.ref p) H') : rLst xs H Q := ⟨hP, fun p hp => k p _ (hh.newm2 hp)⟩
section
variable {K : PySem.W.Frag} {G : Hp} {mu : Mu} {H : Hp} {p : Addr} {ys : List V} {Q : VK}
theorem listOf_G (hh : Hold G mu H) (h : SqL K H p ys ∨ SqT K H p ys) (k : ∀ l G' H', Ex G G' → G' l = some (.lst ys) → Hold G' mu H' → Q (.ref l) H') : rListOf K [.ref p] H Q :=
  ⟨p, ys, rfl, h, fun l hl => k l _ _ (Ex.new (hh.g_none hl)) upd_same (hh.new hl)⟩
theorem listOf_m (hh : Hold G mu H) (h : SqL K H p ys ∨ SqT K H p ys) (k : ∀ l H', Hold G ((l, .lst ys) :: mu) H' → Q (.ref l) H') : rListOf K [.ref p] H Q :=
  ⟨p, ys, rfl, h, fun l hl => k l _ (hh.newm hl)⟩
theorem rep_G {i : Int} (hh : Hold G mu H) (h : H p = some (.lst ys)) (h1 : -(2 ^ 63) ≤ i) (h2 : i < 2 ^ 63) (hz : ys.length * i.toNat ≤ sizeLine) (k : ∀ l G' H', Ex G G' → G' l = some (.lst (List.replicate i.toNat ys).flatten) → Hold G' mu H' → Q (.ref l) H') : rRep (.ref p) (.int i) H Q :=
  ⟨p, i, ys, rfl, rfl, h, h1, h2, hz, fun l hl => k l _ _ (Ex.new (hh.g_none hl)) upd_same (hh.new hl)⟩
end
end Wm
end

section
local macro_rules | `(tactic| walk_at "cls") => `(tactic| first | (with_reducible exact Wm.WeatherC.cl (by assumption)) | (with_reducible exact Wm.HeaterC.cl (by assumption)) | (with_reducible exact Wm.RoomC.cl (by assumption)) | (with_reducible exact Wm.RunC.cl (by assumption)) | (with_reducible exact Wm.HistoryC.cl (by assumption)) | (with_reducible exact Wm.ThresholdObserverC.cl (by assumption)) | (with_reducible exact Wm.SettingC.cl (by assumption)) | (with_reducible exact Wm.HourSettingC.cl (by assumption)) | (with_reducible exact Wm.RestSettingC.cl (by assumption)) | (with_reducible exact Wm.PricesC.cl (by assumption)) | (with_reducible exact Wm.MomentC.cl (by assumption)) | (with_reducible exact Wm.LiveRoomC.cl (by assumption)) | (with_reducible exact Wm.AttemptC.cl (by assumption)))
local macro_rules | `(tactic| walk_at "noattr") => `(tactic| first | (with_reducible exact Wm.WeatherC.n_pattern (by assumption)) | (with_reducible exact Wm.HeaterC.n_power (by assumption)) | (with_reducible exact Wm.HeaterC.n_below (by assumption)) | (with_reducible exact Wm.HeaterC.n_above (by assumption)) | (with_reducible exact Wm.RoomC.n_outside (by assumption)) | (with_reducible exact Wm.RoomC.n_inside (by assumption)) | (with_reducible exact Wm.RoomC.n_begin_degrees (by assumption)) | (with_reducible exact Wm.RoomC.n_past (by assumption)) | (with_reducible exact Wm.RoomC.n_repeated (by assumption)) | (with_reducible exact Wm.RoomC.n_share (by assumption)) | (with_reducible exact Wm.RoomC.n_coldest (by assumption)) | (with_reducible exact Wm.RoomC.n_warmest (by assumption)) | (with_reducible exact Wm.RunC.n_begin (by assumption)) | (with_reducible exact Wm.RunC.n_end (by assumption)) | (with_reducible exact Wm.RunC.n_degrees (by assumption)) | (with_reducible exact Wm.RunC.n_is_heating (by assumption)) | (with_reducible exact Wm.RunC.n_sums (by assumption)) | (with_reducible exact Wm.RunC.n_size (by assumption)) | (with_reducible exact Wm.RunC.n_drift (by assumption)) | (with_reducible exact Wm.HistoryC.n_shifts (by assumption)) | (with_reducible exact Wm.HistoryC.n_added (by assumption)) | (with_reducible exact Wm.HistoryC.n_floor (by assumption)) | (with_reducible exact Wm.HistoryC.n_ceiling (by assumption)) | (with_reducible exact Wm.HistoryC.n_was_heating (by assumption)) | (with_reducible exact Wm.HistoryC.n_runs (by assumption)) | (with_reducible exact Wm.HistoryC.n_loop (by assumption)) | (with_reducible exact Wm.ThresholdObserverC.n_outside (by assumption)) | (with_reducible exact Wm.ThresholdObserverC.n_power (by assumption)) | (with_reducible exact Wm.ThresholdObserverC.n_tick (by assumption)) | (with_reducible exact Wm.ThresholdObserverC.n_degrees (by assumption)) | (with_reducible exact Wm.ThresholdObserverC.n_is_heating (by assumption)) | (with_reducible exact Wm.ThresholdObserverC.n_lows (by assumption)) | (with_reducible exact Wm.ThresholdObserverC.n_highs (by assumption)) | (with_reducible exact Wm.ThresholdObserverC.n_noted (by assumption)) | (with_reducible exact Wm.SettingC.n_least (by assumption)) | (with_reducible exact Wm.SettingC.n_most (by assumption)) | (with_reducible exact Wm.HourSettingC.n_least (by assumption)) | (with_reducible exact Wm.HourSettingC.n_most (by assumption)) | (with_reducible exact Wm.HourSettingC.n_length (by assumption)) | (with_reducible exact Wm.HourSettingC.n_hours (by assumption)) | (with_reducible exact Wm.RestSettingC.n_least (by assumption)) | (with_reducible exact Wm.RestSettingC.n_most (by assumption)) | (with_reducible exact Wm.RestSettingC.n_rest (by assumption)) | (with_reducible exact Wm.PricesC.n_table (by assumption)) | (with_reducible exact Wm.MomentC.n_tick (by assumption)) | (with_reducible exact Wm.MomentC.n_heat (by assumption)) | (with_reducible exact Wm.MomentC.n_on (by assumption)) | (with_reducible exact Wm.MomentC.n_burnt (by assumption)) | (with_reducible exact Wm.MomentC.n_sky (by assumption)) | (with_reducible exact Wm.MomentC.n_stove (by assumption)) | (with_reducible exact Wm.LiveRoomC.n_moment (by assumption)) | (with_reducible exact Wm.LiveRoomC.n_earlier (by assumption)) | (with_reducible exact Wm.LiveRoomC.n_done (by assumption)) | (with_reducible exact Wm.AttemptC.n_live (by assumption)) | (with_reducible exact Wm.AttemptC.n_kept (by assumption)) | (with_reducible exact Wm.AttemptC.n_stack (by assumption)) | (with_reducible exact Wm.AttemptC.n_steps (by assumption)))
local macro_rules | `(tactic| walk_at "at") => `(tactic| first | assumption | exact Wm.Hold.rd (by assumption) (by assumption) | exact Wm.Hold.get (i := 0) (by assumption) rfl | exact Wm.Hold.get (i := 1) (by assumption) rfl | exact Wm.Hold.get (i := 2) (by assumption) rfl | exact Wm.Hold.get (i := 3) (by assumption) rfl | exact Wm.Hold.get (i := 4) (by assumption) rfl)
local macro_rules | `(tactic| walk_at "s1") => `(tactic| first
  | (with_reducible refine Wm.r_seq ?_)
  | (with_reducible refine Wm.r_op ?_)
  | ((with_reducible refine' Wm.r_var ?h ?_); (case h => rfl))
  | (with_reducible refine Wm.r_c ?_)
  | (with_reducible refine Wm.r_I0 ?_)
  | (with_reducible refine Wm.r_cons ?_)
  | (with_reducible refine Wm.r_nil ?_)
  | (with_reducible refine Wm.r_asg ?_)
  | (with_reducible refine Wm.r_gname ?_; try simp only [List.set_cons_zero, List.set_cons_succ])
  | (with_reducible refine Wm.r_nx ?_)
  | (with_reducible refine Wm.r_rt ?_)
  | (with_reducible refine Wm.r_ret ?_)
  | (with_reducible refine Wm.r_test ?_)
  | (with_reducible refine Wm.r_bl ?_)
  | (with_reducible refine Wm.r_B ?_)
  | (with_reducible refine Wm.r_eqI ?_)
  | (with_reducible refine Wm.r_neI ?_)
  | (with_reducible refine Wm.r_eqB ?_)
  | (with_reducible refine Wm.r_neB ?_)
  | (with_reducible refine Wm.r_fld ?_)
  | (with_reducible refine Wm.r_call ?_)
  | (with_reducible refine Wm.r_mtd ?_)
  | (with_reducible refine Wm.r_prp ?_)
  | (with_reducible refine Wm.r_mak ?_)
  | (with_reducible refine Wm.r_cb ?_)
  | (with_reducible refine Wm.r_tup ?_)
  | (with_reducible refine Wm.r_lst ?_)
  | (with_reducible refine Wm.r_chain ?_)
  | (with_reducible refine Wm.r_and ?_)
  | (with_reducible refine Wm.r_or ?_)
  | (with_reducible refine Wm.r_not ?_)
  | (with_reducible refine Wm.r_andV ?_)
  | (with_reducible refine Wm.r_orV ?_)
  | (with_reducible refine Wm.r_notV ?_)
  | (with_reducible refine Wm.r_if ?_)
  | (with_reducible refine Wm.r_un ?_)
  | (with_reducible refine Wm.r_U ?_)
  | (with_reducible refine Wm.r_iteT ?_)
  | (with_reducible refine Wm.r_iteF ?_)
  | (with_reducible refine Wm.r_next ?_)
  | (with_reducible refine Wm.r_drop ?_)
  | (with_reducible refine Wm.r_retN ?_)
  | ((with_reducible refine' Wm.r_aug ?h ?_); (case h => rfl))
  | (with_reducible refine Wm.r_ipI ?_)
  | (with_reducible refine Wm.r_par2 ?_)
  | (with_reducible refine Wm.r_two ?_; try simp only [List.set_cons_zero, List.set_cons_succ])
  | (with_reducible refine Wm.r_yes ?_)
  | (with_reducible refine Wm.r_forET ?_)
  | (with_reducible refine Wm.r_chain3 ?_)
  | (with_reducible refine Wm.r_nT ?_)
  | (with_reducible refine Wm.r_nF ?_)
  | (with_reducible refine Wm.r_par3 ?_)
  | (with_reducible refine Wm.r_seenPut ?_)
  | (with_reducible refine Wm.r_seenGet ?_)
  | (with_reducible refine Wm.r_three ?_; try simp only [List.set_cons_zero, List.set_cons_succ])
  | (with_reducible refine Wm.r_sl ?_)
  | (with_reducible refine Wm.r_nopart ?_)
  | (with_reducible refine Wm.r_part ?_)
  | (with_reducible refine Wm.r_xi ?_)
  | (with_reducible refine Wm.r_gcons ?_)
  | (with_reducible refine Wm.r_gnil ?_)
  | (with_reducible refine Wm.r_sub ?_)
  | (with_reducible refine Wm.r_setF ?_)
  | (with_reducible refine Wm.r_app ?_)
  | (with_reducible refine Wm.int_i ?_)
  | (with_reducible refine Wm.int_b ?_)
  | (with_reducible refine Wm.min2 ?_)
  | (with_reducible refine Wm.max2 ?_)
  | (with_reducible refine Wm.abs1 ?_)
  | (with_reducible refine Wm.isN ?_)
  | (with_reducible refine Wm.notN ?_)
  | ((with_reducible refine' Wm.r_ty ?e ?_); (case e => walk_at "at"))
  | ((with_reducible refine' Wm.setF_m ?h 0 ?e ?c ?a ?l ?_); (case h => assumption); (case e => rfl); (case c => walk_at "cls"); (case a => walk_at "noattr"); (case l => exact of_decide_eq_true rfl); intro H1 hh1; simp only [List.set_cons_zero, List.set_cons_succ] at hh1)
  | ((with_reducible refine' Wm.setF_m ?h 1 ?e ?c ?a ?l ?_); (case h => assumption); (case e => rfl); (case c => walk_at "cls"); (case a => walk_at "noattr"); (case l => exact of_decide_eq_true rfl); intro H1 hh1; simp only [List.set_cons_zero, List.set_cons_succ] at hh1)
  | ((with_reducible refine' Wm.setF_m ?h 2 ?e ?c ?a ?l ?_); (case h => assumption); (case e => rfl); (case c => walk_at "cls"); (case a => walk_at "noattr"); (case l => exact of_decide_eq_true rfl); intro H1 hh1; simp only [List.set_cons_zero, List.set_cons_succ] at hh1)
  | ((with_reducible refine' Wm.setF_m ?h 3 ?e ?c ?a ?l ?_); (case h => assumption); (case e => rfl); (case c => walk_at "cls"); (case a => walk_at "noattr"); (case l => exact of_decide_eq_true rfl); intro H1 hh1; simp only [List.set_cons_zero, List.set_cons_succ] at hh1)
  | (with_reducible refine Wm.r_forL ?_)
  | (with_reducible refine Wm.r_forT ?_)
  | (with_reducible refine Wm.r_forR1 ?_)
  | (with_reducible refine Wm.r_forR2 ?_)
  | (with_reducible refine Wm.r_lcL ?_)
  | (with_reducible refine Wm.r_lcT ?_)
  | (with_reducible refine Wm.r_lcR1 ?_)
  | (with_reducible refine Wm.r_lcR2 ?_)
  | ((with_reducible refine' Wm.fld_h ?e ?c ?n ?l ?_); (case e => walk_at "at"); (case c => walk_at "cls"); (case n => walk_at "noattr"); (case l => rfl))
  | ((with_reducible refine' Wm.mtd_h ?e ?l ?_); (case e => walk_at "at"); (case l => rfl))
  | ((with_reducible refine' Wm.prp_h ?e ?_); (case e => walk_at "at"))
  | ((with_reducible refine' Wm.rix_ht ?a ?b ?_); (case a => walk_at "at"); (case b => rfl))
  | ((with_reducible refine' Wm.rix_h ?a ?b ?_); (case a => walk_at "at"); (case b => rfl))
  | ((with_reducible refine' Wm.len_ht ?a ?_); (case a => walk_at "at"))
  | ((with_reducible refine' Wm.len_h ?a ?_); (case a => walk_at "at"))
  | ((with_reducible refine' Wm.len_l ?a ?b ?_); (case a => assumption); (case b => assumption))
  | ((with_reducible refine' Wm.len_t ?a ?b ?_); (case a => assumption); (case b => assumption))
  | ((with_reducible refine' Wm.gtup_h ?a ?b ?_); (case a => walk_at "at"); (case b => rfl))
  | (with_reducible refine Wm.r_I (Wm.cmulR (by decide)) ?_)
  | (with_reducible refine Wm.r_I (Wm.cmulL (by decide)) ?_)
  | (with_reducible refine Wm.r_I (Wm.cdiv (by decide) (by decide)) ?_)
  | (with_reducible refine Wm.r_I Wm.cpow18 ?_)
  | (with_reducible refine Wm.r_I Wm.cpow12 ?_)
  | (with_reducible refine Wm.r_I (by show (0 : Int) < _; decide) ?_))
local macro_rules | `(tactic| walk_at "s") => `(tactic| repeat (first | walk_at "s1" | (with_reducible refine Wm.r_ifS ?_)))
local macro_rules | `(tactic| walk_at "t") => `(tactic| repeat (walk_at "s1"))
local macro_rules | `(tactic| walk_at "sz") => `(tactic| exact of_decide_eq_true rfl)
local macro_rules | `(tactic| walk_at "d") => `(tactic| first | (refine Wm.r_dT (by omega) ?_) | (refine Wm.r_dF (by omega) ?_) | (refine Wm.r_dN (by omega) ?_) | (refine Wm.r_dM (by omega) ?_))
local macro_rules | `(tactic| walk_at "sd") => `(tactic| repeat (first | walk_at "s1" | (with_reducible refine Wm.r_ifS ?_) | walk_at "d"))
namespace Wm
open PySem PySem.Spec PyProof.Rows L2 StX
/-! ## Weather, heaters and what rooms keep -/
def WOk (ch : List Int) : Prop := 0 < ch.length ∧ ch.length ≤ 24 ∧ ∀ x ∈ ch, -100 ≤ x ∧ x ≤ 100
def IsWeather (K : PySem.W.Frag) (A : Ads) (H : Hp) (p t : Addr) (ch : List Int) : Prop := WeatherC K A.cWeather ∧ WOk ch ∧ ∃ dx, H p = some (.ins A.cWeather dx [("pattern", .ref t)]) ∧ H t = some (.tup (ch.map V.int))
theorem IsWeather.up {K : PySem.W.Frag} {A : Ads} {G H : Hp} {p t : Addr} {ch : List Int} (e : Ex G H) (h : IsWeather K A G p t ch) : IsWeather K A H p t ch := by
  obtain ⟨a, b, dx, h1, h2⟩ := h
  exact ⟨a, b, dx, e _ _ h1, e _ _ h2⟩
def HtOk (g lo hi : Int) : Prop := 1 ≤ g ∧ g ≤ 200 ∧ -(10 ^ 12) ≤ lo ∧ lo ≤ hi ∧ hi ≤ 10 ^ 12
def IsHeater (K : PySem.W.Frag) (A : Ads) (H : Hp) (p : Addr) (g lo hi : Int) : Prop := HeaterC K A.cHeater ∧ HtOk g lo hi ∧ ∃ dx, H p = some (.ins A.cHeater dx [("power", .int g), ("below", .int lo), ("above", .int hi)])
theorem IsHeater.up {K : PySem.W.Frag} {A : Ads} {G H : Hp} {p : Addr} {g lo hi : Int} (e : Ex G H) (h : IsHeater K A G p g lo hi) : IsHeater K A H p g lo hi := by
  obtain ⟨a, b, dx, h1⟩ := h
  exact ⟨a, b, dx, e _ _ h1⟩
def sp_validate_number (K : PySem.W.Frag) (A : Ads) : Sp := fun vs H Q _ => ∃ n lo hi : Int, vs = [.int n, .int lo, .int hi] ∧ lo ≤ n ∧ n ≤ hi ∧ Q .non H
def sp_common_divisor (K : PySem.W.Frag) (A : Ads) : Sp := fun vs H Q _ => ∃ a b : Nat, vs = [.int (a : Int), .int (b : Int)] ∧ Q (.int (Nat.gcd a b : Nat)) H
def sp_Weather_body (K : PySem.W.Frag) (A : Ads) : Sp := fun vs H Q _ => ∃ (p dx t : Addr) (ch : List Int) (G : Hp) (mu : Mu), vs = [.ref p, .ref t] ∧ WeatherC K A.cWeather ∧ WOk ch ∧ Hold G ((p, .ins A.cWeather dx []) :: mu) H ∧ G t = some (.tup (ch.map V.int)) ∧
  ∀ G' H', Ex G G' → IsWeather K A G' p t ch → Hold G' mu H' → Q .non H'
def sp_Weather_init (K : PySem.W.Frag) (A : Ads) : Sp := fun vs H Q E => ∃ ws rest, vs = ws ++ rest ∧ ws.length = ["self"].length ∧ rest.length ≤ sizeLine ∧ ∀ p, H p = Option.none → sp_Weather_body K A (ws ++ [V.ref p]) (upd H p (.tup rest)) Q E
def sp_Weather_changes (K : PySem.W.Frag) (A : Ads) : Sp := fun vs H Q _ => ∃ (p t : Addr) (ch : List Int), vs = [.ref p] ∧ IsWeather K A H p t ch ∧ Q (.ref t) H
def sp_Heater_init (K : PySem.W.Frag) (A : Ads) : Sp := fun vs H Q _ => ∃ (p dx : Addr) (g lo hi : Int) (G : Hp) (mu : Mu), vs = [.ref p, .int g, .int lo, .int hi] ∧ HeaterC K A.cHeater ∧ HtOk g lo hi ∧ Hold G ((p, .ins A.cHeater dx []) :: mu) H ∧
  ∀ G' H', Ex G G' → IsHeater K A G' p g lo hi → Hold G' mu H' → Q .non H'
def sp_Heater_gain (K : PySem.W.Frag) (A : Ads) : Sp := fun vs H Q _ => ∃ (p : Addr) (g lo hi : Int), vs = [.ref p] ∧ IsHeater K A H p g lo hi ∧ Q (.int g) H
def sp_Heater_low (K : PySem.W.Frag) (A : Ads) : Sp := fun vs H Q _ => ∃ (p : Addr) (g lo hi : Int), vs = [.ref p] ∧ IsHeater K A H p g lo hi ∧ Q (.int lo) H
def sp_Heater_high (K : PySem.W.Frag) (A : Ads) : Sp := fun vs H Q _ => ∃ (p : Addr) (g lo hi : Int), vs = [.ref p] ∧ IsHeater K A H p g lo hi ∧ Q (.int hi) H
def t_validate_number (K : PySem.W.Frag) (A : Ads) : TS := tIfS (tNot (tTest (tChain (rI0 fun i j => .bl (decide (i ≤ j))) (rI0 fun i j => .bl (decide (i ≤ j))) (tVar 1) (tVar 0) (tVar 2)))) (tNever) (tNext)
def t_common_divisor (K : PySem.W.Frag) (A : Ads) : TS := tSeq (tWhile (tTest (tOp rNe (tVar 1) (tC (.int 0)))) (tPar 0 1 (tCons (tVar 1) (tCons (tOp (rI (fun _ j => 0 < j) fun i j => .int (i % j)) (tCB rInt (tCons (tVar 0) (tNil))) (tCB rInt (tCons (tVar 1) (tNil)))) (tNil))))) (tRet (tVar 0))
def t_Weather_init (K : PySem.W.Frag) (A : Ads) : TS := tSeq (tIfS (tTest (tOp (rEqD K) (tVar 1) (tTup (tNil)))) (tNever) (tNext)) (tSeq (tFor (iEnumT K (tCons (tVar 1) (tNil))) (gTup K 2 (gCons (gName 2) (gCons (gName 3) (gNil)))) (tIfS (tOr (tTest (tOp rEq (tVar 2) (tC (.int 24)))) (tNot (tTest (tChain (rI0 fun i j => .bl (decide (i ≤ j))) (rI0 fun i j => .bl (decide (i ≤ j))) (tOp (rI0 fun i j => .int (i - j)) (tC (.int 0)) (tC (.int 100))) (tVar 3) (tC (.int 100)))))) (tNever) (tNext))) (sFld K (tVar 0) (tVar 1) "pattern"))
def t_Weather_changes (K : PySem.W.Frag) (A : Ads) : TS := tRet (tFld K (tVar 0) "pattern")
def t_Heater_init (K : PySem.W.Frag) (A : Ads) : TS := tSeq (tIfS (tOr (tNot (tTest (tChain (rI0 fun i j => .bl (decide (i ≤ j))) (rI0 fun i j => .bl (decide (i ≤ j))) (tC (.int 1)) (tVar 1) (tC (.int 200))))) (tNot (tTest (tChain3 (rI0 fun i j => .bl (decide (i ≤ j))) (rI0 fun i j => .bl (decide (i ≤ j))) (rI0 fun i j => .bl (decide (i ≤ j))) (tOp (rI0 fun i j => .int (i - j)) (tC (.int 0)) (tC (.int 1000000000000))) (tVar 2) (tVar 3) (tC (.int 1000000000000)))))) (tNever) (tNext)) (tSeq (sFld K (tVar 0) (tVar 1) "power") (tSeq (sFld K (tVar 0) (tVar 2) "below") (sFld K (tVar 0) (tVar 3) "above")))
def t_Heater_gain (K : PySem.W.Frag) (A : Ads) : TS := tRet (tFld K (tVar 0) "power")
def t_Heater_low (K : PySem.W.Frag) (A : Ads) : TS := tRet (tFld K (tVar 0) "below")
def t_Heater_high (K : PySem.W.Frag) (A : Ads) : TS := tRet (tFld K (tVar 0) "above")
section
variable {K : PySem.W.Frag} {A : Ads}
theorem pure_validate_number (vs : List V) (H : Hp) (Q : VK) (E : XK) (h : sp_validate_number K A vs H Q E) : t_validate_number K A { nx := fun _ H' => Q .non H', rt := Q } (start ["number", "smallest", "largest"] vs) H := by
  obtain ⟨n, lo, hi, rfl, h1, h2, k⟩ := h
  show t_validate_number K A _ [some (.int n), some (.int lo), some (.int hi)] H
  unfold t_validate_number
  walk_at "sd"
  exact k
theorem pure_common_divisor (vs : List V) (H : Hp) (Q : VK) (E : XK) (h : sp_common_divisor K A vs H Q E) : t_common_divisor K A { nx := fun _ H' => Q .non H', rt := Q } (start ["one", "other"] vs) H := by
  obtain ⟨a, b, rfl, k⟩ := h
  show t_common_divisor K A _ [some (.int a), some (.int b)] H
  unfold t_common_divisor
  refine r_seq (whileA (fun m σ H' => H' = H ∧ ∃ x y : Nat, σ = [some (.int (x : Int)), some (.int (y : Int))] ∧ m = y ∧ Nat.gcd x y = Nat.gcd a b) b ⟨rfl, a, b, rfl, rfl, rfl⟩ ?_)
  rintro m σ H' ⟨rfl, x, y, rfl, rfl, e⟩
  refine ⟨!decide ((m : Int) = 0), fun Q q => by walk_at "s"; exact q, fun c => ?_, fun c => ?_⟩
  · have c : m ≠ 0 := fun z => by subst z; simp at c
    walk_at "s"
    refine r_I (show (0 : Int) < (m : Int) by omega) ?_
    walk_at "s"
    refine ⟨x % m, Nat.mod_lt _ (by omega), by trivial, m, x % m, rfl, rfl, ?_⟩
    rw [← e, Nat.gcd_comm x m, Nat.gcd_rec m x, Nat.gcd_comm]
  · have c : m = 0 := by
      have : ((m : Int) = 0) := by simpa using c
      omega
    subst c
    rw [Nat.gcd_zero_right] at e
    subst e
    walk_at "s"
    exact k
theorem pure_Weather_changes (vs : List V) (H : Hp) (Q : VK) (E : XK) (h : sp_Weather_changes K A vs H Q E) : t_Weather_changes K A { nx := fun _ H' => Q .non H', rt := Q } (start ["self"] vs) H := by
  obtain ⟨p, t, ch, rfl, ⟨TW, wo, dx, h1, h2⟩, k⟩ := h
  show t_Weather_changes K A _ [some (.ref p)] H
  unfold t_Weather_changes
  walk_at "s"
  exact k
theorem pure_Heater_gain (vs : List V) (H : Hp) (Q : VK) (E : XK) (h : sp_Heater_gain K A vs H Q E) : t_Heater_gain K A { nx := fun _ H' => Q .non H', rt := Q } (start ["self"] vs) H := by
  obtain ⟨p, g, lo, hi, rfl, ⟨TW, wo, dx, h1⟩, k⟩ := h
  show t_Heater_gain K A _ [some (.ref p)] H
  unfold t_Heater_gain
  walk_at "s"
  exact k
theorem pure_Heater_low (vs : List V) (H : Hp) (Q : VK) (E : XK) (h : sp_Heater_low K A vs H Q E) : t_Heater_low K A { nx := fun _ H' => Q .non H', rt := Q } (start ["self"] vs) H := by
  obtain ⟨p, g, lo, hi, rfl, ⟨TW, wo, dx, h1⟩, k⟩ := h
  show t_Heater_low K A _ [some (.ref p)] H
  unfold t_Heater_low
  walk_at "s"
  exact k
theorem pure_Heater_high (vs : List V) (H : Hp) (Q : VK) (E : XK) (h : sp_Heater_high K A vs H Q E) : t_Heater_high K A { nx := fun _ H' => Q .non H', rt := Q } (start ["self"] vs) H := by
  obtain ⟨p, g, lo, hi, rfl, ⟨TW, wo, dx, h1⟩, k⟩ := h
  show t_Heater_high K A _ [some (.ref p)] H
  unfold t_Heater_high
  walk_at "s"
  exact k
theorem pure_Heater_init (vs : List V) (H : Hp) (Q : VK) (E : XK) (h : sp_Heater_init K A vs H Q E) : t_Heater_init K A { nx := fun _ H' => Q .non H', rt := Q } (start ["self", "gain", "low", "high"] vs) H := by
  obtain ⟨p, dx, g, lo, hi, G, mu, rfl, TH, ok, hh, k⟩ := h
  obtain ⟨o1, o2, o3, o4, o5⟩ := id ok
  show t_Heater_init K A _ [some (.ref p), some (.int g), some (.int lo), some (.int hi)] H
  unfold t_Heater_init
  walk_at "sd"
  rename_i H1 hh1 H2 hh2 H3 hh3
  exact k _ _ hh3.frz_ex ⟨TH, ok, dx, upd_same⟩ hh3.frz
theorem pure_Weather_init (vs : List V) (H : Hp) (Q : VK) (E : XK) (h : sp_Weather_body K A vs H Q E) : t_Weather_init K A { nx := fun _ H' => Q .non H', rt := Q } (start ["self", "changes", "index", "change"] vs) H := by
  obtain ⟨p, dx, t, ch, G, mu, rfl, TW, ok, hh, ht, k⟩ := h
  obtain ⟨o1, o2, o3⟩ := id ok
  show t_Weather_init K A _ [some (.ref p), some (.ref t), none, none] H
  unfold t_Weather_init
  walk_at "s"
  refine tup_G (by walk_at "sz") hh fun q G1 H1 ex1 hq hh1 => ?_
  refine eqT (xs := ch) (ys := []) (SqT.of_ (hh1.rd (ex1 _ _ ht))) (SqT.of_ (hh1.rd hq)) ?_
  walk_at "s"
  refine r_dF (fun z => by rw [z] at o1; exact absurd o1 (Nat.lt_irrefl 0)) ?_
  walk_at "s"
  refine forET_by (SqT.of_ (hh1.rd (ex1 _ _ ht))) (fun i σ H' => ∃ (v1 v2 : Option V), σ = [some (.ref p), some (.ref t), v1, v2] ∧ Hold G1 ((p, .ins A.cWeather dx []) :: mu) H') ⟨none, none, rfl, hh1⟩
    (fun i σ H' _ ⟨_, _, _, hh⟩ => ⟨Ex.refl H', SqT.of_ (hh.rd (ex1 _ _ ht))⟩) ?_ ?_
  · rintro i x σ H2 T hx ⟨v1, v2, rfl, hh2⟩ hT
    obtain ⟨z, hz, rfl⟩ := ints_of hx
    have hb := o3 z (List.mem_of_getElem? hz)
    have hi := (List.getElem?_eq_some_iff.mp hz).1
    refine gtup_h upd_same rfl ?_
    walk_at "sd"
    exact ⟨_, _, rfl, hh2.newg hT⟩
  · rintro σ H2 ⟨v1, v2, rfl, hh2⟩
    walk_at "s"
    rename_i H3 hh3
    exact k _ _ (ex1.trans hh3.frz_ex) ⟨TW, ok, dx, upd_same, hh3.frz_ex _ _ (ex1 _ _ ht)⟩ hh3.frz
end
end Wm
end

section
/-! ## What a room keeps of its history -/
namespace Wm
open PySem
def lenR (r : RunD) : Int := match r.fin with | some e => e - r.beg | none => 0
def lenAt (rs : List RunD) (i : Int) : Int := match rs[i.toNat]? with | some r => lenR r | none => 0
def repO (rs : List RunD) (loop : Option Int) : Option (Int × Int) :=
  match loop with
  | none => match rs[rs.length - 1]? with
    | some l => if l.steps.sum = 0 then some (l.beg, (l.steps.length : Int)) else none
    | none => none
  | some j => some (begAt rs j - (if 0 < j then min (lenAt rs (j - 1)) (lenAt rs ((rs.length : Int) - 1)) else 0), circ rs j)
def heatSum (rs : List RunD) : Int := ((rs.filter (·.on)).map lenR).sum
def share (rs : List RunD) (loop : Option Int) : Int × Int :=
  match loop with
  | none => match rs[rs.length - 1]? with
    | some l => if l.on = true then (1, 1) else (0, 1)
    | none => (0, 1)
  | some j => ((heatSum (rs.drop j.toNat)) / (Nat.gcd (heatSum (rs.drop j.toNat)).toNat (circ rs j).toNat : Nat), circ rs j / (Nat.gcd (heatSum (rs.drop j.toNat)).toNat (circ rs j).toNat : Nat))
/-- the greatest temperature times a sign, and the first tick of it -/
def Ext (P : Par) (rs : List RunD) (loop : Option Int) (sign : Int) : Option (Int × Int) → Prop
  | none => loop = none ∧ ∃ l, rs[rs.length - 1]? = some l ∧ 0 < l.steps.sum * sign
  | some (d, t) => 0 ≤ t ∧ t ≤ 9604 * 10 ^ 14 ∧ dAt P t = d ∧ ∀ u, 0 ≤ u → dAt P u * sign ≤ d * sign ∧ (dAt P u = d → t ≤ u)
/-- of one run -/
def XTO (r : RunD) (sign : Int) : Option (Int × Int) → Prop
  | none => r.fin = none ∧ 0 < r.steps.sum * sign
  | some (d, t) => XT r r.fin sign r.steps.length d t ∧ (r.fin = none → ¬ 0 < r.steps.sum * sign) ∧ (r.fin = none → t ≤ r.beg + r.steps.length)
/-- of the runs up to number i -/
structure ExtI (P : Par) (rs : List RunD) (sign : Int) (i : Nat) (d t : Int) : Prop where
  t0 : 0 ≤ t
  big : t ≤ 9604 * 10 ^ 14
  d_ : dAt P t = d
  fin : ∀ r e, rs[i]? = some r → r.fin = some e → t ≤ e
  best : ∀ u, 0 ≤ u → (∀ r e, rs[i]? = some r → r.fin = some e → u ≤ e) → dAt P u * sign ≤ d * sign ∧ (dAt P u = d → t ≤ u)
theorem RunV.at_le {P : Par} {r : RunD} (v : RunV P r) {u : Int} (h : XIn r r.fin u) : dAt P u = r.at_ u := by
  by_cases he : r.fin = some u
  · exact (v.fin u he).2.1
  · refine (v.sim u h.1 fun e h2 => ?_).1
    have := h.2 e h2
    have : u ≠ e := fun z => he (by rw [h2, z])
    omega
theorem HistV.runOk {P : Par} {rs : List RunD} {loop : Option Int} (h : HistV P rs loop) {r : RunD} (hr : r ∈ rs) : RunOk r := by
  rw [(h.each r hr).shape]
  exact run_ok h.par _ _
theorem XTO.use {P : Par} {rs : List RunD} {loop : Option Int} (h : HistV P rs loop) {r : RunD} (hr : r ∈ rs) {sign d t : Int} (x : XTO r sign (some (d, t))) :
    XIn r r.fin t ∧ dAt P t = d ∧ t ≤ 9604 * 10 ^ 14 ∧ ∀ u, XIn r r.fin u → dAt P u * sign ≤ d * sign ∧ (dAt P u = d → t ≤ u) := by
  have v := h.each r hr
  have ok := h.runOk hr
  obtain ⟨xt, _, hb⟩ := x
  have hd := v.at_le xt.inn
  refine ⟨xt.inn, hd.trans xt.at_, ?_, fun u hu => ?_⟩
  · obtain ⟨s1, s2⟩ := h.small r hr
    cases hf : r.fin with
    | none =>
      have := hb hf
      have := ok.len
      omega
    | some e =>
      have := s2 e hf
      have := xt.inn.2 e hf
      omega
  · rw [v.at_le hu]
    obtain ⟨_, u0, u1⟩ := pk_of r ok u
    exact xt.best u hu (by omega)
theorem ExtI.start {P : Par} {rs : List RunD} {loop : Option Int} (h : HistV P rs loop) {r : RunD} {sign d t : Int} (hr : rs[0]? = some r) (x : XTO r sign (some (d, t))) : ExtI P rs sign 0 d t := by
  obtain ⟨a, b, c, k⟩ := x.use h (List.mem_of_getElem? hr)
  obtain ⟨r0, h0, hb, _⟩ := h.first
  rw [hr] at h0
  cases h0
  have := a.1
  refine ⟨by omega, c, b, fun r' e h1 h2 => ?_, fun u hu hle => k u ⟨by omega, fun l hl => hle r l hr hl⟩⟩
  rw [hr] at h1
  cases h1
  exact a.2 e h2
theorem ExtI.step {P : Par} {rs : List RunD} {loop : Option Int} (h : HistV P rs loop) {i : Nat} {r : RunD} {sign d t d' t' : Int} (hs : sign = 1 ∨ sign = -1) (p : ExtI P rs sign i d t) (hr : rs[i + 1]? = some r) (x : XTO r sign (some (d', t'))) :
    (d * sign < d' * sign → ExtI P rs sign (i + 1) d' t') ∧ (¬ d * sign < d' * sign → ExtI P rs sign (i + 1) d t) := by
  obtain ⟨a, b, c, k⟩ := x.use h (List.mem_of_getElem? hr)
  have hl := (List.getElem?_eq_some_iff.mp hr).1
  obtain ⟨r0, h0⟩ := get_some (l := rs) (i := i) (by omega)
  have hf := (h.next i r0 r h0 hr).1
  have hb := (h.each r (List.mem_of_getElem? hr)).b0
  have tb := p.fin r0 r.beg h0 hf
  have a1 := a.1
  have only : ∀ {r' e}, rs[i + 1]? = some r' → r'.fin = some e → r.fin = some e := fun {r' e} h1 h2 => by
    rw [hr] at h1
    cases h1
    exact h2
  have lo : ∀ u, 0 ≤ u → u ≤ r.beg → dAt P u * sign ≤ d * sign ∧ (dAt P u = d → t ≤ u) := fun u h1 h2 => p.best u h1 fun r' e h3 h4 => by
    rw [h0] at h3
    cases h3
    rw [hf] at h4
    cases h4
    exact h2
  refine ⟨fun hlt => ⟨by omega, c, b, fun r' e h1 h2 => a.2 e (only h1 h2), fun u hu hle => ?_⟩, fun hlt => ⟨p.t0, p.big, p.d_, fun r' e h1 h2 => ?_, fun u hu hle => ?_⟩⟩
  · by_cases hub : u ≤ r.beg
    · have := (lo u hu hub).1
      refine ⟨by omega, fun z => ?_⟩
      rw [z] at this
      omega
    · exact k u ⟨by omega, fun l hl => hle r l hr hl⟩
  · have := (h.each r (List.mem_of_getElem? hr)).fin e (only h1 h2)
    omega
  · by_cases hub : u ≤ r.beg
    · exact lo u hu hub
    · have := (k u ⟨by omega, fun l hl => hle r l hr hl⟩).1
      exact ⟨by omega, fun _ => by omega⟩
theorem ExtI.done {P : Par} {rs : List RunD} {loop : Option Int} (h : HistV P rs loop) {sign d t : Int} (p : ExtI P rs sign (rs.length - 1) d t) : Ext P rs loop sign (some (d, t)) := by
  refine ⟨p.t0, p.big, p.d_, fun u hu => ?_⟩
  cases loop with
  | none =>
    obtain ⟨l, hl, hf⟩ := h.open_ rfl
    refine p.best u hu fun r e h1 h2 => ?_
    rw [hl] at h1
    cases h1
    rw [hf] at h2
    cases h2
  | some j =>
    obtain ⟨_, r, l, e, hj, hl, he, _⟩ := h.shut j rfl
    have w := h.wrap hu
    have wl : wrapP rs (some j) u < finLast rs := by
      rcases w.pl with z | z
      · cases z
      · exact z
    rw [finLast_of hl he] at wl
    have := p.best (wrapP rs (some j) u) w.p0 (fun r' e' h1 h2 => by
      rw [hl] at h1
      cases h1
      rw [he] at h2
      cases h2
      omega)
    rw [w.d] at this
    have := w.pt
    exact ⟨by omega, fun z => by have := this; omega⟩
theorem XT.small {r : RunD} (ok : RunOk r) {sign d t : Int} (hs : sign = 1 ∨ sign = -1) (hn : ¬ 0 < r.steps.sum * sign) (x : XT r none sign r.steps.length d t) : t ≤ r.beg + r.steps.length := by
  obtain ⟨e, p0, p1⟩ := pk_of r ok t
  have tb := x.inn.1
  generalize hp : (t - r.beg) % (r.steps.length : Int) = p at *
  have k0 : 0 ≤ (t - r.beg) / (r.steps.length : Int) := Int.ediv_nonneg (by omega) (by omega)
  generalize hk : (t - r.beg) / (r.steps.length : Int) = k at *
  have a1 := at_pk r ok (p := p) (k := k) p0 p1
  have a0 := at_pk r ok (p := p) (k := 0) p0 p1
  rw [← e, x.at_] at a1
  rw [Int.zero_mul, Int.zero_mul, Int.add_zero, Int.add_zero] at a0
  obtain ⟨_, u0, u1⟩ := pk_of r ok (r.beg + p)
  have b := x.best (r.beg + p) ⟨by omega, fun l hl => by cases hl⟩ (by omega)
  rw [a0] at b
  have ks : 0 ≤ k * -(r.steps.sum * sign) := Int.mul_nonneg k0 (by omega)
  rw [Int.mul_neg] at ks
  have e2 : k * (r.steps.sum * sign) = (k * r.steps.sum) * sign := (Int.mul_assoc _ _ _).symm
  have key : r.deg + psum r.steps p.toNat = d := by
    obtain ⟨b1, _⟩ := b
    rw [e2] at ks
    generalize k * r.steps.sum = z at *
    rcases hs with rfl | rfl
    · omega
    · omega
  have := b.2 key
  omega
theorem XTO.of {r : RunD} (ok : RunOk r) {sign d t : Int} (hs : sign = 1 ∨ sign = -1) (hn : r.fin = none → ¬ 0 < r.steps.sum * sign) (x : XT r r.fin sign r.steps.length d t) : XTO r sign (some (d, t)) :=
  ⟨x, hn, fun hf => by rw [hf] at x; exact x.small ok hs (hn hf)⟩
end Wm
end

section
local macro_rules | `(tactic| walk_at "cls") => `(tactic| first | (with_reducible exact Wm.WeatherC.cl (by assumption)) | (with_reducible exact Wm.HeaterC.cl (by assumption)) | (with_reducible exact Wm.RoomC.cl (by assumption)) | (with_reducible exact Wm.RunC.cl (by assumption)) | (with_reducible exact Wm.HistoryC.cl (by assumption)) | (with_reducible exact Wm.ThresholdObserverC.cl (by assumption)) | (with_reducible exact Wm.SettingC.cl (by assumption)) | (with_reducible exact Wm.HourSettingC.cl (by assumption)) | (with_reducible exact Wm.RestSettingC.cl (by assumption)) | (with_reducible exact Wm.PricesC.cl (by assumption)) | (with_reducible exact Wm.MomentC.cl (by assumption)) | (with_reducible exact Wm.LiveRoomC.cl (by assumption)) | (with_reducible exact Wm.AttemptC.cl (by assumption)))
local macro_rules | `(tactic| walk_at "noattr") => `(tactic| first | (with_reducible exact Wm.WeatherC.n_pattern (by assumption)) | (with_reducible exact Wm.HeaterC.n_power (by assumption)) | (with_reducible exact Wm.HeaterC.n_below (by assumption)) | (with_reducible exact Wm.HeaterC.n_above (by assumption)) | (with_reducible exact Wm.RoomC.n_outside (by assumption)) | (with_reducible exact Wm.RoomC.n_inside (by assumption)) | (with_reducible exact Wm.RoomC.n_begin_degrees (by assumption)) | (with_reducible exact Wm.RoomC.n_past (by assumption)) | (with_reducible exact Wm.RoomC.n_repeated (by assumption)) | (with_reducible exact Wm.RoomC.n_share (by assumption)) | (with_reducible exact Wm.RoomC.n_coldest (by assumption)) | (with_reducible exact Wm.RoomC.n_warmest (by assumption)) | (with_reducible exact Wm.RunC.n_begin (by assumption)) | (with_reducible exact Wm.RunC.n_end (by assumption)) | (with_reducible exact Wm.RunC.n_degrees (by assumption)) | (with_reducible exact Wm.RunC.n_is_heating (by assumption)) | (with_reducible exact Wm.RunC.n_sums (by assumption)) | (with_reducible exact Wm.RunC.n_size (by assumption)) | (with_reducible exact Wm.RunC.n_drift (by assumption)) | (with_reducible exact Wm.HistoryC.n_shifts (by assumption)) | (with_reducible exact Wm.HistoryC.n_added (by assumption)) | (with_reducible exact Wm.HistoryC.n_floor (by assumption)) | (with_reducible exact Wm.HistoryC.n_ceiling (by assumption)) | (with_reducible exact Wm.HistoryC.n_was_heating (by assumption)) | (with_reducible exact Wm.HistoryC.n_runs (by assumption)) | (with_reducible exact Wm.HistoryC.n_loop (by assumption)) | (with_reducible exact Wm.ThresholdObserverC.n_outside (by assumption)) | (with_reducible exact Wm.ThresholdObserverC.n_power (by assumption)) | (with_reducible exact Wm.ThresholdObserverC.n_tick (by assumption)) | (with_reducible exact Wm.ThresholdObserverC.n_degrees (by assumption)) | (with_reducible exact Wm.ThresholdObserverC.n_is_heating (by assumption)) | (with_reducible exact Wm.ThresholdObserverC.n_lows (by assumption)) | (with_reducible exact Wm.ThresholdObserverC.n_highs (by assumption)) | (with_reducible exact Wm.ThresholdObserverC.n_noted (by assumption)) | (with_reducible exact Wm.SettingC.n_least (by assumption)) | (with_reducible exact Wm.SettingC.n_most (by assumption)) | (with_reducible exact Wm.HourSettingC.n_least (by assumption)) | (with_reducible exact Wm.HourSettingC.n_most (by assumption)) | (with_reducible exact Wm.HourSettingC.n_length (by assumption)) | (with_reducible exact Wm.HourSettingC.n_hours (by assumption)) | (with_reducible exact Wm.RestSettingC.n_least (by assumption)) | (with_reducible exact Wm.RestSettingC.n_most (by assumption)) | (with_reducible exact Wm.RestSettingC.n_rest (by assumption)) | (with_reducible exact Wm.PricesC.n_table (by assumption)) | (with_reducible exact Wm.MomentC.n_tick (by assumption)) | (with_reducible exact Wm.MomentC.n_heat (by assumption)) | (with_reducible exact Wm.MomentC.n_on (by assumption)) | (with_reducible exact Wm.MomentC.n_burnt (by assumption)) | (with_reducible exact Wm.MomentC.n_sky (by assumption)) | (with_reducible exact Wm.MomentC.n_stove (by assumption)) | (with_reducible exact Wm.LiveRoomC.n_moment (by assumption)) | (with_reducible exact Wm.LiveRoomC.n_earlier (by assumption)) | (with_reducible exact Wm.LiveRoomC.n_done (by assumption)) | (with_reducible exact Wm.AttemptC.n_live (by assumption)) | (with_reducible exact Wm.AttemptC.n_kept (by assumption)) | (with_reducible exact Wm.AttemptC.n_stack (by assumption)) | (with_reducible exact Wm.AttemptC.n_steps (by assumption)))
local macro_rules | `(tactic| walk_at "at") => `(tactic| first | assumption | exact Wm.Hold.rd (by assumption) (by assumption) | exact Wm.Hold.get (i := 0) (by assumption) rfl | exact Wm.Hold.get (i := 1) (by assumption) rfl | exact Wm.Hold.get (i := 2) (by assumption) rfl | exact Wm.Hold.get (i := 3) (by assumption) rfl | exact Wm.Hold.get (i := 4) (by assumption) rfl)
local macro_rules | `(tactic| walk_at "s1") => `(tactic| first
  | (with_reducible refine Wm.r_seq ?_)
  | (with_reducible refine Wm.r_op ?_)
  | ((with_reducible refine' Wm.r_var ?h ?_); (case h => rfl))
  | (with_reducible refine Wm.r_c ?_)
  | (with_reducible refine Wm.r_I0 ?_)
  | (with_reducible refine Wm.r_cons ?_)
  | (with_reducible refine Wm.r_nil ?_)
  | (with_reducible refine Wm.r_asg ?_)
  | (with_reducible refine Wm.r_gname ?_; try simp only [List.set_cons_zero, List.set_cons_succ])
  | (with_reducible refine Wm.r_nx ?_)
  | (with_reducible refine Wm.r_rt ?_)
  | (with_reducible refine Wm.r_ret ?_)
  | (with_reducible refine Wm.r_test ?_)
  | (with_reducible refine Wm.r_bl ?_)
  | (with_reducible refine Wm.r_B ?_)
  | (with_reducible refine Wm.r_eqI ?_)
  | (with_reducible refine Wm.r_neI ?_)
  | (with_reducible refine Wm.r_eqB ?_)
  | (with_reducible refine Wm.r_neB ?_)
  | (with_reducible refine Wm.r_fld ?_)
  | (with_reducible refine Wm.r_call ?_)
  | (with_reducible refine Wm.r_mtd ?_)
  | (with_reducible refine Wm.r_prp ?_)
  | (with_reducible refine Wm.r_mak ?_)
  | (with_reducible refine Wm.r_cb ?_)
  | (with_reducible refine Wm.r_tup ?_)
  | (with_reducible refine Wm.r_lst ?_)
  | (with_reducible refine Wm.r_chain ?_)
  | (with_reducible refine Wm.r_and ?_)
  | (with_reducible refine Wm.r_or ?_)
  | (with_reducible refine Wm.r_not ?_)
  | (with_reducible refine Wm.r_andV ?_)
  | (with_reducible refine Wm.r_orV ?_)
  | (with_reducible refine Wm.r_notV ?_)
  | (with_reducible refine Wm.r_if ?_)
  | (with_reducible refine Wm.r_un ?_)
  | (with_reducible refine Wm.r_U ?_)
  | (with_reducible refine Wm.r_iteT ?_)
  | (with_reducible refine Wm.r_iteF ?_)
  | (with_reducible refine Wm.r_next ?_)
  | (with_reducible refine Wm.r_drop ?_)
  | (with_reducible refine Wm.r_retN ?_)
  | ((with_reducible refine' Wm.r_aug ?h ?_); (case h => rfl))
  | (with_reducible refine Wm.r_ipI ?_)
  | (with_reducible refine Wm.r_par2 ?_)
  | (with_reducible refine Wm.r_two ?_; try simp only [List.set_cons_zero, List.set_cons_succ])
  | (with_reducible refine Wm.r_yes ?_)
  | (with_reducible refine Wm.r_forET ?_)
  | (with_reducible refine Wm.r_chain3 ?_)
  | (with_reducible refine Wm.r_nT ?_)
  | (with_reducible refine Wm.r_nF ?_)
  | (with_reducible refine Wm.r_par3 ?_)
  | (with_reducible refine Wm.r_seenPut ?_)
  | (with_reducible refine Wm.r_seenGet ?_)
  | (with_reducible refine Wm.r_three ?_; try simp only [List.set_cons_zero, List.set_cons_succ])
  | (with_reducible refine Wm.r_sl ?_)
  | (with_reducible refine Wm.r_nopart ?_)
  | (with_reducible refine Wm.r_part ?_)
  | (with_reducible refine Wm.r_xi ?_)
  | (with_reducible refine Wm.r_gcons ?_)
  | (with_reducible refine Wm.r_gnil ?_)
  | (with_reducible refine Wm.r_sub ?_)
  | (with_reducible refine Wm.r_setF ?_)
  | (with_reducible refine Wm.r_app ?_)
  | (with_reducible refine Wm.int_i ?_)
  | (with_reducible refine Wm.int_b ?_)
  | (with_reducible refine Wm.min2 ?_)
  | (with_reducible refine Wm.max2 ?_)
  | (with_reducible refine Wm.abs1 ?_)
  | (with_reducible refine Wm.isN ?_)
  | (with_reducible refine Wm.notN ?_)
  | ((with_reducible refine' Wm.r_ty ?e ?_); (case e => walk_at "at"))
  | ((with_reducible refine' Wm.setF_m ?h 0 ?e ?c ?a ?l ?_); (case h => assumption); (case e => rfl); (case c => walk_at "cls"); (case a => walk_at "noattr"); (case l => exact of_decide_eq_true rfl); intro H1 hh1; simp only [List.set_cons_zero, List.set_cons_succ] at hh1)
  | ((with_reducible refine' Wm.setF_m ?h 1 ?e ?c ?a ?l ?_); (case h => assumption); (case e => rfl); (case c => walk_at "cls"); (case a => walk_at "noattr"); (case l => exact of_decide_eq_true rfl); intro H1 hh1; simp only [List.set_cons_zero, List.set_cons_succ] at hh1)
  | ((with_reducible refine' Wm.setF_m ?h 2 ?e ?c ?a ?l ?_); (case h => assumption); (case e => rfl); (case c => walk_at "cls"); (case a => walk_at "noattr"); (case l => exact of_decide_eq_true rfl); intro H1 hh1; simp only [List.set_cons_zero, List.set_cons_succ] at hh1)
  | ((with_reducible refine' Wm.setF_m ?h 3 ?e ?c ?a ?l ?_); (case h => assumption); (case e => rfl); (case c => walk_at "cls"); (case a => walk_at "noattr"); (case l => exact of_decide_eq_true rfl); intro H1 hh1; simp only [List.set_cons_zero, List.set_cons_succ] at hh1)
  | (with_reducible refine Wm.r_forL ?_)
  | (with_reducible refine Wm.r_forT ?_)
  | (with_reducible refine Wm.r_forR1 ?_)
  | (with_reducible refine Wm.r_forR2 ?_)
  | (with_reducible refine Wm.r_lcL ?_)
  | (with_reducible refine Wm.r_lcT ?_)
  | (with_reducible refine Wm.r_lcR1 ?_)
  | (with_reducible refine Wm.r_lcR2 ?_)
  | ((with_reducible refine' Wm.fld_h ?e ?c ?n ?l ?_); (case e => walk_at "at"); (case c => walk_at "cls"); (case n => walk_at "noattr"); (case l => rfl))
  | ((with_reducible refine' Wm.mtd_h ?e ?l ?_); (case e => walk_at "at"); (case l => rfl))
  | ((with_reducible refine' Wm.prp_h ?e ?_); (case e => walk_at "at"))
  | ((with_reducible refine' Wm.rix_ht ?a ?b ?_); (case a => walk_at "at"); (case b => rfl))
  | ((with_reducible refine' Wm.rix_h ?a ?b ?_); (case a => walk_at "at"); (case b => rfl))
  | ((with_reducible refine' Wm.len_ht ?a ?_); (case a => walk_at "at"))
  | ((with_reducible refine' Wm.len_h ?a ?_); (case a => walk_at "at"))
  | ((with_reducible refine' Wm.len_l ?a ?b ?_); (case a => assumption); (case b => assumption))
  | ((with_reducible refine' Wm.len_t ?a ?b ?_); (case a => assumption); (case b => assumption))
  | ((with_reducible refine' Wm.gtup_h ?a ?b ?_); (case a => walk_at "at"); (case b => rfl))
  | (with_reducible refine Wm.r_I (Wm.cmulR (by decide)) ?_)
  | (with_reducible refine Wm.r_I (Wm.cmulL (by decide)) ?_)
  | (with_reducible refine Wm.r_I (Wm.cdiv (by decide) (by decide)) ?_)
  | (with_reducible refine Wm.r_I Wm.cpow18 ?_)
  | (with_reducible refine Wm.r_I Wm.cpow12 ?_)
  | (with_reducible refine Wm.r_I (by show (0 : Int) < _; decide) ?_))
local macro_rules | `(tactic| walk_at "s") => `(tactic| repeat (first | walk_at "s1" | (with_reducible refine Wm.r_ifS ?_)))
local macro_rules | `(tactic| walk_at "t") => `(tactic| repeat (walk_at "s1"))
local macro_rules | `(tactic| walk_at "sz") => `(tactic| exact of_decide_eq_true rfl)
local macro_rules | `(tactic| walk_at "d") => `(tactic| first | (refine Wm.r_dT (by omega) ?_) | (refine Wm.r_dF (by omega) ?_) | (refine Wm.r_dN (by omega) ?_) | (refine Wm.r_dM (by omega) ?_))
local macro_rules | `(tactic| walk_at "sd") => `(tactic| repeat (first | walk_at "s1" | (with_reducible refine Wm.r_ifS ?_) | walk_at "d"))
namespace Wm
open PySem PySem.Spec PyProof.Rows L2 StX
/-! ## What a room keeps: repetition, share, extremes -/
def OptAt (H : Hp) (v : V) : Option (Int × Int) → Prop
  | none => v = .non
  | some (a, b) => ∃ q, v = .ref q ∧ H q = some (.tup [.int a, .int b])
def OptP (o : Option (Int × Int)) (H : Hp) (Q : VK) : Prop :=
  match o with
  | none => ∀ H', Ex H H' → Q .non H'
  | some (a, b) => ∀ q H', Ex H H' → H q = none → H' q = some (.tup [.int a, .int b]) → Q (.ref q) H'
theorem OptAt.up {G H : Hp} (e : Ex G H) {v : V} {o : Option (Int × Int)} (h : OptAt G v o) : OptAt H v o := by
  cases o with
  | none => exact h
  | some x =>
    obtain ⟨q, h1, h2⟩ := h
    exact ⟨q, h1, e _ _ h2⟩
theorem Hold.take {G : Hp} {mu : Mu} {H H' : Hp} {q : Addr} {o : HO} (hh : Hold G mu H) (e : Ex H H') (hq : H q = none) (ho : H' q = some o) : Hold (upd G q o) mu H' := by
  have hg := hh.g_none hq
  have hm := hh.mu_ne hq
  refine ⟨fun a x hx => ?_, fun x hx => e _ _ (hh.at_ x hx), fun x hx => ?_, hh.nd⟩
  · by_cases h : a = q
    · subst h
      rw [upd_same] at hx
      rw [← hx]
      exact ho
    · rw [upd_ne h] at hx
      exact e _ _ (hh.ex a x hx)
  · rw [upd_ne (fun z : x.1 = q => hm (by rw [← z]; exact List.mem_map_of_mem hx))]
    exact hh.out x hx
theorem opt_G {G : Hp} {mu : Mu} {H : Hp} {o : Option (Int × Int)} {Q : VK} (hh : Hold G mu H) (k : ∀ v G' H', Ex G G' → OptAt G' v o → Hold G' mu H' → Q v H') : OptP o H Q := by
  cases o with
  | none => exact fun H' e => k _ G H' (Ex.refl G) rfl (hh.grow e)
  | some x => exact fun q H' e hq hq' => k _ _ H' (Ex.new (hh.g_none hq)) ⟨q, rfl, upd_same⟩ (hh.take e hq hq')
def sp_repetition_of (K : PySem.W.Frag) (A : Ads) : Sp := fun vs H Q _ => ∃ (p : Addr) (P : Par) (rs : List RunD) (loop : Option Int), vs = [.ref p] ∧ IsHist K A H p P rs loop ∧ OptP (repO rs loop) H Q
def sp_share_of (K : PySem.W.Frag) (A : Ads) : Sp := fun vs H Q _ => ∃ (p : Addr) (P : Par) (rs : List RunD) (loop : Option Int), vs = [.ref p] ∧ IsHist K A H p P rs loop ∧ OptP (some (share rs loop)) H Q
def sp_extreme_of (K : PySem.W.Frag) (A : Ads) : Sp := fun vs H Q _ => ∃ (p : Addr) (sign : Int) (P : Par) (rs : List RunD) (loop : Option Int), vs = [.ref p, .int sign] ∧ IsHist K A H p P rs loop ∧ (sign = 1 ∨ sign = -1) ∧ ∀ o, Ext P rs loop sign o → OptP o H Q
def t_repetition_of (K : PySem.W.Frag) (A : Ads) : TS := tSeq (tPar 1 2 (tCons (tFld K (tVar 0) "runs") (tCons (tFld K (tVar 0) "loop") (tNil)))) (tSeq (tIfS (tTest (tOp rIsN (tVar 2) (tC .non))) (tRet (tIf (tTest (tOp rEq (tFld K (tOp (rIx K) (tVar 1) (tUn (rU fun i => .int (-i)) (tC (.int 1)))) "drift") (tC (.int 0)))) (tTup (tCons (tFld K (tOp (rIx K) (tVar 1) (tUn (rU fun i => .int (-i)) (tC (.int 1)))) "begin") (tCons (tFld K (tOp (rIx K) (tVar 1) (tUn (rU fun i => .int (-i)) (tC (.int 1)))) "size") (tNil)))) (tC .non))) (tNext)) (tSeq (tAsg (tFld K (tOp (rIx K) (tVar 1) (tVar 2)) "begin") (gName 3)) (tSeq (tIfS (tTest (tOp (rI0 fun i j => .bl (decide (j < i))) (tVar 2) (tC (.int 0)))) (tAug 3 (tCB rMin2 (tCons (tOp (rI0 fun i j => .int (i - j)) (tFld K (tOp (rIx K) (tVar 1) (tOp (rI0 fun i j => .int (i - j)) (tVar 2) (tC (.int 1)))) "end") (tFld K (tOp (rIx K) (tVar 1) (tOp (rI0 fun i j => .int (i - j)) (tVar 2) (tC (.int 1)))) "begin")) (tCons (tOp (rI0 fun i j => .int (i - j)) (tFld K (tOp (rIx K) (tVar 1) (tUn (rU fun i => .int (-i)) (tC (.int 1)))) "end") (tFld K (tOp (rIx K) (tVar 1) (tUn (rU fun i => .int (-i)) (tC (.int 1)))) "begin")) (tNil)))) (ipI fun i j => i - j)) (tNext)) (tRet (tTup (tCons (tVar 3) (tCons (tMtd A.cHistory "circle" (sp_History_circle K A) E0 (tVar 0) tNil) (tNil))))))))
def t_share_of (K : PySem.W.Frag) (A : Ads) : TS := tSeq (tIfS (tTest (tOp rIsN (tFld K (tVar 0) "loop") (tC .non))) (tRet (tIf (tB (tFld K (tOp (rIx K) (tFld K (tVar 0) "runs") (tUn (rU fun i => .int (-i)) (tC (.int 1)))) "is_heating")) (tTup (tCons (tC (.int 1)) (tCons (tC (.int 1)) (tNil)))) (tTup (tCons (tC (.int 0)) (tCons (tC (.int 1)) (tNil)))))) (tNext)) (tSeq (tAsg (tCB (rSum K) (tCons (tLc (iList K (tSl (rSlL K) (tFld K (tVar 0) "runs") (tPart (tFld K (tVar 0) "loop")) (tNoPart))) (gName 2) (tB (tFld K (tVar 2) "is_heating")) (tOp (rI0 fun i j => .int (i - j)) (tFld K (tVar 2) "end") (tFld K (tVar 2) "begin")) [2]) (tNil))) (gName 1)) (tSeq (tAsg (tCal (sp_common_divisor K A) E0 (tCons (tVar 1) (tCons (tMtd A.cHistory "circle" (sp_History_circle K A) E0 (tVar 0) tNil) (tNil)))) (gName 3)) (tRet (tTup (tCons (tOp (rI CDivW fun i j => .int (i / j)) (tVar 1) (tVar 3)) (tCons (tOp (rI CDivW fun i j => .int (i / j)) (tMtd A.cHistory "circle" (sp_History_circle K A) E0 (tVar 0) tNil) (tVar 3)) (tNil)))))))
def t_extreme_of (K : PySem.W.Frag) (A : Ads) : TS := tSeq (tAsg (tLc (iList K (tFld K (tVar 0) "runs")) (gName 3) (tYes) (tMtd A.cRun "extreme" (sp_Run_extreme K A) E0 (tVar 3) (tCons (tFld K (tVar 3) "end") (tCons (tVar 1) (tNil)))) [3]) (gName 2)) (tSeq (tIfS (tTest (tOp (rInD K) (tC .non) (tVar 2))) (tRet (tC .non)) (tNext)) (tSeq (tAsg (tOp (rIx K) (tVar 2) (tC (.int 0))) (gName 4)) (tSeq (tFor (iList K (tSl (rSlL K) (tVar 2) (tPart (tC (.int 1))) (tNoPart))) (gTup K 2 (gCons (gName 5) (gCons (gName 6) (gNil)))) (tIfS (tTest (tOp (rI0 fun i j => .bl (decide (j < i))) (tOp (rI CMul fun i j => .int (i * j)) (tVar 5) (tVar 1)) (tOp (rI CMul fun i j => .int (i * j)) (tOp (rIx K) (tVar 4) (tC (.int 0))) (tVar 1)))) (tAsg (tTup (tCons (tVar 5) (tCons (tVar 6) (tNil)))) (gName 4)) (tNext))) (tRet (tVar 4)))))
section
variable {K : PySem.W.Frag} {A : Ads}
theorem pure_repetition_of (vs : List V) (H : Hp) (Q : VK) (E : XK) (h : sp_repetition_of K A vs H Q E) : t_repetition_of K A { nx := fun _ H' => Q .non H', rt := Q } (start ["past", "runs", "loop", "first"] vs) H := by
  obtain ⟨p, P, rs, loop, rfl, ih, k⟩ := h
  obtain ⟨TH, TR, hok, dx, sh, ru, ras, h1, h2, h3, h4⟩ := id ih
  have hv := hok.v
  have hne := hv.ne
  show t_repetition_of K A _ [some (.ref p), none, none, none] H
  unfold t_repetition_of
  cases loop with
  | none =>
    obtain ⟨l, hl, hf⟩ := hv.open_ rfl
    obtain ⟨b, dx2, s2, i2, ir2, o2⟩ := IsHist.last h4 hl
    unfold repO at k
    simp only [hl] at k
    walk_at "s"
    refine r_ite (fun _ => ?_) (fun c => absurd rfl (of_decide_eq_false c))
    walk_at "s"
    refine rix_h h3 i2 ?_
    walk_at "s"
    refine r_ite (fun c => ?_) (fun c => ?_)
    · rw [if_pos (of_decide_eq_true c)] at k
      walk_at "s"
      refine rix_h h3 i2 ?_
      walk_at "s"
      refine rix_h h3 i2 ?_
      walk_at "s"
      exact tup_n (by walk_at "sz") (Hold.start H) fun q H' hq hq' hh => k q H' hh.ex hq hq'
    · rw [if_neg (of_decide_eq_false c)] at k
      walk_at "s"
      exact k H (Ex.refl H)
  | some j =>
    obtain ⟨j0, r, l, e, hj, hl, he, _⟩ := hv.shut j rfl
    obtain ⟨a, dx1, s1, i1, ir1, o1⟩ := IsHist.num h4 j0 hj
    obtain ⟨b, dx2, s2, i2, ir2, o2⟩ := IsHist.last h4 hl
    unfold repO at k
    simp only [begAt_of hj] at k
    walk_at "s"
    refine r_ite (fun c => absurd (of_decide_eq_true c) (by intro z; cases z)) (fun _ => ?_)
    walk_at "s"
    refine rix_h h3 i1 ?_
    walk_at "s"
    refine r_I0 ?_
    walk_at "s"
    refine r_ite (fun c => ?_) (fun c => ?_)
    · have c : 0 < j := of_decide_eq_true c
      rw [if_pos c] at k
      have hjl := (List.getElem?_eq_some_iff.mp hj).1
      obtain ⟨m, hm⟩ := get_some (l := rs) (i := (j - 1).toNat) (by omega)
      obtain ⟨a3, dx3, s3, i3, ir3, o3⟩ := IsHist.num h4 (show 0 ≤ j - 1 by omega) hm
      have hmn := (hv.next (j - 1).toNat m r hm (by rw [show (j - 1).toNat + 1 = j.toNat by omega]; exact hj)).1
      have e1 : lenAt rs (j - 1) = r.beg - m.beg := by unfold lenAt lenR; rw [hm]; simp only [hmn]
      have e2 : lenAt rs ((rs.length : Int) - 1) = e - l.beg := by unfold lenAt lenR; rw [show ((rs.length : Int) - 1).toNat = rs.length - 1 by omega, hl]; simp only [he]
      rw [e1, e2] at k
      walk_at "s"
      refine r_I0 ?_
      refine rix_h h3 i3 ?_
      walk_at "s"
      refine r_I0 ?_
      refine rix_h h3 i3 ?_
      walk_at "s"
      refine ⟨r.beg, m.beg, by rw [hmn] <;> rfl, rfl, ?_⟩
      walk_at "s"
      refine rix_h h3 i2 ?_
      walk_at "s"
      refine rix_h h3 i2 ?_
      walk_at "s"
      refine ⟨e, l.beg, by rw [he] <;> rfl, rfl, ?_⟩
      walk_at "s"
      refine ⟨p, P, rs, j, rfl, ih, ?_⟩
      walk_at "s"
      refine tup_n (by walk_at "sz") (Hold.start H) fun q H' hq hq' hh => k q H' hh.ex hq ?_
      rw [hq', show (if e - l.beg < r.beg - m.beg then e - l.beg else r.beg - m.beg) = min (r.beg - m.beg) (e - l.beg) by omega]
    · have c : ¬ 0 < j := of_decide_eq_false c
      rw [if_neg c, Int.sub_zero] at k
      walk_at "s"
      refine ⟨p, P, rs, j, rfl, ih, ?_⟩
      walk_at "s"
      exact tup_n (by walk_at "sz") (Hold.start H) fun q H' hq hq' hh => k q H' hh.ex hq hq'
theorem refs_of {as : List Addr} {i : Nat} {x : V} (h : (as.map V.ref)[i]? = some x) : ∃ a, as[i]? = some a ∧ x = V.ref a := by
  rw [List.getElem?_map] at h
  cases e : as[i]? with
  | none => rw [e] at h; cases h
  | some a => rw [e] at h; cases h; exact ⟨a, rfl, rfl⟩
theorem cut_refs (as : List Addr) {i : Int} {n : Nat} (h : i = (n : Int)) (hn : n ≤ as.length) : cutV (as.map V.ref) (some i) none = (as.drop n).map V.ref := by
  rw [cut_from _ h (by rw [List.length_map]; exact hn), List.map_drop]
theorem pure_share_of (vs : List V) (H : Hp) (Q : VK) (E : XK) (h : sp_share_of K A vs H Q E) : t_share_of K A { nx := fun _ H' => Q .non H', rt := Q } (start ["past", "heated", "run", "divisor"] vs) H := by
  obtain ⟨p, P, rs, loop, rfl, ih, k⟩ := h
  obtain ⟨TH, TR, hok, dx, sh, ru, ras, h1, h2, h3, h4⟩ := id ih
  have hv := hok.v
  have hne := hv.ne
  show t_share_of K A _ [some (.ref p), none, none, none] H
  unfold t_share_of
  cases loop with
  | none =>
    obtain ⟨l, hl, hf⟩ := hv.open_ rfl
    obtain ⟨b, dx2, s2, i2, ir2, o2⟩ := IsHist.last h4 hl
    unfold share at k
    simp only [hl] at k
    walk_at "s"
    refine r_ite (fun _ => ?_) (fun c => absurd rfl (of_decide_eq_false c))
    walk_at "s"
    refine rix_h h3 i2 ?_
    walk_at "s"
    refine r_ite (fun c => ?_) (fun c => ?_)
    · rw [if_pos c] at k
      walk_at "s"
      exact tup_n (by walk_at "sz") (Hold.start H) fun q H' hq hq' hh => k q H' hh.ex hq hq'
    · rw [if_neg (by rw [c]; exact Bool.false_ne_true)] at k
      walk_at "s"
      exact tup_n (by walk_at "sz") (Hold.start H) fun q H' hq hq' hh => k q H' hh.ex hq hq'
  | some j =>
    have sc := hv.shut_
    have j0 := sc.j0
    have jl := sc.jl
    have c0 := sc.c0
    have cB := sc.cB
    simp only [share] at k
    walk_at "s"
    refine r_ite (fun c => absurd (of_decide_eq_true c) (by intro z; cases z)) (fun _ => ?_)
    walk_at "s"
    refine r_xi ?_
    walk_at "s"
    refine ⟨ru, _, rfl, SqL.of h3, new1_G (Hold.start H) fun sl G1 H1 ex1 hsl hh1 => ?_⟩
    rw [cut_refs ras (n := j.toNat) (by omega) (by rw [h4.len]; omega)] at hsl
    have hlen : ((ras.drop j.toNat).map V.ref).length = (rs.drop j.toNat).length := by simp [h4.len]
    refine lcL_by hh1 (SqL.of hsl) (fun i acc G' mu' => acc = ((((rs.drop j.toNat).take i).filter (·.on)).map lenR).map V.int ∧ mu' = []) ⟨rfl, rfl⟩ ?_ ?_
    · rintro i x D acc G' mu' H2 hx hal exx hhx ⟨rfl, rfl⟩
      obtain ⟨a, ha, rfl⟩ := refs_of hx
      have hil : i < (rs.drop j.toNat).length := by rw [← hlen]; exact (List.getElem?_eq_some_iff.mp hx).1
      obtain ⟨r, hr⟩ := get_some hil
      rw [List.getElem?_drop] at ha
      have hr2 := hr
      rw [List.getElem?_drop] at hr2
      have ir := (h4.at_ _ a r ha hr2).up (ex1.trans (exx.trans hhx.ex))
      obtain ⟨_, _, dxr, sr, hor, _⟩ := id ir
      walk_at "s"
      refine ⟨rfl, ?_⟩
      walk_at "s"
      refine r_ite (fun c => ?_) (fun c => ?_)
      · have hfin : ∃ e, r.fin = some e := by
          by_cases hn : j.toNat + i + 1 < rs.length
          · obtain ⟨r2, hr3⟩ := get_some hn
            exact ⟨_, (hv.next _ r r2 hr2 hr3).1⟩
          · obtain ⟨_, _, l, e, _, hl, he, _⟩ := hv.shut j rfl
            have hil2 := (List.getElem?_eq_some_iff.mp hr2).1
            rw [show rs.length - 1 = j.toNat + i by omega, hr2] at hl
            cases hl
            exact ⟨e, he⟩
        obtain ⟨e, he⟩ := hfin
        walk_at "s"
        refine ⟨e, r.beg, by rw [he] <;> rfl, rfl, ?_⟩
        refine lcY hhx exx hal (by have := hv.le; rw [List.length_drop] at hil; omega) ⟨?_, rfl⟩
        have el : lenR r = e - r.beg := by unfold lenR; rw [he]
        rw [take_one hr, List.filter_append, List.filter_cons_of_pos (by exact c), List.filter_nil, List.map_append, List.map_append, List.map_cons, List.map_nil, List.map_cons, List.map_nil, el]
      · refine lcN hhx exx hal ⟨?_, rfl⟩
        rw [take_one hr, List.filter_append, List.filter_cons_of_neg (by rw [c]; exact Bool.false_ne_true), List.filter_nil, List.append_nil]
    rintro D acc G' mu' H2 hal exx hhx ⟨rfl, rfl⟩
    rw [hlen, List.take_length] at hhx
    have exH := ex1.trans (exx.trans hhx.ex)
    walk_at "s"
    refine sum_by (SqL.of (hhx.get (i := 0) rfl)) ?_
    have e1 : (((rs.drop j.toNat).filter (·.on)).map lenR).sum = heatSum (rs.drop j.toNat) := rfl
    rw [e1]
    have hs0 : 0 ≤ heatSum (rs.drop j.toNat) := by
      have : ∀ l : List RunD, (∀ r ∈ l, 0 ≤ lenR r) → 0 ≤ ((l.filter (·.on)).map lenR).sum := by
        intro l
        induction l with
        | nil => intro _; exact Int.le_refl 0
        | cons x l ih =>
          intro hl
          have i1 := ih (fun r hr => hl r (List.mem_cons_of_mem _ hr))
          have i2 := hl x List.mem_cons_self
          by_cases hx : x.on = true
          · rw [show (x :: l).filter (·.on) = x :: l.filter (·.on) from List.filter_cons_of_pos hx, List.map_cons, List.sum_cons]
            omega
          · rw [show (x :: l).filter (·.on) = l.filter (·.on) from List.filter_cons_of_neg hx]
            exact i1
      refine this _ fun r hr => ?_
      have v := hv.each r (List.mem_of_mem_drop hr)
      unfold lenR
      split
      · have := (v.fin _ ‹_›).1
        omega
      · omega
    generalize heatSum (rs.drop j.toNat) = hs at *
    generalize hcc : circ rs j = cc at *
    have ih2 : IsHist K A H2 p P rs (some j) := ih.up exH
    have h12 := exH _ _ h1
    have gpos : 0 < Nat.gcd hs.toNat cc.toNat := Nat.gcd_pos_of_pos_right _ (by omega)
    have gle : Nat.gcd hs.toNat cc.toNat ≤ cc.toNat := Nat.gcd_le_right _ (by omega)
    walk_at "s"
    refine ⟨p, P, rs, j, rfl, ih2, ?_⟩
    rw [hcc]
    walk_at "s"
    refine ⟨hs.toNat, cc.toNat, by rw [Int.toNat_of_nonneg hs0, Int.toNat_of_nonneg (by omega)], ?_⟩
    walk_at "s"
    refine r_I (cdiv (by omega) (by omega)) ?_
    walk_at "s"
    refine ⟨p, P, rs, j, rfl, ih2, ?_⟩
    rw [hcc]
    walk_at "s"
    refine r_I (cdiv (by omega) (by omega)) ?_
    walk_at "s"
    exact tup_n (by walk_at "sz") (Hold.start H2) fun q H' hq hq' hh => k q H' (exH.trans hh.ex) (by
      cases e : H q with
      | none => rfl
      | some o => rw [exH _ _ e] at hq; cases hq) hq'
/-- the data of an optional pair -/
def optD : Option (Int × Int) → PyData
  | none => .none
  | some (a, b) => .tuple [.int a, .int b]
theorem optD_dp {H : Hp} {v : V} {o : Option (Int × Int)} (h : OptAt H v o) : Dp K H v (optD o) := by
  cases o with
  | none => cases (show v = .non from h); exact .non
  | some x =>
    obtain ⟨q, rfl, hq⟩ := h
    exact .tup (SqT.of hq) (.cons (.int _) (.cons (.int _) .nil))
theorem optD_dps {H : Hp} : ∀ {vs : List V} {os : List (Option (Int × Int))}, vs.length = os.length → (∀ (i : Nat) (v : V) (o : Option (Int × Int)), vs[i]? = some v → os[i]? = some o → OptAt H v o) → DpAll K H vs (os.map optD)
  | [], [], _, _ => .nil
  | v :: vs, o :: os, hl, h => .cons (optD_dp (h 0 v o rfl rfl)) (optD_dps (by simpa using hl) fun i v o h1 h2 => h (i + 1) v o (by simpa using h1) (by simpa using h2))
theorem optD_lay : ∀ os : List (Option (Int × Int)), PyData.canLayAll0 (os.map optD) = true
  | [] => rfl
  | none :: os => by simp [PyData.canLayAll0, optD, PyData.canLay0, optD_lay os]
  | some (a, b) :: os => by simp [PyData.canLayAll0, optD, PyData.canLay0, optD_lay os]
theorem optD_depth : ∀ os : List (Option (Int × Int)), PyData.depthAll (os.map optD) ≤ 1
  | [] => by simp [PyData.depthAll]
  | none :: os => by simp [PyData.depthAll, optD, PyData.depth, optD_depth os]
  | some (a, b) :: os => by simp [PyData.depthAll, optD, PyData.depth, optD_depth os]
theorem optD_any : ∀ os : List (Option (Int × Int)), ((os.map optD).any fun z => PyData.eqv z .none) = os.any (·.isNone)
  | [] => rfl
  | none :: os => by simp [optD, PyData.eqv]
  | some (a, b) :: os => by simp [optD, PyData.eqv, optD_any os]
theorem pure_extreme_of (vs : List V) (H : Hp) (Q : VK) (E : XK) (h : sp_extreme_of K A vs H Q E) : t_extreme_of K A { nx := fun _ H' => Q .non H', rt := Q } (start ["past", "sign", "found", "run", "best", "degrees", "tick"] vs) H := by
  obtain ⟨p, sign, P, rs, loop, rfl, ih, hs, k⟩ := h
  obtain ⟨TH, TR, hok, dx, sh, ru, ras, h1, h2, h3, h4⟩ := id ih
  have hv := hok.v
  have hne := hv.ne
  have hle := hv.le
  show t_extreme_of K A _ [some (.ref p), some (.int sign), none, none, none, none, none] H
  unfold t_extreme_of
  walk_at "s"
  have hlen : (ras.map V.ref).length = rs.length := by rw [List.length_map, h4.len]
  refine lcL_by (Hold.start H) (SqL.of h3) (fun i acc G' mu' => mu' = [] ∧ acc.length = i ∧ ∃ os : List (Option (Int × Int)), os.length = i ∧ (∀ (n : Nat) (v : V) (o : Option (Int × Int)), acc[n]? = some v → os[n]? = some o → OptAt G' v o) ∧ (∀ (n : Nat) (r : RunD) (o : Option (Int × Int)), rs[n]? = some r → os[n]? = some o → XTO r sign o) ∧ ∀ (n : Nat) (q : Addr), acc[n]? = some (.ref q) → H q = none)
    ⟨rfl, rfl, [], rfl, (fun n v o h => by simp at h), (fun n r o _ h => by simp at h), (fun n q h => by simp at h)⟩ ?_ ?_
  · rintro i x D acc G' mu' H2 hx hal exx hhx ⟨rfl, hal2, os, hol, hos, hxs, hfr⟩
    obtain ⟨a, ha, rfl⟩ := refs_of hx
    have hil : i < rs.length := by rw [← hlen]; exact (List.getElem?_eq_some_iff.mp hx).1
    obtain ⟨r, hr⟩ := get_some hil
    have ir := (h4.at_ _ a r ha hr).up (exx.trans hhx.ex)
    obtain ⟨_, rok, dxr, sr, hor, _⟩ := id ir
    have v := hv.each r (List.mem_of_getElem? hr)
    have done : ∀ {v : V} {o : Option (Int × Int)} {G2 : Hp}, Ex G' G2 → OptAt G2 v o → (∀ q, v = .ref q → H q = none) → XTO r sign o → (∀ (n : Nat) (v' : V) (o' : Option (Int × Int)), (acc ++ [v])[n]? = some v' → (os ++ [o])[n]? = some o' → OptAt G2 v' o') ∧ (∀ (n : Nat) (r : RunD) (o' : Option (Int × Int)), rs[n]? = some r → (os ++ [o])[n]? = some o' → XTO r sign o') ∧ ∀ (n : Nat) (q : Addr), (acc ++ [v])[n]? = some (.ref q) → H q = none := by
      intro v o G2 e2 hvo hvf hxo
      refine ⟨fun n v' o' g1 g2 => ?_, fun n r' o' g1 g2 => ?_, fun n q g1 => ?_⟩
      · by_cases hn : n < i
        · rw [List.getElem?_append_left (by omega)] at g1 g2
          exact (hos n v' o' g1 g2).up e2
        · have := (List.getElem?_eq_some_iff.mp g1).1
          have e : n = i := by rw [List.length_append, List.length_singleton] at this; omega
          subst e
          rw [List.getElem?_append_right (by omega)] at g1 g2
          simp [hal2] at g1
          simp [hol] at g2
          subst g1 g2
          exact hvo
      · by_cases hn : n < i
        · rw [List.getElem?_append_left (by omega)] at g2
          exact hxs n r' o' g1 g2
        · have := (List.getElem?_eq_some_iff.mp g2).1
          have e : n = i := by rw [List.length_append, List.length_singleton] at this; omega
          subst e
          rw [List.getElem?_append_right (by omega)] at g2
          simp [hol] at g2
          subst g2
          rw [hr] at g1
          cases g1
          exact hxo
      · by_cases hn : n < i
        · rw [List.getElem?_append_left (by omega)] at g1
          exact hfr n q g1
        · have := (List.getElem?_eq_some_iff.mp g1).1
          have e : n = i := by rw [List.length_append, List.length_singleton] at this; omega
          subst e
          rw [List.getElem?_append_right (by omega)] at g1
          simp [hal2] at g1
          exact hvf q g1
    walk_at "s"
    refine ⟨rfl, ?_⟩
    walk_at "s"
    refine ⟨a, r.fin, sign, r, rfl, ir, hs, ⟨Int.le_refl _, fun l hl => Int.le_of_lt (v.fin l hl).1⟩, fun hf hd => ?_, fun hn d t q H' hxt ex' hq hq' => ?_⟩
    · obtain ⟨d1, d2, d3⟩ := done (v := .non) (o := none) (Ex.refl G') rfl (fun q z => by cases z) ⟨hf, hd⟩
      exact lcY hhx exx hal (by omega) ⟨rfl, by simp [hal2], os ++ [none], by simp [hol], d1, d2, d3⟩
    · have hh2 := hhx.take ex' hq hq'
      have hqH : H q = none := by
        cases e : H q with
        | none => rfl
        | some o => rw [hhx.ex _ _ (exx _ _ e)] at hq; cases hq
      obtain ⟨d1, d2, d3⟩ := done (v := .ref q) (o := some (d, t)) (Ex.new (hhx.g_none hq)) ⟨q, rfl, upd_same⟩ (fun q' z => by cases z; exact hqH) (XTO.of rok hs hn hxt)
      exact lcY hh2 (exx.trans (Ex.new (hhx.g_none hq))) hal (by omega) ⟨rfl, by simp [hal2], os ++ [some (d, t)], by simp [hol], d1, d2, d3⟩
  rintro D acc G' mu' H2 hal exx hhx ⟨rfl, hal2, os, hol, hos, hxs, hfr⟩
  rw [hlen] at hal2 hol
  have hhf := hhx.frz
  have hD : H2 D = some (.lst acc) := hhx.get (i := 0) rfl
  have exH := exx.trans hhx.ex
  have hos2 : ∀ (n : Nat) (v : V) (o : Option (Int × Int)), acc[n]? = some v → os[n]? = some o → OptAt H2 v o := fun n v o g1 g2 => (hos n v o g1 g2).up hhx.ex
  walk_at "s"
  refine ⟨.none, os.map optD, .non, .lst (SqL.of hD) (optD_dps (by omega) hos2), rfl, shaped_lst (optD_lay os) (Nat.le_trans (optD_depth os) (by decide)), ?_⟩
  rw [optD_any]
  walk_at "s"
  refine r_ite (fun c => ?_) (fun c => ?_)
  · have c2 : os.any (·.isNone) = true := c
    rw [List.any_eq_true] at c2
    obtain ⟨o, ho, hn⟩ := c2
    obtain ⟨n, hn2⟩ := List.mem_iff_getElem?.mp ho
    have hnl := (List.getElem?_eq_some_iff.mp hn2).1
    obtain ⟨r, hr⟩ := get_some (l := rs) (i := n) (by omega)
    have x := hxs n r o hr hn2
    cases o with
    | some z => simp at hn
    | none =>
      obtain ⟨hf, hd⟩ := x
      have hloop : loop = none ∧ n = rs.length - 1 := by
        by_cases hl : n + 1 < rs.length
        · obtain ⟨r2, hr2⟩ := get_some hl
          have := (hv.next n r r2 hr hr2).1
          rw [hf] at this
          cases this
        · have e : n = rs.length - 1 := by omega
          cases loop with
          | none => exact ⟨rfl, e⟩
          | some j =>
            obtain ⟨_, _, l, e', _, hl', he', _⟩ := hv.shut j rfl
            rw [← e, hr] at hl'
            cases hl'
            rw [hf] at he'
            cases he'
      have z := k none ⟨hloop.1, r, by rw [← hloop.2]; exact hr, hd⟩
      walk_at "s"
      exact z H2 exH
  · have c2 : os.any (·.isNone) = false := c
    have hsome : ∀ (n : Nat) (o : Option (Int × Int)), os[n]? = some o → ∃ d t, o = some (d, t) := fun n o ho => by
      cases o with
      | none =>
        have : os.any (·.isNone) = true := List.any_eq_true.mpr ⟨none, List.mem_of_getElem? ho, rfl⟩
        rw [c2] at this
        cases this
      | some z => exact ⟨z.1, z.2, rfl⟩
    have get : ∀ n, n < rs.length → ∃ v r d t q, acc[n]? = some v ∧ rs[n]? = some r ∧ XTO r sign (some (d, t)) ∧ v = .ref q ∧ H2 q = some (.tup [.int d, .int t]) := fun n hn => by
      obtain ⟨v, hv'⟩ := get_some (l := acc) (i := n) (by omega)
      obtain ⟨o, ho⟩ := get_some (l := os) (i := n) (by omega)
      obtain ⟨r, hr⟩ := get_some hn
      obtain ⟨d, t, rfl⟩ := hsome n o ho
      obtain ⟨q, e1, e2⟩ := hos2 n v _ hv' ho
      exact ⟨v, r, d, t, q, hv', hr, hxs n r _ hr ho, e1, e2⟩
    obtain ⟨v0, r0, d0, t0, q0, g1, g2, g3, rfl, g5⟩ := get 0 hne
    walk_at "s"
    refine rix_h hD (atI_of (by decide) g1) ?_
    walk_at "s"
    refine ⟨D, acc, rfl, SqL.of hD, new1_G (Hold.start H2) fun sl G3 H3 ex3 hsl hh3 => ?_⟩
    rw [cut_from acc (i := 1) (n := 1) rfl (by omega)] at hsl
    refine forL_by (SqL.of (hh3.rd hsl)) (fun i σ H' => ∃ (d t : Int) (b : Addr) (v3 v5 v6 : Option V), σ = [some (.ref p), some (.int sign), some (.ref D), v3, some (.ref b), v5, v6] ∧ Hold G3 [] H' ∧ H' b = some (.tup [.int d, .int t]) ∧ ExtI P rs sign i d t ∧ (H b = none))
      ⟨d0, t0, q0, _, _, _, rfl, hh3, hh3.rd (ex3 _ _ g5), .start hv g2 g3, hfr 0 q0 g1⟩ (fun i σ H' _ ⟨_, _, _, _, _, _, _, hh, _⟩ => SqL.of (hh.rd hsl)) ?_ ?_
    · rintro i x σ H4 hx ⟨d, t, b, v3, v5, v6, rfl, hh4, hb, hE, hbf⟩
      rw [List.getElem?_drop] at hx
      have hil : 1 + i < rs.length := by rw [← hal2]; exact (List.getElem?_eq_some_iff.mp hx).1
      obtain ⟨v, r, d', t', q, e1, e2, e3, rfl, e5⟩ := get (1 + i) hil
      rw [e1] at hx
      cases hx
      have hq4 := hh4.rd (ex3 _ _ e5)
      obtain ⟨s1, s2⟩ := hE.step hv hs (by rw [Nat.add_comm]; exact e2) e3
      refine gtup_h hq4 rfl ?_
      walk_at "s"
      refine r_I (cmulR (by omega)) ?_
      walk_at "s"
      refine r_I (cmulR (by omega)) ?_
      walk_at "s"
      refine r_ite (fun c => ?_) (fun c => ?_)
      · have c := of_decide_eq_true c
        walk_at "s"
        refine tup_n (by walk_at "sz") hh4 fun q5 H5 hq5 hq5' hh5 => ?_
        have hq5H : H q5 = none := by
          cases e : H q5 with
          | none => rfl
          | some o => rw [ex3 _ _ (exH _ _ e)] at hq5; cases hq5
        walk_at "s"
        exact ⟨d', t', q5, _, _, _, rfl, hh5, hq5', s1 c, hq5H⟩
      · have c := of_decide_eq_false c
        walk_at "s"
        exact ⟨d, t, b, _, _, _, rfl, hh4, hb, s2 c, hbf⟩
    · rintro σ H4 ⟨d, t, b, v3, v5, v6, rfl, hh4, hb, hE, hbf⟩
      rw [List.length_drop, hal2] at hE
      walk_at "s"
      exact k (some (d, t)) (hE.done hv) b H4 (exH.trans (ex3.trans hh4.ex)) hbf hb
end
end Wm
end

section
local macro_rules | `(tactic| walk_at "cls") => `(tactic| first | (with_reducible exact Wm.WeatherC.cl (by assumption)) | (with_reducible exact Wm.HeaterC.cl (by assumption)) | (with_reducible exact Wm.RoomC.cl (by assumption)) | (with_reducible exact Wm.RunC.cl (by assumption)) | (with_reducible exact Wm.HistoryC.cl (by assumption)) | (with_reducible exact Wm.ThresholdObserverC.cl (by assumption)) | (with_reducible exact Wm.SettingC.cl (by assumption)) | (with_reducible exact Wm.HourSettingC.cl (by assumption)) | (with_reducible exact Wm.RestSettingC.cl (by assumption)) | (with_reducible exact Wm.PricesC.cl (by assumption)) | (with_reducible exact Wm.MomentC.cl (by assumption)) | (with_reducible exact Wm.LiveRoomC.cl (by assumption)) | (with_reducible exact Wm.AttemptC.cl (by assumption)))
local macro_rules | `(tactic| walk_at "noattr") => `(tactic| first | (with_reducible exact Wm.WeatherC.n_pattern (by assumption)) | (with_reducible exact Wm.HeaterC.n_power (by assumption)) | (with_reducible exact Wm.HeaterC.n_below (by assumption)) | (with_reducible exact Wm.HeaterC.n_above (by assumption)) | (with_reducible exact Wm.RoomC.n_outside (by assumption)) | (with_reducible exact Wm.RoomC.n_inside (by assumption)) | (with_reducible exact Wm.RoomC.n_begin_degrees (by assumption)) | (with_reducible exact Wm.RoomC.n_past (by assumption)) | (with_reducible exact Wm.RoomC.n_repeated (by assumption)) | (with_reducible exact Wm.RoomC.n_share (by assumption)) | (with_reducible exact Wm.RoomC.n_coldest (by assumption)) | (with_reducible exact Wm.RoomC.n_warmest (by assumption)) | (with_reducible exact Wm.RunC.n_begin (by assumption)) | (with_reducible exact Wm.RunC.n_end (by assumption)) | (with_reducible exact Wm.RunC.n_degrees (by assumption)) | (with_reducible exact Wm.RunC.n_is_heating (by assumption)) | (with_reducible exact Wm.RunC.n_sums (by assumption)) | (with_reducible exact Wm.RunC.n_size (by assumption)) | (with_reducible exact Wm.RunC.n_drift (by assumption)) | (with_reducible exact Wm.HistoryC.n_shifts (by assumption)) | (with_reducible exact Wm.HistoryC.n_added (by assumption)) | (with_reducible exact Wm.HistoryC.n_floor (by assumption)) | (with_reducible exact Wm.HistoryC.n_ceiling (by assumption)) | (with_reducible exact Wm.HistoryC.n_was_heating (by assumption)) | (with_reducible exact Wm.HistoryC.n_runs (by assumption)) | (with_reducible exact Wm.HistoryC.n_loop (by assumption)) | (with_reducible exact Wm.ThresholdObserverC.n_outside (by assumption)) | (with_reducible exact Wm.ThresholdObserverC.n_power (by assumption)) | (with_reducible exact Wm.ThresholdObserverC.n_tick (by assumption)) | (with_reducible exact Wm.ThresholdObserverC.n_degrees (by assumption)) | (with_reducible exact Wm.ThresholdObserverC.n_is_heating (by assumption)) | (with_reducible exact Wm.ThresholdObserverC.n_lows (by assumption)) | (with_reducible exact Wm.ThresholdObserverC.n_highs (by assumption)) | (with_reducible exact Wm.ThresholdObserverC.n_noted (by assumption)) | (with_reducible exact Wm.SettingC.n_least (by assumption)) | (with_reducible exact Wm.SettingC.n_most (by assumption)) | (with_reducible exact Wm.HourSettingC.n_least (by assumption)) | (with_reducible exact Wm.HourSettingC.n_most (by assumption)) | (with_reducible exact Wm.HourSettingC.n_length (by assumption)) | (with_reducible exact Wm.HourSettingC.n_hours (by assumption)) | (with_reducible exact Wm.RestSettingC.n_least (by assumption)) | (with_reducible exact Wm.RestSettingC.n_most (by assumption)) | (with_reducible exact Wm.RestSettingC.n_rest (by assumption)) | (with_reducible exact Wm.PricesC.n_table (by assumption)) | (with_reducible exact Wm.MomentC.n_tick (by assumption)) | (with_reducible exact Wm.MomentC.n_heat (by assumption)) | (with_reducible exact Wm.MomentC.n_on (by assumption)) | (with_reducible exact Wm.MomentC.n_burnt (by assumption)) | (with_reducible exact Wm.MomentC.n_sky (by assumption)) | (with_reducible exact Wm.MomentC.n_stove (by assumption)) | (with_reducible exact Wm.LiveRoomC.n_moment (by assumption)) | (with_reducible exact Wm.LiveRoomC.n_earlier (by assumption)) | (with_reducible exact Wm.LiveRoomC.n_done (by assumption)) | (with_reducible exact Wm.AttemptC.n_live (by assumption)) | (with_reducible exact Wm.AttemptC.n_kept (by assumption)) | (with_reducible exact Wm.AttemptC.n_stack (by assumption)) | (with_reducible exact Wm.AttemptC.n_steps (by assumption)))
local macro_rules | `(tactic| walk_at "at") => `(tactic| first | assumption | exact Wm.Hold.rd (by assumption) (by assumption) | exact Wm.Hold.get (i := 0) (by assumption) rfl | exact Wm.Hold.get (i := 1) (by assumption) rfl | exact Wm.Hold.get (i := 2) (by assumption) rfl | exact Wm.Hold.get (i := 3) (by assumption) rfl | exact Wm.Hold.get (i := 4) (by assumption) rfl)
local macro_rules | `(tactic| walk_at "s1") => `(tactic| first
  | (with_reducible refine Wm.r_seq ?_)
  | (with_reducible refine Wm.r_op ?_)
  | ((with_reducible refine' Wm.r_var ?h ?_); (case h => rfl))
  | (with_reducible refine Wm.r_c ?_)
  | (with_reducible refine Wm.r_I0 ?_)
  | (with_reducible refine Wm.r_cons ?_)
  | (with_reducible refine Wm.r_nil ?_)
  | (with_reducible refine Wm.r_asg ?_)
  | (with_reducible refine Wm.r_gname ?_; try simp only [List.set_cons_zero, List.set_cons_succ])
  | (with_reducible refine Wm.r_nx ?_)
  | (with_reducible refine Wm.r_rt ?_)
  | (with_reducible refine Wm.r_ret ?_)
  | (with_reducible refine Wm.r_test ?_)
  | (with_reducible refine Wm.r_bl ?_)
  | (with_reducible refine Wm.r_B ?_)
  | (with_reducible refine Wm.r_eqI ?_)
  | (with_reducible refine Wm.r_neI ?_)
  | (with_reducible refine Wm.r_eqB ?_)
  | (with_reducible refine Wm.r_neB ?_)
  | (with_reducible refine Wm.r_fld ?_)
  | (with_reducible refine Wm.r_call ?_)
  | (with_reducible refine Wm.r_mtd ?_)
  | (with_reducible refine Wm.r_prp ?_)
  | (with_reducible refine Wm.r_mak ?_)
  | (with_reducible refine Wm.r_cb ?_)
  | (with_reducible refine Wm.r_tup ?_)
  | (with_reducible refine Wm.r_lst ?_)
  | (with_reducible refine Wm.r_chain ?_)
  | (with_reducible refine Wm.r_and ?_)
  | (with_reducible refine Wm.r_or ?_)
  | (with_reducible refine Wm.r_not ?_)
  | (with_reducible refine Wm.r_andV ?_)
  | (with_reducible refine Wm.r_orV ?_)
  | (with_reducible refine Wm.r_notV ?_)
  | (with_reducible refine Wm.r_if ?_)
  | (with_reducible refine Wm.r_un ?_)
  | (with_reducible refine Wm.r_U ?_)
  | (with_reducible refine Wm.r_iteT ?_)
  | (with_reducible refine Wm.r_iteF ?_)
  | (with_reducible refine Wm.r_next ?_)
  | (with_reducible refine Wm.r_drop ?_)
  | (with_reducible refine Wm.r_retN ?_)
  | ((with_reducible refine' Wm.r_aug ?h ?_); (case h => rfl))
  | (with_reducible refine Wm.r_ipI ?_)
  | (with_reducible refine Wm.r_par2 ?_)
  | (with_reducible refine Wm.r_two ?_; try simp only [List.set_cons_zero, List.set_cons_succ])
  | (with_reducible refine Wm.r_yes ?_)
  | (with_reducible refine Wm.r_forET ?_)
  | (with_reducible refine Wm.r_chain3 ?_)
  | (with_reducible refine Wm.r_nT ?_)
  | (with_reducible refine Wm.r_nF ?_)
  | (with_reducible refine Wm.r_par3 ?_)
  | (with_reducible refine Wm.r_seenPut ?_)
  | (with_reducible refine Wm.r_seenGet ?_)
  | (with_reducible refine Wm.r_three ?_; try simp only [List.set_cons_zero, List.set_cons_succ])
  | (with_reducible refine Wm.r_sl ?_)
  | (with_reducible refine Wm.r_nopart ?_)
  | (with_reducible refine Wm.r_part ?_)
  | (with_reducible refine Wm.r_xi ?_)
  | (with_reducible refine Wm.r_gcons ?_)
  | (with_reducible refine Wm.r_gnil ?_)
  | (with_reducible refine Wm.r_sub ?_)
  | (with_reducible refine Wm.r_setF ?_)
  | (with_reducible refine Wm.r_app ?_)
  | (with_reducible refine Wm.int_i ?_)
  | (with_reducible refine Wm.int_b ?_)
  | (with_reducible refine Wm.min2 ?_)
  | (with_reducible refine Wm.max2 ?_)
  | (with_reducible refine Wm.abs1 ?_)
  | (with_reducible refine Wm.isN ?_)
  | (with_reducible refine Wm.notN ?_)
  | ((with_reducible refine' Wm.r_ty ?e ?_); (case e => walk_at "at"))
  | ((with_reducible refine' Wm.setF_m ?h 0 ?e ?c ?a ?l ?_); (case h => assumption); (case e => rfl); (case c => walk_at "cls"); (case a => walk_at "noattr"); (case l => exact of_decide_eq_true rfl); intro H1 hh1; simp only [List.set_cons_zero, List.set_cons_succ] at hh1)
  | ((with_reducible refine' Wm.setF_m ?h 1 ?e ?c ?a ?l ?_); (case h => assumption); (case e => rfl); (case c => walk_at "cls"); (case a => walk_at "noattr"); (case l => exact of_decide_eq_true rfl); intro H1 hh1; simp only [List.set_cons_zero, List.set_cons_succ] at hh1)
  | ((with_reducible refine' Wm.setF_m ?h 2 ?e ?c ?a ?l ?_); (case h => assumption); (case e => rfl); (case c => walk_at "cls"); (case a => walk_at "noattr"); (case l => exact of_decide_eq_true rfl); intro H1 hh1; simp only [List.set_cons_zero, List.set_cons_succ] at hh1)
  | ((with_reducible refine' Wm.setF_m ?h 3 ?e ?c ?a ?l ?_); (case h => assumption); (case e => rfl); (case c => walk_at "cls"); (case a => walk_at "noattr"); (case l => exact of_decide_eq_true rfl); intro H1 hh1; simp only [List.set_cons_zero, List.set_cons_succ] at hh1)
  | (with_reducible refine Wm.r_forL ?_)
  | (with_reducible refine Wm.r_forT ?_)
  | (with_reducible refine Wm.r_forR1 ?_)
  | (with_reducible refine Wm.r_forR2 ?_)
  | (with_reducible refine Wm.r_lcL ?_)
  | (with_reducible refine Wm.r_lcT ?_)
  | (with_reducible refine Wm.r_lcR1 ?_)
  | (with_reducible refine Wm.r_lcR2 ?_)
  | ((with_reducible refine' Wm.fld_h ?e ?c ?n ?l ?_); (case e => walk_at "at"); (case c => walk_at "cls"); (case n => walk_at "noattr"); (case l => rfl))
  | ((with_reducible refine' Wm.mtd_h ?e ?l ?_); (case e => walk_at "at"); (case l => rfl))
  | ((with_reducible refine' Wm.prp_h ?e ?_); (case e => walk_at "at"))
  | ((with_reducible refine' Wm.rix_ht ?a ?b ?_); (case a => walk_at "at"); (case b => rfl))
  | ((with_reducible refine' Wm.rix_h ?a ?b ?_); (case a => walk_at "at"); (case b => rfl))
  | ((with_reducible refine' Wm.len_ht ?a ?_); (case a => walk_at "at"))
  | ((with_reducible refine' Wm.len_h ?a ?_); (case a => walk_at "at"))
  | ((with_reducible refine' Wm.len_l ?a ?b ?_); (case a => assumption); (case b => assumption))
  | ((with_reducible refine' Wm.len_t ?a ?b ?_); (case a => assumption); (case b => assumption))
  | ((with_reducible refine' Wm.gtup_h ?a ?b ?_); (case a => walk_at "at"); (case b => rfl))
  | (with_reducible refine Wm.r_I (Wm.cmulR (by decide)) ?_)
  | (with_reducible refine Wm.r_I (Wm.cmulL (by decide)) ?_)
  | (with_reducible refine Wm.r_I (Wm.cdiv (by decide) (by decide)) ?_)
  | (with_reducible refine Wm.r_I Wm.cpow18 ?_)
  | (with_reducible refine Wm.r_I Wm.cpow12 ?_)
  | (with_reducible refine Wm.r_I (by show (0 : Int) < _; decide) ?_))
local macro_rules | `(tactic| walk_at "s") => `(tactic| repeat (first | walk_at "s1" | (with_reducible refine Wm.r_ifS ?_)))
local macro_rules | `(tactic| walk_at "t") => `(tactic| repeat (walk_at "s1"))
local macro_rules | `(tactic| walk_at "sz") => `(tactic| exact of_decide_eq_true rfl)
local macro_rules | `(tactic| walk_at "d") => `(tactic| first | (refine Wm.r_dT (by omega) ?_) | (refine Wm.r_dF (by omega) ?_) | (refine Wm.r_dN (by omega) ?_) | (refine Wm.r_dM (by omega) ?_))
local macro_rules | `(tactic| walk_at "sd") => `(tactic| repeat (first | walk_at "s1" | (with_reducible refine Wm.r_ifS ?_) | walk_at "d"))
namespace Wm
open PySem PySem.Spec PyProof.Rows L2 StX
/-! ## Rooms -/
def roomF (w h pa : Addr) (start : Int) (vr vs vc vw : V) : List (Str × V) := [("outside", .ref w), ("inside", .ref h), ("begin_degrees", .int start), ("past", .ref pa), ("repeated", vr), ("share", vs), ("coldest", vc), ("warmest", vw)]
structure RoomD where
  w : Addr
  wt : Addr
  h : Addr
  pa : Addr
  P : Par
  rs : List RunD
  loop : Option Int
structure IsRoom (K : PySem.W.Frag) (A : Ads) (H : Hp) (p : Addr) (R : RoomD) : Prop where
  cl : RoomC K A.cRoom
  w_ : IsWeather K A H R.w R.wt R.P.ch
  h_ : IsHeater K A H R.h R.P.gain R.P.lo R.P.hi
  pa_ : IsHist K A H R.pa R.P R.rs R.loop
  ob : ∃ (dx : Addr) (vr vs vc vw : V) (o1 o2 : Option (Int × Int)), H p = some (.ins A.cRoom dx (roomF R.w R.h R.pa R.P.start vr vs vc vw)) ∧ OptAt H vr (repO R.rs R.loop) ∧ OptAt H vs (some (share R.rs R.loop)) ∧
    Ext R.P R.rs R.loop (-1) o1 ∧ OptAt H vc o1 ∧ Ext R.P R.rs R.loop 1 o2 ∧ OptAt H vw o2
theorem IsRoom.up {K : PySem.W.Frag} {A : Ads} {G H : Hp} {p : Addr} {R : RoomD} (e : Ex G H) (h : IsRoom K A G p R) : IsRoom K A H p R := by
  obtain ⟨a, b, c, d, dx, vr, vs, vc, vw, o1, o2, h1, h2, h3, h4, h5, h6, h7⟩ := h
  exact ⟨a, b.up e, c.up e, d.up e, dx, vr, vs, vc, vw, o1, o2, e _ _ h1, h2.up e, h3.up e, h4, h5.up e, h6, h7.up e⟩
theorem par_of {P : Par} (hw : WOk P.ch) (hh : HtOk P.gain P.lo P.hi) (s1 : -(10 ^ 12) ≤ P.start) (s2 : P.start ≤ 10 ^ 12) : ParOk P := by
  obtain ⟨a, b, c⟩ := hw
  obtain ⟨d, e, f, g, h⟩ := hh
  exact ⟨a, b, c, d, e, g, f, h, s1, s2⟩
def sp_Room_init (K : PySem.W.Frag) (A : Ads) : Sp := fun vs H Q _ => ∃ (p dx w wt h : Addr) (P : Par) (G : Hp) (mu : Mu), vs = [.ref p, .ref w, .ref h, .int P.start, .bl P.was] ∧ RoomC K A.cRoom ∧ HistoryC K A.cHistory ∧ RunC K A.cRun ∧
  IsWeather K A G w wt P.ch ∧ IsHeater K A G h P.gain P.lo P.hi ∧ -(10 ^ 12) ≤ P.start ∧ P.start ≤ 10 ^ 12 ∧ Hold G ((p, .ins A.cRoom dx []) :: mu) H ∧
  ∀ (rs : List RunD) (loop : Option Int) (pa : Addr) (G' H' : Hp), Ex G G' → IsRoom K A G' p ⟨w, wt, h, pa, P, rs, loop⟩ → Hold G' mu H' → Q .non H'
def sp_Room_weather (K : PySem.W.Frag) (A : Ads) : Sp := fun vs H Q _ => ∃ (p : Addr) (R : RoomD), vs = [.ref p] ∧ IsRoom K A H p R ∧ Q (.ref R.w) H
def sp_Room_heater (K : PySem.W.Frag) (A : Ads) : Sp := fun vs H Q _ => ∃ (p : Addr) (R : RoomD), vs = [.ref p] ∧ IsRoom K A H p R ∧ Q (.ref R.h) H
def sp_Room_start (K : PySem.W.Frag) (A : Ads) : Sp := fun vs H Q _ => ∃ (p : Addr) (R : RoomD), vs = [.ref p] ∧ IsRoom K A H p R ∧ Q (.int R.P.start) H
def sp_Room_repetition (K : PySem.W.Frag) (A : Ads) : Sp := fun vs H Q _ => ∃ (p dx w h pa : Addr) (s : Int) (vr v2 vc vw : V), vs = [.ref p] ∧ RoomC K A.cRoom ∧ H p = some (.ins A.cRoom dx (roomF w h pa s vr v2 vc vw)) ∧ Q vr H
def sp_Room_heating_share (K : PySem.W.Frag) (A : Ads) : Sp := fun vs H Q _ => ∃ (p dx w h pa : Addr) (s : Int) (vr v2 vc vw : V), vs = [.ref p] ∧ RoomC K A.cRoom ∧ H p = some (.ins A.cRoom dx (roomF w h pa s vr v2 vc vw)) ∧ Q v2 H
def sp_Room_lowest (K : PySem.W.Frag) (A : Ads) : Sp := fun vs H Q _ => ∃ (p dx w h pa : Addr) (s : Int) (vr v2 vc vw : V), vs = [.ref p] ∧ RoomC K A.cRoom ∧ H p = some (.ins A.cRoom dx (roomF w h pa s vr v2 vc vw)) ∧ Q vc H
def sp_Room_highest (K : PySem.W.Frag) (A : Ads) : Sp := fun vs H Q _ => ∃ (p dx w h pa : Addr) (s : Int) (vr v2 vc vw : V), vs = [.ref p] ∧ RoomC K A.cRoom ∧ H p = some (.ins A.cRoom dx (roomF w h pa s vr v2 vc vw)) ∧ Q vw H
def sp_Room_temperature (K : PySem.W.Frag) (A : Ads) : Sp := fun vs H Q _ => ∃ (p : Addr) (R : RoomD) (t : Int), vs = [.ref p, .int t] ∧ IsRoom K A H p R ∧ 0 ≤ t ∧ t ≤ 10 ^ 18 ∧ ∀ H', Ex H H' → Q (.int (dAt R.P t)) H'
def sp_Room_is_on (K : PySem.W.Frag) (A : Ads) : Sp := fun vs H Q _ => ∃ (p : Addr) (R : RoomD) (t : Int), vs = [.ref p, .int t] ∧ IsRoom K A H p R ∧ 0 ≤ t ∧ t ≤ 10 ^ 18 ∧ ∀ H', Ex H H' → Q (.bl (oAt R.P t)) H'
def sp_Room_loop_begin (K : PySem.W.Frag) (A : Ads) : Sp := fun vs H Q _ => ∃ (p : Addr) (R : RoomD) (j : Int), vs = [.ref p] ∧ IsRoom K A H p R ∧ R.loop = some j ∧ Q (.int (begAt R.rs j)) H
def t_Room_init (K : PySem.W.Frag) (A : Ads) : TS := tSeq (tDrop (tCal (sp_validate_number K A) E0 (tCons (tVar 3) (tCons (tOp (rI0 fun i j => .int (i - j)) (tC (.int 0)) (tC (.int 1000000000000))) (tCons (tC (.int 1000000000000)) (tNil)))))) (tSeq (sFld K (tVar 0) (tVar 1) "outside") (tSeq (sFld K (tVar 0) (tVar 2) "inside") (tSeq (sFld K (tVar 0) (tVar 3) "begin_degrees") (tSeq (sFld K (tVar 0) (tMak A.cHistory (sp_History_init K A) E0 (tCons (tPrp A.cWeather (sp_Weather_changes K A) E0 (tVar 1)) (tCons (tPrp A.cHeater (sp_Heater_gain K A) E0 (tVar 2)) (tCons (tPrp A.cHeater (sp_Heater_low K A) E0 (tVar 2)) (tCons (tPrp A.cHeater (sp_Heater_high K A) E0 (tVar 2)) (tCons (tVar 3) (tCons (tVar 4) (tNil)))))))) "past") (tSeq (sFld K (tVar 0) (tCal (sp_repetition_of K A) E0 (tCons (tFld K (tVar 0) "past") (tNil))) "repeated") (tSeq (sFld K (tVar 0) (tCal (sp_share_of K A) E0 (tCons (tFld K (tVar 0) "past") (tNil))) "share") (tSeq (sFld K (tVar 0) (tCal (sp_extreme_of K A) E0 (tCons (tFld K (tVar 0) "past") (tCons (tUn (rU fun i => .int (-i)) (tC (.int 1))) (tNil)))) "coldest") (sFld K (tVar 0) (tCal (sp_extreme_of K A) E0 (tCons (tFld K (tVar 0) "past") (tCons (tC (.int 1)) (tNil)))) "warmest"))))))))
def t_Room_weather (K : PySem.W.Frag) (A : Ads) : TS := tRet (tFld K (tVar 0) "outside")
def t_Room_heater (K : PySem.W.Frag) (A : Ads) : TS := tRet (tFld K (tVar 0) "inside")
def t_Room_start (K : PySem.W.Frag) (A : Ads) : TS := tRet (tFld K (tVar 0) "begin_degrees")
def t_Room_is_on (K : PySem.W.Frag) (A : Ads) : TS := tSeq (tDrop (tCal (sp_validate_number K A) E0 (tCons (tVar 1) (tCons (tC (.int 0)) (tCons (tC (.int 1000000000000000000)) (tNil)))))) (tRet (tFld K (tMtd A.cHistory "run_at" (sp_History_run_at K A) E0 (tFld K (tVar 0) "past") (tCons (tOp (rIx K) (tMtd A.cHistory "wrapped" (sp_History_wrapped K A) E0 (tFld K (tVar 0) "past") (tCons (tVar 1) (tNil))) (tC (.int 1))) (tNil))) "is_heating"))
def t_Room_loop_begin (K : PySem.W.Frag) (A : Ads) : TS := tRet (tFld K (tOp (rIx K) (tFld K (tFld K (tVar 0) "past") "runs") (tFld K (tFld K (tVar 0) "past") "loop")) "begin")
def t_Room_repetition (K : PySem.W.Frag) (A : Ads) : TS := tRet (tFld K (tVar 0) "repeated")
def t_Room_heating_share (K : PySem.W.Frag) (A : Ads) : TS := tRet (tFld K (tVar 0) "share")
def t_Room_temperature (K : PySem.W.Frag) (A : Ads) : TS := tSeq (tDrop (tCal (sp_validate_number K A) E0 (tCons (tVar 1) (tCons (tC (.int 0)) (tCons (tC (.int 1000000000000000000)) (tNil)))))) (tSeq (tAsg (tOp (rIx K) (tMtd A.cHistory "wrapped" (sp_History_wrapped K A) E0 (tFld K (tVar 0) "past") (tCons (tVar 1) (tNil))) (tC (.int 1))) (gName 2)) (tRet (tMtd A.cRun "at" (sp_Run_at K A) E0 (tMtd A.cHistory "run_at" (sp_History_run_at K A) E0 (tFld K (tVar 0) "past") (tCons (tVar 2) (tNil))) (tCons (tVar 2) (tNil)))))
def t_Room_lowest (K : PySem.W.Frag) (A : Ads) : TS := tRet (tFld K (tVar 0) "coldest")
def t_Room_highest (K : PySem.W.Frag) (A : Ads) : TS := tRet (tFld K (tVar 0) "warmest")
section
variable {K : PySem.W.Frag} {A : Ads}
theorem pure_Room_init (vs : List V) (H : Hp) (Q : VK) (E : XK) (h : sp_Room_init K A vs H Q E) : t_Room_init K A { nx := fun _ H' => Q .non H', rt := Q } (start ["self", "weather", "heater", "start", "on"] vs) H := by
  obtain ⟨p, dx, w, wt, hh, P, G, mu, rfl, TR, TH, TU, iw, ih, s1, s2, ho, k⟩ := h
  have hpo : ParOk P := par_of iw.2.1 ih.2.1 s1 s2
  show t_Room_init K A _ [some (.ref p), some (.ref w), some (.ref hh), some (.int P.start), some (.bl P.was)] H
  unfold t_Room_init
  walk_at "s"
  refine ⟨P.start, 0 - 1000000000000, 1000000000000, rfl, by omega, by omega, ?_⟩
  obtain ⟨_, _, dxw, hw1, hw2⟩ := id iw
  obtain ⟨_, _, dxh, hh1⟩ := id ih
  walk_at "s"
  rename_i H1 ho1 H2 ho2 H3 ho3
  have hW := ho3.rd hw1
  have hH := ho3.rd hh1
  refine ⟨w, wt, P.ch, rfl, iw.up ho3.ex, ?_⟩
  walk_at "s"
  refine ⟨hh, _, _, _, rfl, ih.up ho3.ex, ?_⟩
  walk_at "s"
  refine ⟨hh, _, _, _, rfl, ih.up ho3.ex, ?_⟩
  walk_at "s"
  refine ⟨hh, _, _, _, rfl, ih.up ho3.ex, ?_⟩
  walk_at "s"
  refine make_m ho3 fun x dx' H4 ho4 => ⟨x, dx', wt, P, G, _, rfl, TH, TU, hpo, ho4, hw2, fun rs loop G5 H5 ex5 ihi ho5 => ⟨rfl, ?_⟩⟩
  walk_at "s"
  rename_i H6 ho6
  refine ⟨x, P, rs, loop, rfl, ihi.up ho6.ex, opt_G ho6 fun vr G7 H7 ex7 oa7 ho7 => ?_⟩
  walk_at "s"
  rename_i H8 ho8
  refine ⟨x, P, rs, loop, rfl, (ihi.up ex7).up ho8.ex, opt_G ho8 fun vs' G9 H9 ex9 oa9 ho9 => ?_⟩
  walk_at "s"
  rename_i H10 ho10
  refine ⟨x, -1, P, rs, loop, rfl, ((ihi.up ex7).up ex9).up ho10.ex, .inr rfl, fun o1 he1 => opt_G ho10 fun vc G11 H11 ex11 oa11 ho11 => ?_⟩
  walk_at "s"
  rename_i H12 ho12
  refine ⟨x, 1, P, rs, loop, rfl, (((ihi.up ex7).up ex9).up ex11).up ho12.ex, .inl rfl, fun o2 he2 => opt_G ho12 fun vw G13 H13 ex13 oa13 ho13 => ?_⟩
  walk_at "s"
  rename_i H14 ho14
  have e15 := ho14.frz_ex
  have all : Ex G _ := ex5.trans (ex7.trans (ex9.trans (ex11.trans (ex13.trans e15))))
  exact k rs loop x _ _ all ⟨TR, iw.up all, ih.up all, ihi.up (ex7.trans (ex9.trans (ex11.trans (ex13.trans e15)))), dx, vr, vs', vc, vw, o1, o2, upd_same, oa7.up (ex9.trans (ex11.trans (ex13.trans e15))), oa9.up (ex11.trans (ex13.trans e15)), he1, oa11.up (ex13.trans e15), he2, oa13.up e15⟩ ho14.frz
theorem pure_Room_weather (vs : List V) (H : Hp) (Q : VK) (E : XK) (h : sp_Room_weather K A vs H Q E) : t_Room_weather K A { nx := fun _ H' => Q .non H', rt := Q } (start ["self"] vs) H := by
  obtain ⟨p, R, rfl, ⟨cl, iw, ih, ip, dx, vr, vs, vc, vw, o1, o2, h1, _⟩, k⟩ := h
  show t_Room_weather K A _ [some (.ref p)] H
  unfold t_Room_weather
  walk_at "s"
  exact k
theorem pure_Room_heater (vs : List V) (H : Hp) (Q : VK) (E : XK) (h : sp_Room_heater K A vs H Q E) : t_Room_heater K A { nx := fun _ H' => Q .non H', rt := Q } (start ["self"] vs) H := by
  obtain ⟨p, R, rfl, ⟨cl, iw, ih, ip, dx, vr, vs, vc, vw, o1, o2, h1, _⟩, k⟩ := h
  show t_Room_heater K A _ [some (.ref p)] H
  unfold t_Room_heater
  walk_at "s"
  exact k
theorem pure_Room_start (vs : List V) (H : Hp) (Q : VK) (E : XK) (h : sp_Room_start K A vs H Q E) : t_Room_start K A { nx := fun _ H' => Q .non H', rt := Q } (start ["self"] vs) H := by
  obtain ⟨p, R, rfl, ⟨cl, iw, ih, ip, dx, vr, vs, vc, vw, o1, o2, h1, _⟩, k⟩ := h
  show t_Room_start K A _ [some (.ref p)] H
  unfold t_Room_start
  walk_at "s"
  exact k
theorem rp_rep {G H : Hp} {p : Addr} {R : RoomD} {Q : VK} {E : XK} (ir : IsRoom K A G p R) (e : Ex G H) (k : ∀ v, OptAt G v (repO R.rs R.loop) → Q v H) : sp_Room_repetition K A [.ref p] H Q E := by
  obtain ⟨cl, iw, ih, ip, dx, vr, vs, vc, vw, o1, o2, h1, h2, h3, h4, h5, h6, h7⟩ := ir
  exact ⟨p, dx, _, _, _, _, vr, vs, vc, vw, rfl, cl, e _ _ h1, k _ h2⟩
theorem rp_share {G H : Hp} {p : Addr} {R : RoomD} {Q : VK} {E : XK} (ir : IsRoom K A G p R) (e : Ex G H) (k : ∀ v, OptAt G v (some (share R.rs R.loop)) → Q v H) : sp_Room_heating_share K A [.ref p] H Q E := by
  obtain ⟨cl, iw, ih, ip, dx, vr, vs, vc, vw, o1, o2, h1, h2, h3, h4, h5, h6, h7⟩ := ir
  exact ⟨p, dx, _, _, _, _, vr, vs, vc, vw, rfl, cl, e _ _ h1, k _ h3⟩
theorem rp_lowest {G H : Hp} {p : Addr} {R : RoomD} {Q : VK} {E : XK} (ir : IsRoom K A G p R) (e : Ex G H) (k : ∀ v o, Ext R.P R.rs R.loop (-1) o → OptAt G v o → Q v H) : sp_Room_lowest K A [.ref p] H Q E := by
  obtain ⟨cl, iw, ih, ip, dx, vr, vs, vc, vw, o1, o2, h1, h2, h3, h4, h5, h6, h7⟩ := ir
  exact ⟨p, dx, _, _, _, _, vr, vs, vc, vw, rfl, cl, e _ _ h1, k _ _ h4 h5⟩
theorem rp_highest {G H : Hp} {p : Addr} {R : RoomD} {Q : VK} {E : XK} (ir : IsRoom K A G p R) (e : Ex G H) (k : ∀ v o, Ext R.P R.rs R.loop 1 o → OptAt G v o → Q v H) : sp_Room_highest K A [.ref p] H Q E := by
  obtain ⟨cl, iw, ih, ip, dx, vr, vs, vc, vw, o1, o2, h1, h2, h3, h4, h5, h6, h7⟩ := ir
  exact ⟨p, dx, _, _, _, _, vr, vs, vc, vw, rfl, cl, e _ _ h1, k _ _ h6 h7⟩
theorem pure_Room_repetition (vs : List V) (H : Hp) (Q : VK) (E : XK) (h : sp_Room_repetition K A vs H Q E) : t_Room_repetition K A { nx := fun _ H' => Q .non H', rt := Q } (start ["self"] vs) H := by
  obtain ⟨p, dx, w, h, pa, s, vr, v2, vc, vw, rfl, cl, h1, k⟩ := h
  show t_Room_repetition K A _ [some (.ref p)] H
  unfold t_Room_repetition
  walk_at "s"
  exact k
theorem pure_Room_heating_share (vs : List V) (H : Hp) (Q : VK) (E : XK) (h : sp_Room_heating_share K A vs H Q E) : t_Room_heating_share K A { nx := fun _ H' => Q .non H', rt := Q } (start ["self"] vs) H := by
  obtain ⟨p, dx, w, h, pa, s, vr, v2, vc, vw, rfl, cl, h1, k⟩ := h
  show t_Room_heating_share K A _ [some (.ref p)] H
  unfold t_Room_heating_share
  walk_at "s"
  exact k
theorem pure_Room_lowest (vs : List V) (H : Hp) (Q : VK) (E : XK) (h : sp_Room_lowest K A vs H Q E) : t_Room_lowest K A { nx := fun _ H' => Q .non H', rt := Q } (start ["self"] vs) H := by
  obtain ⟨p, dx, w, h, pa, s, vr, v2, vc, vw, rfl, cl, h1, k⟩ := h
  show t_Room_lowest K A _ [some (.ref p)] H
  unfold t_Room_lowest
  walk_at "s"
  exact k
theorem pure_Room_highest (vs : List V) (H : Hp) (Q : VK) (E : XK) (h : sp_Room_highest K A vs H Q E) : t_Room_highest K A { nx := fun _ H' => Q .non H', rt := Q } (start ["self"] vs) H := by
  obtain ⟨p, dx, w, h, pa, s, vr, v2, vc, vw, rfl, cl, h1, k⟩ := h
  show t_Room_highest K A _ [some (.ref p)] H
  unfold t_Room_highest
  walk_at "s"
  exact k
theorem pure_Room_loop_begin (vs : List V) (H : Hp) (Q : VK) (E : XK) (h : sp_Room_loop_begin K A vs H Q E) : t_Room_loop_begin K A { nx := fun _ H' => Q .non H', rt := Q } (start ["self"] vs) H := by
  obtain ⟨p, R, j, rfl, ⟨cl, iw, ih, ip, dx, vr, vs, vc, vw, o1, o2, h1, _⟩, hj, k⟩ := h
  obtain ⟨w, wt, hh, pa, P, rs, loop⟩ := R
  simp only at hj
  subst hj
  obtain ⟨TH, TR, hok, dx1, sh, ru, ras, g1, g2, g3, g4⟩ := id ip
  obtain ⟨j0, r, l, e, hjr, hl, he, _⟩ := hok.v.shut j rfl
  obtain ⟨a, dx2, s1, i1, ir1, q1⟩ := IsHist.num g4 j0 hjr
  simp only [begAt_of hjr] at k
  simp only at h1
  show t_Room_loop_begin K A _ [some (.ref p)] H
  unfold t_Room_loop_begin
  walk_at "s"
  refine rix_h g3 i1 ?_
  walk_at "s"
  exact k
theorem pure_Room_temperature (vs : List V) (H : Hp) (Q : VK) (E : XK) (h : sp_Room_temperature K A vs H Q E) : t_Room_temperature K A { nx := fun _ H' => Q .non H', rt := Q } (start ["self", "tick", "place"] vs) H := by
  obtain ⟨p, R, t, rfl, ⟨cl, iw, ih, ip, dx, vr, vs, vc, vw, o1, o2, h1, _⟩, t0, t1, k⟩ := h
  obtain ⟨TH, TR, hok, dx1, sh, ru, ras, g1, g2, g3, g4⟩ := id ip
  have wr := hok.v.wrap t0
  show t_Room_temperature K A _ [some (.ref p), some (.int t), none] H
  unfold t_Room_temperature
  walk_at "s"
  refine ⟨t, 0, _, rfl, t0, by omega, ?_⟩
  walk_at "s"
  refine ⟨R.pa, t, R.P, R.rs, R.loop, rfl, ip, fun q H1 ex1 hq hq1 => ?_⟩
  have h11 := ex1 _ _ h1
  have g11 := ex1 _ _ g1
  walk_at "s"
  refine ⟨R.pa, _, R.P, R.rs, R.loop, rfl, ip.up ex1, wr.p0, fun i a r hi hr hb hn => ?_⟩
  obtain ⟨_, _, dxr, sr, hor, _⟩ := id hr
  have pk := hok.v.pick hi hb hn wr.pl
  walk_at "s"
  refine ⟨a, _, r, rfl, hr, ?_⟩
  rw [← pk.1, wr.d]
  exact k H1 ex1
theorem pure_Room_is_on (vs : List V) (H : Hp) (Q : VK) (E : XK) (h : sp_Room_is_on K A vs H Q E) : t_Room_is_on K A { nx := fun _ H' => Q .non H', rt := Q } (start ["self", "tick"] vs) H := by
  obtain ⟨p, R, t, rfl, ⟨cl, iw, ih, ip, dx, vr, vs, vc, vw, o1, o2, h1, _⟩, t0, t1, k⟩ := h
  obtain ⟨TH, TR, hok, dx1, sh, ru, ras, g1, g2, g3, g4⟩ := id ip
  have wr := hok.v.wrap t0
  show t_Room_is_on K A _ [some (.ref p), some (.int t)] H
  unfold t_Room_is_on
  walk_at "s"
  refine ⟨t, 0, _, rfl, t0, by omega, ?_⟩
  walk_at "s"
  refine ⟨R.pa, t, R.P, R.rs, R.loop, rfl, ip, fun q H1 ex1 hq hq1 => ?_⟩
  have h11 := ex1 _ _ h1
  have g11 := ex1 _ _ g1
  walk_at "s"
  refine ⟨R.pa, _, R.P, R.rs, R.loop, rfl, ip.up ex1, wr.p0, fun i a r hi hr hb hn => ?_⟩
  obtain ⟨_, _, dxr, sr, hor, _⟩ := id hr
  have pk := hok.v.pick hi hb hn wr.pl
  walk_at "s"
  rw [← pk.2.1, wr.o]
  exact k H1 ex1
end
end Wm
end

section
/-! ## Heating ticks -/
namespace Wm
open PySem
def hN (P : Par) : Nat → Int
  | 0 => 0
  | t + 1 => hN P t + if oAt P t = true then 1 else 0
@[irreducible] def hAt (P : Par) (t : Int) : Int := hN P t.toNat
theorem h_zero (P : Par) : hAt P 0 = 0 := by unfold hAt; rfl
theorem h_succ (P : Par) {t : Int} (h : 0 ≤ t) : hAt P (t + 1) = hAt P t + if oAt P t = true then 1 else 0 := by
  unfold hAt
  rw [show (t + 1).toNat = t.toNat + 1 by omega]
  show hN P t.toNat + (if oAt P ((t.toNat : Nat) : Int) = true then 1 else 0) = _
  rw [Int.toNat_of_nonneg h]
theorem h_run (P : Par) {a : Int} (h0 : 0 ≤ a) {c : Bool} : ∀ n : Nat, (∀ u, a ≤ u → u < a + n → oAt P u = c) → hAt P (a + n) = hAt P a + if c = true then (n : Int) else 0
  | 0, _ => by rw [show a + ((0 : Nat) : Int) = a by omega]; split <;> omega
  | n + 1, h => by
    have ih := h_run P h0 n (fun u h1 h2 => h u h1 (by omega))
    rw [show a + ((n + 1 : Nat) : Int) = a + n + 1 by omega, h_succ P (by omega), ih, h (a + n) (by omega) (by omega)]
    cases c <;> simp <;> omega
theorem h_const (P : Par) {a b : Int} (h0 : 0 ≤ a) (hab : a ≤ b) {c : Bool} (h : ∀ u, a ≤ u → u < b → oAt P u = c) : hAt P b = hAt P a + if c = true then b - a else 0 := by
  have := h_run P h0 (c := c) (b - a).toNat (fun u h1 h2 => h u h1 (by omega))
  rw [show a + (((b - a).toNat : Nat) : Int) = b by omega, show (((b - a).toNat : Nat) : Int) = b - a by omega] at this
  exact this
theorem h_le (P : Par) {a : Int} (h0 : 0 ≤ a) : ∀ n : Nat, hAt P a ≤ hAt P (a + n) ∧ hAt P (a + n) ≤ hAt P a + n
  | 0 => by rw [show a + ((0 : Nat) : Int) = a by omega]; omega
  | n + 1 => by
    have := h_le P h0 n
    rw [show a + ((n + 1 : Nat) : Int) = a + n + 1 by omega, h_succ P (by omega)]
    split <;> omega
theorem h_mono (P : Par) {a b : Int} (h0 : 0 ≤ a) (hab : a ≤ b) : hAt P a ≤ hAt P b ∧ hAt P b ≤ hAt P a + (b - a) := by
  have := h_le P h0 (b - a).toNat
  rw [show a + (((b - a).toNat : Nat) : Int) = b by omega] at this
  omega
theorem h_nonneg (P : Par) {a : Int} (h0 : 0 ≤ a) : 0 ≤ hAt P a ∧ hAt P a ≤ a := by
  have := h_mono P (Int.le_refl 0) h0
  rw [h_zero] at this
  omega
theorem Shut.heat1 {P : Par} {rs : List RunD} {j : Int} (h : Shut P rs j) : ∀ n : Nat, hAt P (begAt rs j + n + circ rs j) = hAt P (begAt rs j + n) + (hAt P (finLast rs) - hAt P (begAt rs j))
  | 0 => by
    rw [show begAt rs j + ((0 : Nat) : Int) = begAt rs j by omega, show begAt rs j + circ rs j = finLast rs by unfold circ; omega]
    omega
  | n + 1 => by
    have ih := h.heat1 n
    have b0 := h.b0
    have c0 := h.c0
    have p := (h.per1 (t := begAt rs j + n) (by omega)).2
    rw [show begAt rs j + ((n + 1 : Nat) : Int) + circ rs j = begAt rs j + n + circ rs j + 1 by omega, show begAt rs j + ((n + 1 : Nat) : Int) = begAt rs j + n + 1 by omega, h_succ P (by omega), h_succ P (by omega), ih, p]
    omega
theorem Shut.heat {P : Par} {rs : List RunD} {j : Int} (h : Shut P rs j) {t : Int} (ht : begAt rs j ≤ t) : ∀ k : Nat, hAt P (t + k * circ rs j) = hAt P t + k * (hAt P (finLast rs) - hAt P (begAt rs j))
  | 0 => by simp
  | k + 1 => by
    have ih := h.heat ht k
    have c0 := h.c0
    have kc : 0 ≤ (k : Int) * circ rs j := Int.mul_nonneg (by omega) (by omega)
    have := h.heat1 (t + k * circ rs j - begAt rs j).toNat
    rw [show begAt rs j + (((t + k * circ rs j - begAt rs j).toNat : Nat) : Int) = t + k * circ rs j by omega] at this
    rw [show t + ((k + 1 : Nat) : Int) * circ rs j = t + k * circ rs j + circ rs j by rw [Int.natCast_add, Int.add_mul]; omega, this, ih, Int.natCast_add, Int.add_mul]
    omega
theorem Shut.heatI {P : Par} {rs : List RunD} {j : Int} (h : Shut P rs j) {t k : Int} (ht : begAt rs j ≤ t) (hk : 0 ≤ k) : hAt P (t + k * circ rs j) = hAt P t + k * (hAt P (finLast rs) - hAt P (begAt rs j)) := by
  have := h.heat ht k.toNat
  rw [Int.toNat_of_nonneg hk] at this
  exact this
/-- the ticks of heating of a run ahead of a tick -/
def heatIn (r : RunD) (t : Int) : Int := if r.on = true ∧ r.beg < t then (match r.fin with | none => t | some e => if t < e then t else e) - r.beg else 0
/-- where the runs up to number i end, but not behind t -/
def upTo (rs : List RunD) (t : Int) (i : Nat) : Int := match rs[i]? with | some r => if r.beg < t then r.beg else t | none => t
theorem heat_step {P : Par} {rs : List RunD} {loop : Option Int} (h : HistV P rs loop) {t : Int} (t0 : 0 ≤ t) (hl : loop = none ∨ t ≤ finLast rs) {i : Nat} {r : RunD} (hr : rs[i]? = some r) : hAt P (upTo rs t (i + 1)) = hAt P (upTo rs t i) + heatIn r t := by
  have v := h.each r (List.mem_of_getElem? hr)
  have b0 := v.b0
  have e1 : upTo rs t i = if r.beg < t then r.beg else t := by unfold upTo; rw [hr]
  have hil := (List.getElem?_eq_some_iff.mp hr).1
  -- the end that counts
  have e2 : upTo rs t (i + 1) = (match r.fin with | none => t | some e => if e < t then e else t) := by
    by_cases hn : i + 1 < rs.length
    · obtain ⟨r2, hr2⟩ := get_some hn
      have := (h.next i r r2 hr hr2).1
      unfold upTo
      rw [hr2, this]
    · have en : i = rs.length - 1 := by omega
      have : rs[i + 1]? = none := List.getElem?_eq_none (by omega)
      unfold upTo
      rw [this]
      cases hf : r.fin with
      | none => rfl
      | some e =>
        rw [en] at hr
        have fl := finLast_of hr hf
        rcases hl with hl | hl
        · subst hl
          obtain ⟨x, hx, hxf⟩ := h.open_ rfl
          rw [hr] at hx
          cases hx
          rw [hf] at hxf
          cases hxf
        · show t = if e < t then e else t
          rw [if_neg (by omega)]
  rw [e1, e2]
  by_cases hb : r.beg < t
  · rw [if_pos hb]
    have key : ∀ m, r.beg ≤ m → m ≤ t → (∀ e, r.fin = some e → m ≤ e) → hAt P m = hAt P r.beg + if r.on = true then m - r.beg else 0 := fun m m0 m1 m2 =>
      h_const P b0 m0 fun u u0 u1 => (v.sim u u0 fun e he => by have := m2 e he; omega).2
    unfold heatIn
    cases hf : r.fin with
    | none =>
      have := key t (by omega) (Int.le_refl _) (fun e he => by rw [hf] at he; cases he)
      simp only [hb, and_true]
      exact this
    | some e =>
      have fe := (v.fin e hf).1
      simp only [hb, and_true]
      by_cases hte : t < e
      · rw [if_neg (show ¬ e < t by omega), if_pos hte]
        exact key t (by omega) (Int.le_refl _) (fun e' he => by rw [hf] at he; cases he; omega)
      · rw [if_neg hte]
        by_cases het : e < t
        · rw [if_pos het]
          exact key e (by omega) (by omega) (fun e' he => by rw [hf] at he; cases he; omega)
        · have : e = t := by omega
          subst this
          rw [if_neg het]
          exact key e (by omega) (by omega) (fun e' he => by rw [hf] at he; cases he; omega)
  · have hz : heatIn r t = 0 := by unfold heatIn; rw [if_neg (fun z => hb z.2)]
    rw [if_neg hb, hz]
    cases hf : r.fin with
    | none => exact (Int.add_zero _).symm
    | some e =>
      have fe := (v.fin e hf).1
      simp only
      rw [if_neg (by omega)]
      exact (Int.add_zero _).symm
theorem heat_first {P : Par} {rs : List RunD} {loop : Option Int} (h : HistV P rs loop) {t : Int} (t0 : 0 ≤ t) : hAt P (upTo rs t 0) = 0 := by
  obtain ⟨r, hr, hb, _⟩ := h.first
  unfold upTo
  rw [hr]
  simp only
  split
  · rw [hb, h_zero]
  · rw [show t = 0 by omega, h_zero]
theorem heat_last (rs : List RunD) (t : Int) : upTo rs t rs.length = t := by
  unfold upTo
  rw [List.getElem?_eq_none (Nat.le_refl _)]
theorem HistV.heat_wrap {P : Par} {rs : List RunD} {loop : Option Int} (h : HistV P rs loop) {t : Int} (t0 : 0 ≤ t) :
    (wrapT rs loop t = 0 → hAt P t = hAt P (wrapP rs loop t)) ∧ (∀ j, loop = some j → 0 < wrapT rs loop t → hAt P t = hAt P (wrapP rs loop t) + wrapT rs loop t * (hAt P (finLast rs) - hAt P (begAt rs j))) := by
  have w := h.wrap t0
  refine ⟨fun z => by rw [w.zero z], fun j hj hp => ?_⟩
  subst hj
  obtain ⟨e, hb⟩ := w.eq j rfl
  have := h.shut_.heatI (t := wrapP rs (some j) t) (k := wrapT rs (some j) t) (hb hp) w.t0
  rw [← e] at this
  exact this
end Wm
end

section
local macro_rules | `(tactic| walk_at "cls") => `(tactic| first | (with_reducible exact Wm.WeatherC.cl (by assumption)) | (with_reducible exact Wm.HeaterC.cl (by assumption)) | (with_reducible exact Wm.RoomC.cl (by assumption)) | (with_reducible exact Wm.RunC.cl (by assumption)) | (with_reducible exact Wm.HistoryC.cl (by assumption)) | (with_reducible exact Wm.ThresholdObserverC.cl (by assumption)) | (with_reducible exact Wm.SettingC.cl (by assumption)) | (with_reducible exact Wm.HourSettingC.cl (by assumption)) | (with_reducible exact Wm.RestSettingC.cl (by assumption)) | (with_reducible exact Wm.PricesC.cl (by assumption)) | (with_reducible exact Wm.MomentC.cl (by assumption)) | (with_reducible exact Wm.LiveRoomC.cl (by assumption)) | (with_reducible exact Wm.AttemptC.cl (by assumption)))
local macro_rules | `(tactic| walk_at "noattr") => `(tactic| first | (with_reducible exact Wm.WeatherC.n_pattern (by assumption)) | (with_reducible exact Wm.HeaterC.n_power (by assumption)) | (with_reducible exact Wm.HeaterC.n_below (by assumption)) | (with_reducible exact Wm.HeaterC.n_above (by assumption)) | (with_reducible exact Wm.RoomC.n_outside (by assumption)) | (with_reducible exact Wm.RoomC.n_inside (by assumption)) | (with_reducible exact Wm.RoomC.n_begin_degrees (by assumption)) | (with_reducible exact Wm.RoomC.n_past (by assumption)) | (with_reducible exact Wm.RoomC.n_repeated (by assumption)) | (with_reducible exact Wm.RoomC.n_share (by assumption)) | (with_reducible exact Wm.RoomC.n_coldest (by assumption)) | (with_reducible exact Wm.RoomC.n_warmest (by assumption)) | (with_reducible exact Wm.RunC.n_begin (by assumption)) | (with_reducible exact Wm.RunC.n_end (by assumption)) | (with_reducible exact Wm.RunC.n_degrees (by assumption)) | (with_reducible exact Wm.RunC.n_is_heating (by assumption)) | (with_reducible exact Wm.RunC.n_sums (by assumption)) | (with_reducible exact Wm.RunC.n_size (by assumption)) | (with_reducible exact Wm.RunC.n_drift (by assumption)) | (with_reducible exact Wm.HistoryC.n_shifts (by assumption)) | (with_reducible exact Wm.HistoryC.n_added (by assumption)) | (with_reducible exact Wm.HistoryC.n_floor (by assumption)) | (with_reducible exact Wm.HistoryC.n_ceiling (by assumption)) | (with_reducible exact Wm.HistoryC.n_was_heating (by assumption)) | (with_reducible exact Wm.HistoryC.n_runs (by assumption)) | (with_reducible exact Wm.HistoryC.n_loop (by assumption)) | (with_reducible exact Wm.ThresholdObserverC.n_outside (by assumption)) | (with_reducible exact Wm.ThresholdObserverC.n_power (by assumption)) | (with_reducible exact Wm.ThresholdObserverC.n_tick (by assumption)) | (with_reducible exact Wm.ThresholdObserverC.n_degrees (by assumption)) | (with_reducible exact Wm.ThresholdObserverC.n_is_heating (by assumption)) | (with_reducible exact Wm.ThresholdObserverC.n_lows (by assumption)) | (with_reducible exact Wm.ThresholdObserverC.n_highs (by assumption)) | (with_reducible exact Wm.ThresholdObserverC.n_noted (by assumption)) | (with_reducible exact Wm.SettingC.n_least (by assumption)) | (with_reducible exact Wm.SettingC.n_most (by assumption)) | (with_reducible exact Wm.HourSettingC.n_least (by assumption)) | (with_reducible exact Wm.HourSettingC.n_most (by assumption)) | (with_reducible exact Wm.HourSettingC.n_length (by assumption)) | (with_reducible exact Wm.HourSettingC.n_hours (by assumption)) | (with_reducible exact Wm.RestSettingC.n_least (by assumption)) | (with_reducible exact Wm.RestSettingC.n_most (by assumption)) | (with_reducible exact Wm.RestSettingC.n_rest (by assumption)) | (with_reducible exact Wm.PricesC.n_table (by assumption)) | (with_reducible exact Wm.MomentC.n_tick (by assumption)) | (with_reducible exact Wm.MomentC.n_heat (by assumption)) | (with_reducible exact Wm.MomentC.n_on (by assumption)) | (with_reducible exact Wm.MomentC.n_burnt (by assumption)) | (with_reducible exact Wm.MomentC.n_sky (by assumption)) | (with_reducible exact Wm.MomentC.n_stove (by assumption)) | (with_reducible exact Wm.LiveRoomC.n_moment (by assumption)) | (with_reducible exact Wm.LiveRoomC.n_earlier (by assumption)) | (with_reducible exact Wm.LiveRoomC.n_done (by assumption)) | (with_reducible exact Wm.AttemptC.n_live (by assumption)) | (with_reducible exact Wm.AttemptC.n_kept (by assumption)) | (with_reducible exact Wm.AttemptC.n_stack (by assumption)) | (with_reducible exact Wm.AttemptC.n_steps (by assumption)))
local macro_rules | `(tactic| walk_at "at") => `(tactic| first | assumption | exact Wm.Hold.rd (by assumption) (by assumption) | exact Wm.Hold.get (i := 0) (by assumption) rfl | exact Wm.Hold.get (i := 1) (by assumption) rfl | exact Wm.Hold.get (i := 2) (by assumption) rfl | exact Wm.Hold.get (i := 3) (by assumption) rfl | exact Wm.Hold.get (i := 4) (by assumption) rfl)
local macro_rules | `(tactic| walk_at "s1") => `(tactic| first
  | (with_reducible refine Wm.r_seq ?_)
  | (with_reducible refine Wm.r_op ?_)
  | ((with_reducible refine' Wm.r_var ?h ?_); (case h => rfl))
  | (with_reducible refine Wm.r_c ?_)
  | (with_reducible refine Wm.r_I0 ?_)
  | (with_reducible refine Wm.r_cons ?_)
  | (with_reducible refine Wm.r_nil ?_)
  | (with_reducible refine Wm.r_asg ?_)
  | (with_reducible refine Wm.r_gname ?_; try simp only [List.set_cons_zero, List.set_cons_succ])
  | (with_reducible refine Wm.r_nx ?_)
  | (with_reducible refine Wm.r_rt ?_)
  | (with_reducible refine Wm.r_ret ?_)
  | (with_reducible refine Wm.r_test ?_)
  | (with_reducible refine Wm.r_bl ?_)
  | (with_reducible refine Wm.r_B ?_)
  | (with_reducible refine Wm.r_eqI ?_)
  | (with_reducible refine Wm.r_neI ?_)
  | (with_reducible refine Wm.r_eqB ?_)
  | (with_reducible refine Wm.r_neB ?_)
  | (with_reducible refine Wm.r_fld ?_)
  | (with_reducible refine Wm.r_call ?_)
  | (with_reducible refine Wm.r_mtd ?_)
  | (with_reducible refine Wm.r_prp ?_)
  | (with_reducible refine Wm.r_mak ?_)
  | (with_reducible refine Wm.r_cb ?_)
  | (with_reducible refine Wm.r_tup ?_)
  | (with_reducible refine Wm.r_lst ?_)
  | (with_reducible refine Wm.r_chain ?_)
  | (with_reducible refine Wm.r_and ?_)
  | (with_reducible refine Wm.r_or ?_)
  | (with_reducible refine Wm.r_not ?_)
  | (with_reducible refine Wm.r_andV ?_)
  | (with_reducible refine Wm.r_orV ?_)
  | (with_reducible refine Wm.r_notV ?_)
  | (with_reducible refine Wm.r_if ?_)
  | (with_reducible refine Wm.r_un ?_)
  | (with_reducible refine Wm.r_U ?_)
  | (with_reducible refine Wm.r_iteT ?_)
  | (with_reducible refine Wm.r_iteF ?_)
  | (with_reducible refine Wm.r_next ?_)
  | (with_reducible refine Wm.r_drop ?_)
  | (with_reducible refine Wm.r_retN ?_)
  | ((with_reducible refine' Wm.r_aug ?h ?_); (case h => rfl))
  | (with_reducible refine Wm.r_ipI ?_)
  | (with_reducible refine Wm.r_par2 ?_)
  | (with_reducible refine Wm.r_two ?_; try simp only [List.set_cons_zero, List.set_cons_succ])
  | (with_reducible refine Wm.r_yes ?_)
  | (with_reducible refine Wm.r_forET ?_)
  | (with_reducible refine Wm.r_chain3 ?_)
  | (with_reducible refine Wm.r_nT ?_)
  | (with_reducible refine Wm.r_nF ?_)
  | (with_reducible refine Wm.r_par3 ?_)
  | (with_reducible refine Wm.r_seenPut ?_)
  | (with_reducible refine Wm.r_seenGet ?_)
  | (with_reducible refine Wm.r_three ?_; try simp only [List.set_cons_zero, List.set_cons_succ])
  | (with_reducible refine Wm.r_sl ?_)
  | (with_reducible refine Wm.r_nopart ?_)
  | (with_reducible refine Wm.r_part ?_)
  | (with_reducible refine Wm.r_xi ?_)
  | (with_reducible refine Wm.r_gcons ?_)
  | (with_reducible refine Wm.r_gnil ?_)
  | (with_reducible refine Wm.r_sub ?_)
  | (with_reducible refine Wm.r_setF ?_)
  | (with_reducible refine Wm.r_app ?_)
  | (with_reducible refine Wm.int_i ?_)
  | (with_reducible refine Wm.int_b ?_)
  | (with_reducible refine Wm.min2 ?_)
  | (with_reducible refine Wm.max2 ?_)
  | (with_reducible refine Wm.abs1 ?_)
  | (with_reducible refine Wm.isN ?_)
  | (with_reducible refine Wm.notN ?_)
  | ((with_reducible refine' Wm.r_ty ?e ?_); (case e => walk_at "at"))
  | ((with_reducible refine' Wm.setF_m ?h 0 ?e ?c ?a ?l ?_); (case h => assumption); (case e => rfl); (case c => walk_at "cls"); (case a => walk_at "noattr"); (case l => exact of_decide_eq_true rfl); intro H1 hh1; simp only [List.set_cons_zero, List.set_cons_succ] at hh1)
  | ((with_reducible refine' Wm.setF_m ?h 1 ?e ?c ?a ?l ?_); (case h => assumption); (case e => rfl); (case c => walk_at "cls"); (case a => walk_at "noattr"); (case l => exact of_decide_eq_true rfl); intro H1 hh1; simp only [List.set_cons_zero, List.set_cons_succ] at hh1)
  | ((with_reducible refine' Wm.setF_m ?h 2 ?e ?c ?a ?l ?_); (case h => assumption); (case e => rfl); (case c => walk_at "cls"); (case a => walk_at "noattr"); (case l => exact of_decide_eq_true rfl); intro H1 hh1; simp only [List.set_cons_zero, List.set_cons_succ] at hh1)
  | ((with_reducible refine' Wm.setF_m ?h 3 ?e ?c ?a ?l ?_); (case h => assumption); (case e => rfl); (case c => walk_at "cls"); (case a => walk_at "noattr"); (case l => exact of_decide_eq_true rfl); intro H1 hh1; simp only [List.set_cons_zero, List.set_cons_succ] at hh1)
  | (with_reducible refine Wm.r_forL ?_)
  | (with_reducible refine Wm.r_forT ?_)
  | (with_reducible refine Wm.r_forR1 ?_)
  | (with_reducible refine Wm.r_forR2 ?_)
  | (with_reducible refine Wm.r_lcL ?_)
  | (with_reducible refine Wm.r_lcT ?_)
  | (with_reducible refine Wm.r_lcR1 ?_)
  | (with_reducible refine Wm.r_lcR2 ?_)
  | ((with_reducible refine' Wm.fld_h ?e ?c ?n ?l ?_); (case e => walk_at "at"); (case c => walk_at "cls"); (case n => walk_at "noattr"); (case l => rfl))
  | ((with_reducible refine' Wm.mtd_h ?e ?l ?_); (case e => walk_at "at"); (case l => rfl))
  | ((with_reducible refine' Wm.prp_h ?e ?_); (case e => walk_at "at"))
  | ((with_reducible refine' Wm.rix_ht ?a ?b ?_); (case a => walk_at "at"); (case b => rfl))
  | ((with_reducible refine' Wm.rix_h ?a ?b ?_); (case a => walk_at "at"); (case b => rfl))
  | ((with_reducible refine' Wm.len_ht ?a ?_); (case a => walk_at "at"))
  | ((with_reducible refine' Wm.len_h ?a ?_); (case a => walk_at "at"))
  | ((with_reducible refine' Wm.len_l ?a ?b ?_); (case a => assumption); (case b => assumption))
  | ((with_reducible refine' Wm.len_t ?a ?b ?_); (case a => assumption); (case b => assumption))
  | ((with_reducible refine' Wm.gtup_h ?a ?b ?_); (case a => walk_at "at"); (case b => rfl))
  | (with_reducible refine Wm.r_I (Wm.cmulR (by decide)) ?_)
  | (with_reducible refine Wm.r_I (Wm.cmulL (by decide)) ?_)
  | (with_reducible refine Wm.r_I (Wm.cdiv (by decide) (by decide)) ?_)
  | (with_reducible refine Wm.r_I Wm.cpow18 ?_)
  | (with_reducible refine Wm.r_I Wm.cpow12 ?_)
  | (with_reducible refine Wm.r_I (by show (0 : Int) < _; decide) ?_))
local macro_rules | `(tactic| walk_at "s") => `(tactic| repeat (first | walk_at "s1" | (with_reducible refine Wm.r_ifS ?_)))
local macro_rules | `(tactic| walk_at "t") => `(tactic| repeat (walk_at "s1"))
local macro_rules | `(tactic| walk_at "sz") => `(tactic| exact of_decide_eq_true rfl)
local macro_rules | `(tactic| walk_at "d") => `(tactic| first | (refine Wm.r_dT (by omega) ?_) | (refine Wm.r_dF (by omega) ?_) | (refine Wm.r_dN (by omega) ?_) | (refine Wm.r_dM (by omega) ?_))
local macro_rules | `(tactic| walk_at "sd") => `(tactic| repeat (first | walk_at "s1" | (with_reducible refine Wm.r_ifS ?_) | walk_at "d"))
namespace Wm
open PySem PySem.Spec PyProof.Rows L2 StX
/-! ## Heating ticks -/
def sp_Room_heated_before (K : PySem.W.Frag) (A : Ads) : Sp := fun vs H Q _ => ∃ (p : Addr) (R : RoomD) (t : Int), vs = [.ref p, .int t] ∧ IsRoom K A H p R ∧ 0 ≤ t ∧ (R.loop = none ∨ t ≤ finLast R.rs) ∧ Q (.int (hAt R.P t)) H
def sp_Room_heating_ticks (K : PySem.W.Frag) (A : Ads) : Sp := fun vs H Q _ => ∃ (p : Addr) (R : RoomD) (t : Int), vs = [.ref p, .int t] ∧ IsRoom K A H p R ∧ 0 ≤ t ∧ t ≤ 10 ^ 18 ∧ ∀ H', Ex H H' → Q (.int (hAt R.P t)) H'
def t_Room_heated_before (K : PySem.W.Frag) (A : Ads) : TS := tSeq (tAsg (tC (.int 0)) (gName 2)) (tSeq (tFor (iList K (tFld K (tFld K (tVar 0) "past") "runs")) (gName 3) (tIfS (tAnd (tB (tFld K (tVar 3) "is_heating")) (tTest (tOp (rI0 fun i j => .bl (decide (i < j))) (tFld K (tVar 3) "begin") (tVar 1)))) (tAug 2 (tOp (rI0 fun i j => .int (i - j)) (tIf (tTest (tOp rIsN (tFld K (tVar 3) "end") (tC .non))) (tVar 1) (tCB rMin2 (tCons (tFld K (tVar 3) "end") (tCons (tVar 1) (tNil))))) (tFld K (tVar 3) "begin")) (ipI fun i j => i + j)) (tNext))) (tRet (tVar 2)))
def t_Room_heating_ticks (K : PySem.W.Frag) (A : Ads) : TS := tSeq (tDrop (tCal (sp_validate_number K A) E0 (tCons (tVar 1) (tCons (tC (.int 0)) (tCons (tC (.int 1000000000000000000)) (tNil)))))) (tSeq (tAsg (tMtd A.cHistory "wrapped" (sp_History_wrapped K A) E0 (tFld K (tVar 0) "past") (tCons (tVar 1) (tNil))) (gTup K 2 (gCons (gName 2) (gCons (gName 3) (gNil))))) (tSeq (tAsg (tMtd A.cRoom "heated_before" (sp_Room_heated_before K A) E0 (tVar 0) (tCons (tVar 3) (tNil))) (gName 4)) (tSeq (tIfS (tTest (tOp (rI0 fun i j => .bl (decide (j < i))) (tVar 2) (tC (.int 0)))) (tAug 4 (tOp (rI CMul fun i j => .int (i * j)) (tVar 2) (tOp (rI0 fun i j => .int (i - j)) (tMtd A.cRoom "heated_before" (sp_Room_heated_before K A) E0 (tVar 0) (tCons (tFld K (tOp (rIx K) (tFld K (tFld K (tVar 0) "past") "runs") (tUn (rU fun i => .int (-i)) (tC (.int 1)))) "end") (tNil))) (tMtd A.cRoom "heated_before" (sp_Room_heated_before K A) E0 (tVar 0) (tCons (tMtd A.cRoom "loop_begin" (sp_Room_loop_begin K A) E0 (tVar 0) tNil) (tNil))))) (ipI fun i j => i + j)) (tNext)) (tRet (tVar 4)))))
section
variable {K : PySem.W.Frag} {A : Ads}
theorem pure_Room_heated_before (vs : List V) (H : Hp) (Q : VK) (E : XK) (h : sp_Room_heated_before K A vs H Q E) : t_Room_heated_before K A { nx := fun _ H' => Q .non H', rt := Q } (start ["self", "tick", "total", "run"] vs) H := by
  obtain ⟨p, R, t, rfl, ⟨cl, iw, ih, ip, dx, vr, vs, vc, vw, o1, o2, h1, _⟩, t0, hl, k⟩ := h
  obtain ⟨TH, TR, hok, dx1, sh, ru, ras, g1, g2, g3, g4⟩ := id ip
  have hv := hok.v
  show t_Room_heated_before K A _ [some (.ref p), some (.int t), none, none] H
  unfold t_Room_heated_before
  walk_at "s"
  refine forL_by (SqL.of g3) (fun i σ H' => H' = H ∧ ∃ v : Option V, σ = [some (.ref p), some (.int t), some (.int (hAt R.P (upTo R.rs t i))), v]) ⟨rfl, none, by rw [heat_first hv t0]⟩ (fun i σ H' _ ⟨e, _⟩ => by subst e; exact SqL.of g3) ?_ ?_
  · rintro i x σ H' hx ⟨rfl, v, rfl⟩
    obtain ⟨a, ha, rfl⟩ := refs_of hx
    have hil : i < R.rs.length := by rw [← g4.len]; exact (List.getElem?_eq_some_iff.mp ha).1
    obtain ⟨r, hr⟩ := get_some hil
    obtain ⟨_, _, dxr, sr, hor, _⟩ := g4.at_ _ a r ha hr
    have st := heat_step hv t0 hl hr
    refine r_gname ?_
    simp only [List.set_cons_zero, List.set_cons_succ]
    refine ifA (b := r.on && decide (r.beg < t)) (fun Q q => ?_) (fun c => ?_) (fun c => ?_)
    · walk_at "s"
      refine r_ite (fun c => ?_) (fun c => ?_)
      · rw [c, Bool.true_and] at q
        walk_at "s"
        exact q
      · rw [c, Bool.false_and] at q
        exact q
    · rw [Bool.and_eq_true] at c
      have c2 := of_decide_eq_true c.2
      unfold heatIn at st
      rw [if_pos ⟨c.1, c2⟩] at st
      walk_at "s"
      refine r_ite (fun c3 => ?_) (fun c3 => ?_)
      · have hf : r.fin = none := by
          cases hf : r.fin with
          | none => rfl
          | some l => rw [hf] at c3; exact absurd (of_decide_eq_true c3) (by intro z; cases z)
        rw [hf] at st
        walk_at "s"
        exact ⟨by trivial, _, by rw [st] <;> rfl⟩
      · obtain ⟨e, hf⟩ : ∃ e, r.fin = some e := by
          cases hf : r.fin with
          | none => rw [hf] at c3; exact absurd rfl (of_decide_eq_false c3)
          | some l => exact ⟨l, rfl⟩
        rw [hf] at st
        walk_at "s"
        refine ⟨e, t, by rw [hf] <;> rfl, ?_⟩
        walk_at "s"
        exact ⟨by trivial, _, by rw [st] <;> rfl⟩
    · have hz : heatIn r t = 0 := by
        unfold heatIn
        rw [if_neg (fun z => by rw [z.1, decide_eq_true z.2] at c; cases c)]
      rw [hz, Int.add_zero] at st
      walk_at "s"
      exact ⟨by trivial, _, by rw [st] <;> rfl⟩
  · rintro σ H' ⟨rfl, v, rfl⟩
    rw [List.length_map, g4.len, heat_last]
    walk_at "s"
    exact k
theorem pure_Room_heating_ticks (vs : List V) (H : Hp) (Q : VK) (E : XK) (h : sp_Room_heating_ticks K A vs H Q E) : t_Room_heating_ticks K A { nx := fun _ H' => Q .non H', rt := Q } (start ["self", "count", "turns", "tick", "total"] vs) H := by
  obtain ⟨p, R, t, rfl, ir, t0, t1, k⟩ := h
  obtain ⟨cl, iw, ih, ip, dx, vr, vs, vc, vw, o1, o2, h1, _⟩ := id ir
  obtain ⟨TH, TR, hok, dx1, sh, ru, ras, g1, g2, g3, g4⟩ := id ip
  have hv := hok.v
  have wr := hv.wrap t0
  obtain ⟨z1, z2⟩ := hv.heat_wrap t0
  show t_Room_heating_ticks K A _ [some (.ref p), some (.int t), none, none, none] H
  unfold t_Room_heating_ticks
  walk_at "s"
  refine ⟨t, 0, _, rfl, t0, by omega, ?_⟩
  walk_at "s"
  refine ⟨R.pa, t, R.P, R.rs, R.loop, rfl, ip, fun q H1 ex1 hq hq1 => ?_⟩
  have h11 := ex1 _ _ h1
  have g11 := ex1 _ _ g1
  have g31 := ex1 _ _ g3
  refine gtup_h hq1 rfl ?_
  walk_at "s"
  refine ⟨p, R, _, rfl, ir.up ex1, wr.p0, by rcases wr.pl with z | z; exact .inl z; exact .inr (Int.le_of_lt z), ?_⟩
  walk_at "s"
  refine r_ite (fun c => ?_) (fun c => ?_)
  · have c : 0 < wrapT R.rs R.loop t := of_decide_eq_true c
    have hj : ∃ j, R.loop = some j := by
      cases hl : R.loop with
      | none => rw [hl] at c; exact absurd c (by show ¬ (0 : Int) < 0; decide)
      | some j => exact ⟨j, rfl⟩
    obtain ⟨j, hj⟩ := hj
    have hv2 := hv
    rw [hj] at hv2
    have sc := hv2.shut_
    obtain ⟨j0, r, l, e, hjr, hl, he, _⟩ := hv2.shut j rfl
    obtain ⟨b, dx2, s2, i2, ir2, o2'⟩ := IsHist.last (g4.up ex1) hl
    have ef := finLast_of hl he
    have eb := begAt_of hjr
    have hmo := h_mono R.P sc.b0 (Int.le_of_lt sc.lt)
    have hbig := sc.big
    have hb0 := sc.b0
    walk_at "s"
    refine rix_h g31 i2 ?_
    walk_at "s"
    refine ⟨p, R, e, by rw [he] <;> rfl, ir.up ex1, by have := sc.lt; have := sc.b0; omega, .inr (by omega), ?_⟩
    walk_at "s"
    refine ⟨p, R, j, rfl, ir.up ex1, hj, ?_⟩
    walk_at "s"
    refine ⟨p, R, _, rfl, ir.up ex1, hb0, .inr (Int.le_of_lt sc.lt), ?_⟩
    walk_at "s"
    rw [← ef]
    refine r_I (cmulR (by omega)) ?_
    walk_at "s"
    rw [← z2 j hj c]
    exact k H1 ex1
  · have c : ¬ 0 < wrapT R.rs R.loop t := of_decide_eq_false c
    walk_at "s"
    rw [← z1 (by have := wr.t0; omega)]
    exact k H1 ex1
end
end Wm
end

section
local macro_rules | `(tactic| walk_at "cls") => `(tactic| first | (with_reducible exact Wm.WeatherC.cl (by assumption)) | (with_reducible exact Wm.HeaterC.cl (by assumption)) | (with_reducible exact Wm.RoomC.cl (by assumption)) | (with_reducible exact Wm.RunC.cl (by assumption)) | (with_reducible exact Wm.HistoryC.cl (by assumption)) | (with_reducible exact Wm.ThresholdObserverC.cl (by assumption)) | (with_reducible exact Wm.SettingC.cl (by assumption)) | (with_reducible exact Wm.HourSettingC.cl (by assumption)) | (with_reducible exact Wm.RestSettingC.cl (by assumption)) | (with_reducible exact Wm.PricesC.cl (by assumption)) | (with_reducible exact Wm.MomentC.cl (by assumption)) | (with_reducible exact Wm.LiveRoomC.cl (by assumption)) | (with_reducible exact Wm.AttemptC.cl (by assumption)))
local macro_rules | `(tactic| walk_at "noattr") => `(tactic| first | (with_reducible exact Wm.WeatherC.n_pattern (by assumption)) | (with_reducible exact Wm.HeaterC.n_power (by assumption)) | (with_reducible exact Wm.HeaterC.n_below (by assumption)) | (with_reducible exact Wm.HeaterC.n_above (by assumption)) | (with_reducible exact Wm.RoomC.n_outside (by assumption)) | (with_reducible exact Wm.RoomC.n_inside (by assumption)) | (with_reducible exact Wm.RoomC.n_begin_degrees (by assumption)) | (with_reducible exact Wm.RoomC.n_past (by assumption)) | (with_reducible exact Wm.RoomC.n_repeated (by assumption)) | (with_reducible exact Wm.RoomC.n_share (by assumption)) | (with_reducible exact Wm.RoomC.n_coldest (by assumption)) | (with_reducible exact Wm.RoomC.n_warmest (by assumption)) | (with_reducible exact Wm.RunC.n_begin (by assumption)) | (with_reducible exact Wm.RunC.n_end (by assumption)) | (with_reducible exact Wm.RunC.n_degrees (by assumption)) | (with_reducible exact Wm.RunC.n_is_heating (by assumption)) | (with_reducible exact Wm.RunC.n_sums (by assumption)) | (with_reducible exact Wm.RunC.n_size (by assumption)) | (with_reducible exact Wm.RunC.n_drift (by assumption)) | (with_reducible exact Wm.HistoryC.n_shifts (by assumption)) | (with_reducible exact Wm.HistoryC.n_added (by assumption)) | (with_reducible exact Wm.HistoryC.n_floor (by assumption)) | (with_reducible exact Wm.HistoryC.n_ceiling (by assumption)) | (with_reducible exact Wm.HistoryC.n_was_heating (by assumption)) | (with_reducible exact Wm.HistoryC.n_runs (by assumption)) | (with_reducible exact Wm.HistoryC.n_loop (by assumption)) | (with_reducible exact Wm.ThresholdObserverC.n_outside (by assumption)) | (with_reducible exact Wm.ThresholdObserverC.n_power (by assumption)) | (with_reducible exact Wm.ThresholdObserverC.n_tick (by assumption)) | (with_reducible exact Wm.ThresholdObserverC.n_degrees (by assumption)) | (with_reducible exact Wm.ThresholdObserverC.n_is_heating (by assumption)) | (with_reducible exact Wm.ThresholdObserverC.n_lows (by assumption)) | (with_reducible exact Wm.ThresholdObserverC.n_highs (by assumption)) | (with_reducible exact Wm.ThresholdObserverC.n_noted (by assumption)) | (with_reducible exact Wm.SettingC.n_least (by assumption)) | (with_reducible exact Wm.SettingC.n_most (by assumption)) | (with_reducible exact Wm.HourSettingC.n_least (by assumption)) | (with_reducible exact Wm.HourSettingC.n_most (by assumption)) | (with_reducible exact Wm.HourSettingC.n_length (by assumption)) | (with_reducible exact Wm.HourSettingC.n_hours (by assumption)) | (with_reducible exact Wm.RestSettingC.n_least (by assumption)) | (with_reducible exact Wm.RestSettingC.n_most (by assumption)) | (with_reducible exact Wm.RestSettingC.n_rest (by assumption)) | (with_reducible exact Wm.PricesC.n_table (by assumption)) | (with_reducible exact Wm.MomentC.n_tick (by assumption)) | (with_reducible exact Wm.MomentC.n_heat (by assumption)) | (with_reducible exact Wm.MomentC.n_on (by assumption)) | (with_reducible exact Wm.MomentC.n_burnt (by assumption)) | (with_reducible exact Wm.MomentC.n_sky (by assumption)) | (with_reducible exact Wm.MomentC.n_stove (by assumption)) | (with_reducible exact Wm.LiveRoomC.n_moment (by assumption)) | (with_reducible exact Wm.LiveRoomC.n_earlier (by assumption)) | (with_reducible exact Wm.LiveRoomC.n_done (by assumption)) | (with_reducible exact Wm.AttemptC.n_live (by assumption)) | (with_reducible exact Wm.AttemptC.n_kept (by assumption)) | (with_reducible exact Wm.AttemptC.n_stack (by assumption)) | (with_reducible exact Wm.AttemptC.n_steps (by assumption)))
local macro_rules | `(tactic| walk_at "at") => `(tactic| first | assumption | exact Wm.Hold.rd (by assumption) (by assumption) | exact Wm.Hold.get (i := 0) (by assumption) rfl | exact Wm.Hold.get (i := 1) (by assumption) rfl | exact Wm.Hold.get (i := 2) (by assumption) rfl | exact Wm.Hold.get (i := 3) (by assumption) rfl | exact Wm.Hold.get (i := 4) (by assumption) rfl)
local macro_rules | `(tactic| walk_at "s1") => `(tactic| first
  | (with_reducible refine Wm.r_seq ?_)
  | (with_reducible refine Wm.r_op ?_)
  | ((with_reducible refine' Wm.r_var ?h ?_); (case h => rfl))
  | (with_reducible refine Wm.r_c ?_)
  | (with_reducible refine Wm.r_I0 ?_)
  | (with_reducible refine Wm.r_cons ?_)
  | (with_reducible refine Wm.r_nil ?_)
  | (with_reducible refine Wm.r_asg ?_)
  | (with_reducible refine Wm.r_gname ?_; try simp only [List.set_cons_zero, List.set_cons_succ])
  | (with_reducible refine Wm.r_nx ?_)
  | (with_reducible refine Wm.r_rt ?_)
  | (with_reducible refine Wm.r_ret ?_)
  | (with_reducible refine Wm.r_test ?_)
  | (with_reducible refine Wm.r_bl ?_)
  | (with_reducible refine Wm.r_B ?_)
  | (with_reducible refine Wm.r_eqI ?_)
  | (with_reducible refine Wm.r_neI ?_)
  | (with_reducible refine Wm.r_eqB ?_)
  | (with_reducible refine Wm.r_neB ?_)
  | (with_reducible refine Wm.r_fld ?_)
  | (with_reducible refine Wm.r_call ?_)
  | (with_reducible refine Wm.r_mtd ?_)
  | (with_reducible refine Wm.r_prp ?_)
  | (with_reducible refine Wm.r_mak ?_)
  | (with_reducible refine Wm.r_makKw ?_)
  | (with_reducible refine Wm.r_cb ?_)
  | (with_reducible refine Wm.r_tup ?_)
  | (with_reducible refine Wm.r_lst ?_)
  | (with_reducible refine Wm.r_chain ?_)
  | (with_reducible refine Wm.r_and ?_)
  | (with_reducible refine Wm.r_or ?_)
  | (with_reducible refine Wm.r_not ?_)
  | (with_reducible refine Wm.r_andV ?_)
  | (with_reducible refine Wm.r_orV ?_)
  | (with_reducible refine Wm.r_notV ?_)
  | (with_reducible refine Wm.r_if ?_)
  | (with_reducible refine Wm.r_un ?_)
  | (with_reducible refine Wm.r_U ?_)
  | (with_reducible refine Wm.r_iteT ?_)
  | (with_reducible refine Wm.r_iteF ?_)
  | (with_reducible refine Wm.r_next ?_)
  | (with_reducible refine Wm.r_drop ?_)
  | (with_reducible refine Wm.r_retN ?_)
  | ((with_reducible refine' Wm.r_aug ?h ?_); (case h => rfl))
  | (with_reducible refine Wm.r_ipI ?_)
  | (with_reducible refine Wm.r_par2 ?_)
  | (with_reducible refine Wm.r_two ?_; try simp only [List.set_cons_zero, List.set_cons_succ])
  | (with_reducible refine Wm.r_yes ?_)
  | (with_reducible refine Wm.r_forET ?_)
  | (with_reducible refine Wm.r_chain3 ?_)
  | (with_reducible refine Wm.r_nT ?_)
  | (with_reducible refine Wm.r_nF ?_)
  | (with_reducible refine Wm.r_par3 ?_)
  | (with_reducible refine Wm.r_seenPut ?_)
  | (with_reducible refine Wm.r_seenGet ?_)
  | (with_reducible refine Wm.r_three ?_; try simp only [List.set_cons_zero, List.set_cons_succ])
  | (with_reducible refine Wm.r_sl ?_)
  | (with_reducible refine Wm.r_nopart ?_)
  | (with_reducible refine Wm.r_part ?_)
  | (with_reducible refine Wm.r_xi ?_)
  | (with_reducible refine Wm.r_gcons ?_)
  | (with_reducible refine Wm.r_gnil ?_)
  | (with_reducible refine Wm.r_sub ?_)
  | (with_reducible refine Wm.r_setF ?_)
  | (with_reducible refine Wm.r_app ?_)
  | (with_reducible refine Wm.int_i ?_)
  | (with_reducible refine Wm.int_b ?_)
  | (with_reducible refine Wm.min2 ?_)
  | (with_reducible refine Wm.max2 ?_)
  | (with_reducible refine Wm.abs1 ?_)
  | (with_reducible refine Wm.isN ?_)
  | (with_reducible refine Wm.notN ?_)
  | ((with_reducible refine' Wm.r_ty ?e ?_); (case e => walk_at "at"))
  | ((with_reducible refine' Wm.setF_m ?h 0 ?e ?c ?a ?l ?_); (case h => assumption); (case e => rfl); (case c => walk_at "cls"); (case a => walk_at "noattr"); (case l => exact of_decide_eq_true rfl); intro H1 hh1; simp only [List.set_cons_zero, List.set_cons_succ] at hh1)
  | ((with_reducible refine' Wm.setF_m ?h 1 ?e ?c ?a ?l ?_); (case h => assumption); (case e => rfl); (case c => walk_at "cls"); (case a => walk_at "noattr"); (case l => exact of_decide_eq_true rfl); intro H1 hh1; simp only [List.set_cons_zero, List.set_cons_succ] at hh1)
  | ((with_reducible refine' Wm.setF_m ?h 2 ?e ?c ?a ?l ?_); (case h => assumption); (case e => rfl); (case c => walk_at "cls"); (case a => walk_at "noattr"); (case l => exact of_decide_eq_true rfl); intro H1 hh1; simp only [List.set_cons_zero, List.set_cons_succ] at hh1)
  | ((with_reducible refine' Wm.setF_m ?h 3 ?e ?c ?a ?l ?_); (case h => assumption); (case e => rfl); (case c => walk_at "cls"); (case a => walk_at "noattr"); (case l => exact of_decide_eq_true rfl); intro H1 hh1; simp only [List.set_cons_zero, List.set_cons_succ] at hh1)
  | (with_reducible refine Wm.r_forL ?_)
  | (with_reducible refine Wm.r_forT ?_)
  | (with_reducible refine Wm.r_forR1 ?_)
  | (with_reducible refine Wm.r_forR2 ?_)
  | (with_reducible refine Wm.r_lcL ?_)
  | (with_reducible refine Wm.r_lcT ?_)
  | (with_reducible refine Wm.r_lcR1 ?_)
  | (with_reducible refine Wm.r_lcR2 ?_)
  | ((with_reducible refine' Wm.fld_h ?e ?c ?n ?l ?_); (case e => walk_at "at"); (case c => walk_at "cls"); (case n => walk_at "noattr"); (case l => rfl))
  | ((with_reducible refine' Wm.mtd_h ?e ?l ?_); (case e => walk_at "at"); (case l => rfl))
  | ((with_reducible refine' Wm.prp_h ?e ?_); (case e => walk_at "at"))
  | ((with_reducible refine' Wm.rix_ht ?a ?b ?_); (case a => walk_at "at"); (case b => rfl))
  | ((with_reducible refine' Wm.rix_h ?a ?b ?_); (case a => walk_at "at"); (case b => rfl))
  | ((with_reducible refine' Wm.len_ht ?a ?_); (case a => walk_at "at"))
  | ((with_reducible refine' Wm.len_h ?a ?_); (case a => walk_at "at"))
  | ((with_reducible refine' Wm.len_l ?a ?b ?_); (case a => assumption); (case b => assumption))
  | ((with_reducible refine' Wm.len_t ?a ?b ?_); (case a => assumption); (case b => assumption))
  | ((with_reducible refine' Wm.gtup_h ?a ?b ?_); (case a => walk_at "at"); (case b => rfl))
  | (with_reducible refine Wm.r_I (Wm.cmulR (by decide)) ?_)
  | (with_reducible refine Wm.r_I (Wm.cmulL (by decide)) ?_)
  | (with_reducible refine Wm.r_I (Wm.cdiv (by decide) (by decide)) ?_)
  | (with_reducible refine Wm.r_I Wm.cpow18 ?_)
  | (with_reducible refine Wm.r_I Wm.cpow12 ?_)
  | (with_reducible refine Wm.r_I (by show (0 : Int) < _; decide) ?_))
local macro_rules | `(tactic| walk_at "s") => `(tactic| repeat (first | walk_at "s1" | (with_reducible refine Wm.r_ifS ?_)))
local macro_rules | `(tactic| walk_at "t") => `(tactic| repeat (walk_at "s1"))
local macro_rules | `(tactic| walk_at "sz") => `(tactic| exact of_decide_eq_true rfl)
local macro_rules | `(tactic| walk_at "d") => `(tactic| first | (refine Wm.r_dT (by omega) ?_) | (refine Wm.r_dF (by omega) ?_) | (refine Wm.r_dN (by omega) ?_) | (refine Wm.r_dM (by omega) ?_))
local macro_rules | `(tactic| walk_at "sd") => `(tactic| repeat (first | walk_at "s1" | (with_reducible refine Wm.r_ifS ?_) | walk_at "d"))
namespace Wm
open PySem PySem.Spec PyProof.Rows L2 StX
/-! ## The law's helpers -/
def t_law_next (K : PySem.W.Frag) (A : Ads) : TS := tSeq (tAsg (tOp (rIx K) (tOp rCat (tOp (rIx K) (tVar 0) (tC (.int 1))) (tLst (tCons (tC (.int 0)) (tNil)))) (tOp (rI (fun _ j => 0 < j) fun i j => .int (i % j)) (tOp (rIx K) (tVar 0) (tC (.int 2))) (tCB rMax2 (tCons (tC (.int 1)) (tCons (tCB (rLen K) (tCons (tOp (rIx K) (tVar 0) (tC (.int 1))) (tNil))) (tNil)))))) (gName 2)) (tSeq (tIfS (tTest (tOp (rI0 fun i j => .bl (decide (j ≤ i))) (tVar 2) (tOp (rI CPow fun i j => .int (i ^ j.toNat)) (tC (.int 10)) (tC (.int 18))))) (tSeq (tAsg (tOp (rI CDivW fun i j => .int (i / j)) (tVar 2) (tVar 1)) (gSub (tOp (rIx K) (tVar 0) (tC (.int 1))) (tOp (rI (fun _ j => 0 < j) fun i j => .int (i % j)) (tOp (rIx K) (tVar 0) (tC (.int 2))) (tCB (rLen K) (tCons (tOp (rIx K) (tVar 0) (tC (.int 1))) (tNil)))) rSetL)) (tRet (tOp (rI (fun _ j => 0 < j) fun i j => .int (i % j)) (tVar 2) (tVar 1)))) (tNext)) (tSeq (tAsg (tOp (rI (fun _ j => 0 < j) fun i j => .int (i % j)) (tOp (rI0 fun i j => .int (i + j)) (tOp (rI0 fun i j => .int (i + j)) (tOp (rI CMul fun i j => .int (i * j)) (tOp (rIx K) (tVar 0) (tC (.int 0))) (tC (.int 48271))) (tOp (rI CMul fun i j => .int (i * j)) (tVar 2) (tC (.int 69621)))) (tC (.int 11))) (tC (.int 2147483647))) (gSub (tVar 0) (tC (.int 0)) rSetL)) (tSeq (tAsg (tOp (rI0 fun i j => .int (i + j)) (tOp (rIx K) (tVar 0) (tC (.int 2))) (tC (.int 1))) (gSub (tVar 0) (tC (.int 2)) rSetL)) (tRet (tOp (rI (fun _ j => 0 < j) fun i j => .int (i % j)) (tOp (rI CDivW fun i j => .int (i / j)) (tOp (rIx K) (tVar 0) (tC (.int 0))) (tC (.int 7))) (tVar 1))))))
/-- the state of the draws: a number mixed, an index, the cells -/
structure DS where
  m : Int
  ix : Int
  cs : List Int
abbrev dh (a c : Addr) (d : DS) : Addr × HO := (a, .lst [.int d.m, .ref c, .int d.ix])
abbrev dc (c : Addr) (d : DS) : Addr × HO := (c, .lst (d.cs.map V.int))
structure DS.Ok (d : DS) : Prop where
  ix : 0 ≤ d.ix
  len : d.cs.length ≤ 63
def sp_law_next (K : PySem.W.Frag) (A : Ads) : Sp := fun vs H Q E => ∃ (a c : Addr) (d : DS) (lim : Int) (G : Hp) (mu : Mu), vs = [.ref a, .int lim] ∧ Hold G (dh a c d :: dc c d :: mu) H ∧ d.Ok ∧ 0 < lim ∧ lim < 2 ^ 64 ∧
  ∀ (n : Int) (d' : DS) (H' : Hp), 0 ≤ n → n < lim → d'.Ok → Hold G (dh a c d' :: dc c d' :: mu) H' → Q (.int n) H'
theorem pure_law_next {K : PySem.W.Frag} {A : Ads} (vs : List V) (H : Hp) (Q : VK) (E : XK) (h : sp_law_next K A vs H Q E) :
    t_law_next K A { nx := fun _ H' => Q .non H', rt := Q } (start ["_law_h", "_law_limit", "_law_cell"] vs) H := by
  obtain ⟨a, c, d, lim, G, mu, rfl, hh, ok, h0, h1, k⟩ := h
  have hl := ok.len
  have hx := ok.ix
  show t_law_next K A _ [some (.ref a), some (.int lim), none] H
  unfold t_law_next
  walk_at "s"
  refine lst_x (by decide) hh fun p H1 hp hh1 => ?_
  refine cat_x hh1 (hh1.get (i := 1) rfl) hp (sz (by simp; omega)) fun q H2 g2 hh2 => ?_
  walk_at "s"
  generalize hn : (((d.cs.map V.int).length : Nat) : Int) = n
  have en : n = (d.cs.length : Int) := by rw [← hn, List.length_map]
  have hm : (if n > 1 then n else 1) = max 1 n := by omega
  rw [hm]
  refine r_I (show (0 : Int) < max 1 n by omega) ?_
  have r0 := Int.emod_nonneg d.ix (show max 1 n ≠ 0 by omega)
  have r1 := Int.emod_lt_of_pos d.ix (show (0 : Int) < max 1 n by omega)
  generalize d.ix % max 1 n = j at r0 r1
  obtain ⟨cell, hc⟩ : ∃ z, (d.cs ++ [0])[j.toNat]? = some z := ⟨_, List.getElem?_eq_getElem (show j.toNat < (d.cs ++ [0]).length by simp; omega)⟩
  have hc2 : (d.cs.map V.int ++ [V.int 0])[j.toNat]? = some (V.int cell) := by
    rw [show d.cs.map V.int ++ [V.int 0] = (d.cs ++ [0]).map V.int by simp, List.getElem?_map, hc] <;> rfl
  refine rix_h g2 (atI_of r0 hc2) ?_
  walk_at "s"
  refine r_ite (fun h => ?_) (fun h => ?_)
  · -- a large cell
    walk_at "s"
    refine r_I (cdiv h0 h1) ?_
    walk_at "s"
    have hlen : 0 < d.cs.length := by
      rcases Nat.eq_zero_or_pos d.cs.length with z | z
      · have e0 : d.cs = [] := List.length_eq_zero_iff.mp z
        have hj : j.toNat = 0 := by omega
        rw [e0, hj] at hc
        have : cell = 0 := (Option.some.inj hc).symm
        rw [this] at h
        exact absurd (of_decide_eq_true h) (by decide)
      · exact z
    generalize hn2 : (((d.cs.map V.int).length : Nat) : Int) = n2
    have en2 : n2 = (d.cs.length : Int) := by rw [← hn2, List.length_map]
    refine r_I (show (0 : Int) < n2 by omega) ?_
    have r2 := Int.emod_nonneg d.ix (show n2 ≠ 0 by omega)
    have r3 := Int.emod_lt_of_pos d.ix (show (0 : Int) < n2 by omega)
    generalize d.ix % n2 = j2 at r2 r3
    refine setL_m hh2 1 rfl (ixN_of (by omega) (by rw [List.length_map]; omega)) fun H3 hh3 => ?_
    walk_at "s"
    refine r_I h0 ?_
    walk_at "s"
    refine k _ ⟨d.m, d.ix, d.cs.set j2.toNat (cell / lim)⟩ H3 (Int.emod_nonneg cell (by omega)) (Int.emod_lt_of_pos cell h0) ⟨hx, by simp; exact hl⟩ ?_
    show Hold G ((a, _) :: (c, .lst ((d.cs.set j2.toNat (cell / lim)).map V.int)) :: mu) H3
    rw [List.map_set]
    exact hh3
  · walk_at "s"
    refine setL_m hh2 0 rfl (by rfl) fun H3 hh3 => ?_
    walk_at "s"
    refine setL_m hh3 0 rfl (by rfl) fun H4 hh4 => ?_
    walk_at "s"
    refine r_I h0 ?_
    walk_at "s"
    exact k _ ⟨_, d.ix + 1, d.cs⟩ H4 (Int.emod_nonneg _ (by omega)) (Int.emod_lt_of_pos _ h0) ⟨by show 0 ≤ d.ix + 1; omega, hl⟩ hh4
def sp_law_mix (K : PySem.W.Frag) (A : Ads) : Sp := fun vs H Q _ => ∃ (s : Addr) (seed : Int) (xs : List Int), vs = [.ref s, .int seed] ∧ SqL K H s (xs.map V.int) ∧ xs.length ≤ 63 ∧
  ∀ (a c : Addr) (d : DS) (H' : Hp), d.Ok → Hold H [dh a c d, dc c d] H' → Q (.ref a) H'
def sp_law_changes (K : PySem.W.Frag) (A : Ads) : Sp := fun vs H Q _ => ∃ (a c : Addr) (most : Int) (d : DS) (G : Hp) (mu : Mu), vs = [.ref a, .int most] ∧ Hold G (dh a c d :: dc c d :: mu) H ∧ d.Ok ∧ 1 ≤ most ∧ most ≤ 24 ∧
  ∀ (t : Addr) (ch : List Int) (d' : DS) (G' H' : Hp), Ex G G' → G' t = some (.tup (ch.map V.int)) → WOk ch → (ch.length : Int) ≤ most → d'.Ok → Hold G' (dh a c d' :: dc c d' :: mu) H' → Q (.ref t) H'
structure SetOk (g lo hi st : Int) : Prop where
  g1 : 1 ≤ g
  g2 : g ≤ 200
  lh : lo ≤ hi
  w : hi ≤ lo + 10 ^ 11
  l1 : -(10 ^ 11) ≤ lo
  l2 : lo ≤ 10 ^ 11
  s1 : lo - 10 ^ 11 ≤ st
  s2 : st ≤ lo + 2 * 10 ^ 11
def sp_law_setting (K : PySem.W.Frag) (A : Ads) : Sp := fun vs H Q _ => ∃ (a c : Addr) (d : DS) (G : Hp) (mu : Mu), vs = [.ref a] ∧ Hold G (dh a c d :: dc c d :: mu) H ∧ d.Ok ∧
  ∀ (t : Addr) (g lo hi st : Int) (on : Bool) (d' : DS) (G' H' : Hp), Ex G G' → G' t = some (.tup [.int g, .int lo, .int hi, .int st, .bl on]) → SetOk g lo hi st → d'.Ok → Hold G' (dh a c d' :: dc c d' :: mu) H' → Q (.ref t) H'
def sp_law_weather (K : PySem.W.Frag) (A : Ads) : Sp := fun vs H Q _ => ∃ (t : Addr) (ch : List Int) (G : Hp) (mu : Mu), vs = [.ref t] ∧ WeatherC K A.cWeather ∧ Hold G mu H ∧ G t = some (.tup (ch.map V.int)) ∧ WOk ch ∧ ch.length ≤ 6 ∧
  ∀ (w wt : Addr) (G' H' : Hp), Ex G G' → IsWeather K A G' w wt ch → Hold G' mu H' → Q (.ref w) H'
def sp_law_room (K : PySem.W.Frag) (A : Ads) : Sp := fun vs H Q _ => ∃ (t s : Addr) (P : Par) (G : Hp) (mu : Mu), vs = [.ref t, .ref s] ∧ WeatherC K A.cWeather ∧ HeaterC K A.cHeater ∧ RoomC K A.cRoom ∧ HistoryC K A.cHistory ∧ RunC K A.cRun ∧ Hold G mu H ∧
  G t = some (.tup (P.ch.map V.int)) ∧ G s = some (.tup [.int P.gain, .int P.lo, .int P.hi, .int P.start, .bl P.was]) ∧ WOk P.ch ∧ P.ch.length ≤ 6 ∧ HtOk P.gain P.lo P.hi ∧ -(10 ^ 12) ≤ P.start ∧ P.start ≤ 10 ^ 12 ∧
  ∀ (p : Addr) (R : RoomD) (G' H' : Hp), Ex G G' → IsRoom K A G' p R → R.P = P → Hold G' mu H' → Q (.ref p) H'
def sp_law_divisor (K : PySem.W.Frag) (A : Ads) : Sp := fun vs H Q _ => ∃ a b : Nat, vs = [.int (a : Int), .int (b : Int)] ∧ Q (.int (Nat.gcd a b : Nat)) H
def t_law_mix (K : PySem.W.Frag) (A : Ads) : TS := tSeq (tAsg (tVar 1) (gName 2)) (tSeq (tFor (iList K (tVar 0)) (gName 3) (tAsg (tOp (rI (fun _ j => 0 < j) fun i j => .int (i % j)) (tOp (rI0 fun i j => .int (i + j)) (tOp (rI0 fun i j => .int (i + j)) (tOp (rI CMul fun i j => .int (i * j)) (tVar 2) (tC (.int 48271))) (tOp (rI (fun _ j => 0 < j) fun i j => .int (i % j)) (tVar 3) (tC (.int 2147483629)))) (tC (.int 1))) (tC (.int 2147483647))) (gName 2))) (tRet (tLst (tCons (tVar 2) (tCons (tCB (rListOf K) (tCons (tVar 0) (tNil))) (tCons (tC (.int 0)) (tNil)))))))
def t_law_changes (K : PySem.W.Frag) (A : Ads) : TS := tSeq (tPar 2 3 (tCons (tOp (rIx K) (tLst (tCons (tC (.int 3)) (tCons (tC (.int 9)) (tCons (tC (.int 100)) (tNil))))) (tCal (sp_law_next K A) E0 (tCons (tVar 0) (tCons (tC (.int 3)) (tNil))))) (tCons (tLst (tNil)) (tNil)))) (tSeq (tAsg (tOp (rI0 fun i j => .int (i - j)) (tOp (rI0 fun i j => .int (i - j)) (tCal (sp_law_next K A) E0 (tCons (tVar 0) (tCons (tOp (rI0 fun i j => .int (i + j)) (tOp (rI CMul fun i j => .int (i * j)) (tC (.int 2)) (tVar 2)) (tC (.int 1))) (tNil)))) (tVar 2)) (tOp (rI CDivW fun i j => .int (i / j)) (tVar 2) (tC (.int 2)))) (gName 4)) (tSeq (tFor (iRng1 (tCons (tOp (rI0 fun i j => .int (i + j)) (tC (.int 1)) (tCal (sp_law_next K A) E0 (tCons (tVar 0) (tCons (tVar 1) (tNil))))) (tNil))) (gName 5) (tDrop (tBM K "list" rAppend (tVar 3) (tCons (tOp (rI CMul fun i j => .int (i * j)) (tCB rMax2 (tCons (tUn (rU fun i => .int (-i)) (tC (.int 100))) (tCons (tCB rMin2 (tCons (tC (.int 100)) (tCons (tOp (rI0 fun i j => .int (i + j)) (tVar 4) (tCal (sp_law_next K A) E0 (tCons (tVar 0) (tCons (tOp (rI0 fun i j => .int (i + j)) (tVar 2) (tC (.int 1))) (tNil))))) (tNil)))) (tNil)))) (tCB rInt (tCons (tOp (rI0 fun i j => .bl (decide (j < i))) (tCal (sp_law_next K A) E0 (tCons (tVar 0) (tCons (tC (.int 5)) (tNil)))) (tC (.int 0))) (tNil)))) (tNil))))) (tRet (tCB (rTupOf K) (tCons (tVar 3) (tNil))))))
def t_law_weather (K : PySem.W.Frag) (A : Ads) : TS := tSeq (tAsg (tOp rCat (tCB (rListOf K) (tCons (tVar 0) (tNil))) (tOp rRep (tLst (tCons (tC (.int 0)) (tNil))) (tC (.int 6)))) (gName 1)) (tSeq (tIfS (tTest (tOp (rI0 fun i j => .bl (decide (i < j))) (tCB (rLen K) (tCons (tVar 0) (tNil))) (tC (.int 3)))) (tRet (tIf (tTest (tOp rEq (tCB (rLen K) (tCons (tVar 0) (tNil))) (tC (.int 1)))) (tMak A.cWeather (sp_Weather_init K A) E0 (tCons (tOp (rIx K) (tVar 1) (tC (.int 0))) (tNil))) (tMak A.cWeather (sp_Weather_init K A) E0 (tCons (tOp (rIx K) (tVar 1) (tC (.int 0))) (tCons (tOp (rIx K) (tVar 1) (tC (.int 1))) (tNil)))))) (tNext)) (tSeq (tIfS (tTest (tOp (rI0 fun i j => .bl (decide (i < j))) (tCB (rLen K) (tCons (tVar 0) (tNil))) (tC (.int 5)))) (tRet (tIf (tTest (tOp rEq (tCB (rLen K) (tCons (tVar 0) (tNil))) (tC (.int 3)))) (tMak A.cWeather (sp_Weather_init K A) E0 (tCons (tOp (rIx K) (tVar 1) (tC (.int 0))) (tCons (tOp (rIx K) (tVar 1) (tC (.int 1))) (tCons (tOp (rIx K) (tVar 1) (tC (.int 2))) (tNil))))) (tMak A.cWeather (sp_Weather_init K A) E0 (tCons (tOp (rIx K) (tVar 1) (tC (.int 0))) (tCons (tOp (rIx K) (tVar 1) (tC (.int 1))) (tCons (tOp (rIx K) (tVar 1) (tC (.int 2))) (tCons (tOp (rIx K) (tVar 1) (tC (.int 3))) (tNil)))))))) (tNext)) (tSeq (tIfS (tTest (tOp rEq (tCB (rLen K) (tCons (tVar 0) (tNil))) (tC (.int 5)))) (tRet (tMak A.cWeather (sp_Weather_init K A) E0 (tCons (tOp (rIx K) (tVar 1) (tC (.int 0))) (tCons (tOp (rIx K) (tVar 1) (tC (.int 1))) (tCons (tOp (rIx K) (tVar 1) (tC (.int 2))) (tCons (tOp (rIx K) (tVar 1) (tC (.int 3))) (tCons (tOp (rIx K) (tVar 1) (tC (.int 4))) (tNil)))))))) (tNext)) (tRet (tMak A.cWeather (sp_Weather_init K A) E0 (tCons (tOp (rIx K) (tVar 1) (tC (.int 0))) (tCons (tOp (rIx K) (tVar 1) (tC (.int 1))) (tCons (tOp (rIx K) (tVar 1) (tC (.int 2))) (tCons (tOp (rIx K) (tVar 1) (tC (.int 3))) (tCons (tOp (rIx K) (tVar 1) (tC (.int 4))) (tCons (tOp (rIx K) (tVar 1) (tC (.int 5))) (tNil))))))))))))
def t_law_setting (K : PySem.W.Frag) (A : Ads) : TS := tSeq (tAsg (tOp (rIx K) (tLst (tCons (tC (.int 5)) (tCons (tC (.int 60)) (tCons (tOp (rI CPow fun i j => .int (i ^ j.toNat)) (tC (.int 10)) (tC (.int 11))) (tNil))))) (tCal (sp_law_next K A) E0 (tCons (tVar 0) (tCons (tC (.int 3)) (tNil))))) (gName 1)) (tSeq (tAsg (tOp (rI0 fun i j => .int (i - j)) (tCal (sp_law_next K A) E0 (tCons (tVar 0) (tCons (tVar 1) (tNil)))) (tOp (rI CDivW fun i j => .int (i / j)) (tVar 1) (tC (.int 2)))) (gName 2)) (tSeq (tAsg (tOp (rI0 fun i j => .int (i + j)) (tVar 2) (tCal (sp_law_next K A) E0 (tCons (tVar 0) (tCons (tOp (rIx K) (tLst (tCons (tC (.int 4)) (tCons (tVar 1) (tNil)))) (tCal (sp_law_next K A) E0 (tCons (tVar 0) (tCons (tC (.int 2)) (tNil))))) (tNil))))) (gName 3)) (tSeq (tAsg (tOp (rI0 fun i j => .int (i - j)) (tOp (rI0 fun i j => .int (i + j)) (tVar 2) (tCal (sp_law_next K A) E0 (tCons (tVar 0) (tCons (tOp (rI CMul fun i j => .int (i * j)) (tC (.int 2)) (tVar 1)) (tNil))))) (tOp (rI CDivW fun i j => .int (i / j)) (tVar 1) (tC (.int 2)))) (gName 4)) (tSeq (tAsg (tOp (rIx K) (tLst (tCons (tVar 4) (tCons (tVar 2) (tCons (tVar 3) (tCons (tOp (rI0 fun i j => .int (i - j)) (tVar 2) (tC (.int 1))) (tCons (tOp (rI0 fun i j => .int (i + j)) (tVar 3) (tC (.int 1))) (tNil))))))) (tCB rMax2 (tCons (tC (.int 0)) (tCons (tOp (rI0 fun i j => .int (i - j)) (tCal (sp_law_next K A) E0 (tCons (tVar 0) (tCons (tC (.int 8)) (tNil)))) (tC (.int 3))) (tNil))))) (gName 4)) (tRet (tTup (tCons (tOp (rI0 fun i j => .int (i + j)) (tC (.int 1)) (tCal (sp_law_next K A) E0 (tCons (tVar 0) (tCons (tOp (rIx K) (tLst (tCons (tC (.int 6)) (tCons (tC (.int 200)) (tNil)))) (tCal (sp_law_next K A) E0 (tCons (tVar 0) (tCons (tC (.int 2)) (tNil))))) (tNil))))) (tCons (tVar 2) (tCons (tVar 3) (tCons (tVar 4) (tCons (tOp rEq (tCal (sp_law_next K A) E0 (tCons (tVar 0) (tCons (tC (.int 2)) (tNil)))) (tC (.int 0))) (tNil))))))))))))
def t_law_room (K : PySem.W.Frag) (A : Ads) : TS := tSeq (tAsg (tVar 1) (gTup K 5 (gCons (gName 2) (gCons (gName 3) (gCons (gName 4) (gCons (gName 5) (gCons (gName 6) (gNil)))))))) (tRet (tMakKw A.cRoom 3 1 (sp_Room_init K A) E0 (tCons (tCal (sp_law_weather K A) E0 (tCons (tVar 0) (tNil))) (tCons (tMak A.cHeater (sp_Heater_init K A) E0 (tCons (tVar 2) (tCons (tVar 3) (tCons (tVar 4) (tNil))))) (tCons (tVar 5) (tNil)))) (tCons (tVar 6) (tNil))))
def t_law_divisor (K : PySem.W.Frag) (A : Ads) : TS := tSeq (tWhile (tTest (tOp rNe (tVar 1) (tC (.int 0)))) (tPar 0 1 (tCons (tVar 1) (tCons (tOp (rI (fun _ j => 0 < j) fun i j => .int (i % j)) (tVar 0) (tVar 1)) (tNil))))) (tRet (tVar 0))
section
variable {K : PySem.W.Frag} {A : Ads}
theorem pure_law_divisor (vs : List V) (H : Hp) (Q : VK) (E : XK) (h : sp_law_divisor K A vs H Q E) : t_law_divisor K A { nx := fun _ H' => Q .non H', rt := Q } (start ["_law_one", "_law_other"] vs) H := by
  obtain ⟨a, b, rfl, k⟩ := h
  show t_law_divisor K A _ [some (.int a), some (.int b)] H
  unfold t_law_divisor
  refine r_seq (whileA (fun m σ H' => H' = H ∧ ∃ x y : Nat, σ = [some (.int (x : Int)), some (.int (y : Int))] ∧ m = y ∧ Nat.gcd x y = Nat.gcd a b) b ⟨rfl, a, b, rfl, rfl, rfl⟩ ?_)
  rintro m σ H' ⟨rfl, x, y, rfl, rfl, e⟩
  refine ⟨!decide ((m : Int) = 0), fun Q q => by walk_at "s"; exact q, fun c => ?_, fun c => ?_⟩
  · have c : m ≠ 0 := fun z => by subst z; simp at c
    walk_at "s"
    refine r_I (show (0 : Int) < (m : Int) by omega) ?_
    walk_at "s"
    refine ⟨x % m, Nat.mod_lt _ (by omega), by trivial, m, x % m, rfl, rfl, ?_⟩
    rw [← e, Nat.gcd_comm x m, Nat.gcd_rec m x, Nat.gcd_comm]
  · have c : m = 0 := by
      have : ((m : Int) = 0) := by simpa using c
      omega
    subst c
    rw [Nat.gcd_zero_right] at e
    subst e
    walk_at "s"
    exact k
theorem pure_law_mix (vs : List V) (H : Hp) (Q : VK) (E : XK) (h : sp_law_mix K A vs H Q E) : t_law_mix K A { nx := fun _ H' => Q .non H', rt := Q } (start ["_law_script", "_law_seed", "_law_mixed", "_law_cell"] vs) H := by
  obtain ⟨s, seed, xs, rfl, hs, hl, k⟩ := h
  show t_law_mix K A _ [some (.ref s), some (.int seed), none, none] H
  unfold t_law_mix
  walk_at "s"
  refine forL_by hs (fun i σ H' => H' = H ∧ ∃ (m : Int) (v : Option V), σ = [some (.ref s), some (.int seed), some (.int m), v]) ⟨rfl, seed, none, rfl⟩ (fun i σ H' _ ⟨e, _⟩ => by subst e; exact hs) ?_ ?_
  · rintro i x σ H' hx ⟨rfl, m, v, rfl⟩
    obtain ⟨z, hz, rfl⟩ := ints_of hx
    walk_at "s"
    exact ⟨by trivial, _, _, rfl⟩
  · rintro σ H' ⟨rfl, m, v, rfl⟩
    walk_at "s"
    refine ⟨s, _, rfl, .inl hs, fun c hc => ?_⟩
    have hh1 := (Hold.start H').newm (o := .lst (xs.map V.int)) hc
    generalize upd H' c (.lst (xs.map V.int)) = H1 at hh1 ⊢
    walk_at "s"
    refine lst_m (by walk_at "sz") hh1 fun a H2 hh2 => ?_
    exact k a c ⟨m, 0, xs⟩ H2 ⟨Int.le_refl 0, hl⟩ hh2
theorem pure_law_changes (vs : List V) (H : Hp) (Q : VK) (E : XK) (h : sp_law_changes K A vs H Q E) : t_law_changes K A { nx := fun _ H' => Q .non H', rt := Q } (start ["_law_h", "_law_most", "_law_wide", "_law_found", "_law_low", "_law_k"] vs) H := by
  obtain ⟨a, c, most, d, G, mu, rfl, hh, dok, m1, m2, k⟩ := h
  show t_law_changes K A _ [some (.ref a), some (.int most), none, none, none, none] H
  unfold t_law_changes
  walk_at "s"
  refine lst_G (by walk_at "sz") hh fun p G1 H1 ex1 hp hh1 => ?_
  walk_at "s"
  refine ⟨a, c, d, 3, G1, mu, rfl, hh1, dok, by omega, by omega, fun n d2 H2 n0 n1 dok2 hh2 => ?_⟩
  obtain ⟨wide, hw, w0, w1⟩ : ∃ w : Int, atI [V.int 3, V.int 9, V.int 100] n = some (V.int w) ∧ 3 ≤ w ∧ w ≤ 100 := by
    rcases (show n = 0 ∨ n = 1 ∨ n = 2 by omega) with rfl | rfl | rfl
    · exact ⟨3, rfl, by decide, by decide⟩
    · exact ⟨9, rfl, by decide, by decide⟩
    · exact ⟨100, rfl, by decide, by decide⟩
  refine rix_h (hh2.rd hp) hw ?_
  walk_at "s"
  refine lst_m2 (by walk_at "sz") hh2 fun f H3 hh3 => ?_
  walk_at "s"
  refine ⟨a, c, d2, 2 * wide + 1, G1, _, rfl, hh3, dok2, by omega, by omega, fun n3 d3 H4 n30 n31 dok3 hh4 => ?_⟩
  walk_at "s"
  generalize hlow : n3 - wide - wide / 2 = low
  refine ⟨a, c, d3, most, G1, _, rfl, hh4, dok3, by omega, by omega, fun n4 d4 H5 n40 n41 dok4 hh5 => ?_⟩
  walk_at "s"
  refine forR1_by (by omega) (by omega) (fun i σ H' => ∃ (v : Option V) (d' : DS) (ch : List Int), σ = [some (.ref a), some (.int most), some (.int wide), some (.ref f), some (.int low), v] ∧ d'.Ok ∧ ch.length = i ∧ (∀ x ∈ ch, -100 ≤ x ∧ x ≤ 100) ∧ Hold G1 (dh a c d' :: dc c d' :: (f, .lst (ch.map V.int)) :: mu) H')
    ⟨none, d4, [], rfl, dok4, rfl, (fun x h => by cases h), hh5⟩ ?_ ?_
  · rintro i σ H6 hi ⟨v, d', ch, rfl, dok', hl, hb, hh6⟩
    walk_at "s"
    refine ⟨a, c, d', wide + 1, G1, _, rfl, hh6, dok', by omega, by omega, fun n7 d7 H7 n70 n71 dok7 hh7 => ?_⟩
    walk_at "s"
    refine ⟨a, c, d7, 5, G1, _, rfl, hh7, dok7, by omega, by omega, fun n8 d8 H8 n80 n81 dok8 hh8 => ?_⟩
    walk_at "s"
    generalize hz : (if (if low + n7 < 100 then low + n7 else 100) > -100 then (if low + n7 < 100 then low + n7 else 100) else -100) = z
    have zb : -100 ≤ z ∧ z ≤ 100 := by omega
    refine r_I (cmulL (by omega)) ?_
    walk_at "s"
    generalize hy : z * (if decide (0 < n8) = true then 1 else 0) = y
    have yb : -100 ≤ y ∧ y ≤ 100 := by
      rw [← hy]
      split <;> omega
    refine app_m hh8 2 rfl (szl (by rw [List.length_map]; omega)) fun H9 hh9 => ?_
    walk_at "s"
    refine ⟨_, d8, ch ++ [y], rfl, dok8, by simp [hl], fun x hx => ?_, ?_⟩
    · rcases List.mem_append.mp hx with h | h
      · exact hb x h
      · rw [List.mem_singleton] at h
        subst h
        exact yb
    · rw [List.map_append]
      exact hh9
  · rintro σ H6 ⟨v, d', ch, rfl, dok', hl, hb, hh6⟩
    walk_at "s"
    refine ⟨f, _, rfl, .inl ⟨SqL.of (hh6.get (i := 2) rfl), ?_⟩⟩
    have hh7 := hh6.drop2
    refine new1_G hh7 fun t G7 H7 ex7 ht hh7 => ?_
    exact k t ch d' G7 H7 (ex1.trans ex7) ht ⟨by omega, by omega, hb⟩ (by omega) dok' hh7
theorem pure_law_setting (vs : List V) (H : Hp) (Q : VK) (E : XK) (h : sp_law_setting K A vs H Q E) : t_law_setting K A { nx := fun _ H' => Q .non H', rt := Q } (start ["_law_h", "_law_wide", "_law_low", "_law_high", "_law_start"] vs) H := by
  obtain ⟨a, c, d, G, mu, rfl, hh, dok, k⟩ := h
  show t_law_setting K A _ [some (.ref a), none, none, none, none] H
  unfold t_law_setting
  walk_at "s"
  refine r_I (show CPow 10 11 from ⟨by decide, by decide, by decide⟩) ?_
  walk_at "s"
  refine lst_G (by walk_at "sz") hh fun p G1 H1 ex1 hp hh1 => ?_
  walk_at "s"
  refine ⟨a, c, d, 3, G1, mu, rfl, hh1, dok, by omega, by omega, fun n d2 H2 n0 n1 dok2 hh2 => ?_⟩
  obtain ⟨wide, hw, w0, w1⟩ : ∃ w : Int, atI [V.int 5, V.int 60, V.int (10 ^ (11 : Int).toNat)] n = some (V.int w) ∧ 5 ≤ w ∧ w ≤ 10 ^ 11 := by
    rcases (show n = 0 ∨ n = 1 ∨ n = 2 by omega) with rfl | rfl | rfl
    · exact ⟨5, rfl, by decide, by decide⟩
    · exact ⟨60, rfl, by decide, by decide⟩
    · exact ⟨10 ^ 11, rfl, by decide, by decide⟩
  refine rix_h (hh2.rd hp) hw ?_
  walk_at "s"
  refine ⟨a, c, d2, wide, G1, mu, rfl, hh2, dok2, by omega, by omega, fun n3 d3 H3 n30 n31 dok3 hh3 => ?_⟩
  walk_at "s"
  generalize hlow : n3 - wide / 2 = low
  refine lst_G (by walk_at "sz") hh3 fun p2 G4 H4 ex4 hp2 hh4 => ?_
  walk_at "s"
  refine ⟨a, c, d3, 2, G4, mu, rfl, hh4, dok3, by omega, by omega, fun n5 d5 H5 n50 n51 dok5 hh5 => ?_⟩
  obtain ⟨w2, hw2, w20, w21⟩ : ∃ w : Int, atI [V.int 4, V.int wide] n5 = some (V.int w) ∧ 4 ≤ w ∧ w ≤ 10 ^ 11 := by
    rcases (show n5 = 0 ∨ n5 = 1 by omega) with rfl | rfl
    · exact ⟨4, rfl, by decide, by decide⟩
    · exact ⟨wide, rfl, by omega, by omega⟩
  refine rix_h (hh5.rd hp2) hw2 ?_
  walk_at "s"
  refine ⟨a, c, d5, w2, G4, mu, rfl, hh5, dok5, by omega, by omega, fun n6 d6 H6 n60 n61 dok6 hh6 => ?_⟩
  walk_at "s"
  generalize hhigh : low + n6 = high
  refine ⟨a, c, d6, 2 * wide, G4, mu, rfl, hh6, dok6, by omega, by omega, fun n7 d7 H7 n70 n71 dok7 hh7 => ?_⟩
  walk_at "s"
  generalize hst : low + n7 - wide / 2 = st
  refine lst_G (by walk_at "sz") hh7 fun p3 G8 H8 ex8 hp3 hh8 => ?_
  walk_at "s"
  refine ⟨a, c, d7, 8, G8, mu, rfl, hh8, dok7, by omega, by omega, fun n9 d9 H9 n90 n91 dok9 hh9 => ?_⟩
  walk_at "s"
  generalize hix : (if n9 - 3 > 0 then n9 - 3 else 0) = ix
  obtain ⟨s2, hs2, sb1, sb2⟩ : ∃ w : Int, atI [V.int st, V.int low, V.int high, V.int (low - 1), V.int (high + 1)] ix = some (V.int w) ∧ low - 10 ^ 11 ≤ w ∧ w ≤ low + 2 * 10 ^ 11 := by
    rcases (show ix = 0 ∨ ix = 1 ∨ ix = 2 ∨ ix = 3 ∨ ix = 4 by omega) with h | h | h | h | h <;> rw [h]
    · exact ⟨st, rfl, by omega, by omega⟩
    · exact ⟨low, rfl, by omega, by omega⟩
    · exact ⟨high, rfl, by omega, by omega⟩
    · exact ⟨low - 1, rfl, by omega, by omega⟩
    · exact ⟨high + 1, rfl, by omega, by omega⟩
  refine rix_h (hh9.rd hp3) hs2 ?_
  walk_at "s"
  refine lst_G (by walk_at "sz") hh9 fun p4 G10 H10 ex10 hp4 hh10 => ?_
  walk_at "s"
  refine ⟨a, c, d9, 2, G10, mu, rfl, hh10, dok9, by omega, by omega, fun n11 d11 H11 n110 n111 dok11 hh11 => ?_⟩
  obtain ⟨w3, hw3, w30, w31⟩ : ∃ w : Int, atI [V.int 6, V.int 200] n11 = some (V.int w) ∧ 6 ≤ w ∧ w ≤ 200 := by
    rcases (show n11 = 0 ∨ n11 = 1 by omega) with rfl | rfl
    · exact ⟨6, rfl, by decide, by decide⟩
    · exact ⟨200, rfl, by decide, by decide⟩
  refine rix_h (hh11.rd hp4) hw3 ?_
  walk_at "s"
  refine ⟨a, c, d11, w3, G10, mu, rfl, hh11, dok11, by omega, by omega, fun n12 d12 H12 n120 n121 dok12 hh12 => ?_⟩
  walk_at "s"
  refine ⟨a, c, d12, 2, G10, mu, rfl, hh12, dok12, by omega, by omega, fun n13 d13 H13 n130 n131 dok13 hh13 => ?_⟩
  walk_at "s"
  refine tup_G (by walk_at "sz") hh13 fun t G14 H14 ex14 ht hh14 => ?_
  exact k t (1 + n12) low high s2 _ d13 G14 H14 (ex1.trans (ex4.trans (ex8.trans (ex10.trans ex14)))) ht ⟨by omega, by omega, by omega, by omega, by omega, by omega, sb1, sb2⟩ dok13 hh14
theorem weather_m {G : Hp} {mu : Mu} {H : Hp} {Q : VK} {E : XK} {ch : List Int} (hh : Hold G mu H) (WC : WeatherC K A.cWeather) (ok : WOk ch) (k : ∀ w wt G' H', Ex G G' → IsWeather K A G' w wt ch → Hold G' mu H' → Q (.ref w) H') :
    rMak A.cWeather (sp_Weather_init K A) E (ch.map V.int) H Q :=
  make_m hh fun x dx H1 hh1 => ⟨[.ref x], ch.map V.int, rfl, rfl, sz (by rw [List.length_map]; have := ok.2.1; omega), fun p hp => ⟨x, dx, p, ch, upd G p (.tup (ch.map V.int)), mu, rfl, WC, ok, hh1.new hp, upd_same,
    fun G' H' ex iw hh' => ⟨rfl, k x p G' H' ((Ex.new (hh1.g_none hp)).trans ex) iw hh'⟩⟩⟩
theorem pure_law_weather (vs : List V) (H : Hp) (Q : VK) (E : XK) (h : sp_law_weather K A vs H Q E) : t_law_weather K A { nx := fun _ H' => Q .non H', rt := Q } (start ["_law_changes_here", "_law_a"] vs) H := by
  obtain ⟨t, ch, G, mu, rfl, WC, hh, ht, ok, hl, k⟩ := h
  show t_law_weather K A _ [some (.ref t), none] H
  unfold t_law_weather
  walk_at "s"
  refine listOf_G hh (.inr (SqT.of (hh.rd ht))) fun q G1 H1 ex1 hq hh1 => ?_
  walk_at "s"
  refine lst_G (by walk_at "sz") hh1 fun z G2 H2 ex2 hz hh2 => ?_
  walk_at "s"
  refine rep_G hh2 (hh2.rd hz) (by decide) (by decide) (by decide) fun y G3 H3 ex3 hy hh3 => ?_
  walk_at "s"
  refine cat_G hh3 (hh3.rd (ex3 _ _ (ex2 _ _ hq))) (hh3.rd hy) (sz (by rw [List.length_map]; show _ + 6 ≤ _; omega)) fun l G4 H4 ex4 hl4 hh4 => ?_
  have ht4 := ex4 _ _ (ex3 _ _ (ex2 _ _ (ex1 _ _ ht)))
  have exA : Ex G G4 := ex1.trans (ex2.trans (ex3.trans ex4))
  have hl5 := hh4.rd hl4
  have fin : ∀ vs : List V, vs = ch.map V.int → rMak A.cWeather (sp_Weather_init K A) E0 vs H4 Q := fun vs e => by
    subst e
    exact weather_m hh4 WC ok fun w wt G' H' ex iw hh' => k w wt G' H' (exA.trans ex) iw hh'
  walk_at "s"
  have n0 := ok.1
  clear ok
  rcases ch with _ | ⟨x0, _ | ⟨x1, _ | ⟨x2, _ | ⟨x3, _ | ⟨x4, _ | ⟨x5, _ | ⟨x6, r⟩⟩⟩⟩⟩⟩⟩
  · exact absurd n0 (Nat.lt_irrefl 0)
  · refine r_iteT ?_
    walk_at "s"
    refine r_iteT ?_
    walk_at "s"
    exact fin _ rfl
  · refine r_iteT ?_
    walk_at "s"
    refine r_iteF ?_
    walk_at "s"
    exact fin _ rfl
  · refine r_iteF ?_
    walk_at "s"
    refine r_iteT ?_
    walk_at "s"
    refine r_iteT ?_
    walk_at "s"
    exact fin _ rfl
  · refine r_iteF ?_
    walk_at "s"
    refine r_iteT ?_
    walk_at "s"
    refine r_iteF ?_
    walk_at "s"
    exact fin _ rfl
  · refine r_iteF ?_
    walk_at "s"
    refine r_iteF ?_
    walk_at "s"
    refine r_iteT ?_
    walk_at "s"
    exact fin _ rfl
  · refine r_iteF ?_
    walk_at "s"
    refine r_iteF ?_
    walk_at "s"
    refine r_iteF ?_
    walk_at "s"
    exact fin _ rfl
  · simp at hl
theorem pure_law_room (vs : List V) (H : Hp) (Q : VK) (E : XK) (h : sp_law_room K A vs H Q E) : t_law_room K A { nx := fun _ H' => Q .non H', rt := Q } (start ["_law_changes_here", "_law_setting_here", "_law_gain", "_law_low", "_law_high", "_law_degrees", "_law_heating"] vs) H := by
  obtain ⟨t, s, P, G, mu, rfl, WC, HC, RC, TH, TU, hh, ht, hs, wok, hl, hok, s1, s2, k⟩ := h
  show t_law_room K A _ [some (.ref t), some (.ref s), none, none, none, none, none] H
  unfold t_law_room
  walk_at "s"
  refine ⟨t, P.ch, G, mu, rfl, WC, hh, ht, wok, hl, fun w wt G1 H1 ex1 iw hh1 => ?_⟩
  walk_at "s"
  refine make_m hh1 fun x dx H2 hh2 => ⟨x, dx, _, _, _, G1, mu, rfl, HC, hok, hh2, fun G3 H3 ex3 ih hh3 => ⟨rfl, ?_⟩⟩
  walk_at "s"
  refine makeKw_m hh3 rfl rfl fun p dp H4 hh4 => ?_
  refine ⟨p, dp, w, wt, x, P, G3, mu, rfl, RC, TH, TU, iw.up ex3, ih, s1, s2, hh4, fun rs loop pa G5 H5 ex5 ir hh5 => ⟨rfl, ?_⟩⟩
  exact k p _ G5 H5 (ex1.trans (ex3.trans ex5)) ir rfl hh5
end
end Wm
end

section
/-! ## Joining: the text's defs and what the top has made of them -/
namespace Wm
open PySem PySem.Spec PyProof.Rows L2 StX
section
variable {P : Program} {w : World} {K : PySem.W.Frag} {mg : Str → Option Value} {base : Heap} {CX : CXT}
theorem okD {x qual : Str} {st : Stmt} {dvs : List V} {kws : List (Str × V)} {f : Addr} {fd : FuncData} {N ps : List Str} {k : Nat} {sp : Sp} (F : FunD K x qual (defArgs st) (defBody st) (defScope st) dvs kws f fd) (S : FnScope N ps (defScope st)) (len : ∀ vs H Q E, sp vs H Q E → vs.length = ps.length)
    (hbody : ∀ (cdv : Value) (A : Around) (outer : List Env) (s : Shared) (H : Hp) (vs : List V) (Q : VK) (E : XK), Room k (A.deeper (envOfC qual (defScope st) s.heap.objs.size f cdv)) → sp vs H Q E →
      ∃ t, PSs (cxOf CX P w K mg base N qual (defScope st) f cdv A outer s H E).nox (defBody st) t ∧ t { nx := fun _ H' => Q .non H', rt := Q } (start N vs) H) : FnOk P w K mg base CX (k + 1) f fd ps sp :=
  F.ok S len fun cdv A outer s H vs Q E hr h => by
    obtain ⟨t, p, q⟩ := hbody cdv A outer s H vs Q E hr h
    exact ⟨t, p.nox, q⟩
/-- def f(a, *v) -/
theorem okStar {x qual p1 pv : Str} {st : Stmt} {kws : List (Str × V)} {f : Addr} {fd : FuncData} {N : List Str} {k : Nat} {sp : Sp} (F : FunD K x qual (defArgs st) (defBody st) (defScope st) [] kws f fd) (S : FnScope N ([p1] ++ [pv]) (defScope st)) (hup : CXUp CX)
    (hb : ∀ (kV doc pm : Value) (an : Option Addr) (cdv ct : Value) (us rest : List Value), us.length = [p1].length → bindArgs (PySem.W.fnOf x qual (defArgs st) (defBody st) (defScope st) .none kV doc pm an cdv ct) ⟨us ++ rest, []⟩ = (newTuple rest >>= fun t => pure ([p1].zip us ++ [(pv, t)])))
    (hbody : ∀ (cdv : Value) (A : Around) (outer : List Env) (s : Shared) (H : Hp) (vs : List V) (Q : VK) (E : XK), Room k (A.deeper (envOfC qual (defScope st) s.heap.objs.size f cdv)) → sp vs H Q E →
      ∃ t, PSs (cxOf CX P w K mg base N qual (defScope st) f cdv A outer s H E).nox (defBody st) t ∧ t { nx := fun _ H' => Q .non H', rt := Q } (start N vs) H) :
    FnR P w K mg base CX (k + 1) f (fun vs H Q E => ∃ ws rest, vs = ws ++ rest ∧ ws.length = [p1].length ∧ rest.length ≤ sizeLine ∧ ∀ p, H p = Option.none → sp (ws ++ [V.ref p]) (upd H p (.tup rest)) Q E) := by
  obtain ⟨oc, od, dV, kV, doc, pm, an, cdv, ct, osl, rfl, lk, hcd, hD, _⟩ := F.ex
  rcases hD with ⟨_, rfl⟩ | ⟨e, _⟩
  case inr => exact absurd rfl e
  exact fn_star lk hcd S hup (hb kV doc pm an cdv ct) fun A outer s H vs Q E hr h => by
    obtain ⟨t, p, q⟩ := hbody cdv A outer s H vs Q E hr h
    exact ⟨t, p.nox, q⟩
/-- C(e, .., k = v, ..) -/
structure MakKR (P : Program) (w : World) (K : PySem.W.Frag) (mg : Str → Option Value) (base : Heap) (CX : CXT) (k : Nat) (x : Str) (C : Addr) (n : Nat) (ks : List Str) (sp : Sp) : Prop where
  ex : ∃ (f : Addr) (fd : FuncData) (ps : List Str) (g : List Value → List Value → List Value), FnOk P w K mg base CX k f fd ps sp ∧ Mk K C f ∧ mg x = some (.ref C) ∧ KBn K fd ps (n + 1) ks g (fun us ws => us ++ ws)
end
section
variable {X : Cx} {CX : CXT} {k j n : Nat} {C : Addr} {sp : Sp} {E : XK} {x : Str} {ks : List Str} {p pos : Pos} {e : Expr} {es : List Expr} {kws : List Keyword} {t tk : TA}
theorem pe_mkKwR (c : MakKR X.prog X.w X.K X.mg X.base CX k x C n ks sp) (hr : Room j X.A) (hk : k + 1 ≤ j) (hx : Passes CX X E) (hg : Gl X x) (ha : PA X (e :: es) t) (hkw : PK X kws tk)
    (hall : (backToKw pos (keywordEach kws X.env)).all (·.1.isSome) = true := by rfl) (hks : (backToKw pos (keywordEach kws X.env)).filterMap (·.1) = ks := by rfl) (hdb : (x == ("__debug__" : Str)) = false := by decide)
    (he : starEach (e :: es) X.env = (false, eval e X.env) :: starEach es X.env := by rfl) (hpl : ((backTo pos (starEach (e :: es) X.env)).any (·.1) || (backToKw pos (keywordEach kws X.env)).any (·.1.isNone)) = false := by rfl) :
    PE X (.Call (.Name x p) (e :: es) kws pos) (tMakKw C n ks.length sp E t tk) := by
  obtain ⟨f, fd, ps, g, F, M, hm, hb⟩ := c.ex
  exact pe_makeK M F (hr.mono hk) hg hm hb hx ha hkw hall hks hdb he hpl
end
/-! ### properties -/
def pAd (K : PySem.W.Frag) (x f : Str) : Addr := He.ma K (He.ga K x) f
def gAd (K : PySem.W.Frag) (x f : Str) : Addr := match PySem.W.recIn K (pAd K x f) "property" with
  | some (.ref g :: _) => g
  | _ => 0
structure PrpD where
  cls : Str
  name : Str
  qual : Str
  params : Arguments
  body : List Stmt
  scope : Scope
def PrpD.val (d : PrpD) : He.FnW := some (d.name, d.qual, d.params, .stmts d.body, d.scope, mainGlobals, [], builtinsNs)
def fnA (K : PySem.W.Frag) (a : Addr) : He.FnW := match K.lookup a with
  | some ⟨_, _, .func fd, _⟩ => some (fd.name, fd.qualname, fd.params, fd.body, fd.scope, fd.globals, fd.closure, fd.builtins)
  | _ => none
def isRec (K : PySem.W.Frag) (p : Addr) : Bool := match PySem.W.recIn K p "property" with
  | some (.ref _ :: _) => true
  | _ => false
def codeB (K : PySem.W.Frag) (a : Addr) (q : Str) : Bool := match K.lookup a with
  | some ⟨_, _, .func fd, _⟩ => PySem.W.codeIn K fd.code q && He.dflB K fd.defaults []
  | _ => false
def PrpD.ok (K : PySem.W.Frag) (d : PrpD) : Bool := He.eqO (PySem.W.findIn K (.ref (He.ga K d.cls)) d.name) (some (some (.ref (pAd K d.cls d.name)))) && (He.eqO (PySem.W.specialIn K (.ref (pAd K d.cls d.name)) "__get__") (some (some (.builtin "property.__get__"))) &&
  (decide (PySem.W.takesIn K (.ref (pAd K d.cls d.name)) = some true) && (isRec K (pAd K d.cls d.name) && (PySem.W.keepIn K (.ref (gAd K d.cls d.name)) && codeB K (gAd K d.cls d.name) d.qual))))
def SaysP (ps : List PrpD) (K : PySem.W.Frag) : Prop := (ps.all fun d => d.ok K) = true ∧ ps.map (fun d => fnA K (gAd K d.cls d.name)) = ps.map PrpD.val
theorem SaysP.get {ps : List PrpD} {K : PySem.W.Frag} (c : SaysP ps K) (i : Nat) {d : PrpD} (h : ps[i]? = some d := by rfl) :
    PropOf K (He.ga K d.cls) d.name (pAd K d.cls d.name) (gAd K d.cls d.name) ∧ ∃ fd, FunD K d.name d.qual d.params d.body d.scope [] [] (gAd K d.cls d.name) fd := by
  have c1 : d.ok K = true := List.all_eq_true.mp c.1 d (List.mem_of_getElem? h)
  have c2 : fnA K (gAd K d.cls d.name) = d.val := by
    have e := congrArg (fun l => l[i]?) c.2
    simp only [List.getElem?_map, h, Option.map_some] at e
    exact Option.some.inj e
  unfold PrpD.ok at c1
  obtain ⟨h1, c1⟩ := He.ba c1
  obtain ⟨h2, c1⟩ := He.ba c1
  obtain ⟨h3, c1⟩ := He.ba c1
  obtain ⟨h4, c1⟩ := He.ba c1
  obtain ⟨h5, h6⟩ := He.ba c1
  refine ⟨⟨He.eqO_ok h1, He.eqO_ok h2, of_decide_eq_true h3, ?_⟩, ?_⟩
  · unfold isRec at h4
    unfold gAd
    split at h4
    · rename_i g rest hq
      rw [hq]
      exact ⟨rest, rfl⟩
    · cases h4
  · unfold fnA at c2
    unfold codeB at h6
    cases q : K.lookup (gAd K d.cls d.name) with
    | none =>
      rw [q] at h6
      cases h6
    | some o =>
      obtain ⟨oc, od, dt, osl⟩ := o
      rw [q] at h6 c2
      cases dt with
      | func fd =>
        obtain ⟨n1, n2, n3, n4, n5, n6, n7, n8, n9, n10, n11, n12, n13, n14, n15⟩ := fd
        have e2 : (some (n1, n2, n3, n4, n5, n6, n7, n15) : He.FnW) = some (d.name, d.qual, d.params, .stmts d.body, d.scope, mainGlobals, [], builtinsNs) := c2
        simp only [Option.some.injEq, Prod.mk.injEq] at e2
        obtain ⟨k1, k2, k3, k4, k5, k6, k7, k8⟩ := e2
        subst k1 k2 k3 k4 k5 k6 k7 k8
        obtain ⟨k1, k2⟩ := He.ba (show (PySem.W.codeIn K n13 d.qual && He.dflB K n8 []) = true from h6)
        exact ⟨_, ⟨oc, od, n8, n9, n10, n11, n12, n13, n14, osl, rfl, q, k1, He.dflB_ok k2, .inl rfl⟩, h5⟩
      | _ => cases h6
/-! ### constants of a class -/
structure CVC (K : PySem.W.Frag) (C : Addr) (f : Str) (v : V) : Prop where
  ex : ∃ mc u, ClX.CRead K C mc ∧ ClX.CVal K C mc f v u
theorem pe_cvC {X : Cx} {e : Expr} {C : Addr} {f : Str} {v : V} {pos : Pos} (he : PE X e (tC (.ref C))) (c : CVC X.K C f v) (hb : attributeBase e f X.env (eval e X.env) = eval e X.env := by rfl) : PE X (.Attribute e f pos) (tC v) := by
  obtain ⟨mc, u, r, k⟩ := c.ex
  exact ⟨fun pins s σ H Q I q => (ClX.pe_cval he hb).run pins s σ H Q I ⟨C, mc, v, u, rfl, r, k, q⟩⟩
def cvB (K : PySem.W.Frag) (x f : Str) (v : V) : Bool := PySem.W.readsIn K (He.ga K x) (.type "type") && (He.eqO (PySem.W.specialIn K (.ref (He.ga K x)) "__getattribute__") (some (some (.builtin "type.__getattribute__"))) && (match PySem.W.findCls K (.ref (He.ga K x)) (.type "type") f with
  | some (.val u) => He.relB v u
  | _ => false))
theorem cvB_ok {K : PySem.W.Frag} {x f : Str} {v : V} (h : cvB K x f v = true) : CVC K (He.ga K x) f v := by
  obtain ⟨h1, h⟩ := He.ba h
  obtain ⟨h2, h⟩ := He.ba h
  split at h
  · rename_i u hu
    exact ⟨_, u, ⟨h1, He.eqO_ok h2⟩, hu, He.relB_ok h⟩
  · cases h
theorem hu65_of {k : Nat} {A : Around} (hr : Room k A) : A.units + 65 < cLine := by have := hr.un; omega
end Wm
end

section
namespace PySem
namespace WmX
open PySem.W PySem.Calls PyProof.Rows PySem.HandSPX
section
variable {M : Model} {A : Around} {E : Value → Shared → Prop} {h : Heap} {g : Array GenState} {d : Drawn} {t : Nat} {os : OsState}
variable {nm q x : Str} {v : Value} {C N : Addr} {bs bm bmB : List Value} {hdct : Bool} {sn : List Str} {sub : List Value} {ab : Bool} {col : Option Bool} {dd : Option Addr} {k0 k1 k2 k3 k5 : Option Value} {B newId initId : String}
theorem check_new_kw (F : ExcBaseFacts B newId initId bmB) (hT : ∀ X : String, bm.contains (.type X) = bmB.contains (.type X)) {Q : Unit → Shared → Prop}
    (hC : h.get? C = some (excClassObj nm q C N bs bm hdct sn sub ab col dd k0 k1 k2 k3 k5 newId)) (hq : Q () ⟨h, g, d, t, os⟩) : wpAny M A (checkBuiltinCall newId ⟨[.ref C], [(x, v)]⟩) Q E ⟨h, g, d, t, os⟩ := by
  have hcont : (Value.ref C :: bm).contains (.type B) = true := by rw [List.contains_cons, hT, F.hasB, Bool.or_true]
  have hstar := F.noStar
  simp only [checkBuiltinCall, F.newKind, F.newSplit, F.newRow]
  repeat (first | refine wpAny_loadPart_at hC ?_ | (refine wpAny_isSubtype_exc hC ?_; rw [hcont]) | refine wpAny_staticBase_exc hC ?_ | refine wpAny_madeBy_exc hC ?_ | simp only [bne_self_eq_false, Bool.false_eq_true, if_false] | wp_step)
  exact hq
end
section
variable {prog : Program} {w : World} {A : Around} {E : Value → Shared → Prop} {R : Result → Shared → Prop} {h : Heap} {g : Array GenState} {d : Drawn} {t : Nat} {os : OsState}
variable {nm q x : Str} {v : Value} {C N : Addr} {bs bm bmB : List Value} {hdct : Bool} {sn : List Str} {sub : List Value} {ab : Bool} {col : Option Bool} {dd : Option Addr} {k0 k1 k2 k3 k5 : Option Value} {B newId initId : String}
theorem new_kw (F : ExcBaseFacts B newId initId bmB) (hT : ∀ X : String, bm.contains (.type X) = bmB.contains (.type X))
    (hC : h.get? C = some (excClassObj nm q C N bs bm hdct sn sub ab col dd k0 k1 k2 k3 k5 newId))
    (hq : R (.ok (.ret (.ref (h.objs.size + 1)))) ⟨(h.push { cls := .type "tuple", data := .seq ([] : List Value).toArray }).push
      { cls := .ref C, data := .fields #[.ref h.objs.size, .none, .none, .none, .bool false, .none] }, g, d, t, os⟩) :
    codeAny (model prog w) A (.builtin newId ⟨[.ref C], [(x, v)]⟩) R ⟨h, g, d, t, os⟩ := by
  have hends := F.ends
  have hcB : (Value.ref C :: bm).contains (.type B) = true := by rw [List.contains_cons, hT, F.hasB, Bool.or_true]
  have hcA : (Value.ref C :: bm).contains (.type "AttributeError") = false := by rw [List.contains_cons, hT, F.noAttr]; rfl
  have hcN : (Value.ref C :: bm).contains (.type "NameError") = false := by rw [List.contains_cons, hT, F.noName]; rfl
  refine codeAny_builtinAt F.entry ?_
  unfold Builtin.«BaseException.__new__»
  refine wpAt_bind ?_
  show wpAt _ _ _ (stack >>= _) _ _ _
  refine wpAt_bind (wpAt_stack fun p below => wpAt_of_wpAny ?_)
  wp_walk
  refine wpAt_of_wpAny ?_
  rw [F.owner]
  repeat (first | with_reducible refine wpAny_madeHere_exc F.canon hC ?_ | with_reducible refine wpAny_loadPart_at hC ?_ | (with_reducible refine wpAny_isSubtype_exc hC ?_; first | rw [hcB] | rw [hcA] | rw [hcN]) | wp_step)
  show R _ _
  rw [Heap.size_push]
  exact hq
theorem type_call_kw (F : ExcBaseFacts B newId initId bmB) (hT : ∀ X : String, bm.contains (.type X) = bmB.contains (.type X)) {fI : Addr} {Q : Fin → Shared → Prop}
    (hC : h.get? C = some (excClassObj nm q C N bs bm hdct sn sub ab col dd k0 k1 k2 k3 k5 newId))
    (hi : W.Looks (model prog w) h (typeLookup (.ref C) "__init__") (some (.ref fI))) (hb : ∀ self, W.Looks (model prog w) h (bindSpecial (.ref fI) self) (.ref fI, [self]))
    (hq : codeAny (model prog w) A (.call (.ref fI) ⟨[.ref (h.objs.size + 1)], [(x, v)]⟩)
      (fun r s' => match r with | .ok (.ret v) => v = .none ∧ Q (.done (.ret (.ref (h.objs.size + 1)))) s' | .ok _ => False | .error e => E e s')
      ⟨(h.push (W.kdv_tup [])).push (excO C h.objs.size), g, d, t, os⟩) :
    wpAny (model prog w) A (Builtin.«type.__call__» ⟨[.ref C], [(x, v)]⟩) Q E ⟨h, g, d, t, os⟩ := by
  repeat (first | with_reducible refine wpAny_loadPart_at hC ?_ | with_reducible refine wpAny_madeBy_exc hC ?_ | wp_step)
  refine codeAny_call_builtin_code (Code.quiet_builtin _ F.quiet) (check_new_kw F hT hC ?_)
  refine new_kw F hT hC ?_
  show wpAny _ _ _ _ _ _
  have k : ∀ b o, h.get? b = some o → ((h.push (W.kdv_tup [])).push (excO C h.objs.size)).get? b = some o := fun b o e => Heap.get?_push_of_some _ (Heap.get?_push_of_some _ e)
  have hC₁ := k _ _ hC
  have hget : ((h.push (W.kdv_tup [])).push (excO C h.objs.size)).get? (h.objs.size + 1) = some (excO C h.objs.size) := by heap_get
  have hcC : (Value.ref C :: bm).contains (.ref C) = true := by simp
  have i1 := hi.keeps k
  have b1 := (hb (.ref (h.objs.size + 1))).keeps k
  unfold isInstance
  repeat (first | with_reducible refine wpAny_loadPart_at hget ?_ | (with_reducible refine wpAny_isSubtype_exc hC₁ ?_; rw [hcC]) | wp_step)
  show wpAny _ _ (typeLookup (.ref C) _) _ _ _
  refine i1.at ?_
  refine wpAny_holding (wpAny_bind (b1.at ?_))
  refine wpAny_bind (wpAny_call (codeAny_mono hq fun r s' z => ?_))
  rcases r with e | (v | _ | _ | _) <;> first | exact z | exact z.elim | skip
  obtain ⟨rfl, z⟩ := z
  first
    | exact wpAny_pure (wpAny_pure z)
    | (wp_walk; exact z)
theorem call_kw (F : ExcBaseFacts B newId initId bmB) (hT : ∀ X : String, bm.contains (.type X) = bmB.contains (.type X)) {fI : Addr}
    (hC : h.get? C = some (excClassObj nm q C N bs bm hdct sn sub ab col dd k0 k1 k2 k3 k5 newId))
    (hi : W.Looks (model prog w) h (typeLookup (.ref C) "__init__") (some (.ref fI))) (hb : ∀ self, W.Looks (model prog w) h (bindSpecial (.ref fI) self) (.ref fI, [self]))
    (hq : codeAny (model prog w) (A.under (.builtin "type.__call__" ⟨[.ref C], [(x, v)]⟩)) (.call (.ref fI) ⟨[.ref (h.objs.size + 1)], [(x, v)]⟩) (W.InitBack (h.objs.size + 1) R)
      ⟨(h.push (W.kdv_tup [])).push (excO C h.objs.size), g, d, t, os⟩) :
    codeAny (model prog w) A (.call (.ref C) ⟨[], [(x, v)]⟩) R ⟨h, g, d, t, os⟩ := by
  have f1 := tc_lookup
  have f2 := tc_bind (.ref C)
  have hTy : (⟨h, g, d, t, os⟩ : Shared).TypeIs (.ref C) "type" := ⟨_, hC, rfl⟩
  refine codeAny_of_tree ?_
  show wpAny _ _ (callAny (.ref C) _) _ _ _
  repeat (any_goals (first | assumption | with_reducible refine wpAny_loadPart_at hC ?_ | wp_step))
  refine ⟨rfl, ?_⟩
  refine codeAny_call_builtin_at (Code.quiet_builtin _ (by decide +kernel)) entry_typeCall (wpAny_check_type_call_sub hC (type_call_kw F hT hC hi hb ?_))
  refine codeAny_mono hq fun r s' z => ?_
  rcases r with e | (v | _ | _ | _) <;> exact z
end
end WmX
end PySem
/-! ## Errors with one keyword: C(x=e) -/
namespace Wm
open PySem PySem.Spec PyProof.Rows L2 StX
/-- C(x=e), C's own __init__ keeping sp -/
def tMkX (C : Addr) (sp : Sp) (te : TE) : L2.St → Hp → XK → Prop := fun σ H Q => te σ H fun y H1 => ∀ a, H1 a = none → sp [.ref a, y] (upd H1 a (exo a C none))
  (fun v H2 => v = .non ∧ ∃ (d : Addr) (fs : List (Str × V)), H2 a = some (exo a C (some d)) ∧ H2 d = some (exd d fs) ∧ H1 d = none ∧ Q (.ref C) (some d) (upd (del H2 a) d (.xd fs))) (fun _ _ _ => False)
section
variable {X : Cx} {e : Expr} {te : TE}
theorem pmk_kw {CX : CXT} {x y : Str} {C fI : Addr} {k : Nat} {fd : FuncData} {ps : List Str} {sp : Sp} {p pos : Pos} {kws : List Keyword} (T : OexC X.K C) (iC : PySem.W.findIn X.K (.ref C) "__init__" = some (some (.ref fI))) (tI : PySem.W.typeIn X.K (.ref fI) = some (.type "function"))
    (F1 : FnOk X.prog X.w X.K X.mg X.base CX k fI fd ps sp) (hr : Room (k + 1) X.A) (hb : ∀ (s : Shared) (u v : Value), BindsTo s fd ⟨[u], [(y, v)]⟩ (ps.zip [u, v])) (hx : Passes CX X (fun _ _ _ => False)) (hg : Gl X x) (hm : X.mg x = some (.ref C)) (hkw : PK X kws (tCons te tNil))
    (hall : (backToKw pos (keywordEach kws X.env)).all (·.1.isSome) = true := by rfl) (hks : (backToKw pos (keywordEach kws X.env)).filterMap (·.1) = [y] := by rfl) (hdb : (x == ("__debug__" : Str)) = false := by decide)
    (hpl : ((backTo pos (starEach [] X.env)).any (·.1) || (backToKw pos (keywordEach kws X.env)).any (·.1.isNone)) = false := by rfl) :
    PMk X (.Call (.Name x p) [] kws pos) (tMkX C sp te) := by
  intro pins s σ H Q I h
  obtain ⟨nm, q, N, bs, bm, sn, sub, ab, col, dd, k0, k1, k2, k3, k5, hC, hbm⟩ := T.cls
  refine wpAny_Call_Name_kw (ld_glob I hg hm ?_ hdb)
  refine PySem.W.callWith_KW0 (h₀ := X.base) I.ok.mod.kin T.kC hall ?_ hpl
  have h' : tCons te tNil σ H (fun zs H1 => match zs with | [z] => ∀ a, H1 a = none → sp [.ref a, z] (upd H1 a (exo a C none)) (fun v H2 => v = .non ∧ ∃ (d : Addr) (fs : List (Str × V)), H2 a = some (exo a C (some d)) ∧ H2 d = some (exd d fs) ∧ H1 d = none ∧ Q (.ref C) (some d) (upd (del H2 a) d (.xd fs))) (fun _ _ _ => False) | _ => False) := h
  refine thn (hkw.run pos pins s σ H _ I h') fun ws s1 ⟨zs, H1, I1, rz, q1⟩ => ⟨I1.kIn, ?_⟩
  rw [hks]
  obtain ⟨z, u, rfl, rfl, ru⟩ : ∃ z u, zs = [z] ∧ ws = [u] ∧ RelV z u := by
    cases rz with
    | nil => exact q1.elim
    | cons r rest =>
      cases rest with
      | nil => exact ⟨_, _, rfl, rfl, r⟩
      | cons _ _ => exact q1.elim
  show wpAny _ _ (call (.ref C) [] [(y, u)]) _ _ _
  obtain ⟨hp, g, dr, tk2, os⟩ := s1
  have big : hp.objs.size ≤ hp.objs.size + 1 := Nat.le_succ _
  have new_ : H1 (hp.objs.size + 1) = none := I1.hok.fresh big
  have hq := q1 (hp.objs.size + 1) new_
  obtain ⟨h0, eh0⟩ : ∃ h0, h0 = (hp.push (PySem.W.kdv_tup [])).push (PySem.HandSPX.excO C hp.objs.size) := ⟨_, rfl⟩
  have kk : ∀ b o, hp.get? b = some o → h0.get? b = some o := fun b o z => by rw [eh0]; exact Heap.get?_push_of_some _ (Heap.get?_push_of_some _ z)
  have hget : h0.get? (hp.objs.size + 1) = some (PySem.HandSPX.excO C hp.objs.size) := by rw [eh0]; heap_get
  have I2 : Inv X pins σ (upd H1 (hp.objs.size + 1) (exo (hp.objs.size + 1) C none)) ⟨h0, g, dr, tk2, os⟩ := I1.laid (t' := tk2) (a := hp.objs.size + 1) (o := exo (hp.objs.size + 1) C none) (h' := h0) kk big (exo_ok hget)
  have len := F1.len _ _ _ _ hq
  rw [eh0] at I2 kk
  have rr := hr.make C [] [(y, u)]
  have ee := I2.env0.make C [] [(y, u)]
  have bb := hb (⟨(hp.push (PySem.W.kdv_tup [])).push (PySem.HandSPX.excO C hp.objs.size), g, dr, tk2, os⟩ : Shared) (.ref (hp.objs.size + 1)) u
  have vv : Vals [V.ref (hp.objs.size + 1), z] [Value.ref (hp.objs.size + 1), u] := .cons rfl (.cons ru .nil)
  have run := F1.run _ _ _ _ _ _ _ _ _ rr ee bb vv hq
  refine wpAny_call (PySem.WmX.call_kw F.excBase_ValueError (fun Y => PySem.HandSPX.refsVE_contains Y bm hbm) (I1.kIn _ _ hC) (PySem.W.looks_findIn I1.kIn iC) (fun self => PySem.W.bind_fn I1.kIn self tI) ?_)
  refine codeAny_mono run fun r s' hq' => ?_
  cases r with
  | error er => exact hx pins σ _ _ er s' I2 hq'
  | ok fl =>
    cases fl with
    | ret w =>
      obtain ⟨v, H2, os2, bare2, un2, hok2, rv, ev, d, fs, ea, ed, hd1, q2⟩ := hq'
      subst ev
      obtain ⟨h2, g2, d2, t2, os'⟩ := s'
      exact ⟨rv, mk_end (raises_own T.exC T.tyC) I1 big kk un2 hok2 os2 bare2 ea ed hd1 q2⟩
    | next => exact False.elim hq'
    | brk => exact False.elim hq'
    | cont => exact False.elim hq'
/-- B.__init__(self, ..), B an own class over ValueError that has no __init__ -/
theorem pe_ownInit {pl : Sem Bool} {b : Str} {CB : Addr} {e0 : Expr} {es : List Expr} {ta : TA} {p1 p2 pos : Pos} (hg : Gl X b) (hm : X.mg b = some (.ref CB)) (hr : PySem.W.readsIn X.K CB (.type "type") = true) (hs : PySem.W.specialIn X.K (.ref CB) "__getattribute__" = some (some (.builtin "type.__getattribute__")))
    (vV : PySem.W.findCls X.K (.ref CB) (.type "type") "__init__" = some (.val (.builtin "ValueError.__init__"))) (ha : PA X (e0 :: es) ta) (hdb : (b == ("__debug__" : Str)) = false := by decide)
    (hc : eval (.Call (.Attribute (.Name b p1) "__init__" p2) (e0 :: es) [] pos) X.env = (do
      let ov ← eval (.Name b p1) X.env
      standAt p2.atName
      let (f, first) ← holding [ov] (getMethod ov "__init__" pl)
      callWith pos f first (backTo pos (starEach (e0 :: es) X.env)) (backToKw pos (keywordEach [] X.env))) := by rfl)
    (he : starEach (e0 :: es) X.env = (false, eval e0 X.env) :: starEach es X.env := by rfl) (hpl : (backTo pos (starEach es X.env)).any (·.1) = false := by rfl) :
    PE X (.Call (.Attribute (.Name b p1) "__init__" p2) (e0 :: es) [] pos) (tVeI X.K ta) := by
  refine ⟨fun pins s σ H Q I h => PySem.W.methodCall_KW (ld_glob I hg hm ?_ hdb) hc⟩
  refine PySem.W.method_cls I.kIn hs (PySem.W.cls_value I.kIn hr vV (by decide +kernel) ?_)
  show wpAny _ _ (callWith pos (Value.builtin "ValueError.__init__") [] (backTo pos (starEach (e0 :: es) X.env)) []) _ _ _
  refine PyProof.Rows.callWith_method1 (thn (ha.run pos pins _ σ H _ (I.tok _) h) fun us s1 ⟨vs, H1, I1, r1, a, C, ws, ev, hl, T, ea, q⟩ => ?_) he hpl
  subst ev
  match us, r1 with
  | _ :: ur, .cons ra rw' =>
  cases ra
  exact oinit_ok T I1 ea (by rw [← Paired.length rw', sizeLine_eq]; omega) fun s' J => ⟨.non, H1, J, rfl, q⟩
end
end Wm
end

section
/-! ## Caught errors asked for their class, with fields or without; bools counted -/
namespace Wm
open PySem PySem.Spec PyProof.Rows L2 StX
/-- isinstance(e, c): e the caught error, cls its class, d its fields -/
def rIsX (K : PySem.W.Frag) (a : Addr) (cls : Value) (d : Option Addr) : List V → Hp → VK → Prop := fun xs H Q => ∃ (D : Addr) (c : V) (cv : Value) (b : Bool), cls = .ref D ∧ ExcC K D ∧ xs = [.ref a, c] ∧ (∀ u, RelV c u → u = cv) ∧ PySem.W.kitOne K (.ref D) cv = some b ∧
  (d = none ∨ ∃ dd fs, d = some dd ∧ H dd = some (.xd fs)) ∧ Q (.bl b) H
theorem call_isX {X : Cx} {a : Addr} {oe : Obj} {cls : Value} {d : Option Addr} {pn : List (Addr × Obj)} (hz : Zc cls d oe) (hf : ∃ vs, oe.data = .fields vs) : CallR (X.suite a ((a, oe) :: pn)) (.builtin "isinstance") (rIsX X.K a cls d) := by
  intro pins s σ H xs us Q I r h
  obtain ⟨D, c, cv, b, rfl, C, rfl, hcv, e, hd, q⟩ := h
  cases r with
  | cons rx rr =>
    cases rr with
    | cons rt rr =>
      cases rr
      cases rx
      have ec := hcv _ rt
      subst ec
      obtain ⟨hget, _⟩ := I.pin (a, oe) (List.mem_append.mpr (.inl List.mem_cons_self))
      obtain ⟨vs, hv⟩ := hf
      have J : ∃ od, PySem.W.InstAt s.heap a oe D od := by
        rcases hd with rfl | ⟨dd, fs, rfl, hdd⟩
        · refine ⟨none, hget, hz.1, by unfold PySem.W.notCls; rw [hv] <;> rfl, by rw [hz.2]; trivial⟩
        · have hx : ObjOk X.prog X.w H s.heap dd (.xd fs) := I.hok dd _ hdd
          obtain ⟨mA, hns, hr⟩ := hx
          obtain ⟨od, ho, hl⟩ := lookIn_ns hns
          exact ⟨some od, hget, hz.1, by unfold PySem.W.notCls; rw [hv] <;> rfl, by rw [hz.2]; exact ho⟩
      obtain ⟨od, J⟩ := J
      have hcl : (PySem.W.clsIn X.K D).isSome = true := by
        obtain ⟨cd, hc, _⟩ := PySem.W.any_some C.hd
        rw [hc] <;> rfl
      exact PySem.W.kia_one (PySem.W.kitx_exc hcl C.hg C.hk C.hs C.ha C.hn C.ht C.hm) I.kIn J e (fun z => nomatch z) fun tk => ⟨.bl b, H, I.kept (t' := tk) fun _ _ z => z, rfl, q⟩
/-- xs.count(b), xs a list of bools -/
def rCntB (K : PySem.W.Frag) : V → List V → Hp → VK → Prop := fun x xs H Q => ∃ (p : Addr) (bs : List Bool) (b : Bool), x = .ref p ∧ xs = [.bl b] ∧ SqL K H p (bs.map V.bl) ∧ Q (.int (bs.count b : Nat)) H
theorem cnt_bools (bs : List Bool) (b : Bool) : (bs.map PyData.bool).countP (fun y => PyData.eqv y (.bool b)) = bs.count b := by
  rw [List.countP_map, List.count]
  congr 1
section
variable {X : Cx}
theorem mt_cntB (hu : X.A.units + 65 < cLine) : MtR X "list.count" (rCntB X.K) := by
  intro pins s σ H x xs v us Q I rx rxs h
  obtain ⟨p, bs, b, rfl, rfl, hs, q⟩ := h
  cases rx
  obtain ⟨u, rfl, ru⟩ := rxs.one
  obtain ⟨its, rv, hl, hlen⟩ := I.list hs
  obtain rfl : u = .bool b := ru
  obtain ⟨⟨cls, dd, data, sls⟩, n, ho, hc, hdn, hdt⟩ := hl
  simp only at hc hdt
  subst hc hdt
  have rs : ∀ (l : List Bool) (is : List Value), Vals (l.map V.bl) is → ReadsAll s.heap is (l.map PyData.bool) [] ∧ is = l.map Value.bool := by
    intro l
    induction l with
    | nil => intro is h; cases h; exact ⟨.nil, rfl⟩
    | cons c l ih =>
      intro is h
      cases h with
      | cons r1 r2 =>
        obtain rfl : _ = Value.bool c := r1
        exact ⟨.cons (.bool c) (ih _ r2).1, by rw [(ih _ r2).2]; rfl⟩
  have lay : ∀ l : List Bool, PyData.canLayAll0 (l.map PyData.bool) = true := by
    intro l
    induction l with
    | nil => rfl
    | cons c l ih => simp [PyData.canLayAll0, PyData.canLay0, ih]
  have hroom : X.A.units + 1 + min (PyData.depthAll (bs.map PyData.bool)) (PyData.bool b).depth < cLine := by
    have : (PyData.bool b).depth = 0 := by simp [PyData.depth]
    omega
  obtain ⟨h4, h5⟩ := rs bs its rv
  refine call_meets PySem.F.slot_list_count ⟨_, ho, rfl⟩ PySem.F.entry_list_count (PySem.F.args_list_count_2 _ _)
    (SeqAt.list_countAt p its.toArray n dd sls (.bool b) (fun u => PyData.eqv (SeqAt.readOf s.heap u) (.bool b))) ⟨ho, SeqAt.items_eqAt (vs := its.toArray) (show ReadsAll s.heap its.toArray.toList (bs.map PyData.bool) [] from h4) (.bool b) (lay bs) (by simp [PyData.canLay0]) hroom, ?_⟩
  have ec : its.toArray.toList.countP (fun u => PyData.eqv (SeqAt.readOf s.heap u) (.bool b)) = bs.count b := by
    show its.countP _ = _
    rw [← cnt_bools, ← SeqAt.readsAll_map _ its _ (lay bs) h4, List.countP_map]
    rfl
  refine ⟨.int (bs.count b : Nat), H, I.tok _, ⟨s.toks, ?_⟩, q⟩
  show Value.int ((its.toArray.toList.countP _ : Nat) : Int) s.toks = Value.int ((bs.count b : Nat) : Int) s.toks
  rw [ec]
end
end Wm
end

section
/-! ## Joining: defs that may raise -/
namespace Wm
open PySem PySem.Spec PyProof.Rows L2 StX
section
variable {P : Program} {w : World} {K : PySem.W.Frag} {mg : Str → Option Value} {base : Heap}
theorem endEX : ∀ (H : Hp) (s : Shared) (e : Value) (s' : Shared), L2.CX P w [] H s (fun _ _ _ => False) e s' → False := fun H s e s' c => by
  obtain ⟨_, _, _, _, _, _, _, _, _, _, _, _, z⟩ := c
  exact z
/-- what an exception of a callee may be taken as, in a def of its own wish E -/
theorem pass_tk {X : Cx} {E : XK} (tk : Takes X (fun cls d _ H => E cls d H)) : Passes (L2.CX X.prog X.w) X E := passes_call tk fun _ _ _ _ h => h
theorem okDX {x qual : Str} {st : Stmt} {dvs : List V} {kws : List (Str × V)} {f : Addr} {fd : FuncData} {N ps : List Str} {k : Nat} {sp : Sp} (F : FunD K x qual (defArgs st) (defBody st) (defScope st) dvs kws f fd) (S : FnScope N ps (defScope st)) (len : ∀ vs H Q E, sp vs H Q E → vs.length = ps.length)
    (hbody : ∀ (cdv : Value) (A : Around) (outer : List Env) (s : Shared) (H : Hp) (vs : List V) (Q : VK) (E : XK), Room k (A.deeper (envOfC qual (defScope st) s.heap.objs.size f cdv)) →
      Takes (cxOf (L2.CX P w) P w K mg base N qual (defScope st) f cdv A outer s H E) (fun cls d _ H => E cls d H) →
      PassesOwn (model P w) (cxOf (L2.CX P w) P w K mg base N qual (defScope st) f cdv A outer s H E).A (cxOf (L2.CX P w) P w K mg base N qual (defScope st) f cdv A outer s H E).env (cxOf (L2.CX P w) P w K mg base N qual (defScope st) f cdv A outer s H E).xe → sp vs H Q E →
      ∃ t, PSs (cxOf (L2.CX P w) P w K mg base N qual (defScope st) f cdv A outer s H E) (defBody st) t ∧ t { nx := fun _ H' => Q .non H', rt := Q } (start N vs) H) : FnOk P w K mg base (L2.CX P w) (k + 1) f fd ps sp :=
  F.ok S len fun cdv A outer s H vs Q E hr h => hbody cdv A outer s H vs Q E hr (takes_of rfl rfl rfl rfl) (passes_of rfl) h
theorem okStarX {x qual p1 pv : Str} {st : Stmt} {kws : List (Str × V)} {f : Addr} {fd : FuncData} {N : List Str} {k : Nat} {sp : Sp} (F : FunD K x qual (defArgs st) (defBody st) (defScope st) [] kws f fd) (S : FnScope N ([p1] ++ [pv]) (defScope st))
    (hb : ∀ (kV doc pm : Value) (an : Option Addr) (cdv ct : Value) (us rest : List Value), us.length = [p1].length → bindArgs (PySem.W.fnOf x qual (defArgs st) (defBody st) (defScope st) .none kV doc pm an cdv ct) ⟨us ++ rest, []⟩ = (newTuple rest >>= fun t => pure ([p1].zip us ++ [(pv, t)])))
    (hbody : ∀ (cdv : Value) (A : Around) (outer : List Env) (s : Shared) (H : Hp) (vs : List V) (Q : VK) (E : XK), Room k (A.deeper (envOfC qual (defScope st) s.heap.objs.size f cdv)) →
      Takes (cxOf (L2.CX P w) P w K mg base N qual (defScope st) f cdv A outer s H E) (fun cls d _ H => E cls d H) →
      PassesOwn (model P w) (cxOf (L2.CX P w) P w K mg base N qual (defScope st) f cdv A outer s H E).A (cxOf (L2.CX P w) P w K mg base N qual (defScope st) f cdv A outer s H E).env (cxOf (L2.CX P w) P w K mg base N qual (defScope st) f cdv A outer s H E).xe → sp vs H Q E →
      ∃ t, PSs (cxOf (L2.CX P w) P w K mg base N qual (defScope st) f cdv A outer s H E) (defBody st) t ∧ t { nx := fun _ H' => Q .non H', rt := Q } (start N vs) H) :
    FnR P w K mg base (L2.CX P w) (k + 1) f (fun vs H Q E => ∃ ws rest, vs = ws ++ rest ∧ ws.length = [p1].length ∧ rest.length ≤ sizeLine ∧ ∀ p, H p = Option.none → sp (ws ++ [V.ref p]) (upd H p (.tup rest)) Q E) := by
  obtain ⟨oc, od, dV, kV, doc, pm, an, cdv, ct, osl, rfl, lk, hcd, hD, _⟩ := F.ex
  rcases hD with ⟨_, rfl⟩ | ⟨e, _⟩
  case inr => exact absurd rfl e
  exact fn_star lk hcd S cxUp (hb kV doc pm an cdv ct) fun A outer s H vs Q E hr h => hbody cdv A outer s H vs Q E hr (takes_of rfl rfl rfl rfl) (passes_of rfl) h
end
/-- f(u, y = v): y keyword-only, without a default -/
theorem FunD.bindsK1 {x qual y : Str} {params : Arguments} {body : List Stmt} {scope : Scope} {kws : List (Str × V)} {f : Addr} {fd : FuncData} {ps : List Str} {K : PySem.W.Frag} (F : FunD K x qual params body scope [] kws f fd)
    (h : ∀ (kV doc pm : Value) (an : Option Addr) (cdv ct : Value) (u v : Value), bindArgs (PySem.W.fnOf x qual params body scope .none kV doc pm an cdv ct) ⟨[u], [(y, v)]⟩ = pure (ps.zip [u, v])) (s : Shared) (u v : Value) : BindsTo s fd ⟨[u], [(y, v)]⟩ (ps.zip [u, v]) := by
  obtain ⟨oc, od, dV, kV, doc, pm, an, cdv, ct, osl, rfl, lk, hcd, hD, hK⟩ := F.ex
  rcases hD with ⟨_, rfl⟩ | ⟨e, _⟩
  · exact BindsTo.of_eq (h kV doc pm an cdv ct u v)
  · exact absurd rfl e
/-- a def that lets nothing out, in the context without exceptions -/
theorem FnOk.toCX0 {P : Program} {w : World} {K : PySem.W.Frag} {mg : Str → Option Value} {base : Heap} {k : Nat} {f : Addr} {fd : FuncData} {ps : List Str} {sp : Sp} (F : FnOk P w K mg base (L2.CX P w) k f fd ps sp) (h : ∀ vs H Q E, sp vs H Q E → sp vs H Q E0) : FnOk P w K mg base CX0 k f fd ps sp :=
  ⟨F.len, fun A outer s H args us vs Q E hr e0 hb r q => codeAny_mono (F.run A outer s H args us vs Q E0 hr e0 hb r (h _ _ _ _ q)) fun r s' z => by
    cases r with
    | error e =>
      obtain ⟨_, _, _, _, _, _, _, _, _, _, _, _, y⟩ := (show L2.CX P w outer H s E0 e s' from z)
      exact y.elim
    | ok fl => cases fl <;> exact z⟩
/-! ### raise X("..") and raise X(k = e) -/
def tRz (t : L2.St → Hp → XK → Prop) (E : XK) : TS := fun _ σ H => t σ H E
/-- C(y = e) of an own error class with an own __init__ -/
structure RzK (P : Program) (w : World) (K : PySem.W.Frag) (mg : Str → Option Value) (base : Heap) (CX : CXT) (k : Nat) (x : Str) (C : Addr) (y : Str) (sp : Sp) : Prop where
  ex : ∃ (f : Addr) (fd : FuncData) (ps : List Str), FnOk P w K mg base CX k f fd ps sp ∧ OexC K C ∧ PySem.W.findIn K (.ref C) "__init__" = some (some (.ref f)) ∧ PySem.W.typeIn K (.ref f) = some (.type "function") ∧ mg x = some (.ref C) ∧
    ∀ (s : Shared) (u v : Value), BindsTo s fd ⟨[u], [(y, v)]⟩ (ps.zip [u, v])
/-- C(".."), C an own error class without own __init__ -/
structure RzS (K : PySem.W.Frag) (mg : Str → Option Value) (x : Str) (C : Addr) : Prop where
  ex : PySem.W.excIn K C [.type "ValueError", .type "Exception", .type "BaseException", .type "object"] "ValueError.__new__" = true
  kC : PySem.W.keepIn K (.ref C) = true
  sC : PySem.W.subIn K (.ref C) (.type "BaseException") = some true
  tC : PySem.W.typeIn K (.ref C) = some (.type "type")
  hm : mg x = some (.ref C)
section
variable {X : Cx} {CX : CXT} {k j : Nat} {C : Addr} {sp : Sp} {E : XK} {x y : Str} {p pos pos' : Pos} {kws : List Keyword} {e : Expr} {te : TE}
theorem ps_rzK (c : RzK X.prog X.w X.K X.mg X.base CX k x C y sp) (hr : Room j X.A) (hk : k + 1 ≤ j) (hx : NoE CX) (hc : X.calm = true) (tk : Takes X (fun cls d _ H => E cls d H)) (hg : Gl X x) (hkw : PK X kws (tCons te tNil))
    (hall : (backToKw pos (keywordEach kws X.env)).all (·.1.isSome) = true := by rfl) (hks : (backToKw pos (keywordEach kws X.env)).filterMap (·.1) = [y] := by rfl) (hdb : (x == ("__debug__" : Str)) = false := by decide)
    (hpl : ((backTo pos (starEach [] X.env)).any (·.1) || (backToKw pos (keywordEach kws X.env)).any (·.1.isNone)) = false := by rfl) :
    PS X (.Raise (some (.Call (.Name x p) [] kws pos)) none pos') (tRz (tMkX C sp te) E) := by
  obtain ⟨f, fd, ps, F, T, iC, tI, hm, hb⟩ := c.ex
  exact ps_raise hc tk (pmk_kw T iC tI F (hr.mono hk) hb (hx X) hg hm hkw hall hks hdb hpl)
theorem ps_rzS {m : Str} {i : Nat} {p2 : Pos} (c : RzS X.K X.mg x C) (hc : X.calm = true) (tk : Takes X (fun cls d _ H => E cls d H)) (hg : Gl X x) (hdb : (x == ("__debug__" : Str)) = false := by decide) :
    PS X (.Raise (some (.Call (.Name x p) [.Constant (.str m) i p2] [] pos)) none pos') (tRz (fun _ H Q => Q (.ref C) none H) E) := by
  exact ps_raise hc tk (pmk_own PySem.F.excBase_ValueError c.ex c.hm c.kC (raises_own c.sC c.tC) hg hdb)
end
/-! ### what a class of errors says, by one check -/
def oexL (K : PySem.W.Frag) (C : Addr) : Bool := match K.lookup C with
  | some ⟨.type "type", _, .cls ⟨_, _, .ref C' :: bm, _, _, hd, _, _, _, _, del⟩, sl⟩ => (match sl.toList with
    | [_, _, _, _, some (.builtin n), _] => C' == C && n == "ValueError.__new__" && !del && hd && PySem.HandSPX.refsVE bm
    | _ => false)
  | _ => false
def oexB (K : PySem.W.Frag) (C : Addr) : Bool := oexL K C && (decide (PySem.W.findIn K (.ref C) "__setattr__" = some (some (.builtin "object.__setattr__"))) && (decide (PySem.W.subIn K (.ref C) (.type "BaseException") = some true) &&
  (decide (PySem.W.typeIn K (.ref C) = some (.type "type")) && PySem.W.keepIn K (.ref C))))
theorem oexB_ok {K : PySem.W.Frag} {C : Addr} (h : oexB K C = true) : OexC K C := by
  obtain ⟨h1, h⟩ := Bool.and_eq_true_iff.mp h
  obtain ⟨h2, h⟩ := Bool.and_eq_true_iff.mp h
  obtain ⟨h3, h⟩ := Bool.and_eq_true_iff.mp h
  obtain ⟨h4, h5⟩ := Bool.and_eq_true_iff.mp h
  refine ⟨?_, of_decide_eq_true h2, of_decide_eq_true h3, of_decide_eq_true h4, h5⟩
  unfold oexL at h1
  split at h1
  · rename_i dd nm bs C' bm ns qn hd sn sub ab col del sl ho
    split at h1
    · rename_i k0 k1 k2 k3 n k5 hs
      simp only [Bool.and_eq_true, beq_iff_eq, Bool.not_eq_true'] at h1
      obtain ⟨⟨⟨⟨rfl, rfl⟩, rfl⟩, rfl⟩, hb⟩ := h1
      have hsl : sl = #[k0, k1, k2, k3, some (.builtin "ValueError.__new__"), k5] := by
        obtain ⟨l⟩ := sl
        simp only at hs
        rw [hs]
      subst hsl
      exact ⟨nm, qn, ns, bs, bm, sn, sub, ab, col, dd, k0, k1, k2, k3, k5, ho, hb⟩
    · cases h1
  · cases h1
def excB (K : PySem.W.Frag) (D : Addr) : Bool := decide (PySem.W.findIn K (.ref D) "__getattribute__" = some (some (.builtin "BaseException.__getattribute__"))) && (decide (PySem.W.findIn K (.ref D) "__getattr__" = some none) &&
  (decide (PySem.W.subIn K (.ref D) (.type "BaseException") = some true) && (PySem.W.hasDictIn K D && (decide (PySem.W.findIn K (.ref D) "__class__" = some (some (.builtin "object.__class__"))) &&
  (decide (PySem.W.specialIn K (.builtin "object.__class__") "__get__" = some (some (.builtin "getset_descriptor.__get__"))) && (decide (PySem.W.takesIn K (.builtin "object.__class__") = some true) && decide (PySem.W.mroIn K D (.type "object") = some true)))))))
theorem excB_ok {K : PySem.W.Frag} {D : Addr} (h : excB K D = true) : ExcC K D := by
  obtain ⟨h1, h⟩ := Bool.and_eq_true_iff.mp h
  obtain ⟨h2, h⟩ := Bool.and_eq_true_iff.mp h
  obtain ⟨h3, h⟩ := Bool.and_eq_true_iff.mp h
  obtain ⟨h4, h⟩ := Bool.and_eq_true_iff.mp h
  obtain ⟨h5, h⟩ := Bool.and_eq_true_iff.mp h
  obtain ⟨h6, h⟩ := Bool.and_eq_true_iff.mp h
  obtain ⟨h7, h8⟩ := Bool.and_eq_true_iff.mp h
  exact ⟨of_decide_eq_true h1, of_decide_eq_true h2, of_decide_eq_true h3, h4, of_decide_eq_true h5, of_decide_eq_true h6, of_decide_eq_true h7, of_decide_eq_true h8⟩
/-- C(k = e): C's own __init__ is the def at fAd -/
def rzkB (K : PySem.W.Frag) (x : Str) : Bool := oexB K (He.ga K x) && (decide (PySem.W.findIn K (.ref (He.ga K x)) "__init__" = some (some (.ref (He.fAd K (x, some "__init__"))))) && decide (PySem.W.typeIn K (.ref (He.fAd K (x, some "__init__"))) = some (.type "function")))
theorem rzkB_ok {K : PySem.W.Frag} {x : Str} (h : rzkB K x = true) : OexC K (He.ga K x) ∧ PySem.W.findIn K (.ref (He.ga K x)) "__init__" = some (some (.ref (He.fAd K (x, some "__init__")))) ∧ PySem.W.typeIn K (.ref (He.fAd K (x, some "__init__"))) = some (.type "function") := by
  obtain ⟨h1, h⟩ := Bool.and_eq_true_iff.mp h
  obtain ⟨h2, h3⟩ := Bool.and_eq_true_iff.mp h
  exact ⟨oexB_ok h1, of_decide_eq_true h2, of_decide_eq_true h3⟩
/-- C("..") of a class without own __init__ -/
def rzsB (K : PySem.W.Frag) (x : Str) : Bool := PySem.W.excIn K (He.ga K x) [.type "ValueError", .type "Exception", .type "BaseException", .type "object"] "ValueError.__new__" && (PySem.W.keepIn K (.ref (He.ga K x)) &&
  (decide (PySem.W.subIn K (.ref (He.ga K x)) (.type "BaseException") = some true) && decide (PySem.W.typeIn K (.ref (He.ga K x)) = some (.type "type"))))
theorem rzsB_ok {K : PySem.W.Frag} {mg : Str → Option Value} {x : Str} (h : rzsB K x = true) (hm : mg x = some (.ref (He.ga K x))) : RzS K mg x (He.ga K x) := by
  obtain ⟨h1, h⟩ := Bool.and_eq_true_iff.mp h
  obtain ⟨h2, h⟩ := Bool.and_eq_true_iff.mp h
  obtain ⟨h3, h4⟩ := Bool.and_eq_true_iff.mp h
  exact ⟨h1, h2, of_decide_eq_true h3, of_decide_eq_true h4, hm⟩
/-- x.__init__(self, ..) -/
structure OwnIni (K : PySem.W.Frag) (mg : Str → Option Value) (x : Str) (C : Addr) : Prop where
  hm : mg x = some (.ref C)
  hr : PySem.W.readsIn K C (.type "type") = true
  hs : PySem.W.specialIn K (.ref C) "__getattribute__" = some (some (.builtin "type.__getattribute__"))
  vV : PySem.W.findCls K (.ref C) (.type "type") "__init__" = some (.val (.builtin "ValueError.__init__"))
def oiB (K : PySem.W.Frag) (x : Str) : Bool := PySem.W.readsIn K (He.ga K x) (.type "type") && (decide (PySem.W.specialIn K (.ref (He.ga K x)) "__getattribute__" = some (some (.builtin "type.__getattribute__"))) &&
  (match PySem.W.findCls K (.ref (He.ga K x)) (.type "type") "__init__" with | some (.val (.builtin n)) => n == "ValueError.__init__" | _ => false))
theorem oiB_ok {K : PySem.W.Frag} {mg : Str → Option Value} {x : Str} (h : oiB K x = true) (hm : mg x = some (.ref (He.ga K x))) : OwnIni K mg x (He.ga K x) := by
  obtain ⟨h1, h⟩ := Bool.and_eq_true_iff.mp h
  obtain ⟨h2, h3⟩ := Bool.and_eq_true_iff.mp h
  refine ⟨hm, h1, of_decide_eq_true h2, ?_⟩
  split at h3
  · rename_i n e
    rw [e, beq_iff_eq.mp h3]
  · cases h3
end Wm
end

section
/-! ## Joining: generator defs -/
namespace Wm
open PySem PySem.Spec PyProof.Rows L2 StX
section
variable {P : Program} {w : World} {K : PySem.W.Frag} {mg : Str → Option Value} {base : Heap}
theorem okG {x qual : Str} {st : Stmt} {dvs : List V} {kws : List (Str × V)} {f : Addr} {fd : FuncData} {N ps : List Str} {k : Nat} {sp : SpG} (F : FunD K x qual (defArgs st) (defBody st) (defScope st) dvs kws f fd) (S : GScope N ps (defScope st)) (len : ∀ vs H Q E, sp vs H Q E → vs.length = ps.length)
    (hbody : ∀ (cdv : Value) (A : Around) (outer : List Env) (s : Shared) (H : Hp) (vs : List V) (Q : List V → Hp → Prop) (E : XK) (pn : List (Addr × Obj)), Room k (A.deeper (envOfC qual (defScope st) s.heap.objs.size f cdv)) → sp vs H Q E →
      ∃ t, GSs (gcxOf P w K mg base N qual (defScope st) f cdv A outer s H E pn) (defBody st) t ∧ t { nx := fun ys _ H' => Q ys H', rt := fun ys v H' => v = .non ∧ Q ys H' } [] (start N vs) H) : GFn P w K mg base (k + 1) f fd ps sp := by
  obtain ⟨oc, od, dV, kV, doc, pm, an, cdv, ct, osl, rfl, lk, hcd, _, _⟩ := F.ex
  exact gfn_of lk hcd S len fun A outer s H vs Q E pn hr h => hbody cdv A outer s H vs Q E pn hr h
/-- a generator method -/
structure MetG (P : Program) (w : World) (K : PySem.W.Frag) (mg : Str → Option Value) (base : Heap) (k : Nat) (C : Addr) (m : Str) (sp : SpG) : Prop where
  ex : ∃ (f : Addr) (fd : FuncData) (ps : List Str), GFn P w K mg base k f fd ps sp ∧ Cls K C ∧ Meth K C m f ∧ Binds K fd ps []
theorem noStop0 {K : PySem.W.Frag} : NoStop K E0 := fun _ _ _ h => h.elim
end
section
variable {X : Cx} {k j : Nat} {C : Addr} {m x : Str} {sp : SpG} {p pos pos' apos : Pos} {e o : Expr} {es : List Expr} {ta : TE} {t : TA}
/-- list(o.m(e, ..)) of a generator method that raises nothing -/
theorem pe_lgR {pl : Sem Bool} (c : MetG X.prog X.w X.K X.mg X.base k C m sp) (hr : Room j X.A) (hk : k + 3 ≤ j) (b : Blt X.mg) (hg : Gl X "list") (he : PE X o ta) (ha : PA X (e :: es) t)
    (hst : starEach (e :: es) X.env = (false, eval e X.env) :: starEach es X.env := by rfl) (hpl : (backTo pos' (starEach es X.env)).any (·.1) = false := by rfl)
    (ht : eval (.Call (.Attribute o m apos) (e :: es) [] pos') X.env = (do
      let ov ← eval o X.env
      standAt apos.atName
      let (f, first) ← holding [ov] (getMethod ov m pl)
      callWith pos' f first (backTo pos' (starEach (e :: es) X.env)) (backToKw pos' (keywordEach [] X.env))) := by rfl)
    (hs1 : starEach [.Call (.Attribute o m apos) (e :: es) [] pos'] X.env = (false, eval (.Call (.Attribute o m apos) (e :: es) [] pos') X.env) :: starEach [] X.env := by rfl) :
    PE X (.Call (.Name "list" p) [.Call (.Attribute o m apos) (e :: es) [] pos'] [] pos) (tListG (tMethG C m sp [] E0 ta t)) := by
  obtain ⟨f, fd, ps, F, cl, hm, hb⟩ := c.ex
  exact pe_listG (k := k) (E := E0) (pgen_meth (pl := pl) (ds := []) he cl hm F (hr.mono (by omega)) hb .nil ha hst hpl ht) (noEX X) noStop0 (hr.mono hk) hg b.n_list (by decide +kernel) (by decide) (by decide) hs1
end
/-! ### rules for the readings -/
section
variable {ys : List V} {σ : L2.St} {H : Hp} {D : GEnds} {t u : TGn} {tp : TS} {te : TE} {g : TG} {tr : TA} {Q : VK}
theorem g_then (k : t { D with nx := fun ys' σ' H' => u D ys' σ' H' } ys σ H) : tGThen t u D ys σ H := k
theorem g_0 (k : D.nx ys σ H) : tG0 D ys σ H := k
theorem g_plain (k : tp { nx := D.nx ys, rt := D.rt ys, bk := D.bk ys, ct := D.ct ys } σ H) : tPlain tp D ys σ H := k
theorem g_yield (hl : ys.length < 1000000) (k : te σ H fun x H1 => D.nx (ys ++ [x]) σ H1) : tGYield te D ys σ H := ⟨szl hl, k⟩
/-- for i in range(lo, n) -/
theorem g_forR2 {lo n : Int} {tb : TGn} (hv : ∀ R : List V → Hp → Prop, R [.int lo, .int n] H → tr σ H R) (h1 : -(2 ^ 62) ≤ lo) (h2 : lo < 2 ^ 62) (h3 : -(2 ^ 62) ≤ n) (h4 : n < 2 ^ 62) (Pv : Nat → List V → L2.St → Hp → Prop) (h0 : Pv 0 ys σ H)
    (hs : ∀ (i : Nat) ys σ H, lo + (i : Int) < n → Pv i ys σ H → g (.int (lo + (i : Int))) σ H fun σ2 H2 => tb { D with nx := Pv (i + 1), ct := Pv (i + 1), bk := D.nx } ys σ2 H2) (hd : ∀ ys σ H, Pv (n - lo).toNat ys σ H → D.nx ys σ H) : tGFor (iRng2 tr) g tb D ys σ H := by
  refine hv _ ⟨lo, n, rfl, ⟨h1, h2, h3, h4⟩, fun i m ys σ H => m = (n - lo).toNat - i ∧ i ≤ (n - lo).toNat ∧ Pv i ys σ H, ⟨(n - lo).toNat, by simp, Nat.zero_le _, h0⟩, ?_⟩
  rintro i m ys σ H ⟨rfl, hi, p⟩
  by_cases hlt : i < (n - lo).toNat
  · refine .inr ⟨hlt, Pv (i + 1), fun ys' σ' H' p' => ⟨(n - lo).toNat - (i + 1), by omega, rfl, hlt, p'⟩, fun x H' y => ?_⟩
    obtain ⟨e, ex⟩ := y
    subst e ex
    exact hs i ys σ _ (by omega) p
  · have e : i = (n - lo).toNat := by omega
    subst e
    exact .inl ⟨Nat.le_refl _, hd ys σ H p⟩
end
end Wm
end

section
/-! ## The share and the repetition -/
namespace Wm
open PySem
theorem heatSum_cons (r : RunD) (l : List RunD) : heatSum (r :: l) = (if r.on = true then lenR r else 0) + heatSum l := by
  unfold heatSum
  by_cases h : r.on = true
  · rw [show (r :: l).filter (·.on) = r :: l.filter (·.on) from List.filter_cons_of_pos h, List.map_cons, List.sum_cons, if_pos h]
  · rw [show (r :: l).filter (·.on) = l.filter (·.on) from List.filter_cons_of_neg h, if_neg h, Int.zero_add]
theorem HistV.heatDrop {P : Par} {rs : List RunD} {j : Int} (h : HistV P rs (some j)) : ∀ (n i : Nat) (r : RunD), rs.length - i = n → rs[i]? = some r → heatSum (rs.drop i) = hAt P (finLast rs) - hAt P r.beg
  | 0, i, r, hn, hr => by have := (List.getElem?_eq_some_iff.mp hr).1; omega
  | n + 1, i, r, hn, hr => by
    have hil := (List.getElem?_eq_some_iff.mp hr).1
    have v := h.each r (List.mem_of_getElem? hr)
    have ed : rs.drop i = r :: rs.drop (i + 1) := by
      rw [List.drop_eq_getElem_cons hil]
      congr 1
      rw [List.getElem?_eq_getElem hil] at hr
      exact Option.some.inj hr
    have step : ∀ e, r.fin = some e → (if r.on = true then lenR r else 0) = hAt P e - hAt P r.beg := fun e he => by
      have f := v.fin e he
      have := h_const P v.b0 (Int.le_of_lt f.1) fun u u0 u1 => (v.sim u u0 fun e' he' => by rw [he] at he'; cases he'; exact u1).2
      unfold lenR
      rw [he]
      simp only
      omega
    rw [ed, heatSum_cons]
    by_cases hl : i + 1 < rs.length
    · obtain ⟨r2, hr2⟩ := get_some hl
      have := h.heatDrop n (i + 1) r2 (by omega) hr2
      rw [this, step _ (h.next i r r2 hr hr2).1]
      omega
    · obtain ⟨_, _, l, e, _, hl', he, _⟩ := h.shut j rfl
      rw [show rs.length - 1 = i by omega, hr] at hl'
      cases hl'
      have fl := finLast_of (rs := rs) (by rw [show rs.length - 1 = i by omega]; exact hr) he
      rw [List.drop_eq_nil_of_le (by omega), step e he, fl]
      show _ + 0 = _
      omega
theorem HistV.heat_loop {P : Par} {rs : List RunD} {j : Int} (h : HistV P rs (some j)) : heatSum (rs.drop j.toNat) = hAt P (finLast rs) - hAt P (begAt rs j) := by
  obtain ⟨_, r, _, _, hj, _⟩ := h.shut j rfl
  rw [begAt_of hj]
  exact h.heatDrop _ _ r rfl hj
/-- share of a shut history in whole numbers -/
theorem HistV.share_shut {P : Par} {rs : List RunD} {j : Int} (h : HistV P rs (some j)) : ∃ hn cn : Nat, 0 < cn ∧ hn ≤ cn ∧ (hn : Int) = hAt P (finLast rs) - hAt P (begAt rs j) ∧ (cn : Int) = circ rs j ∧ share rs (some j) = (((hn / Nat.gcd hn cn : Nat) : Int), ((cn / Nat.gcd hn cn : Nat) : Int)) := by
  have s := h.shut_
  have m := h_mono P s.b0 (Int.le_of_lt s.lt)
  have c0 := s.c0
  have hc : circ rs j = finLast rs - begAt rs j := rfl
  refine ⟨(heatSum (rs.drop j.toNat)).toNat, (circ rs j).toNat, by omega, ?_, ?_, by omega, ?_⟩
  · rw [h.heat_loop]; omega
  · rw [h.heat_loop]; omega
  · unfold share
    have e1 : ((heatSum (rs.drop j.toNat)).toNat : Int) = heatSum (rs.drop j.toNat) := by rw [h.heat_loop]; omega
    have e2 : ((circ rs j).toNat : Int) = circ rs j := by omega
    simp only [Int.natCast_ediv, e1, e2]
theorem HistV.share_ok {P : Par} {rs : List RunD} {loop : Option Int} (h : HistV P rs loop) : 1 ≤ (share rs loop).2 ∧ 0 ≤ (share rs loop).1 ∧ (share rs loop).1 ≤ (share rs loop).2 ∧ (share rs loop).2 ≤ 9603 * 10 ^ 14 ∧ Nat.gcd (share rs loop).1.toNat (share rs loop).2.toNat = 1 := by
  cases loop with
  | none =>
    obtain ⟨l, hl, _⟩ := h.open_ rfl
    unfold share
    simp only [hl]
    cases l.on <;> decide
  | some j =>
    obtain ⟨hn, cn, c0, hle, _, ec, e⟩ := h.share_shut
    have cB := h.shut_.cB
    rw [e]
    have g0 : 0 < Nat.gcd hn cn := Nat.gcd_pos_of_pos_right _ c0
    have b1 : 0 < cn / Nat.gcd hn cn := Nat.div_pos (Nat.gcd_le_right _ c0) g0
    have b2 : hn / Nat.gcd hn cn ≤ cn / Nat.gcd hn cn := Nat.div_le_div_right hle
    have b3 : cn / Nat.gcd hn cn ≤ cn := Nat.div_le_self _ _
    refine ⟨by show (1 : Int) ≤ ((cn / Nat.gcd hn cn : Nat) : Int); omega, Int.natCast_nonneg _, Int.ofNat_le.mpr b2, by show ((cn / Nat.gcd hn cn : Nat) : Int) ≤ _; omega, ?_⟩
    show Nat.gcd ((hn / Nat.gcd hn cn : Nat) : Int).toNat ((cn / Nat.gcd hn cn : Nat) : Int).toNat = 1
    rw [Int.toNat_natCast, Int.toNat_natCast]
    exact Nat.gcd_div_gcd_div_gcd_of_pos_right c0
theorem HistV.rep_none {P : Par} {rs : List RunD} {loop : Option Int} (h : HistV P rs loop) (hr : repO rs loop = none) : loop = none ∧ share rs loop = ((if oAt P (10 ^ 18) = true then 1 else 0), 1) := by
  cases loop with
  | some j => cases hr
  | none =>
    refine ⟨rfl, ?_⟩
    obtain ⟨l, hl, hf⟩ := h.open_ rfl
    have v := h.each l (List.mem_of_getElem? hl)
    have sm := (h.small l (List.mem_of_getElem? hl)).1
    have := (v.sim (10 ^ 18) (by omega) (fun e he => by rw [hf] at he; cases he)).2
    unfold share
    simp only [hl]
    rw [this]
    cases l.on <;> rfl
/-- from its first tick on the repetition repeats the heater's states -/
structure RepV (P : Par) (rs : List RunD) (loop : Option Int) (f c : Int) : Prop where
  f0 : 0 ≤ f
  c0 : 0 < c
  big : f + c ≤ 9604 * 10 ^ 14
  ph : c % P.ch.length = 0
  per : ∀ u, f ≤ u → dAt P (u + c) = dAt P u ∧ oAt P (u + c) = oAt P u
theorem HistV.rep_some {P : Par} {rs : List RunD} {loop : Option Int} (h : HistV P rs loop) {f c : Int} (hr : repO rs loop = some (f, c)) : RepV P rs loop f c := by
  have ok := h.par
  have op := ok.pos
  have ol := ok.len
  cases loop with
  | none =>
    obtain ⟨l, hl, hf⟩ := h.open_ rfl
    have v := h.each l (List.mem_of_getElem? hl)
    have rok := h.runOk (List.mem_of_getElem? hl)
    have sm := (h.small l (List.mem_of_getElem? hl)).1
    unfold repO at hr
    simp only [hl] at hr
    split at hr
    · rename_i hz
      cases hr
      have len := v.len ok
      have b0 := v.b0
      refine ⟨b0, by omega, by omega, by rw [len]; exact Int.emod_self, fun u hu => ?_⟩
      have s1 := v.sim u hu (fun e he => by rw [hf] at he; cases he)
      have s2 := v.sim (u + l.steps.length) (by omega) (fun e he => by rw [hf] at he; cases he)
      refine ⟨?_, by rw [s1.2, s2.2]⟩
      rw [s1.1, s2.1]
      obtain ⟨e, p0, p1⟩ := pk_of l rok u
      have a1 := at_pk l rok (k := (u - l.beg) / l.steps.length) p0 p1
      have a2 := at_pk l rok (k := (u - l.beg) / l.steps.length + 1) p0 p1
      rw [← e] at a1
      rw [show l.beg + (u - l.beg) % ↑l.steps.length + ((u - l.beg) / ↑l.steps.length + 1) * ↑l.steps.length = u + l.steps.length by rw [Int.add_mul, Int.one_mul]; omega] at a2
      rw [a1, a2, hz]
      omega
    · cases hr
  | some j =>
    have s := h.shut_
    obtain ⟨j0, r, l, e, hj, hl, he, hlt, hm, hd, ho, hon⟩ := h.shut j rfl
    have b := begAt_of hj
    have fl := finLast_of hl he
    have hc : circ rs j = finLast rs - begAt rs j := rfl
    have sB := s.big
    have b0 := s.b0
    have c0 := s.c0
    unfold repO at hr
    simp only [Option.some.injEq, Prod.mk.injEq] at hr
    obtain ⟨hf, hcc⟩ := hr
    subst hcc
    by_cases hjp : 0 < j
    · rw [if_pos hjp] at hf
      have hjl := (List.getElem?_eq_some_iff.mp hj).1
      obtain ⟨m, hm2⟩ := get_some (l := rs) (i := (j - 1).toNat) (by omega)
      have hmn := h.next (j - 1).toNat m r hm2 (by rw [show (j - 1).toNat + 1 = j.toNat by omega]; exact hj)
      have e1 : lenAt rs (j - 1) = r.beg - m.beg := by unfold lenAt lenR; rw [hm2]; simp only [hmn.1]
      have e2 : lenAt rs ((rs.length : Int) - 1) = e - l.beg := by unfold lenAt lenR; rw [show ((rs.length : Int) - 1).toNat = rs.length - 1 by have := h.ne; omega, hl]; simp only [he]
      rw [e1, e2] at hf
      have vm := h.each m (List.mem_of_getElem? hm2)
      have vl := h.each l (List.mem_of_getElem? hl)
      have m0 := vm.b0
      have mf := (vm.fin _ hmn.1).1
      have lf := (vl.fin _ he).1
      have onE : m.on = l.on := by
        have h1 := hmn.2.1
        rw [hon] at h1
        cases hm : m.on <;> cases hl : l.on <;> rw [hm, hl] at h1 <;> first | rfl | cases h1
      -- the heater, and the temperature back from the loop's beginning
      have sO : ∀ u, f ≤ u → u < r.beg → oAt P u = m.on ∧ oAt P (u + circ rs j) = m.on := fun u u0 u1 =>
        ⟨(vm.sim u (by omega) fun e' he' => by rw [hmn.1] at he'; cases he'; exact u1).2, by
          rw [onE]
          exact (vl.sim (u + circ rs j) (by omega) fun e' he' => by rw [he] at he'; cases he'; omega).2⟩
      have back : ∀ n : Nat, ∀ u, u = r.beg - n → f ≤ u → dAt P (u + circ rs j) = dAt P u := by
        intro n
        induction n with
        | zero =>
          intro u hu _
          rw [hu, show r.beg - ((0 : Nat) : Int) = begAt rs j by omega]
          exact (s.per1 (Int.le_refl _)).1
        | succ n ih =>
          intro u hu hfu
          have u0 : 0 ≤ u := by omega
          have h1 := ih (u + 1) (by omega) (by omega)
          obtain ⟨o1, o2⟩ := sO u hfu (by omega)
          rw [show u + 1 + circ rs j = u + circ rs j + 1 by omega, d_succ P (by omega), d_succ P u0, o1, o2, ch_per (P := P) (t := u + circ rs j) (u := u) (by
            rw [Int.add_emod, s.ph, Int.add_zero, Int.emod_emod])] at h1
          omega
      refine ⟨by omega, c0, by omega, s.ph, fun u hu => ?_⟩
      by_cases hur : r.beg ≤ u
      · exact s.per1 (by omega)
      · obtain ⟨o1, o2⟩ := sO u hu (by omega)
        exact ⟨back (r.beg - u).toNat u (by omega) hu, o2.trans o1.symm⟩
    · rw [if_neg hjp] at hf
      exact ⟨by omega, c0, by omega, s.ph, fun u hu => s.per1 (by omega)⟩
theorem RepV.perK {P : Par} {rs : List RunD} {loop : Option Int} {f c : Int} (h : RepV P rs loop f c) {u : Int} (hu : f ≤ u) : ∀ k : Nat, dAt P (u + k * c) = dAt P u ∧ oAt P (u + k * c) = oAt P u
  | 0 => by simp
  | k + 1 => by
    obtain ⟨h1, h2⟩ := h.perK hu k
    have kc : 0 ≤ (k : Int) * c := Int.mul_nonneg (by omega) (Int.le_of_lt h.c0)
    obtain ⟨h3, h4⟩ := h.per (u + k * c) (by omega)
    rw [show u + ((k + 1 : Nat) : Int) * c = u + k * c + c by rw [Int.natCast_add, Int.add_mul]; omega]
    exact ⟨h3.trans h1, h4.trans h2⟩
theorem RepV.heat1 {P : Par} {rs : List RunD} {loop : Option Int} {f c : Int} (h : RepV P rs loop f c) : ∀ n : Nat, hAt P (f + n + c) - hAt P (f + n) = hAt P (f + c) - hAt P f
  | 0 => by rw [show f + ((0 : Nat) : Int) = f by omega]
  | n + 1 => by
    have ih := h.heat1 n
    have f0 := h.f0
    have c0 := h.c0
    have p := (h.per (f + n) (by omega)).2
    rw [show f + ((n + 1 : Nat) : Int) + c = f + n + c + 1 by omega, show f + ((n + 1 : Nat) : Int) = f + n + 1 by omega, h_succ P (by omega), h_succ P (by omega), p]
    omega
theorem RepV.heatK {P : Par} {rs : List RunD} {loop : Option Int} {f c : Int} (h : RepV P rs loop f c) {u : Int} (hu : f ≤ u) : ∀ k : Nat, hAt P (u + k * c) = hAt P u + k * (hAt P (f + c) - hAt P f)
  | 0 => by simp
  | k + 1 => by
    have ih := h.heatK hu k
    have kc : 0 ≤ (k : Int) * c := Int.mul_nonneg (by omega) (Int.le_of_lt h.c0)
    have := h.heat1 (u + k * c - f).toNat
    rw [show f + (((u + k * c - f).toNat : Nat) : Int) = u + k * c by omega] at this
    rw [show u + ((k + 1 : Nat) : Int) * c = u + k * c + c by rw [Int.natCast_add, Int.add_mul]; omega, Int.natCast_add, Int.add_mul]
    omega
theorem HistV.rep_share {P : Par} {rs : List RunD} {loop : Option Int} (h : HistV P rs loop) {f c : Int} (hr : repO rs loop = some (f, c)) : (hAt P (f + c) - hAt P f) * (share rs loop).2 = (share rs loop).1 * c := by
  have rv := h.rep_some hr
  cases loop with
  | none =>
    obtain ⟨l, hl, hf⟩ := h.open_ rfl
    have v := h.each l (List.mem_of_getElem? hl)
    unfold repO at hr
    simp only [hl] at hr
    split at hr
    · cases hr
      have := h_const P v.b0 (show l.beg ≤ l.beg + l.steps.length by omega) fun u u0 u1 => (v.sim u u0 fun e he => by rw [hf] at he; cases he).2
      unfold share
      simp only [hl]
      rw [this]
      cases l.on <;> simp
      omega
    · cases hr
  | some j =>
    obtain ⟨hn, cn, c0, hle, eh, ec, e⟩ := h.share_shut
    have s := h.shut_
    have f0 := rv.f0
    have hcc : c = circ rs j := by
      unfold repO at hr
      simp only [Option.some.injEq, Prod.mk.injEq] at hr
      exact hr.2.symm
    have hfL : f ≤ begAt rs j := by
      unfold repO at hr
      simp only [Option.some.injEq, Prod.mk.injEq] at hr
      obtain ⟨h1, _⟩ := hr
      rw [← h1]
      split
      · have : 0 ≤ lenAt rs (j - 1) := by
          unfold lenAt lenR
          split
          · rename_i r' hr'
            split
            · have := ((h.each r' (List.mem_of_getElem? hr')).fin _ ‹_›).1
              omega
            · omega
          · omega
        have : 0 ≤ lenAt rs ((rs.length : Int) - 1) := by
          unfold lenAt lenR
          split
          · rename_i r' hr'
            split
            · have := ((h.each r' (List.mem_of_getElem? hr')).fin _ ‹_›).1
              omega
            · omega
          · omega
        omega
      · omega
    have e1 := rv.heat1 (begAt rs j - f).toNat
    rw [show f + (((begAt rs j - f).toNat : Nat) : Int) = begAt rs j by omega, hcc, show begAt rs j + circ rs j = finLast rs by unfold circ; omega, ← hcc] at e1
    rw [← e1, e, ← eh, hcc, ← ec]
    have d1 := Nat.gcd_dvd_left hn cn
    have d2 := Nat.gcd_dvd_right hn cn
    generalize Nat.gcd hn cn = g at d1 d2
    obtain ⟨x, rfl⟩ := d1
    obtain ⟨y, rfl⟩ := d2
    rcases Nat.eq_zero_or_pos g with z | z
    · subst z; simp
    · rw [Nat.mul_div_cancel_left _ z, Nat.mul_div_cancel_left _ z]
      show ((g * x : Nat) : Int) * ((y : Nat) : Int) = ((x : Nat) : Int) * ((g * y : Nat) : Int)
      rw [← Int.natCast_mul, ← Int.natCast_mul]
      congr 1
      rw [Nat.mul_comm g x, Nat.mul_assoc]
end Wm
end

section
/-! ## Switchings -/
namespace Wm
open PySem
def prevO (P : Par) (t : Int) : Bool := if t ≤ 0 then P.was else oAt P (t - 1)
def swI (P : Par) (t : Int) : Int := if (oAt P t != prevO P t) = true then 1 else 0
def swN (P : Par) : Nat → Int
  | 0 => 0
  | t + 1 => swN P t + swI P t
@[irreducible] def swAt (P : Par) (t : Int) : Int := swN P t.toNat
theorem sw_zero (P : Par) : swAt P 0 = 0 := by unfold swAt; rfl
theorem sw_succ (P : Par) {t : Int} (h : 0 ≤ t) : swAt P (t + 1) = swAt P t + swI P t := by
  unfold swAt
  rw [show (t + 1).toNat = t.toNat + 1 by omega]
  show swN P t.toNat + swI P ((t.toNat : Nat) : Int) = _
  rw [Int.toNat_of_nonneg h]
theorem swI_b (P : Par) (t : Int) : 0 ≤ swI P t ∧ swI P t ≤ 1 := by unfold swI; split <;> omega
theorem sw_le (P : Par) {a : Int} (h0 : 0 ≤ a) : ∀ n : Nat, swAt P a ≤ swAt P (a + n) ∧ swAt P (a + n) ≤ swAt P a + n
  | 0 => by rw [show a + ((0 : Nat) : Int) = a by omega]; omega
  | n + 1 => by
    have := sw_le P h0 n
    have := swI_b P (a + n)
    rw [show a + ((n + 1 : Nat) : Int) = a + n + 1 by omega, sw_succ P (by omega)]
    omega
theorem sw_mono (P : Par) {a b : Int} (h0 : 0 ≤ a) (hab : a ≤ b) : swAt P a ≤ swAt P b ∧ swAt P b ≤ swAt P a + (b - a) := by
  have := sw_le P h0 (b - a).toNat
  rw [show a + (((b - a).toNat : Nat) : Int) = b by omega] at this
  omega
theorem sw_nonneg (P : Par) {a : Int} (h0 : 0 ≤ a) : 0 ≤ swAt P a := by
  have := sw_mono P (Int.le_refl 0) h0
  rw [sw_zero] at this
  omega
/-- nothing switches while the heater's state is one -/
theorem sw_run (P : Par) {a : Int} (h0 : 0 ≤ a) {c : Bool} : ∀ n : Nat, (∀ u, a ≤ u → u ≤ a + n → oAt P u = c) → swAt P (a + n + 1) = swAt P (a + 1)
  | 0, _ => by rw [show a + ((0 : Nat) : Int) + 1 = a + 1 by omega]
  | n + 1, h => by
    have ih := sw_run P h0 n (fun u h1 h2 => h u h1 (by omega))
    have e : swI P (a + n + 1) = 0 := by
      unfold swI prevO
      rw [if_neg (show ¬ (a + n + 1 ≤ 0) by omega), h (a + n + 1) (by omega) (by omega), show a + n + 1 - 1 = a + n by omega, h (a + n) (by omega) (by omega)]
      cases c <;> rfl
    rw [show a + ((n + 1 : Nat) : Int) + 1 = a + n + 1 + 1 by omega, sw_succ P (by omega), ih, e, Int.add_zero]
theorem sw_const (P : Par) {a b : Int} (h0 : 0 ≤ a) (hab : a < b) {c : Bool} (h : ∀ u, a ≤ u → u < b → oAt P u = c) : swAt P b = swAt P a + swI P a := by
  have := sw_run P h0 (c := c) (b - a - 1).toNat (fun u h1 h2 => h u h1 (by omega))
  rw [show a + (((b - a - 1).toNat : Nat) : Int) + 1 = b by omega] at this
  rw [this, sw_succ P h0]
def same0 (P : Par) (rs : List RunD) : Int := match rs[0]? with | some r => if (r.on == P.was) = true then 1 else 0 | none => 0
theorem same0_b (P : Par) (rs : List RunD) : 0 ≤ same0 P rs ∧ same0 P rs ≤ 1 := by
  unfold same0
  split
  · split <;> omega
  · omega
def before (rs : List RunD) (t : Int) : List RunD := rs.filter fun r => decide (r.beg < t)
theorem HistV.mono {P : Par} {rs : List RunD} {loop : Option Int} (h : HistV P rs loop) : ∀ (n i : Nat) (a b : RunD), rs[i]? = some a → rs[i + n + 1]? = some b → a.beg < b.beg
  | 0, i, a, b, ha, hb => by
    have hf := (h.next i a b ha hb).1
    exact ((h.each a (List.mem_of_getElem? ha)).fin _ hf).1
  | n + 1, i, a, b, ha, hb => by
    have hl := (List.getElem?_eq_some_iff.mp hb).1
    obtain ⟨c, hc⟩ := get_some (l := rs) (i := i + n + 1) (by omega)
    have h1 := h.mono n i a c ha hc
    have hf := (h.next (i + n + 1) c b hc (by rw [show i + n + 1 + 1 = i + (n + 1) + 1 by omega]; exact hb)).1
    have h2 := ((h.each c (List.mem_of_getElem? hc)).fin _ hf).1
    omega
theorem HistV.swI_beg {P : Par} {rs : List RunD} {loop : Option Int} (h : HistV P rs loop) {i : Nat} {r : RunD} (hr : rs[i]? = some r) : swI P r.beg = if i = 0 then 1 - same0 P rs else 1 := by
  have v := h.each r (List.mem_of_getElem? hr)
  have b0 := v.b0
  have s0 := v.sim r.beg (Int.le_refl _) (fun e he => (v.fin e he).1)
  cases i with
  | zero =>
    obtain ⟨r0, h0, hb, _⟩ := h.first
    rw [hr] at h0
    cases h0
    rw [if_pos rfl]
    have hp : prevO P r.beg = P.was := by unfold prevO; rw [if_pos (by omega)]
    unfold swI same0
    rw [hr, hp, s0.2]
    show (if (r.on != P.was) = true then (1 : Int) else 0) = 1 - if (r.on == P.was) = true then 1 else 0
    generalize r.on = x
    generalize P.was = y
    cases x <;> cases y <;> rfl
  | succ i =>
    have hl := (List.getElem?_eq_some_iff.mp hr).1
    obtain ⟨m, hm⟩ := get_some (l := rs) (i := i) (by omega)
    obtain ⟨hf, ho, _⟩ := h.next i m r hm hr
    have vm := h.each m (List.mem_of_getElem? hm)
    have mf := (vm.fin _ hf).1
    have m0 := vm.b0
    have sm := (vm.sim (r.beg - 1) (by omega) (fun e he => by rw [hf] at he; cases he; omega)).2
    rw [if_neg (by omega)]
    have hp : prevO P r.beg = m.on := by unfold prevO; rw [if_neg (by omega), sm]
    unfold swI
    rw [hp, s0.2, ho]
    cases m.on <;> rfl
theorem sw_step {P : Par} {rs : List RunD} {loop : Option Int} (h : HistV P rs loop) {t : Int} (t0 : 0 ≤ t) (hl : loop = none ∨ t ≤ finLast rs) {i : Nat} {r : RunD} (hr : rs[i]? = some r) :
    swAt P (upTo rs t (i + 1)) = swAt P (upTo rs t i) + if r.beg < t then (if i = 0 then 1 - same0 P rs else 1) else 0 := by
  have v := h.each r (List.mem_of_getElem? hr)
  have b0 := v.b0
  have e1 : upTo rs t i = if r.beg < t then r.beg else t := by unfold upTo; rw [hr]
  have hil := (List.getElem?_eq_some_iff.mp hr).1
  have e2 : upTo rs t (i + 1) = (match r.fin with | none => t | some e => if e < t then e else t) := by
    by_cases hn : i + 1 < rs.length
    · obtain ⟨r2, hr2⟩ := get_some hn
      have := (h.next i r r2 hr hr2).1
      unfold upTo
      rw [hr2, this]
    · have en : i = rs.length - 1 := by omega
      have : rs[i + 1]? = none := List.getElem?_eq_none (by omega)
      unfold upTo
      rw [this]
      cases hf : r.fin with
      | none => rfl
      | some e =>
        rw [en] at hr
        have fl := finLast_of hr hf
        rcases hl with hl | hl
        · subst hl
          obtain ⟨x, hx, hxf⟩ := h.open_ rfl
          rw [hr] at hx
          cases hx
          rw [hf] at hxf
          cases hxf
        · show t = if e < t then e else t
          rw [if_neg (by omega)]
  rw [e1, e2]
  by_cases hb : r.beg < t
  · rw [if_pos hb, if_pos hb, ← h.swI_beg hr]
    have key : ∀ m, r.beg < m → m ≤ t → (∀ e, r.fin = some e → m ≤ e) → swAt P m = swAt P r.beg + swI P r.beg := fun m m0 m1 m2 =>
      sw_const P b0 m0 fun u u0 u1 => (v.sim u u0 fun e he => by have := m2 e he; omega).2
    cases hf : r.fin with
    | none => exact key t hb (Int.le_refl _) (fun e he => by rw [hf] at he; cases he)
    | some e =>
      have fe := (v.fin e hf).1
      simp only
      by_cases het : e < t
      · rw [if_pos het]
        exact key e fe (by omega) (fun e' he => by rw [hf] at he; cases he; omega)
      · rw [if_neg het]
        exact key t hb (Int.le_refl _) (fun e' he => by rw [hf] at he; cases he; omega)
  · rw [if_neg hb, if_neg hb]
    cases hf : r.fin with
    | none => exact (Int.add_zero _).symm
    | some e =>
      have fe := (v.fin e hf).1
      simp only
      rw [if_neg (by omega)]
      exact (Int.add_zero _).symm
theorem HistV.sw_take {P : Par} {rs : List RunD} {loop : Option Int} (h : HistV P rs loop) {t : Int} (t0 : 0 < t) (hl : loop = none ∨ t ≤ finLast rs) : ∀ i : Nat, i ≤ rs.length → swAt P (upTo rs t i) = ((before (rs.take i) t).length : Int) - if 0 < i then same0 P rs else 0
  | 0, _ => by
    obtain ⟨r, hr, hb, _⟩ := h.first
    have : upTo rs t 0 = 0 := by unfold upTo; rw [hr]; simp only; rw [hb, if_pos t0]
    rw [this, sw_zero]
    rfl
  | i + 1, hi => by
    obtain ⟨r, hr⟩ := get_some (l := rs) (i := i) (by omega)
    have ih := h.sw_take t0 hl i (by omega)
    rw [sw_step h (Int.le_of_lt t0) hl hr, ih, if_pos (Nat.succ_pos i)]
    have e : (before (rs.take (i + 1)) t).length = (before (rs.take i) t).length + if r.beg < t then 1 else 0 := by
      unfold before
      rw [take_one hr, List.filter_append, List.length_append]
      by_cases hb : r.beg < t
      · rw [List.filter_cons_of_pos (by exact decide_eq_true hb), if_pos hb] <;> rfl
      · rw [List.filter_cons_of_neg (by rw [decide_eq_false hb]; exact Bool.false_ne_true), if_neg hb] <;> rfl
    rw [e]
    cases i with
    | zero =>
      obtain ⟨r0, h0, hb, _⟩ := h.first
      rw [hr] at h0
      cases h0
      have hbt : r.beg < t := by omega
      simp only [hbt, if_true, Nat.lt_irrefl, if_false]
      omega
    | succ i =>
      rw [if_neg (show ¬ (i + 1 = 0) by omega), if_pos (Nat.succ_pos i)]
      split <;> omega
/-- what switched_before tells -/
theorem HistV.sw_before {P : Par} {rs : List RunD} {loop : Option Int} (h : HistV P rs loop) {t : Int} (t0 : 0 < t) (hl : loop = none ∨ t ≤ finLast rs) : swAt P t = ((before rs t).length : Int) - same0 P rs := by
  have := h.sw_take t0 hl rs.length (Nat.le_refl _)
  rw [List.take_length, if_pos h.ne, heat_last] at this
  exact this
theorem HistV.before_zero {P : Par} {rs : List RunD} {loop : Option Int} (h : HistV P rs loop) : before rs 0 = [] := by
  unfold before
  rw [List.filter_eq_nil_iff]
  intro r hr
  have := (h.each r hr).b0
  simp only [decide_eq_true_eq]
  omega
theorem HistV.before_beg {P : Par} {rs : List RunD} {loop : Option Int} (h : HistV P rs loop) {i : Nat} {r : RunD} (hr : rs[i]? = some r) {t : Int} (h1 : r.beg < t) (h2 : ∀ r2, rs[i + 1]? = some r2 → t ≤ r2.beg) : (before rs t).length = i + 1 := by
  have hil := (List.getElem?_eq_some_iff.mp hr).1
  unfold before
  rw [← List.take_append_drop (i + 1) rs, List.filter_append, List.length_append]
  have e1 : (rs.take (i + 1)).filter (fun r => decide (r.beg < t)) = rs.take (i + 1) := by
    rw [List.filter_eq_self]
    intro x hx
    obtain ⟨k, hk⟩ := List.mem_iff_getElem?.mp hx
    have hkl := (List.getElem?_eq_some_iff.mp hk).1
    rw [List.length_take] at hkl
    rw [List.getElem?_take_of_lt (by omega)] at hk
    by_cases hki : k = i
    · subst hki
      rw [hr] at hk
      cases hk
      exact decide_eq_true h1
    · have := h.mono (i - k - 1) k x r hk (by rw [show k + (i - k - 1) + 1 = i by omega]; exact hr)
      exact decide_eq_true (by omega)
  have e2 : (rs.drop (i + 1)).filter (fun r => decide (r.beg < t)) = [] := by
    rw [List.filter_eq_nil_iff]
    intro x hx
    obtain ⟨k, hk⟩ := List.mem_iff_getElem?.mp hx
    rw [List.getElem?_drop] at hk
    have hkl := (List.getElem?_eq_some_iff.mp hk).1
    obtain ⟨r2, hr2⟩ := get_some (l := rs) (i := i + 1) (by omega)
    have := h2 r2 hr2
    simp only [decide_eq_true_eq]
    cases k with
    | zero =>
      rw [Nat.add_zero, hr2] at hk
      cases hk
      omega
    | succ k =>
      have := h.mono k (i + 1) r2 x hr2 (by rw [show i + 1 + k + 1 = i + 1 + (k + 1) by omega]; exact hk)
      omega
  rw [e1, e2, List.length_take, List.length_nil]
  omega
/-- the switchings ahead of a tick of the round, with a place for the beginning -/
def swF (P : Par) (rs : List RunD) (t : Int) : Int := if t = 0 then -same0 P rs else swAt P t
theorem HistV.swF_before {P : Par} {rs : List RunD} {loop : Option Int} (h : HistV P rs loop) {t : Int} (t0 : 0 ≤ t) (hl : loop = none ∨ t ≤ finLast rs) : swF P rs t = ((before rs t).length : Int) - same0 P rs := by
  unfold swF
  by_cases hz : t = 0
  · subst hz
    rw [if_pos rfl, h.before_zero]
    show _ = (0 : Int) - _
    omega
  · rw [if_neg hz]
    exact h.sw_before (by omega) hl
theorem HistV.sw_per1 {P : Par} {rs : List RunD} {j : Int} (h : HistV P rs (some j)) : ∀ n : Nat, swAt P (begAt rs j + n + circ rs j) = swF P rs (begAt rs j + n) + (rs.length - j)
  | 0 => by
    have s := h.shut_
    obtain ⟨j0, r, l, e, hj, hl, he, hlt, hm, hd, ho, hon⟩ := h.shut j rfl
    have b := begAt_of hj
    have fl := finLast_of hl he
    have b0 := s.b0
    have lt := s.lt
    have hjl := (List.getElem?_eq_some_iff.mp hj).1
    have hne := h.ne
    rw [show begAt rs j + ((0 : Nat) : Int) = begAt rs j by omega, show begAt rs j + circ rs j = finLast rs by unfold circ; omega]
    have e1 := h.sw_before (t := finLast rs) (by omega) (.inr (Int.le_refl _))
    have e2 : (before rs (finLast rs)).length = rs.length := by
      have := h.before_beg hl (t := finLast rs) (by
        have := ((h.each l (List.mem_of_getElem? hl)).fin e he).1
        omega) (fun r2 hr2 => by
        have := (List.getElem?_eq_some_iff.mp hr2).1
        omega)
      omega
    have e3 := h.swF_before b0 (.inr (Int.le_of_lt lt))
    have e4 : ((before rs (begAt rs j)).length : Int) = j := by
      by_cases hjz : j = 0
      · obtain ⟨r0, h0, hb, _⟩ := h.first
        have hj0 := hj
        rw [hjz] at hj0
        have : r = r0 := Option.some.inj (hj0.symm.trans h0)
        have bz : begAt rs j = 0 := by rw [b, this, hb]
        rw [bz, h.before_zero, hjz]
        rfl
      · obtain ⟨m, hm2⟩ := get_some (l := rs) (i := (j - 1).toNat) (by omega)
        have hmn := h.next (j - 1).toNat m r hm2 (by rw [show (j - 1).toNat + 1 = j.toNat by omega]; exact hj)
        have mf := ((h.each m (List.mem_of_getElem? hm2)).fin _ hmn.1).1
        have := h.before_beg hm2 (t := begAt rs j) (by omega) (fun r2 hr2 => by
          rw [show (j - 1).toNat + 1 = j.toNat by omega, hj] at hr2
          cases hr2
          omega)
        omega
    omega
  | n + 1 => by
    have ih := h.sw_per1 n
    have s := h.shut_
    obtain ⟨j0, r, l, e, hj, hl, he, hlt, hm, hd, ho, hon⟩ := h.shut j rfl
    have b := begAt_of hj
    have fl := finLast_of hl he
    have b0 := s.b0
    have lt := s.lt
    have c0 := s.c0
    have hc : circ rs j = finLast rs - begAt rs j := rfl
    have hF : swF P rs (begAt rs j + ((n + 1 : Nat) : Int)) = swAt P (begAt rs j + ((n + 1 : Nat) : Int)) := by unfold swF; rw [if_neg (by omega)]
    rw [hF, show begAt rs j + ((n + 1 : Nat) : Int) + circ rs j = begAt rs j + n + circ rs j + 1 by omega, sw_succ P (by omega), ih]
    cases n with
    | zero =>
      -- at the loop's beginning, come again
      have hjl := (List.getElem?_eq_some_iff.mp hj).1
      have vl := h.each l (List.mem_of_getElem? hl)
      have lf := (vl.fin e he).1
      have l0 := vl.b0
      have p1 : swI P (finLast rs) = 1 := by
        have hp : prevO P (finLast rs) = l.on := by
          unfold prevO
          rw [if_neg (by omega)]
          exact (vl.sim (finLast rs - 1) (by omega) fun e' he' => by rw [he] at he'; cases he'; omega).2
        unfold swI
        rw [hp, fl, ho, hon]
        cases l.on <;> rfl
      have bb := h.before_beg hj (t := begAt rs j + 1) (by omega) (fun r2 hr2 => by
        have := h.mono 0 j.toNat r r2 hj hr2
        omega)
      have e1 := h.sw_before (t := begAt rs j + 1) (by omega) (.inr (by omega))
      have e0 := h.sw_per1 0
      have f0 := h.swF_before b0 (.inr (Int.le_of_lt lt))
      rw [show begAt rs j + ((0 : Nat) : Int) = begAt rs j by omega, show begAt rs j + circ rs j = finLast rs by omega] at *
      rw [p1, show begAt rs j + ((0 + 1 : Nat) : Int) = begAt rs j + 1 by omega]
      have e2 := h.sw_before (t := finLast rs) (by omega) (.inr (Int.le_refl _))
      have e3 : (before rs (finLast rs)).length = rs.length := by
        have := h.before_beg hl (t := finLast rs) (by omega) (fun r2 hr2 => by
          have := (List.getElem?_eq_some_iff.mp hr2).1
          omega)
        have := h.ne
        omega
      omega
    | succ n =>
      have hF2 : swF P rs (begAt rs j + ((n + 1 : Nat) : Int)) = swAt P (begAt rs j + ((n + 1 : Nat) : Int)) := by unfold swF; rw [if_neg (by omega)]
      have p1 := (s.per1 (t := begAt rs j + ((n + 1 : Nat) : Int)) (by omega)).2
      have p2 := (s.per1 (t := begAt rs j + (n : Int)) (by omega)).2
      have e1 : swI P (begAt rs j + ((n + 1 : Nat) : Int) + circ rs j) = swI P (begAt rs j + ((n + 1 : Nat) : Int)) := by
        have hp1 : prevO P (begAt rs j + ((n + 1 : Nat) : Int) + circ rs j) = oAt P (begAt rs j + n + circ rs j) := by
          unfold prevO
          rw [if_neg (show ¬ (begAt rs j + ((n + 1 : Nat) : Int) + circ rs j ≤ 0) by omega), show begAt rs j + ((n + 1 : Nat) : Int) + circ rs j - 1 = begAt rs j + n + circ rs j by omega]
        have hp2 : prevO P (begAt rs j + ((n + 1 : Nat) : Int)) = oAt P (begAt rs j + n) := by
          unfold prevO
          rw [if_neg (show ¬ (begAt rs j + ((n + 1 : Nat) : Int) ≤ 0) by omega), show begAt rs j + ((n + 1 : Nat) : Int) - 1 = begAt rs j + n by omega]
        unfold swI
        rw [hp1, hp2, p1, p2]
      have e2 := sw_succ P (show 0 ≤ begAt rs j + ((n + 1 : Nat) : Int) by omega)
      rw [hF2, e1, show begAt rs j + ((n + 1 + 1 : Nat) : Int) = begAt rs j + ((n + 1 : Nat) : Int) + 1 by omega, e2]
      omega
theorem HistV.sw_per {P : Par} {rs : List RunD} {j : Int} (h : HistV P rs (some j)) {t : Int} (ht : begAt rs j ≤ t) : ∀ k : Nat, 0 < k → swAt P (t + k * circ rs j) = swF P rs t + k * (rs.length - j)
  | 0, hk => absurd hk (Nat.lt_irrefl 0)
  | 1, _ => by
    have := h.sw_per1 (t - begAt rs j).toNat
    rw [show begAt rs j + (((t - begAt rs j).toNat : Nat) : Int) = t by omega] at this
    rw [show ((1 : Nat) : Int) * circ rs j = circ rs j by simp, this]
    simp
  | k + 2, _ => by
    have ih := h.sw_per ht (k + 1) (Nat.succ_pos k)
    have s := h.shut_
    have c0 := s.c0
    have b0 := s.b0
    have kc : 0 ≤ (k : Int) * circ rs j := Int.mul_nonneg (by omega) (by omega)
    have ek : ((k + 1 : Nat) : Int) * circ rs j = k * circ rs j + circ rs j := by rw [Int.natCast_add, Int.add_mul]; omega
    have := h.sw_per1 (t + ((k + 1 : Nat) : Int) * circ rs j - begAt rs j).toNat
    rw [show begAt rs j + (((t + ((k + 1 : Nat) : Int) * circ rs j - begAt rs j).toNat : Nat) : Int) = t + ((k + 1 : Nat) : Int) * circ rs j by omega] at this
    have hF : swF P rs (t + ((k + 1 : Nat) : Int) * circ rs j) = swAt P (t + ((k + 1 : Nat) : Int) * circ rs j) := by unfold swF; rw [if_neg (by omega)]
    rw [hF, ih] at this
    rw [show t + ((k + 2 : Nat) : Int) * circ rs j = t + ((k + 1 : Nat) : Int) * circ rs j + circ rs j by rw [show ((k + 2 : Nat) : Int) = ((k + 1 : Nat) : Int) + 1 by omega, Int.add_mul]; omega, this,
      show ((k + 2 : Nat) : Int) = ((k + 1 : Nat) : Int) + 1 by omega, Int.add_mul]
    omega
/-- what switchings tells -/
theorem HistV.sw_wrap {P : Par} {rs : List RunD} {loop : Option Int} (h : HistV P rs loop) {t : Int} (t0 : 0 ≤ t) :
    (¬ 0 < wrapT rs loop t → swAt P t = if ((before rs (wrapP rs loop t)).length : Int) - same0 P rs > 0 then ((before rs (wrapP rs loop t)).length : Int) - same0 P rs else 0) ∧
    (∀ j, loop = some j → 0 < wrapT rs loop t → swAt P t = ((before rs (wrapP rs loop t)).length : Int) - same0 P rs + wrapT rs loop t * (rs.length - j)) := by
  have w := h.wrap t0
  have hle : loop = none ∨ wrapP rs loop t ≤ finLast rs := by
    rcases w.pl with z | z
    · exact .inl z
    · exact .inr (Int.le_of_lt z)
  have hF := h.swF_before w.p0 hle
  refine ⟨fun z => ?_, fun j hj hp => ?_⟩
  · have hz : wrapT rs loop t = 0 := by have := w.t0; omega
    rw [← hF]
    have hp := w.zero hz
    rw [hp]
    unfold swF
    have sb := same0_b P rs
    have sn := sw_nonneg P t0
    by_cases ht : t = 0
    · rw [if_pos ht, if_neg (by omega), ht, sw_zero]
    · rw [if_neg ht]
      split <;> omega
  · subst hj
    obtain ⟨e, hb⟩ := w.eq j rfl
    have := h.sw_per (t := wrapP rs (some j) t) (hb hp) (wrapT rs (some j) t).toNat (by omega)
    rw [Int.toNat_of_nonneg w.t0, ← e, hF] at this
    exact this
end Wm
end

section
namespace Wm
open PySem
def NthV (P : Par) (n : Int) : Option Int → Prop
  | none => ∀ u, 0 ≤ u → swAt P u < n
  | some w => 0 ≤ w ∧ swAt P w = n - 1 ∧ swAt P (w + 1) = n
theorem HistV.beg_le {P : Par} {rs : List RunD} {j : Int} (h : HistV P rs (some j)) {i : Nat} {r : RunD} (hr : rs[i]? = some r) : r.beg < finLast rs := by
  obtain ⟨j0, _, l, e, _, hl, he, _⟩ := h.shut j rfl
  have fl := finLast_of hl he
  have lf := ((h.each l (List.mem_of_getElem? hl)).fin e he).1
  have hil := (List.getElem?_eq_some_iff.mp hr).1
  by_cases hi : i = rs.length - 1
  · subst hi
    rw [hr] at hl
    cases hl
    omega
  · have := h.mono (rs.length - 1 - i - 1) i r l hr (by rw [show i + (rs.length - 1 - i - 1) + 1 = rs.length - 1 by omega]; exact hl)
    omega
theorem HistV.before_at {P : Par} {rs : List RunD} {loop : Option Int} (h : HistV P rs loop) {i : Nat} {r : RunD} (hr : rs[i]? = some r) : (before rs r.beg).length = i ∧ (before rs (r.beg + 1)).length = i + 1 := by
  have hil := (List.getElem?_eq_some_iff.mp hr).1
  refine ⟨?_, h.before_beg hr (by omega) (fun r2 hr2 => by have := h.mono 0 i r r2 hr hr2; omega)⟩
  cases i with
  | zero =>
    obtain ⟨r0, h0, hb, _⟩ := h.first
    rw [hr] at h0
    cases h0
    rw [hb, h.before_zero]
    rfl
  | succ i =>
    obtain ⟨m, hm⟩ := get_some (l := rs) (i := i) (by omega)
    have := h.mono 0 i m r hm hr
    exact h.before_beg hm this (fun r2 hr2 => by rw [hr] at hr2; cases hr2; exact Int.le_refl _)
theorem HistV.nth_in {P : Par} {rs : List RunD} {loop : Option Int} (h : HistV P rs loop) {n : Int} (n1 : 1 ≤ n) {r : RunD} (hr : rs[(n - 1 + same0 P rs).toNat]? = some r) : NthV P n (some r.beg) := by
  have sb := same0_b P rs
  have v := h.each r (List.mem_of_getElem? hr)
  have b0 := v.b0
  obtain ⟨e1, e2⟩ := h.before_at hr
  have key : ∀ t, r.beg ≤ t → t ≤ r.beg + 1 → (loop = none ∨ t ≤ finLast rs) := fun t _ ht => by
    cases loop with
    | none => exact .inl rfl
    | some j =>
      have := h.beg_le hr
      exact .inr (by omega)
  refine ⟨b0, ?_, ?_⟩
  · by_cases hz : r.beg = 0
    · rw [hz, h.before_zero] at e1
      have e1 : 0 = (n - 1 + same0 P rs).toNat := e1
      rw [hz, sw_zero]
      omega
    · have := h.sw_before (t := r.beg) (by omega) (key _ (Int.le_refl _) (by omega))
      omega
  · have := h.sw_before (t := r.beg + 1) (by omega) (key _ (by omega) (Int.le_refl _))
    omega
theorem HistV.before_le {rs : List RunD} (t : Int) : (before rs t).length ≤ rs.length := List.length_filter_le _ _
theorem HistV.nth_none {P : Par} {rs : List RunD} (h : HistV P rs none) {n : Int} (n1 : 1 ≤ n) (hi : (rs.length : Int) ≤ n - 1 + same0 P rs) : NthV P n none := fun u hu => by
  by_cases hz : u = 0
  · rw [hz, sw_zero]
    omega
  · have := h.sw_before (t := u) (by omega) (.inl rfl)
    have := HistV.before_le (rs := rs) u
    omega
theorem HistV.nth_loop {P : Par} {rs : List RunD} {j : Int} (h : HistV P rs (some j)) {n : Int} (n1 : 1 ≤ n) (hi : (rs.length : Int) ≤ n - 1 + same0 P rs) {r : RunD}
    (hr : rs[(j + (n - 1 + same0 P rs - j) % (rs.length - j)).toNat]? = some r) : NthV P n (some (r.beg + (n - 1 + same0 P rs - j) / (rs.length - j) * circ rs j)) := by
  have s := h.shut_
  have sb := same0_b P rs
  have j0 := s.j0
  have jl := s.jl
  have c0 := s.c0
  have v := h.each r (List.mem_of_getElem? hr)
  have b0 := v.b0
  obtain ⟨e1, e2⟩ := h.before_at hr
  have bl := h.beg_le hr
  obtain ⟨_, rj, l, e, hj, hl, he, _⟩ := h.shut j rfl
  have bj := begAt_of hj
  generalize hix : n - 1 + same0 P rs = ix at *
  have q1 : 1 ≤ (ix - j) / (rs.length - j) := (Int.le_ediv_iff_mul_le (by omega)).mpr (by omega)
  have m0 := Int.emod_nonneg (ix - j) (show (rs.length : Int) - j ≠ 0 by omega)
  have em := Int.emod_add_mul_ediv (ix - j) ((rs.length : Int) - j)
  rw [Int.mul_comm] at em
  generalize hq : (ix - j) / ((rs.length : Int) - j) = q at *
  generalize hp : (ix - j) % ((rs.length : Int) - j) = pl at *
  have hL : begAt rs j ≤ r.beg := by
    by_cases hz : pl = 0
    · have : r = rj := by
        rw [hz, Int.add_zero, hj] at hr
        exact (Option.some.inj hr).symm
      rw [bj, this]
      exact Int.le_refl _
    · have := h.mono ((j + pl).toNat - j.toNat - 1) j.toNat rj r hj (by rw [show j.toNat + ((j + pl).toNat - j.toNat - 1) + 1 = (j + pl).toNat by omega]; exact hr)
      omega
  have qc : 0 ≤ q * circ rs j := Int.mul_nonneg (by omega) (Int.le_of_lt c0)
  have f1 := h.sw_per (t := r.beg) hL q.toNat (by omega)
  have f2 := h.sw_per (t := r.beg + 1) (by omega) q.toNat (by omega)
  rw [Int.toNat_of_nonneg (by omega)] at f1 f2
  rw [h.swF_before b0 (.inr (Int.le_of_lt bl))] at f1
  rw [h.swF_before (t := r.beg + 1) (by omega) (.inr (by omega))] at f2
  refine ⟨by omega, ?_, ?_⟩
  · omega
  · rw [show r.beg + q * circ rs j + 1 = r.beg + 1 + q * circ rs j by omega]
    omega
end Wm
end

section
local macro_rules | `(tactic| walk_at "cls") => `(tactic| first | (with_reducible exact Wm.WeatherC.cl (by assumption)) | (with_reducible exact Wm.HeaterC.cl (by assumption)) | (with_reducible exact Wm.RoomC.cl (by assumption)) | (with_reducible exact Wm.RunC.cl (by assumption)) | (with_reducible exact Wm.HistoryC.cl (by assumption)) | (with_reducible exact Wm.ThresholdObserverC.cl (by assumption)) | (with_reducible exact Wm.SettingC.cl (by assumption)) | (with_reducible exact Wm.HourSettingC.cl (by assumption)) | (with_reducible exact Wm.RestSettingC.cl (by assumption)) | (with_reducible exact Wm.PricesC.cl (by assumption)) | (with_reducible exact Wm.MomentC.cl (by assumption)) | (with_reducible exact Wm.LiveRoomC.cl (by assumption)) | (with_reducible exact Wm.AttemptC.cl (by assumption)))
local macro_rules | `(tactic| walk_at "noattr") => `(tactic| first | (with_reducible exact Wm.WeatherC.n_pattern (by assumption)) | (with_reducible exact Wm.HeaterC.n_power (by assumption)) | (with_reducible exact Wm.HeaterC.n_below (by assumption)) | (with_reducible exact Wm.HeaterC.n_above (by assumption)) | (with_reducible exact Wm.RoomC.n_outside (by assumption)) | (with_reducible exact Wm.RoomC.n_inside (by assumption)) | (with_reducible exact Wm.RoomC.n_begin_degrees (by assumption)) | (with_reducible exact Wm.RoomC.n_past (by assumption)) | (with_reducible exact Wm.RoomC.n_repeated (by assumption)) | (with_reducible exact Wm.RoomC.n_share (by assumption)) | (with_reducible exact Wm.RoomC.n_coldest (by assumption)) | (with_reducible exact Wm.RoomC.n_warmest (by assumption)) | (with_reducible exact Wm.RunC.n_begin (by assumption)) | (with_reducible exact Wm.RunC.n_end (by assumption)) | (with_reducible exact Wm.RunC.n_degrees (by assumption)) | (with_reducible exact Wm.RunC.n_is_heating (by assumption)) | (with_reducible exact Wm.RunC.n_sums (by assumption)) | (with_reducible exact Wm.RunC.n_size (by assumption)) | (with_reducible exact Wm.RunC.n_drift (by assumption)) | (with_reducible exact Wm.HistoryC.n_shifts (by assumption)) | (with_reducible exact Wm.HistoryC.n_added (by assumption)) | (with_reducible exact Wm.HistoryC.n_floor (by assumption)) | (with_reducible exact Wm.HistoryC.n_ceiling (by assumption)) | (with_reducible exact Wm.HistoryC.n_was_heating (by assumption)) | (with_reducible exact Wm.HistoryC.n_runs (by assumption)) | (with_reducible exact Wm.HistoryC.n_loop (by assumption)) | (with_reducible exact Wm.ThresholdObserverC.n_outside (by assumption)) | (with_reducible exact Wm.ThresholdObserverC.n_power (by assumption)) | (with_reducible exact Wm.ThresholdObserverC.n_tick (by assumption)) | (with_reducible exact Wm.ThresholdObserverC.n_degrees (by assumption)) | (with_reducible exact Wm.ThresholdObserverC.n_is_heating (by assumption)) | (with_reducible exact Wm.ThresholdObserverC.n_lows (by assumption)) | (with_reducible exact Wm.ThresholdObserverC.n_highs (by assumption)) | (with_reducible exact Wm.ThresholdObserverC.n_noted (by assumption)) | (with_reducible exact Wm.SettingC.n_least (by assumption)) | (with_reducible exact Wm.SettingC.n_most (by assumption)) | (with_reducible exact Wm.HourSettingC.n_least (by assumption)) | (with_reducible exact Wm.HourSettingC.n_most (by assumption)) | (with_reducible exact Wm.HourSettingC.n_length (by assumption)) | (with_reducible exact Wm.HourSettingC.n_hours (by assumption)) | (with_reducible exact Wm.RestSettingC.n_least (by assumption)) | (with_reducible exact Wm.RestSettingC.n_most (by assumption)) | (with_reducible exact Wm.RestSettingC.n_rest (by assumption)) | (with_reducible exact Wm.PricesC.n_table (by assumption)) | (with_reducible exact Wm.MomentC.n_tick (by assumption)) | (with_reducible exact Wm.MomentC.n_heat (by assumption)) | (with_reducible exact Wm.MomentC.n_on (by assumption)) | (with_reducible exact Wm.MomentC.n_burnt (by assumption)) | (with_reducible exact Wm.MomentC.n_sky (by assumption)) | (with_reducible exact Wm.MomentC.n_stove (by assumption)) | (with_reducible exact Wm.LiveRoomC.n_moment (by assumption)) | (with_reducible exact Wm.LiveRoomC.n_earlier (by assumption)) | (with_reducible exact Wm.LiveRoomC.n_done (by assumption)) | (with_reducible exact Wm.AttemptC.n_live (by assumption)) | (with_reducible exact Wm.AttemptC.n_kept (by assumption)) | (with_reducible exact Wm.AttemptC.n_stack (by assumption)) | (with_reducible exact Wm.AttemptC.n_steps (by assumption)))
local macro_rules | `(tactic| walk_at "at") => `(tactic| first | assumption | exact Wm.Hold.rd (by assumption) (by assumption) | exact Wm.Hold.get (i := 0) (by assumption) rfl | exact Wm.Hold.get (i := 1) (by assumption) rfl | exact Wm.Hold.get (i := 2) (by assumption) rfl | exact Wm.Hold.get (i := 3) (by assumption) rfl | exact Wm.Hold.get (i := 4) (by assumption) rfl)
local macro_rules | `(tactic| walk_at "s1") => `(tactic| first
  | (with_reducible refine Wm.r_seq ?_)
  | (with_reducible refine Wm.r_op ?_)
  | ((with_reducible refine' Wm.r_var ?h ?_); (case h => rfl))
  | (with_reducible refine Wm.r_c ?_)
  | (with_reducible refine Wm.r_I0 ?_)
  | (with_reducible refine Wm.r_cons ?_)
  | (with_reducible refine Wm.r_nil ?_)
  | (with_reducible refine Wm.r_asg ?_)
  | (with_reducible refine Wm.r_gname ?_; try simp only [List.set_cons_zero, List.set_cons_succ])
  | (with_reducible refine Wm.r_nx ?_)
  | (with_reducible refine Wm.r_rt ?_)
  | (with_reducible refine Wm.r_ret ?_)
  | (with_reducible refine Wm.r_test ?_)
  | (with_reducible refine Wm.r_bl ?_)
  | (with_reducible refine Wm.r_B ?_)
  | (with_reducible refine Wm.r_eqI ?_)
  | (with_reducible refine Wm.r_neI ?_)
  | (with_reducible refine Wm.r_eqB ?_)
  | (with_reducible refine Wm.r_neB ?_)
  | (with_reducible refine Wm.r_fld ?_)
  | (with_reducible refine Wm.r_call ?_)
  | (with_reducible refine Wm.r_mtd ?_)
  | (with_reducible refine Wm.r_prp ?_)
  | (with_reducible refine Wm.r_mak ?_)
  | (with_reducible refine Wm.r_makKw ?_)
  | (with_reducible refine Wm.r_cb ?_)
  | (with_reducible refine Wm.r_tup ?_)
  | (with_reducible refine Wm.r_lst ?_)
  | (with_reducible refine Wm.r_chain ?_)
  | (with_reducible refine Wm.r_and ?_)
  | (with_reducible refine Wm.r_or ?_)
  | (with_reducible refine Wm.r_not ?_)
  | (with_reducible refine Wm.r_andV ?_)
  | (with_reducible refine Wm.r_orV ?_)
  | (with_reducible refine Wm.r_notV ?_)
  | (with_reducible refine Wm.r_if ?_)
  | (with_reducible refine Wm.r_un ?_)
  | (with_reducible refine Wm.r_U ?_)
  | (with_reducible refine Wm.r_iteT ?_)
  | (with_reducible refine Wm.r_iteF ?_)
  | (with_reducible refine Wm.r_next ?_)
  | (with_reducible refine Wm.r_drop ?_)
  | (with_reducible refine Wm.r_retN ?_)
  | ((with_reducible refine' Wm.r_aug ?h ?_); (case h => rfl))
  | (with_reducible refine Wm.r_ipI ?_)
  | (with_reducible refine Wm.r_par2 ?_)
  | (with_reducible refine Wm.r_two ?_; try simp only [List.set_cons_zero, List.set_cons_succ])
  | (with_reducible refine Wm.r_yes ?_)
  | (with_reducible refine Wm.r_forET ?_)
  | (with_reducible refine Wm.r_chain3 ?_)
  | (with_reducible refine Wm.r_nT ?_)
  | (with_reducible refine Wm.r_nF ?_)
  | (with_reducible refine Wm.r_par3 ?_)
  | (with_reducible refine Wm.r_seenPut ?_)
  | (with_reducible refine Wm.r_seenGet ?_)
  | (with_reducible refine Wm.r_three ?_; try simp only [List.set_cons_zero, List.set_cons_succ])
  | (with_reducible refine Wm.r_sl ?_)
  | (with_reducible refine Wm.r_nopart ?_)
  | (with_reducible refine Wm.r_part ?_)
  | (with_reducible refine Wm.r_xi ?_)
  | (with_reducible refine Wm.r_gcons ?_)
  | (with_reducible refine Wm.r_gnil ?_)
  | (with_reducible refine Wm.r_sub ?_)
  | (with_reducible refine Wm.r_setF ?_)
  | (with_reducible refine Wm.r_app ?_)
  | (with_reducible refine Wm.int_i ?_)
  | (with_reducible refine Wm.int_b ?_)
  | (with_reducible refine Wm.min2 ?_)
  | (with_reducible refine Wm.max2 ?_)
  | (with_reducible refine Wm.abs1 ?_)
  | (with_reducible refine Wm.isN ?_)
  | (with_reducible refine Wm.notN ?_)
  | ((with_reducible refine' Wm.r_ty ?e ?_); (case e => walk_at "at"))
  | ((with_reducible refine' Wm.setF_m ?h 0 ?e ?c ?a ?l ?_); (case h => assumption); (case e => rfl); (case c => walk_at "cls"); (case a => walk_at "noattr"); (case l => exact of_decide_eq_true rfl); intro H1 hh1; simp only [List.set_cons_zero, List.set_cons_succ] at hh1)
  | ((with_reducible refine' Wm.setF_m ?h 1 ?e ?c ?a ?l ?_); (case h => assumption); (case e => rfl); (case c => walk_at "cls"); (case a => walk_at "noattr"); (case l => exact of_decide_eq_true rfl); intro H1 hh1; simp only [List.set_cons_zero, List.set_cons_succ] at hh1)
  | ((with_reducible refine' Wm.setF_m ?h 2 ?e ?c ?a ?l ?_); (case h => assumption); (case e => rfl); (case c => walk_at "cls"); (case a => walk_at "noattr"); (case l => exact of_decide_eq_true rfl); intro H1 hh1; simp only [List.set_cons_zero, List.set_cons_succ] at hh1)
  | ((with_reducible refine' Wm.setF_m ?h 3 ?e ?c ?a ?l ?_); (case h => assumption); (case e => rfl); (case c => walk_at "cls"); (case a => walk_at "noattr"); (case l => exact of_decide_eq_true rfl); intro H1 hh1; simp only [List.set_cons_zero, List.set_cons_succ] at hh1)
  | (with_reducible refine Wm.r_forL ?_)
  | (with_reducible refine Wm.r_forT ?_)
  | (with_reducible refine Wm.r_forR1 ?_)
  | (with_reducible refine Wm.r_forR2 ?_)
  | (with_reducible refine Wm.r_lcL ?_)
  | (with_reducible refine Wm.r_lcT ?_)
  | (with_reducible refine Wm.r_lcR1 ?_)
  | (with_reducible refine Wm.r_lcR2 ?_)
  | ((with_reducible refine' Wm.fld_h ?e ?c ?n ?l ?_); (case e => walk_at "at"); (case c => walk_at "cls"); (case n => walk_at "noattr"); (case l => rfl))
  | ((with_reducible refine' Wm.mtd_h ?e ?l ?_); (case e => walk_at "at"); (case l => rfl))
  | ((with_reducible refine' Wm.prp_h ?e ?_); (case e => walk_at "at"))
  | ((with_reducible refine' Wm.rix_ht ?a ?b ?_); (case a => walk_at "at"); (case b => rfl))
  | ((with_reducible refine' Wm.rix_h ?a ?b ?_); (case a => walk_at "at"); (case b => rfl))
  | ((with_reducible refine' Wm.len_ht ?a ?_); (case a => walk_at "at"))
  | ((with_reducible refine' Wm.len_h ?a ?_); (case a => walk_at "at"))
  | ((with_reducible refine' Wm.len_l ?a ?b ?_); (case a => assumption); (case b => assumption))
  | ((with_reducible refine' Wm.len_t ?a ?b ?_); (case a => assumption); (case b => assumption))
  | ((with_reducible refine' Wm.gtup_h ?a ?b ?_); (case a => walk_at "at"); (case b => rfl))
  | (with_reducible refine Wm.r_I (Wm.cmulR (by decide)) ?_)
  | (with_reducible refine Wm.r_I (Wm.cmulL (by decide)) ?_)
  | (with_reducible refine Wm.r_I (Wm.cdiv (by decide) (by decide)) ?_)
  | (with_reducible refine Wm.r_I Wm.cpow18 ?_)
  | (with_reducible refine Wm.r_I Wm.cpow12 ?_)
  | (with_reducible refine Wm.r_I (by show (0 : Int) < _; decide) ?_))
local macro_rules | `(tactic| walk_at "s") => `(tactic| repeat (first | walk_at "s1" | (with_reducible refine Wm.r_ifS ?_)))
local macro_rules | `(tactic| walk_at "t") => `(tactic| repeat (walk_at "s1"))
local macro_rules | `(tactic| walk_at "sz") => `(tactic| exact of_decide_eq_true rfl)
local macro_rules | `(tactic| walk_at "d") => `(tactic| first | (refine Wm.r_dT (by omega) ?_) | (refine Wm.r_dF (by omega) ?_) | (refine Wm.r_dN (by omega) ?_) | (refine Wm.r_dM (by omega) ?_))
local macro_rules | `(tactic| walk_at "sd") => `(tactic| repeat (first | walk_at "s1" | (with_reducible refine Wm.r_ifS ?_) | walk_at "d"))
namespace Wm
open PySem PySem.Spec PyProof.Rows L2 StX
/-! ## Switchings -/
def sp_Room_switched_before (K : PySem.W.Frag) (A : Ads) : Sp := fun vs H Q _ => ∃ (p : Addr) (R : RoomD) (t : Int), vs = [.ref p, .int t] ∧ IsRoom K A H p R ∧ ∀ H', Ex H H' → Q (.int (((before R.rs t).length : Int) - same0 R.P R.rs)) H'
def sp_Room_switchings (K : PySem.W.Frag) (A : Ads) : Sp := fun vs H Q _ => ∃ (p : Addr) (R : RoomD) (t : Int), vs = [.ref p, .int t] ∧ IsRoom K A H p R ∧ 0 ≤ t ∧ t ≤ 10 ^ 18 ∧ ∀ H', Ex H H' → Q (.int (swAt R.P t)) H'
def sp_Room_nth_switching (K : PySem.W.Frag) (A : Ads) : Sp := fun vs H Q _ => ∃ (p : Addr) (R : RoomD) (n : Int), vs = [.ref p, .int n] ∧ IsRoom K A H p R ∧ 1 ≤ n ∧ n ≤ 10 ^ 18 ∧ ∀ o H', NthV R.P n o → Ex H H' → Q (optI o) H'
def t_Room_switched_before (K : PySem.W.Frag) (A : Ads) : TS := tSeq (tAsg (tLc (iList K (tFld K (tFld K (tVar 0) "past") "runs")) (gName 3) (tTest (tOp (rI0 fun i j => .bl (decide (i < j))) (tFld K (tVar 3) "begin") (tVar 1))) (tFld K (tVar 3) "begin") [3]) (gName 2)) (tSeq (tAsg (tOp rEq (tFld K (tOp (rIx K) (tFld K (tFld K (tVar 0) "past") "runs") (tC (.int 0))) "is_heating") (tFld K (tFld K (tVar 0) "past") "was_heating")) (gName 4)) (tRet (tOp (rI0 fun i j => .int (i - j)) (tCB (rLen K) (tCons (tVar 2) (tNil))) (tCB rInt (tCons (tVar 4) (tNil))))))
def t_Room_switchings (K : PySem.W.Frag) (A : Ads) : TS := tSeq (tDrop (tCal (sp_validate_number K A) E0 (tCons (tVar 1) (tCons (tC (.int 0)) (tCons (tC (.int 1000000000000000000)) (tNil)))))) (tSeq (tAsg (tMtd A.cHistory "wrapped" (sp_History_wrapped K A) E0 (tFld K (tVar 0) "past") (tCons (tVar 1) (tNil))) (gTup K 2 (gCons (gName 2) (gCons (gName 3) (gNil))))) (tSeq (tAsg (tMtd A.cRoom "switched_before" (sp_Room_switched_before K A) E0 (tVar 0) (tCons (tVar 3) (tNil))) (gName 4)) (tRet (tIf (tTest (tOp (rI0 fun i j => .bl (decide (j < i))) (tVar 2) (tC (.int 0)))) (tOp (rI0 fun i j => .int (i + j)) (tVar 4) (tOp (rI CMul fun i j => .int (i * j)) (tVar 2) (tOp (rI0 fun i j => .int (i - j)) (tCB (rLen K) (tCons (tFld K (tFld K (tVar 0) "past") "runs") (tNil))) (tFld K (tFld K (tVar 0) "past") "loop")))) (tCB rMax2 (tCons (tC (.int 0)) (tCons (tVar 4) (tNil))))))))
def t_Room_nth_switching (K : PySem.W.Frag) (A : Ads) : TS := tSeq (tDrop (tCal (sp_validate_number K A) E0 (tCons (tVar 1) (tCons (tC (.int 1)) (tCons (tC (.int 1000000000000000000)) (tNil)))))) (tSeq (tAsg (tOp rEq (tFld K (tOp (rIx K) (tFld K (tFld K (tVar 0) "past") "runs") (tC (.int 0))) "is_heating") (tFld K (tFld K (tVar 0) "past") "was_heating")) (gName 2)) (tSeq (tAsg (tOp (rI0 fun i j => .int (i + j)) (tOp (rI0 fun i j => .int (i - j)) (tVar 1) (tC (.int 1))) (tCB rInt (tCons (tVar 2) (tNil)))) (gName 3)) (tSeq (tIfS (tTest (tOp (rI0 fun i j => .bl (decide (i < j))) (tVar 3) (tCB (rLen K) (tCons (tFld K (tFld K (tVar 0) "past") "runs") (tNil))))) (tRet (tFld K (tOp (rIx K) (tFld K (tFld K (tVar 0) "past") "runs") (tVar 3)) "begin")) (tNext)) (tSeq (tIfS (tTest (tOp rIsN (tFld K (tFld K (tVar 0) "past") "loop") (tC .non))) (tRet (tC .non)) (tNext)) (tSeq (tAsg (tOp (rI0 fun i j => .int (i - j)) (tCB (rLen K) (tCons (tFld K (tFld K (tVar 0) "past") "runs") (tNil))) (tFld K (tFld K (tVar 0) "past") "loop")) (gName 4)) (tSeq (tPar 5 6 (tCons (tOp (rI CDivW fun i j => .int (i / j)) (tOp (rI0 fun i j => .int (i - j)) (tVar 3) (tFld K (tFld K (tVar 0) "past") "loop")) (tVar 4)) (tCons (tOp (rI (fun _ j => 0 < j) fun i j => .int (i % j)) (tCB rInt (tCons (tOp (rI0 fun i j => .int (i - j)) (tVar 3) (tFld K (tFld K (tVar 0) "past") "loop")) (tNil))) (tVar 4)) (tNil)))) (tRet (tOp (rI0 fun i j => .int (i + j)) (tFld K (tOp (rIx K) (tFld K (tFld K (tVar 0) "past") "runs") (tOp (rI0 fun i j => .int (i + j)) (tFld K (tFld K (tVar 0) "past") "loop") (tVar 6))) "begin") (tOp (rI CMul fun i j => .int (i * j)) (tVar 5) (tMtd A.cHistory "circle" (sp_History_circle K A) E0 (tFld K (tVar 0) "past") tNil))))))))))
section
variable {K : PySem.W.Frag} {A : Ads}
theorem RunsAt.first {H : Hp} {ras : List Addr} {P : Par} {rs : List RunD} {loop : Option Int} (h : RunsAt K A H ras rs) (hv : HistV P rs loop) : ∃ a r dx s, atI (ras.map V.ref) 0 = some (V.ref a) ∧ rs[0]? = some r ∧ H a = some (.ins A.cRun dx (runF r s)) ∧ same0 P rs = if (r.on == P.was) = true then 1 else 0 := by
  obtain ⟨r, hr, _⟩ := hv.first
  obtain ⟨a, dx, s, h1, _, h3⟩ := h.get hr
  exact ⟨a, r, dx, s, atI_of (Int.le_refl 0) (refs_at h1), hr, h3, by unfold same0; rw [hr]⟩
theorem pure_Room_switched_before (vs : List V) (H : Hp) (Q : VK) (E : XK) (h : sp_Room_switched_before K A vs H Q E) : t_Room_switched_before K A { nx := fun _ H' => Q .non H', rt := Q } (start ["self", "tick", "begins", "run", "same"] vs) H := by
  obtain ⟨p, R, t, rfl, ir, k⟩ := h
  obtain ⟨cl, iw, ih, ip, dx, vr, vs, vc, vw, o1, o2, h1, _⟩ := id ir
  obtain ⟨TH, TR, hok, dx1, sh, ru, ras, g1, g2, g3, g4⟩ := id ip
  have hv := hok.v
  have hle := hv.le
  show t_Room_switched_before K A _ [some (.ref p), some (.int t), none, none, none] H
  unfold t_Room_switched_before
  walk_at "s"
  have hlen : (ras.map V.ref).length = R.rs.length := by rw [List.length_map, g4.len]
  refine lcL_by (Hold.start H) (SqL.of g3) (fun i acc G' mu' => mu' = [] ∧ acc = ((before (R.rs.take i) t).map RunD.beg).map V.int) ⟨rfl, rfl⟩ ?_ ?_
  · rintro i x D acc G' mu' H2 hx hal exx hhx ⟨rfl, rfl⟩
    obtain ⟨a, ha, rfl⟩ := refs_of hx
    have hil : i < R.rs.length := by rw [← hlen]; exact (List.getElem?_eq_some_iff.mp hx).1
    obtain ⟨r, hr⟩ := get_some hil
    obtain ⟨_, _, dxr, sr, hor, _⟩ := (g4.at_ _ a r ha hr).up (exx.trans hhx.ex)
    walk_at "s"
    refine ⟨rfl, ?_⟩
    walk_at "s"
    refine r_ite (fun c => ?_) (fun c => ?_)
    · walk_at "s"
      refine lcY hhx exx hal (by omega) ⟨rfl, ?_⟩
      unfold before
      rw [take_one hr, List.filter_append, List.filter_cons_of_pos (by exact c), List.filter_nil, List.map_append, List.map_append]
      rfl
    · refine lcN hhx exx hal ⟨rfl, ?_⟩
      unfold before
      rw [take_one hr, List.filter_append, List.filter_cons_of_neg (by rw [c]; exact Bool.false_ne_true), List.filter_nil, List.append_nil]
  rintro D acc G' mu' H2 hal exx hhx ⟨rfl, rfl⟩
  have exH := exx.trans hhx.ex
  have h12 := exH _ _ h1
  have g12 := exH _ _ g1
  have g32 := exH _ _ g3
  obtain ⟨a, r, dxr, sr, i1, hr0, o1', es⟩ := (g4.up exH).first hv
  walk_at "s"
  refine rix_h g32 i1 ?_
  walk_at "s"
  rw [hlen, List.take_length, List.length_map, List.length_map]
  rw [es] at k
  exact k H2 exH
theorem pure_Room_switchings (vs : List V) (H : Hp) (Q : VK) (E : XK) (h : sp_Room_switchings K A vs H Q E) : t_Room_switchings K A { nx := fun _ H' => Q .non H', rt := Q } (start ["self", "count", "turns", "tick", "total"] vs) H := by
  obtain ⟨p, R, t, rfl, ir, t0, t1, k⟩ := h
  obtain ⟨cl, iw, ih, ip, dx, vr, vs, vc, vw, o1, o2, h1, _⟩ := id ir
  obtain ⟨TH, TR, hok, dx1, sh, ru, ras, g1, g2, g3, g4⟩ := id ip
  have hv := hok.v
  have hle := hv.le
  have wr := hv.wrap t0
  obtain ⟨z1, z2⟩ := hv.sw_wrap t0
  show t_Room_switchings K A _ [some (.ref p), some (.int t), none, none, none] H
  unfold t_Room_switchings
  walk_at "s"
  refine ⟨t, 0, _, rfl, t0, by omega, ?_⟩
  walk_at "s"
  refine ⟨R.pa, t, R.P, R.rs, R.loop, rfl, ip, fun q H1 ex1 hq hq1 => ?_⟩
  have h11 := ex1 _ _ h1
  refine gtup_h hq1 rfl ?_
  walk_at "s"
  refine ⟨p, R, _, rfl, ir.up ex1, fun H2 ex2 => ?_⟩
  have exH := ex1.trans ex2
  have h12 := exH _ _ h1
  have g12 := exH _ _ g1
  have g32 := exH _ _ g3
  walk_at "s"
  refine r_ite (fun c => ?_) (fun c => ?_)
  · have c : 0 < wrapT R.rs R.loop t := of_decide_eq_true c
    have hj : ∃ j, R.loop = some j := by
      cases hl : R.loop with
      | none => rw [hl] at c; exact absurd c (by show ¬ (0 : Int) < 0; decide)
      | some j => exact ⟨j, rfl⟩
    obtain ⟨j, hj⟩ := hj
    have hv2 := hv
    rw [hj] at hv2
    have sc := hv2.shut_
    have j0 := sc.j0
    have jl := sc.jl
    walk_at "s"
    refine ⟨((ras.map V.ref).length : Nat), j, rfl, by rw [hj] <;> rfl, ?_⟩
    walk_at "s"
    have hlen : (ras.map V.ref).length = R.rs.length := by rw [List.length_map, g4.len]
    rw [hlen]
    refine r_I (cmulR (by omega)) ?_
    walk_at "s"
    rw [← z2 j hj c]
    exact k H2 exH
  · have c : ¬ 0 < wrapT R.rs R.loop t := of_decide_eq_false c
    walk_at "s"
    rw [← z1 c]
    exact k H2 exH
theorem pure_Room_nth_switching (vs : List V) (H : Hp) (Q : VK) (E : XK) (h : sp_Room_nth_switching K A vs H Q E) : t_Room_nth_switching K A { nx := fun _ H' => Q .non H', rt := Q } (start ["self", "number", "same", "index", "size", "turns", "place"] vs) H := by
  obtain ⟨p, R, n, rfl, ir, n1, n2, k⟩ := h
  obtain ⟨cl, iw, ih, ip, dx, vr, vs, vc, vw, o1, o2, h1, _⟩ := id ir
  obtain ⟨TH, TR, hok, dx1, sh, ru, ras, g1, g2, g3, g4⟩ := id ip
  have hv := hok.v
  have hle := hv.le
  have sb := same0_b R.P R.rs
  have hlen : (ras.map V.ref).length = R.rs.length := by rw [List.length_map, g4.len]
  obtain ⟨a, r, dxr, sr, i1, hr0, o1', es⟩ := g4.first hv
  show t_Room_nth_switching K A _ [some (.ref p), some (.int n), none, none, none, none, none] H
  unfold t_Room_nth_switching
  walk_at "s"
  refine ⟨n, 1, _, rfl, n1, by omega, ?_⟩
  walk_at "s"
  refine rix_h g3 i1 ?_
  walk_at "s"
  rw [hlen, ← es]
  generalize hix : n - 1 + same0 R.P R.rs = ix
  refine r_ite (fun c => ?_) (fun c => ?_)
  · have c := of_decide_eq_true c
    obtain ⟨x, hx⟩ := get_some (l := R.rs) (i := ix.toNat) (by omega)
    obtain ⟨b, dxb, sb', ib, irb, ob⟩ := IsHist.num g4 (show 0 ≤ ix by omega) hx
    walk_at "s"
    refine rix_h g3 ib ?_
    walk_at "s"
    exact k (some x.beg) H (hv.nth_in n1 (by rw [hix]; exact hx)) (Ex.refl H)
  · have c := of_decide_eq_false c
    cases hl : R.loop with
    | none =>
      rw [hl] at hv
      rw [hl] at g1
      walk_at "s"
      refine r_ite (fun _ => ?_) (fun c => absurd rfl (of_decide_eq_false c))
      walk_at "s"
      exact k none H (hv.nth_none n1 (by omega)) (Ex.refl H)
    | some j =>
      rw [hl] at hv g1
      have ip2 := ip
      rw [hl] at ip2
      have sc := hv.shut_
      have j0 := sc.j0
      have jl := sc.jl
      have cB := sc.cB
      have c0 := sc.c0
      have m0 := Int.emod_nonneg (ix - j) (show (R.rs.length : Int) - j ≠ 0 by omega)
      have m1 := Int.emod_lt_of_pos (ix - j) (show (0 : Int) < (R.rs.length : Int) - j by omega)
      obtain ⟨x, hx⟩ := get_some (l := R.rs) (i := (j + (ix - j) % (R.rs.length - j)).toNat) (by omega)
      obtain ⟨b, dxb, sb', ib, irb, ob⟩ := IsHist.num g4 (show 0 ≤ j + (ix - j) % (R.rs.length - j) by omega) hx
      walk_at "s"
      refine r_ite (fun c => absurd (of_decide_eq_true c) (by intro z; cases z)) (fun _ => ?_)
      walk_at "s"
      refine ⟨_, j, rfl, rfl, ?_⟩
      walk_at "s"
      refine ⟨_, j, rfl, rfl, ?_⟩
      rw [hlen]
      walk_at "s"
      refine r_I (cdiv (by omega) (by omega)) ?_
      walk_at "s"
      refine ⟨_, j, rfl, rfl, ?_⟩
      walk_at "s"
      refine r_I (show (0 : Int) < (R.rs.length : Int) - j by omega) ?_
      walk_at "s"
      refine ⟨j, _, rfl, rfl, ?_⟩
      refine rix_h g3 ib ?_
      walk_at "s"
      refine ⟨R.pa, R.P, R.rs, j, rfl, ip2, ?_⟩
      walk_at "s"
      refine r_I (cmulR (by omega)) ?_
      walk_at "s"
      have := hv.nth_loop n1 (by omega) (by rw [hix]; exact hx)
      rw [hix] at this
      exact k _ H this (Ex.refl H)
end
end Wm
end

section
/-! ## How soon all of it has happened -/
namespace Wm
open PySem
/-- all temperatures from which a run begins are at most W from the threshold that ends it -/
structure Near (P : Par) (W : Int) : Prop where
  a : P.hi - P.lo + 300 ≤ W
  b : P.hi - P.start ≤ W
  c : P.start - P.lo ≤ W
theorem fb_near {P : Par} (ok : ParOk P) {W : Int} (nr : Near P W) {n : Nat} {s : S3} {e : Int} (h : StOk P n s) (h0 : n = 0 → s = start3 P) (hf : FB (runFrom P s none) (bnd P s.on) (sgn s.on) (some e)) : e ≤ s.t + P.ch.length * (W + 8000) := by
  have rok := run_ok ok s none
  have hl : (runFrom P s none).steps.length = P.ch.length := steps_len ok _ _
  have op := ok.pos
  have gap : (bnd P s.on - s.d) * sgn s.on ≤ W := by
    have n1 := nr.a
    have n2 := nr.b
    have n3 := nr.c
    unfold bnd sgn
    by_cases hn : n = 0
    · have := h0 hn
      subst this
      show ((if (start3 P).on = true then P.hi else P.lo) - P.start) * (if (start3 P).on = true then 1 else -1) ≤ W
      split <;> omega
    · cases ho : s.on with
      | true =>
        have := h.onI (Nat.pos_of_ne_zero hn) ho
        simp
        omega
      | false =>
        have := h.offI (Nat.pos_of_ne_zero hn) ho
        simp
        omega
  have w0 : 0 ≤ W := by have := nr.a; have := ok.lh; omega
  rcases hf with ⟨hf, _⟩ | ⟨m, hf, hm, _⟩
  · cases hf
  · cases hf
    obtain ⟨p, hp, hpe⟩ := fb_mem.mp hm
    rw [hl] at hp
    unfold fbAt at hpe
    have hbeg : (runFrom P s none).beg = s.t := rfl
    have hdeg : (runFrom P s none).deg = s.d := rfl
    rw [hbeg, hdeg, hl] at hpe
    have m1 : (P.ch.length : Int) ≤ P.ch.length * (W + 8000) := by
      have := Int.mul_le_mul_of_nonneg_left (show (1 : Int) ≤ W + 8000 by omega) (show (0 : Int) ≤ P.ch.length by omega)
      omega
    split at hpe
    · cases hpe
      omega
    · split at hpe
      · cases hpe
        rename_i c1 c2
        have ps := rok.psumB p
        have g1 : (bnd P s.on - s.d - psum (runFrom P s none).steps p) * sgn s.on ≤ W + 7200 := by
          rcases sgn_or s.on with z | z <;> rw [z] at gap ⊢ <;> omega
        have q1 : (bnd P s.on - s.d - psum (runFrom P s none).steps p) * sgn s.on / ((runFrom P s none).steps.sum * sgn s.on) ≤ (bnd P s.on - s.d - psum (runFrom P s none).steps p) * sgn s.on := Int.ediv_le_self _ (by omega)
        generalize (bnd P s.on - s.d - psum (runFrom P s none).steps p) * sgn s.on / ((runFrom P s none).steps.sum * sgn s.on) = q at *
        have q2 : q + 1 ≤ W + 7201 := by omega
        have m := Int.mul_le_mul_of_nonneg_right q2 (show (0 : Int) ≤ P.ch.length by omega)
        rw [Int.mul_comm (P.ch.length : Int)]
        have e3 : (W + 8000) * (P.ch.length : Int) = (W + 7201) * P.ch.length + 799 * P.ch.length := by rw [← Int.add_mul]; congr 1; omega
        omega
      · cases hpe
theorem Chn.near {P : Par} (ok : ParOk P) {W : Int} (nr : Near P W) {rs : List RunD} {s : S3} (h : Chn P rs s) : s.t ≤ rs.length * (P.ch.length * (W + 8000)) ∧ (rs.length = 0 → s = start3 P) ∧ ∀ r ∈ rs, r.beg ≤ rs.length * (P.ch.length * (W + 8000)) := by
  have w0 : 0 ≤ W := by have := nr.a; have := ok.lh; omega
  have B0 : 0 ≤ (P.ch.length : Int) * (W + 8000) := Int.mul_nonneg (by omega) (by omega)
  induction h with
  | nil => exact ⟨by show (0 : Int) ≤ _; simp, fun _ => rfl, fun r h => by cases h⟩
  | @snoc rs s e hc hf ih =>
    obtain ⟨i1, i2, i3⟩ := ih
    have so := hc.ok ok
    have he := fb_near ok nr so i2 hf
    have hlt := (next_ok ok so hf).1
    generalize (P.ch.length : Int) * (W + 8000) = B at *
    have el : (((rs ++ [runFrom P s (some e)]).length : Nat) : Int) * B = rs.length * B + B := by
      rw [List.length_append, List.length_singleton, Int.natCast_add, Int.add_mul]
      omega
    rw [el]
    refine ⟨by show e ≤ _; omega, fun z => by simp at z, fun r hr => ?_⟩
    rcases List.mem_append.mp hr with hr | hr
    · have := i3 r hr
      omega
    · rw [List.mem_singleton] at hr
      subst hr
      show s.t ≤ _
      omega
theorem Chn.boundN {P : Par} (ok : ParOk P) {rs : List RunD} {s : S3} (h : Chn P rs s) (nd : (rs.map (keyR P)).Nodup) : rs.length ≤ 400 * P.ch.length + 1 := by
  cases rs with
  | nil => exact Nat.zero_le _
  | cons r rs =>
    have nd2 : (rs.map (keyR P)).Nodup := (List.nodup_cons.mp nd).2
    have key : ∀ {i : Nat} {x : RunD}, rs[i]? = some x → _ := fun {i x} hi => h.code ok (i := i) (r := x) (by simpa using hi)
    have hp := ok.pos
    have nd3 : ((rs.map (keyR P)).map (codeK P)).Nodup := by
      rw [List.Nodup, List.pairwise_map]
      have nd2' := nd2
      rw [List.Nodup, List.pairwise_iff_getElem] at nd2'
      rw [List.pairwise_iff_getElem]
      intro i j hi hj hij e
      apply nd2' i j hi hj hij
      rw [List.getElem_map, List.getElem_map] at e ⊢
      have hi' : i < rs.length := by simpa using hi
      have hj' : j < rs.length := by simpa using hj
      obtain ⟨q1, a1, a2, a3, a4, a5⟩ := key (List.getElem?_eq_getElem hi')
      obtain ⟨q2, b1, b2, b3, b4, b5⟩ := key (List.getElem?_eq_getElem hj')
      generalize rs[i] = x at *
      generalize rs[j] = y at *
      rw [e] at a1
      have hq : q1 = q2 := by omega
      have hph : x.beg % (P.ch.length : Int) = y.beg % P.ch.length := by omega
      have hon : x.on = y.on := by
        cases hx : x.on <;> cases hy : y.on
        · rfl
        · have := (a5 hx).2; have := (b4 hy).2; omega
        · have := (a4 hx).2; have := (b5 hy).2; omega
        · rfl
      have hdeg : x.deg = y.deg := by
        cases hx : x.on
        · have := (a5 hx).1; have := (b5 (hon ▸ hx)).1; omega
        · have := (a4 hx).1; have := (b4 (hon ▸ hx)).1; omega
      unfold keyR
      rw [hph, hdeg, hon]
    have := pigeon (400 * P.ch.length) _ nd3 (fun c hc => by
      obtain ⟨k, hk, rfl⟩ := List.mem_map.mp hc
      obtain ⟨x, hx, rfl⟩ := List.mem_map.mp hk
      obtain ⟨i, hi⟩ := List.mem_iff_getElem?.mp hx
      obtain ⟨q, a1, a2, a3, _⟩ := key hi
      have m1 := Int.emod_lt_of_pos x.beg (show (0 : Int) < P.ch.length by omega)
      omega)
    simp only [List.length_map] at this
    simp only [List.length_cons]
    omega
/-- the last run's beginning, or its end -/
theorem HistOk.near {P : Par} {rs : List RunD} {loop : Option Int} (h : HistOk P rs loop) {W : Int} (nr : Near P W) : (∀ r ∈ rs, r.beg ≤ (400 * P.ch.length + 2) * (P.ch.length * (W + 8000))) ∧ (∀ j, loop = some j → finLast rs ≤ (400 * P.ch.length + 2) * (P.ch.length * (W + 8000))) := by
  have ok := h.par
  have w0 : 0 ≤ W := by have := nr.a; have := ok.lh; omega
  have B0 : 0 ≤ (P.ch.length : Int) * (W + 8000) := Int.mul_nonneg (by omega) (by omega)
  have up : ∀ {m : Nat}, m ≤ 400 * P.ch.length + 1 → (m : Int) * (P.ch.length * (W + 8000)) ≤ (400 * P.ch.length + 2) * (P.ch.length * (W + 8000)) := fun {m} hm =>
    Int.mul_le_mul_of_nonneg_right (by omega) B0
  rcases h.shape with ⟨rfl, rs0, s, hc, rfl, hf⟩ | ⟨j, r, s, rfl, hc, hj, hk⟩
  · have nd0 : (rs0.map (keyR P)).Nodup := by
      have := h.nd
      rw [List.map_append, List.nodup_append] at this
      exact this.1
    have hb := hc.boundN ok nd0
    obtain ⟨n1, _, n3⟩ := hc.near ok nr
    refine ⟨fun r hr => ?_, fun j hj => by cases hj⟩
    rcases List.mem_append.mp hr with hr | hr
    · exact Int.le_trans (n3 r hr) (up hb)
    · rw [List.mem_singleton] at hr
      subst hr
      exact Int.le_trans n1 (up hb)
  · have hb := hc.boundN ok h.nd
    obtain ⟨n1, _, n3⟩ := hc.near ok nr
    refine ⟨fun r hr => Int.le_trans (n3 r hr) (up hb), fun j' hj' => ?_⟩
    rcases hc.last with ⟨rfl, _⟩ | ⟨l, l1, l2, _⟩
    · simp at hj
    · rw [finLast_of l1 l2]
      exact Int.le_trans n1 (up hb)
end Wm
end

section
/-! ## No sooner, and not after fewer ticks -/
namespace Wm
open PySem
theorem HistV.find {P : Par} {rs : List RunD} {loop : Option Int} (h : HistV P rs loop) {v : Int} (v0 : 0 ≤ v) : ∀ n : Nat, n < rs.length → ∃ (i : Nat) (r : RunD), i ≤ n ∧ rs[i]? = some r ∧ r.beg ≤ v ∧ (i < n → ∀ r2, rs[i + 1]? = some r2 → v < r2.beg)
  | 0, hn => by
    obtain ⟨r, hr, hb, _⟩ := h.first
    exact ⟨0, r, Nat.le_refl 0, hr, by omega, fun z => absurd z (Nat.lt_irrefl 0)⟩
  | n + 1, hn => by
    obtain ⟨i, r, h1, h2, h3, h4⟩ := h.find v0 n (by omega)
    by_cases hi : i < n
    · exact ⟨i, r, by omega, h2, h3, fun _ => h4 hi⟩
    · have e : i = n := by omega
      subst e
      obtain ⟨r2, hr2⟩ := get_some hn
      by_cases hv : r2.beg ≤ v
      · exact ⟨i + 1, r2, Nat.le_refl _, hr2, hv, fun z => absurd z (Nat.lt_irrefl _)⟩
      · exact ⟨i, r, by omega, h2, h3, fun _ r3 hr3 => by rw [hr2] at hr3; cases hr3; omega⟩
theorem HistV.at_tick {P : Par} {rs : List RunD} {loop : Option Int} (h : HistV P rs loop) {v : Int} (v0 : 0 ≤ v) : ∃ (i : Nat) (r : RunD), rs[i]? = some r ∧ r.beg ≤ v ∧ ∀ r2, rs[i + 1]? = some r2 → v < r2.beg := by
  have hne := h.ne
  obtain ⟨i, r, h1, h2, h3, h4⟩ := h.find v0 (rs.length - 1) (by omega)
  refine ⟨i, r, h2, h3, fun r2 hr2 => ?_⟩
  have := (List.getElem?_eq_some_iff.mp hr2).1
  exact h4 (by omega) r2 hr2
theorem HistV.deg {P : Par} {rs : List RunD} {loop : Option Int} (h : HistV P rs loop) {i : Nat} {r : RunD} (hr : rs[i]? = some r) : dAt P r.beg = r.deg ∧ oAt P r.beg = r.on := by
  have v := h.each r (List.mem_of_getElem? hr)
  have s := v.sim r.beg (Int.le_refl _) (fun e he => (v.fin e he).1)
  exact ⟨s.1.trans (at_beg r (h.runOk (List.mem_of_getElem? hr))), s.2⟩
theorem HistV.key_inj {P : Par} {rs : List RunD} {loop : Option Int} (h : HistV P rs loop) {i k : Nat} {a b : RunD} (ha : rs[i]? = some a) (hb : rs[k]? = some b) (hp : a.beg % P.ch.length = b.beg % P.ch.length) (hd : a.deg = b.deg) (ho : a.on = b.on) : i = k := by
  obtain ⟨l1, e1⟩ := List.getElem?_eq_some_iff.mp ha
  obtain ⟨l2, e2⟩ := List.getElem?_eq_some_iff.mp hb
  have nd := h.nd
  have l1' : i < (rs.map (keyR P)).length := by rw [List.length_map]; exact l1
  have l2' : k < (rs.map (keyR P)).length := by rw [List.length_map]; exact l2
  refine (List.getElem_inj nd (h₀ := l1') (h₁ := l2')).mp ?_
  rw [List.getElem_map, List.getElem_map, e1, e2]
  unfold keyR
  rw [hp, hd, ho]
/-- in the tick ahead of the repetition the heater is set in another way than it is later -/
theorem HistV.rep_first {P : Par} {rs : List RunD} {loop : Option Int} (h : HistV P rs loop) {f c : Int} (hr : repO rs loop = some (f, c)) (hf : 0 < f) : oAt P (f - 1) ≠ oAt P (f - 1 + c) := by
  have ok := h.par
  have op := ok.pos
  have rv := h.rep_some hr
  cases loop with
  | none =>
    obtain ⟨l, hl, hfi⟩ := h.open_ rfl
    have v := h.each l (List.mem_of_getElem? hl)
    have len := v.len ok
    unfold repO at hr
    simp only [hl] at hr
    split at hr
    · cases hr
      have hne := h.ne
      obtain ⟨r0, h0, hb0, _⟩ := h.first
      have hn1 : 1 ≤ rs.length - 1 := by
        rcases Nat.eq_zero_or_pos (rs.length - 1) with z | z
        · rw [z] at hl
          rw [hl] at h0
          cases h0
          omega
        · exact z
      obtain ⟨m, hm⟩ := get_some (l := rs) (i := rs.length - 1 - 1) (by omega)
      obtain ⟨mf, mo, _⟩ := h.next (rs.length - 1 - 1) m l hm (by rw [show rs.length - 1 - 1 + 1 = rs.length - 1 by omega]; exact hl)
      have vm := h.each m (List.mem_of_getElem? hm)
      have mb := (vm.fin _ mf).1
      have m0 := vm.b0
      have o1 := (vm.sim (l.beg - 1) (by omega) (fun e he => by rw [mf] at he; cases he; omega)).2
      have o2 := (v.sim (l.beg - 1 + l.steps.length) (by omega) (fun e he => by rw [hfi] at he; cases he)).2
      rw [o1, o2, mo]
      cases m.on <;> decide
    · cases hr
  | some j =>
    have s := h.shut_
    obtain ⟨j0, r, l, e, hj, hl, he, hlt, hm, hd, ho, hon⟩ := h.shut j rfl
    have b := begAt_of hj
    have fl := finLast_of hl he
    have hc : circ rs j = finLast rs - begAt rs j := rfl
    have c0 := s.c0
    have hjl := (List.getElem?_eq_some_iff.mp hj).1
    unfold repO at hr
    simp only [Option.some.injEq, Prod.mk.injEq] at hr
    obtain ⟨hff, hcc⟩ := hr
    subst hcc
    have hjp : 0 < j := by
      by_cases hz : 0 < j
      · exact hz
      · have hj0 : j = 0 := by omega
        obtain ⟨r0, h0, hb0, _⟩ := h.first
        have hjn := hj
        rw [hj0] at hjn
        have : r = r0 := Option.some.inj (hjn.symm.trans h0)
        rw [if_neg hz] at hff
        rw [this] at b
        omega
    rw [if_pos hjp] at hff
    obtain ⟨m, hm2⟩ := get_some (l := rs) (i := (j - 1).toNat) (by omega)
    have hmn := h.next (j - 1).toNat m r hm2 (by rw [show (j - 1).toNat + 1 = j.toNat by omega]; exact hj)
    have e1 : lenAt rs (j - 1) = r.beg - m.beg := by unfold lenAt lenR; rw [hm2]; simp only [hmn.1]
    have e2 : lenAt rs ((rs.length : Int) - 1) = e - l.beg := by unfold lenAt lenR; rw [show ((rs.length : Int) - 1).toNat = rs.length - 1 by have := h.ne; omega, hl]; simp only [he]
    rw [e1, e2] at hff
    have vm := h.each m (List.mem_of_getElem? hm2)
    have vl := h.each l (List.mem_of_getElem? hl)
    have m0 := vm.b0
    have mf := (vm.fin _ hmn.1).1
    have lf := (vl.fin _ he).1
    have onE : m.on = l.on := by
      have h1 := hmn.2.1
      rw [hon] at h1
      cases hm : m.on <;> cases hl : l.on <;> rw [hm, hl] at h1 <;> first | rfl | cases h1
    -- the two are not of one length
    have hne : r.beg - m.beg ≠ e - l.beg := fun z => by
      have hfm : f = m.beg := by omega
      have p := rv.per f (Int.le_refl _)
      have hlf : l.beg = f + circ rs j := by omega
      have k1 := h.deg hm2
      have k2 := h.deg hl
      have hph : m.beg % (P.ch.length : Int) = l.beg % P.ch.length := by
        rw [hlf, ← hfm, Int.add_emod, s.ph, Int.add_zero, Int.emod_emod]
      have := h.key_inj hm2 hl hph (by rw [← k1.1, ← k2.1, hlf, ← hfm]; exact p.1.symm) onE
      omega
    by_cases hlen : r.beg - m.beg < e - l.beg
    · have hfm : f = m.beg := by omega
      -- ahead of it stands another run
      have hj1 : 0 < (j - 1).toNat := by
        rcases Nat.eq_zero_or_pos (j - 1).toNat with z | z
        · rw [z] at hm2
          obtain ⟨r0, h0, hb0, _⟩ := h.first
          rw [hm2] at h0
          cases h0
          omega
        · exact z
      obtain ⟨q, hq⟩ := get_some (l := rs) (i := (j - 1).toNat - 1) (by omega)
      obtain ⟨qf, qo, _⟩ := h.next ((j - 1).toNat - 1) q m hq (by rw [show (j - 1).toNat - 1 + 1 = (j - 1).toNat by omega]; exact hm2)
      have vq := h.each q (List.mem_of_getElem? hq)
      have qb := (vq.fin _ qf).1
      have q0 := vq.b0
      have o1 := (vq.sim (f - 1) (by omega) (fun e' he' => by rw [qf] at he'; cases he'; omega)).2
      have o2 := (vl.sim (f - 1 + circ rs j) (by omega) (fun e' he' => by rw [he] at he'; cases he'; omega)).2
      rw [o1, o2, ← onE, qo]
      cases q.on <;> decide
    · -- the last run is the shorter one; another stands ahead of it in the round
      have hll : j.toNat < rs.length - 1 := by
        rcases Nat.lt_or_ge j.toNat (rs.length - 1) with z | z
        · exact z
        · have : j.toNat = rs.length - 1 := by omega
          rw [this, hl] at hj
          cases hj
          exact absurd hon (by cases r.on <;> decide)
      obtain ⟨q, hq⟩ := get_some (l := rs) (i := rs.length - 1 - 1) (by omega)
      obtain ⟨qf, qo, _⟩ := h.next (rs.length - 1 - 1) q l hq (by rw [show rs.length - 1 - 1 + 1 = rs.length - 1 by omega]; exact hl)
      have vq := h.each q (List.mem_of_getElem? hq)
      have qb := (vq.fin _ qf).1
      have o1 := (vm.sim (f - 1) (by omega) (fun e' he' => by rw [hmn.1] at he'; cases he'; omega)).2
      have o2 := (vq.sim (f - 1 + circ rs j) (by omega) (fun e' he' => by rw [qf] at he'; cases he'; omega)).2
      rw [o1, o2, onE, qo]
      cases q.on <;> decide
/-- after no fewer ticks, whole rounds of the weather, does it come again -/
theorem HistV.rep_least {P : Par} {rs : List RunD} {loop : Option Int} (h : HistV P rs loop) {f c : Int} (hr : repO rs loop = some (f, c)) {d T : Int} (d0 : 0 < d) (dn : d % P.ch.length = 0) (hT : 0 ≤ T) (hp : ∀ u, T ≤ u → dAt P (u + d) = dAt P u ∧ oAt P (u + d) = oAt P u) : c ≤ d := by
  have ok := h.par
  have op := ok.pos
  cases loop with
  | none =>
    obtain ⟨l, hl, hfi⟩ := h.open_ rfl
    have v := h.each l (List.mem_of_getElem? hl)
    have len := v.len ok
    unfold repO at hr
    simp only [hl] at hr
    split at hr
    · cases hr
      rw [len]
      exact Int.le_of_dvd d0 (Int.dvd_of_emod_eq_zero dn)
    · cases hr
  | some j =>
    have s := h.shut_
    obtain ⟨j0, r, l, e, hj, hl, he, hlt, hm, hd, ho, hon⟩ := h.shut j rfl
    have b := begAt_of hj
    have fl := finLast_of hl he
    have hc : circ rs j = finLast rs - begAt rs j := rfl
    have c0 := s.c0
    have b0 := s.b0
    have hcc : c = circ rs j := by
      unfold repO at hr
      simp only [Option.some.injEq, Prod.mk.injEq] at hr
      exact hr.2.symm
    rw [hcc]
    by_cases hz : d % circ rs j = 0
    · exact Int.le_of_dvd d0 (Int.dvd_of_emod_eq_zero hz)
    · exfalso
      have m0 := Int.emod_nonneg d (show circ rs j ≠ 0 by omega)
      have m1 := Int.emod_lt_of_pos d c0
      have em := Int.emod_add_mul_ediv d (circ rs j)
      have q0 : 0 ≤ d / circ rs j := Int.ediv_nonneg (by omega) (by omega)
      rw [Int.mul_comm] at em
      have vl := h.each l (List.mem_of_getElem? hl)
      have lf := (vl.fin _ he).1
      have l0 := vl.b0
      have lb : begAt rs j ≤ l.beg := by
        by_cases z : j.toNat = rs.length - 1
        · rw [z, hl] at hj
          cases hj
          omega
        · have hjl := (List.getElem?_eq_some_iff.mp hj).1
          have := h.mono (rs.length - 1 - j.toNat - 1) j.toNat r l hj (by rw [show j.toNat + (rs.length - 1 - j.toNat - 1) + 1 = rs.length - 1 by omega]; exact hl)
          omega
      -- far out, where the round begins
      have Tc : T ≤ T * circ rs j := by
        have := Int.mul_le_mul_of_nonneg_left (show 1 ≤ circ rs j by omega) hT
        omega
      have eE := s.perI (t := finLast rs) (k := T) (by omega) hT
      have eE1 := s.perI (t := finLast rs - 1) (k := T) (by omega) hT
      have p1 := hp (finLast rs + T * circ rs j) (by omega)
      have p2 := hp (finLast rs - 1 + T * circ rs j) (by omega)
      have oE1 : oAt P (finLast rs - 1) = l.on := (vl.sim (finLast rs - 1) (by omega) fun e' he' => by rw [he] at he'; cases he'; omega).2
      -- the place in the round
      have tk : 0 ≤ T + d / circ rs j + 1 := by omega
      have v1 := s.perI (t := begAt rs j + d % circ rs j) (k := T + d / circ rs j + 1) (by omega) tk
      have v2 := s.perI (t := begAt rs j + d % circ rs j - 1) (k := T + d / circ rs j + 1) (by omega) tk
      have ek : (T + d / circ rs j + 1) * circ rs j = T * circ rs j + d / circ rs j * circ rs j + circ rs j := by rw [Int.add_mul, Int.add_mul, Int.one_mul]
      rw [ek, show begAt rs j + d % circ rs j + (T * circ rs j + d / circ rs j * circ rs j + circ rs j) = finLast rs + T * circ rs j + d by omega] at v1
      rw [ek, show begAt rs j + d % circ rs j - 1 + (T * circ rs j + d / circ rs j * circ rs j + circ rs j) = finLast rs - 1 + T * circ rs j + d by omega] at v2
      have dv : dAt P (begAt rs j + d % circ rs j) = dAt P (begAt rs j) := by rw [← v1.1, p1.1, eE.1, s.d]
      have ov : oAt P (begAt rs j + d % circ rs j) = oAt P (begAt rs j) := by rw [← v1.2, p1.2, eE.2, s.o]
      have ov1 : oAt P (begAt rs j + d % circ rs j - 1) = l.on := by rw [← v2.2, p2.2, eE1.2, oE1]
      generalize hv : begAt rs j + d % circ rs j = v at *
      obtain ⟨i, x, hx, hxb, hxn⟩ := h.at_tick (v := v) (by omega)
      have pk := h.pick hx hxb hxn (.inr (by omega))
      have kj := h.deg hj
      have hb : x.beg = v := by
        rcases Int.lt_or_eq_of_le hxb with z | z
        · have vx := h.each x (List.mem_of_getElem? hx)
          have o := (vx.sim (v - 1) (by omega) fun e' he' => by have := pk.2.2 e' he'; omega).2
          rw [ov1, ← pk.2.1, ov, b, kj.2, hon] at o
          exact absurd o (by cases l.on <;> decide)
        · exact z
      have kx := h.deg hx
      rw [hb] at kx
      have hph : x.beg % (P.ch.length : Int) = r.beg % P.ch.length := by
        rw [hb, ← hv, b]
        have hd1 : (P.ch.length : Int) ∣ d := Int.dvd_of_emod_eq_zero dn
        have hd2 : (P.ch.length : Int) ∣ circ rs j := Int.dvd_of_emod_eq_zero s.ph
        have hd3 : (P.ch.length : Int) ∣ d % circ rs j := by
          have e4 : d % circ rs j = d - d / circ rs j * circ rs j := by omega
          rw [e4]
          exact Int.dvd_sub hd1 (Int.dvd_trans hd2 (Int.dvd_mul_left _ _))
        refine Int.emod_eq_emod_iff_emod_sub_eq_zero.mpr ?_
        rw [show r.beg + d % circ rs j - r.beg = d % circ rs j by omega]
        exact Int.emod_eq_zero_of_dvd hd3
      have := h.key_inj hx hj hph (by rw [← kx.1, dv, b, kj.1]) (by rw [← kx.2, ov, b, kj.2])
      subst this
      rw [hx] at hj
      cases hj
      omega
end Wm
end

section
/-! ## States of a room compared, ranges with a step -/
namespace Wm
open PySem PySem.Spec PyProof.Rows L2 StX
abbrev StV := Int × Bool
def StAt (H : Hp) (v : V) (s : StV) : Prop := ∃ q, v = .ref q ∧ H q = some (.tup [.int s.1, .bl s.2])
theorem StAt.up {G H : Hp} (e : Ex G H) {v : V} {s : StV} (h : StAt G v s) : StAt H v s := by
  obtain ⟨q, h1, h2⟩ := h
  exact ⟨q, h1, e _ _ h2⟩
def stD (s : StV) : PyData := .tuple [.int s.1, .bool s.2]
section
variable {K : PySem.W.Frag} {H : Hp} {Q : VK}
theorem stD_dp {v : V} {s : StV} (h : StAt H v s) : Dp K H v (stD s) := by
  obtain ⟨q, rfl, hq⟩ := h
  exact .tup (SqT.of hq) (.cons (.int _) (.cons (.bl _) .nil))
theorem stD_shaped (s : StV) : SeqAt.shaped (stD s) = true := rfl
theorem stD_eqv (s t : StV) : PyData.eqv (stD s) (stD t) = decide (s = t) := by
  obtain ⟨a, b⟩ := s
  obtain ⟨c, d⟩ := t
  simp only [stD, PyData.eqv, PyData.eqvAll, Bool.and_true, Prod.mk.injEq]
  by_cases h1 : a = c
  · subst h1
    cases b <;> cases d <;> simp
  · simp [h1]
theorem eqS {x y : V} {s t : StV} (h1 : StAt H x s) (h2 : StAt H y t) (k : Q (.bl (decide (s = t))) H) : rEqD K x y H Q :=
  ⟨_, _, stD_dp h1, stD_dp h2, stD_shaped s, stD_shaped t, by rw [stD_eqv]; exact k⟩
theorem neS {x y : V} {s t : StV} (h1 : StAt H x s) (h2 : StAt H y t) (k : Q (.bl (!decide (s = t))) H) : rNeD K x y H Q :=
  ⟨_, _, stD_dp h1, stD_dp h2, stD_shaped s, stD_shaped t, by rw [stD_eqv]; exact k⟩
/-- a list of states -/
structure StsAt (H : Hp) (vs : List V) (ss : List StV) : Prop where
  len : vs.length = ss.length
  at_ : ∀ (i : Nat) (v : V) (s : StV), vs[i]? = some v → ss[i]? = some s → StAt H v s
theorem StsAt.up {G H : Hp} (e : Ex G H) {vs : List V} {ss : List StV} (h : StsAt G vs ss) : StsAt H vs ss := ⟨h.len, fun i v s a b => (h.at_ i v s a b).up e⟩
theorem StsAt.nil : StsAt H [] [] := ⟨rfl, fun i v s h => by simp at h⟩
theorem StsAt.add {vs : List V} {ss : List StV} {v : V} {s : StV} (h : StsAt H vs ss) (hv : StAt H v s) : StsAt H (vs ++ [v]) (ss ++ [s]) := by
  refine ⟨by simp [h.len], fun i b x h1 h2 => ?_⟩
  by_cases hl : i < ss.length
  · rw [List.getElem?_append_left (by rw [h.len]; exact hl)] at h1
    rw [List.getElem?_append_left hl] at h2
    exact h.at_ i b x h1 h2
  · have hl2 := (List.getElem?_eq_some_iff.mp h2).1
    have e : i = ss.length := by simp at hl2; omega
    subst e
    rw [List.getElem?_append_right (by rw [h.len]; exact Nat.le_refl _)] at h1
    rw [List.getElem?_append_right (Nat.le_refl _)] at h2
    simp [h.len] at h1 h2
    subst h1 h2
    exact hv
theorem StsAt.drop {vs : List V} {ss : List StV} (h : StsAt H vs ss) (n : Nat) : StsAt H (vs.drop n) (ss.drop n) :=
  ⟨by simp [h.len], fun i v s h1 h2 => by rw [List.getElem?_drop] at h1 h2; exact h.at_ _ v s h1 h2⟩
theorem StsAt.take {vs : List V} {ss : List StV} (h : StsAt H vs ss) (n : Nat) : StsAt H (vs.take n) (ss.take n) :=
  ⟨by simp [h.len], fun i v s h1 h2 => by
    by_cases hi : i < n
    · rw [List.getElem?_take_of_lt hi] at h1 h2
      exact h.at_ _ v s h1 h2
    · rw [List.getElem?_eq_none (by rw [List.length_take]; omega)] at h1
      cases h1⟩
theorem stDs_dp : ∀ {vs : List V} {ss : List StV}, StsAt H vs ss → DpAll K H vs (ss.map stD)
  | [], [], _ => .nil
  | [], s :: ss, h => by have := h.len; simp at this
  | v :: vs, [], h => by have := h.len; simp at this
  | v :: vs, s :: ss, h => .cons (stD_dp (h.at_ 0 v s rfl rfl)) (stDs_dp ⟨by have := h.len; simpa using this, fun i v s h1 h2 => h.at_ (i + 1) v s (by simpa using h1) (by simpa using h2)⟩)
theorem stDs_lay : ∀ ss : List StV, PyData.canLayAll0 (ss.map stD) = true
  | [] => rfl
  | s :: ss => by simp [PyData.canLayAll0, stD, PyData.canLay0, stDs_lay ss]
theorem stDs_depth : ∀ ss : List StV, PyData.depthAll (ss.map stD) ≤ 1
  | [] => by simp [PyData.depthAll]
  | s :: ss => by simp [PyData.depthAll, stD, PyData.depth, stDs_depth ss]
theorem stDs_eqv : ∀ ss ts : List StV, PyData.eqvAll (ss.map stD) (ts.map stD) = decide (ss = ts)
  | [], [] => rfl
  | s :: ss, [] => by simp [PyData.eqvAll]
  | [], t :: ts => by simp [PyData.eqvAll]
  | s :: ss, t :: ts => by
    simp only [List.map_cons, PyData.eqvAll, stD_eqv, stDs_eqv ss ts]
    by_cases h : s = t
    · subst h; simp
    · simp [h]
theorem eqSs {p q : Addr} {vs ws : List V} {ss ts : List StV} (h1 : SqL K H p vs) (h2 : SqL K H q ws) (g1 : StsAt H vs ss) (g2 : StsAt H ws ts) (k : Q (.bl (decide (ss = ts))) H) : rEqD K (.ref p) (.ref q) H Q :=
  ⟨_, _, .lst h1 (stDs_dp g1), .lst h2 (stDs_dp g2), shaped_lst (stDs_lay ss) (Nat.le_trans (stDs_depth ss) (by decide)), shaped_lst (stDs_lay ts) (Nat.le_trans (stDs_depth ts) (by decide)), by simp only [PyData.eqv, stDs_eqv]; exact k⟩
end
/-! ### range(a, b, c), c > 0 -/
def ForR3 (g : TG) (tb : TS) (D : Ends) (σ : L2.St) (vs : List V) (H1 : Hp) : Prop := ∃ (i j c : Int) (n : Nat), vs = [.int i, .int j, .int c] ∧ RgC i j c n ∧ TurnsW (Itc i c n) g tb D σ H1
section
variable {H : Hp} {σ : L2.St} {D : Ends} {tr : TA} {g : TG} {tb : TS}
theorem r_forR3 (k : tr σ H fun vs H1 => ForR3 g tb D σ vs H1) : tFor (iRng3 tr) g tb D σ H := k
theorem forR3_by {lo hi c : Int} (h1 : 0 ≤ lo) (h2 : lo ≤ 1000000) (h3 : 0 ≤ hi) (h4 : hi ≤ 1000000) (c0 : 0 < c) (c1 : c ≤ 1000000) (Pv : Nat → L2.St → Hp → Prop) (h0 : Pv 0 σ H)
    (hs : ∀ (i : Nat) σ H, lo + (i : Int) * c < hi → Pv i σ H → g (.int (lo + (i : Int) * c)) σ H fun σ2 H2 => tb { D with nx := Pv (i + 1), ct := Pv (i + 1), bk := D.nx } σ2 H2) (hd : ∀ n σ H, Pv n σ H → D.nx σ H) : ForR3 g tb D σ [.int lo, .int hi, .int c] H := by
  have key : ∃ n : Nat, Builtin.Range.rangeSize lo hi c = n ∧ (n : Int) ≤ 1000000 ∧ ∀ i : Nat, i < n → lo + (i : Int) * c < hi := by
    unfold Builtin.Range.rangeSize
    rw [if_pos c0]
    by_cases hl : lo < hi
    · rw [if_pos hl]
      have q0 : 0 ≤ (hi - lo - 1) / c := Int.ediv_nonneg (by omega) (by omega)
      have q1 : (hi - lo - 1) / c ≤ hi - lo - 1 := Int.ediv_le_self _ (by omega)
      refine ⟨((hi - lo - 1) / c + 1).toNat, by omega, by omega, fun i hi' => ?_⟩
      have hle : (i : Int) ≤ (hi - lo - 1) / c := by omega
      have m1 := Int.mul_le_mul_of_nonneg_right hle (Int.le_of_lt c0)
      have m2 := Int.ediv_mul_le (hi - lo - 1) (show c ≠ 0 by omega)
      omega
    · rw [if_neg hl]
      exact ⟨0, rfl, by decide, fun i hi' => absurd hi' (Nat.not_lt_zero _)⟩
  obtain ⟨n, hn, hnb, hlt⟩ := key
  refine ⟨lo, hi, c, n, rfl, ⟨by omega, by omega, ?_, hn⟩, fun i m σ H => m = n - i ∧ i ≤ n ∧ Pv i σ H, ⟨n, rfl, Nat.zero_le _, h0⟩, ?_⟩
  · have e1 : Builtin.Range.small lo hi c = true := by
      unfold Builtin.Range.small
      rw [hn]
      simp only [Builtin.Range.rangeFitsLong, Bool.and_eq_true, Bool.or_eq_true, decide_eq_true_eq, beq_iff_eq, gt_iff_lt, c0, if_true]
      omega
    exact e1
  · rintro i m σ H ⟨rfl, hi', p⟩
    by_cases hl : i < n
    · refine .inr ⟨hl, Pv (i + 1), fun σ' H' p' => ⟨n - (i + 1), by omega, rfl, hl, p'⟩, fun x H' y => ?_⟩
      obtain ⟨e, y⟩ := y
      subst e y
      exact hs i σ _ (hlt i hl) p
    · have e : i = n := by omega
      subst e
      exact .inl ⟨Nat.le_refl _, hd _ σ H p⟩
end
end Wm
end

section
local macro_rules | `(tactic| walk_at "cls") => `(tactic| first | (with_reducible exact Wm.WeatherC.cl (by assumption)) | (with_reducible exact Wm.HeaterC.cl (by assumption)) | (with_reducible exact Wm.RoomC.cl (by assumption)) | (with_reducible exact Wm.RunC.cl (by assumption)) | (with_reducible exact Wm.HistoryC.cl (by assumption)) | (with_reducible exact Wm.ThresholdObserverC.cl (by assumption)) | (with_reducible exact Wm.SettingC.cl (by assumption)) | (with_reducible exact Wm.HourSettingC.cl (by assumption)) | (with_reducible exact Wm.RestSettingC.cl (by assumption)) | (with_reducible exact Wm.PricesC.cl (by assumption)) | (with_reducible exact Wm.MomentC.cl (by assumption)) | (with_reducible exact Wm.LiveRoomC.cl (by assumption)) | (with_reducible exact Wm.AttemptC.cl (by assumption)))
local macro_rules | `(tactic| walk_at "noattr") => `(tactic| first | (with_reducible exact Wm.WeatherC.n_pattern (by assumption)) | (with_reducible exact Wm.HeaterC.n_power (by assumption)) | (with_reducible exact Wm.HeaterC.n_below (by assumption)) | (with_reducible exact Wm.HeaterC.n_above (by assumption)) | (with_reducible exact Wm.RoomC.n_outside (by assumption)) | (with_reducible exact Wm.RoomC.n_inside (by assumption)) | (with_reducible exact Wm.RoomC.n_begin_degrees (by assumption)) | (with_reducible exact Wm.RoomC.n_past (by assumption)) | (with_reducible exact Wm.RoomC.n_repeated (by assumption)) | (with_reducible exact Wm.RoomC.n_share (by assumption)) | (with_reducible exact Wm.RoomC.n_coldest (by assumption)) | (with_reducible exact Wm.RoomC.n_warmest (by assumption)) | (with_reducible exact Wm.RunC.n_begin (by assumption)) | (with_reducible exact Wm.RunC.n_end (by assumption)) | (with_reducible exact Wm.RunC.n_degrees (by assumption)) | (with_reducible exact Wm.RunC.n_is_heating (by assumption)) | (with_reducible exact Wm.RunC.n_sums (by assumption)) | (with_reducible exact Wm.RunC.n_size (by assumption)) | (with_reducible exact Wm.RunC.n_drift (by assumption)) | (with_reducible exact Wm.HistoryC.n_shifts (by assumption)) | (with_reducible exact Wm.HistoryC.n_added (by assumption)) | (with_reducible exact Wm.HistoryC.n_floor (by assumption)) | (with_reducible exact Wm.HistoryC.n_ceiling (by assumption)) | (with_reducible exact Wm.HistoryC.n_was_heating (by assumption)) | (with_reducible exact Wm.HistoryC.n_runs (by assumption)) | (with_reducible exact Wm.HistoryC.n_loop (by assumption)) | (with_reducible exact Wm.ThresholdObserverC.n_outside (by assumption)) | (with_reducible exact Wm.ThresholdObserverC.n_power (by assumption)) | (with_reducible exact Wm.ThresholdObserverC.n_tick (by assumption)) | (with_reducible exact Wm.ThresholdObserverC.n_degrees (by assumption)) | (with_reducible exact Wm.ThresholdObserverC.n_is_heating (by assumption)) | (with_reducible exact Wm.ThresholdObserverC.n_lows (by assumption)) | (with_reducible exact Wm.ThresholdObserverC.n_highs (by assumption)) | (with_reducible exact Wm.ThresholdObserverC.n_noted (by assumption)) | (with_reducible exact Wm.SettingC.n_least (by assumption)) | (with_reducible exact Wm.SettingC.n_most (by assumption)) | (with_reducible exact Wm.HourSettingC.n_least (by assumption)) | (with_reducible exact Wm.HourSettingC.n_most (by assumption)) | (with_reducible exact Wm.HourSettingC.n_length (by assumption)) | (with_reducible exact Wm.HourSettingC.n_hours (by assumption)) | (with_reducible exact Wm.RestSettingC.n_least (by assumption)) | (with_reducible exact Wm.RestSettingC.n_most (by assumption)) | (with_reducible exact Wm.RestSettingC.n_rest (by assumption)) | (with_reducible exact Wm.PricesC.n_table (by assumption)) | (with_reducible exact Wm.MomentC.n_tick (by assumption)) | (with_reducible exact Wm.MomentC.n_heat (by assumption)) | (with_reducible exact Wm.MomentC.n_on (by assumption)) | (with_reducible exact Wm.MomentC.n_burnt (by assumption)) | (with_reducible exact Wm.MomentC.n_sky (by assumption)) | (with_reducible exact Wm.MomentC.n_stove (by assumption)) | (with_reducible exact Wm.LiveRoomC.n_moment (by assumption)) | (with_reducible exact Wm.LiveRoomC.n_earlier (by assumption)) | (with_reducible exact Wm.LiveRoomC.n_done (by assumption)) | (with_reducible exact Wm.AttemptC.n_live (by assumption)) | (with_reducible exact Wm.AttemptC.n_kept (by assumption)) | (with_reducible exact Wm.AttemptC.n_stack (by assumption)) | (with_reducible exact Wm.AttemptC.n_steps (by assumption)))
local macro_rules | `(tactic| walk_at "at") => `(tactic| first | assumption | exact Wm.Hold.rd (by assumption) (by assumption) | exact Wm.Hold.get (i := 0) (by assumption) rfl | exact Wm.Hold.get (i := 1) (by assumption) rfl | exact Wm.Hold.get (i := 2) (by assumption) rfl | exact Wm.Hold.get (i := 3) (by assumption) rfl | exact Wm.Hold.get (i := 4) (by assumption) rfl)
local macro_rules | `(tactic| walk_at "s1") => `(tactic| first
  | (with_reducible refine Wm.r_seq ?_)
  | (with_reducible refine Wm.r_op ?_)
  | ((with_reducible refine' Wm.r_var ?h ?_); (case h => rfl))
  | (with_reducible refine Wm.r_c ?_)
  | (with_reducible refine Wm.r_I0 ?_)
  | (with_reducible refine Wm.r_cons ?_)
  | (with_reducible refine Wm.r_nil ?_)
  | (with_reducible refine Wm.r_asg ?_)
  | (with_reducible refine Wm.r_gname ?_; try simp only [List.set_cons_zero, List.set_cons_succ])
  | (with_reducible refine Wm.r_nx ?_)
  | (with_reducible refine Wm.r_rt ?_)
  | (with_reducible refine Wm.r_ret ?_)
  | (with_reducible refine Wm.r_test ?_)
  | (with_reducible refine Wm.r_bl ?_)
  | (with_reducible refine Wm.r_B ?_)
  | (with_reducible refine Wm.r_eqI ?_)
  | (with_reducible refine Wm.r_neI ?_)
  | (with_reducible refine Wm.r_eqB ?_)
  | (with_reducible refine Wm.r_neB ?_)
  | (with_reducible refine Wm.r_fld ?_)
  | (with_reducible refine Wm.r_call ?_)
  | (with_reducible refine Wm.r_mtd ?_)
  | (with_reducible refine Wm.r_prp ?_)
  | (with_reducible refine Wm.r_mak ?_)
  | (with_reducible refine Wm.r_makKw ?_)
  | (with_reducible refine Wm.r_cb ?_)
  | (with_reducible refine Wm.r_tup ?_)
  | (with_reducible refine Wm.r_lst ?_)
  | (with_reducible refine Wm.r_chain ?_)
  | (with_reducible refine Wm.r_and ?_)
  | (with_reducible refine Wm.r_or ?_)
  | (with_reducible refine Wm.r_not ?_)
  | (with_reducible refine Wm.r_andV ?_)
  | (with_reducible refine Wm.r_orV ?_)
  | (with_reducible refine Wm.r_notV ?_)
  | (with_reducible refine Wm.r_if ?_)
  | (with_reducible refine Wm.r_un ?_)
  | (with_reducible refine Wm.r_U ?_)
  | (with_reducible refine Wm.r_iteT ?_)
  | (with_reducible refine Wm.r_iteF ?_)
  | (with_reducible refine Wm.r_next ?_)
  | (with_reducible refine Wm.r_drop ?_)
  | (with_reducible refine Wm.r_retN ?_)
  | ((with_reducible refine' Wm.r_aug ?h ?_); (case h => rfl))
  | (with_reducible refine Wm.r_ipI ?_)
  | (with_reducible refine Wm.r_par2 ?_)
  | (with_reducible refine Wm.r_two ?_; try simp only [List.set_cons_zero, List.set_cons_succ])
  | (with_reducible refine Wm.r_yes ?_)
  | (with_reducible refine Wm.r_forET ?_)
  | (with_reducible refine Wm.r_chain3 ?_)
  | (with_reducible refine Wm.r_nT ?_)
  | (with_reducible refine Wm.r_nF ?_)
  | (with_reducible refine Wm.r_par3 ?_)
  | (with_reducible refine Wm.r_seenPut ?_)
  | (with_reducible refine Wm.r_seenGet ?_)
  | (with_reducible refine Wm.r_three ?_; try simp only [List.set_cons_zero, List.set_cons_succ])
  | (with_reducible refine Wm.r_sl ?_)
  | (with_reducible refine Wm.r_nopart ?_)
  | (with_reducible refine Wm.r_part ?_)
  | (with_reducible refine Wm.r_xi ?_)
  | (with_reducible refine Wm.r_gcons ?_)
  | (with_reducible refine Wm.r_gnil ?_)
  | (with_reducible refine Wm.r_sub ?_)
  | (with_reducible refine Wm.r_setF ?_)
  | (with_reducible refine Wm.r_app ?_)
  | (with_reducible refine Wm.int_i ?_)
  | (with_reducible refine Wm.int_b ?_)
  | (with_reducible refine Wm.min2 ?_)
  | (with_reducible refine Wm.max2 ?_)
  | (with_reducible refine Wm.abs1 ?_)
  | (with_reducible refine Wm.isN ?_)
  | (with_reducible refine Wm.notN ?_)
  | ((with_reducible refine' Wm.r_ty ?e ?_); (case e => walk_at "at"))
  | ((with_reducible refine' Wm.setF_m ?h 0 ?e ?c ?a ?l ?_); (case h => assumption); (case e => rfl); (case c => walk_at "cls"); (case a => walk_at "noattr"); (case l => exact of_decide_eq_true rfl); intro H1 hh1; simp only [List.set_cons_zero, List.set_cons_succ] at hh1)
  | ((with_reducible refine' Wm.setF_m ?h 1 ?e ?c ?a ?l ?_); (case h => assumption); (case e => rfl); (case c => walk_at "cls"); (case a => walk_at "noattr"); (case l => exact of_decide_eq_true rfl); intro H1 hh1; simp only [List.set_cons_zero, List.set_cons_succ] at hh1)
  | ((with_reducible refine' Wm.setF_m ?h 2 ?e ?c ?a ?l ?_); (case h => assumption); (case e => rfl); (case c => walk_at "cls"); (case a => walk_at "noattr"); (case l => exact of_decide_eq_true rfl); intro H1 hh1; simp only [List.set_cons_zero, List.set_cons_succ] at hh1)
  | ((with_reducible refine' Wm.setF_m ?h 3 ?e ?c ?a ?l ?_); (case h => assumption); (case e => rfl); (case c => walk_at "cls"); (case a => walk_at "noattr"); (case l => exact of_decide_eq_true rfl); intro H1 hh1; simp only [List.set_cons_zero, List.set_cons_succ] at hh1)
  | (with_reducible refine Wm.r_forL ?_)
  | (with_reducible refine Wm.r_forT ?_)
  | (with_reducible refine Wm.r_forR1 ?_)
  | (with_reducible refine Wm.r_forR2 ?_)
  | (with_reducible refine Wm.r_forR3 ?_)
  | (with_reducible refine Wm.r_lcL ?_)
  | (with_reducible refine Wm.r_lcT ?_)
  | (with_reducible refine Wm.r_lcR1 ?_)
  | (with_reducible refine Wm.r_lcR2 ?_)
  | ((with_reducible refine' Wm.fld_h ?e ?c ?n ?l ?_); (case e => walk_at "at"); (case c => walk_at "cls"); (case n => walk_at "noattr"); (case l => rfl))
  | ((with_reducible refine' Wm.mtd_h ?e ?l ?_); (case e => walk_at "at"); (case l => rfl))
  | ((with_reducible refine' Wm.prp_h ?e ?_); (case e => walk_at "at"))
  | ((with_reducible refine' Wm.rix_ht ?a ?b ?_); (case a => walk_at "at"); (case b => rfl))
  | ((with_reducible refine' Wm.rix_h ?a ?b ?_); (case a => walk_at "at"); (case b => rfl))
  | ((with_reducible refine' Wm.len_ht ?a ?_); (case a => walk_at "at"))
  | ((with_reducible refine' Wm.len_h ?a ?_); (case a => walk_at "at"))
  | ((with_reducible refine' Wm.len_l ?a ?b ?_); (case a => assumption); (case b => assumption))
  | ((with_reducible refine' Wm.len_t ?a ?b ?_); (case a => assumption); (case b => assumption))
  | ((with_reducible refine' Wm.gtup_h ?a ?b ?_); (case a => walk_at "at"); (case b => rfl))
  | (with_reducible refine Wm.r_I (Wm.cmulR (by decide)) ?_)
  | (with_reducible refine Wm.r_I (Wm.cmulL (by decide)) ?_)
  | (with_reducible refine Wm.r_I (Wm.cdiv (by decide) (by decide)) ?_)
  | (with_reducible refine Wm.r_I Wm.cpow18 ?_)
  | (with_reducible refine Wm.r_I Wm.cpow12 ?_)
  | (with_reducible refine Wm.r_I (by show (0 : Int) < _; decide) ?_))
local macro_rules | `(tactic| walk_at "s") => `(tactic| repeat (first | walk_at "s1" | (with_reducible refine Wm.r_ifS ?_)))
local macro_rules | `(tactic| walk_at "t") => `(tactic| repeat (walk_at "s1"))
local macro_rules | `(tactic| walk_at "sz") => `(tactic| exact of_decide_eq_true rfl)
local macro_rules | `(tactic| walk_at "d") => `(tactic| first | (refine Wm.r_dT (by omega) ?_) | (refine Wm.r_dF (by omega) ?_) | (refine Wm.r_dN (by omega) ?_) | (refine Wm.r_dM (by omega) ?_))
local macro_rules | `(tactic| walk_at "sd") => `(tactic| repeat (first | walk_at "s1" | (with_reducible refine Wm.r_ifS ?_) | walk_at "d"))
namespace Wm
open PySem PySem.Spec PyProof.Rows L2 StX
/-! ## _law_alike, where the answer is yes -/
def ADn (H : Hp) : Nat → V → V → Prop
  | 0, x, y => (x = .non ∧ y = .non) ∨ (∃ i : Int, x = .int i ∧ y = .int i) ∨ (∃ b : Bool, x = .bl b ∧ y = .bl b)
  | n + 1, x, y => ((x = .non ∧ y = .non) ∨ (∃ i : Int, x = .int i ∧ y = .int i) ∨ (∃ b : Bool, x = .bl b ∧ y = .bl b)) ∨
    ∃ (p q : Addr) (xs ys : List V), x = .ref p ∧ y = .ref q ∧ ((H p = some (.tup xs) ∧ H q = some (.tup ys)) ∨ (H p = some (.lst xs) ∧ H q = some (.lst ys))) ∧ xs.length = ys.length ∧ xs.length ≤ 100000 ∧ ∀ (i : Nat) (x' y' : V), xs[i]? = some x' → ys[i]? = some y' → ADn H n x' y'
theorem ADn.up {G H : Hp} (e : Ex G H) : ∀ {n : Nat} {x y : V}, ADn G n x y → ADn H n x y
  | 0, _, _, h => h
  | n + 1, x, y, h => by
    rcases h with h | ⟨p, q, xs, ys, h1, h2, h3, h4, h5, h6⟩
    · exact .inl h
    · refine .inr ⟨p, q, xs, ys, h1, h2, ?_, h4, h5, fun i x' y' a b => (h6 i x' y' a b).up e⟩
      rcases h3 with ⟨a, b⟩ | ⟨a, b⟩
      · exact .inl ⟨e _ _ a, e _ _ b⟩
      · exact .inr ⟨e _ _ a, e _ _ b⟩
def sp_alikeN (n : Nat) : Sp := fun vs H Q _ => ∃ x y, vs = [x, y] ∧ ADn H n x y ∧ ∀ H', Ex H H' → Q (.bl true) H'
def sp_law_alike (K : PySem.W.Frag) (A : Ads) : Sp := sp_alikeN 4
def spNone : Sp := fun _ _ _ _ => False
def spPrev : Nat → Sp
  | 0 => spNone
  | n + 1 => sp_alikeN n
section
variable {K : PySem.W.Frag} {H : Hp} {Q : VK} {x : V} {n : String}
theorem isi_ty {t : String} {b : Bool} (ty : TyX K H x (.type t)) (h : kitB t n = some b) (k : Q (.bl b) H) : rIsi K [x, .ty n] H Q := ⟨x, .ty n, _, _, b, rfl, .ty n, ty, kit_ty h, k⟩
theorem isi_T {t n1 n2 : String} (b b1 b2 : Bool) (hb : (b1 || b2) = b) {tp : Addr} (e : H tp = some (.tup [.ty n1, .ty n2])) (ty : TyX K H x (.type t)) (h1 : kitB t n1 = some b1) (h2 : kitB t n2 = some b2) (k : Q (.bl b) H) : rIsiT K [x, .ref tp] H Q := by
  subst hb
  refine ⟨x, tp, _, _, [.type n1, .type n2], b1 || b2, rfl, e, .cons (.ty n1) (.cons (.ty n2) .nil), ty, ?_, k⟩
  refine kitAny_cons (kit_ty h1) (fun z => ?_) (fun z => by rw [z] <;> rfl)
  rw [z, Bool.false_or]
  exact kitAny_cons (kit_ty h2) (fun z2 => by rw [z2]; exact kitAny_nil) (fun z2 => z2)
end
def t_alikeN (sp : Sp) (K : PySem.W.Frag) (A : Ads) : TS := tSeq (tIfS (tB (tCB (rIsi K) (tCons (tVar 1) (tCons (tC (.ty "dict")) (tNil))))) (tNever) (tNext)) (tSeq (tIfS (tB (tCB (rIsiT K) (tCons (tVar 1) (tCons (tTup (tCons (tC (.ty "tuple")) (tCons (tC (.ty "list")) (tNil)))) (tNil))))) (tSeq (tIfS (tOr (tNot (tB (tCB (rIsiT K) (tCons (tVar 0) (tCons (tTup (tCons (tC (.ty "tuple")) (tCons (tC (.ty "list")) (tNil)))) (tNil)))))) (tTest (tOp rNe (tCB (rIsi K) (tCons (tVar 0) (tCons (tC (.ty "list")) (tNil)))) (tCB (rIsi K) (tCons (tVar 1) (tCons (tC (.ty "list")) (tNil))))))) (tRet (tC (.bl false))) (tNext)) (tSeq (tIfS (tTest (tOp rNe (tCB (rLen K) (tCons (tVar 0) (tNil))) (tCB (rLen K) (tCons (tVar 1) (tNil))))) (tRet (tC (.bl false))) (tNext)) (tRet (tOp (rEqD K) (tLc (iRng1 (tCons (tCB (rLen K) (tCons (tVar 1) (tNil))) (tNil))) (gName 2) (tNot (tB (tCal sp E0 (tCons (tOp (rIx K) (tVar 0) (tVar 2)) (tCons (tOp (rIx K) (tVar 1) (tVar 2)) (tNil)))))) (tVar 2) [2]) (tLst (tNil)))))) (tNext)) (tSeq (tIfS (tOr (tTest (tOp rIsN (tVar 1) (tC .non))) (tB (tCB (rIsi K) (tCons (tVar 1) (tCons (tC (.ty "str")) (tNil)))))) (tRet (tAndV (tOp rEq (tVar 0) (tVar 1)) (tOp rEq (tCB (rIsi K) (tCons (tVar 0) (tCons (tC (.ty "str")) (tNil)))) (tCB (rIsi K) (tCons (tVar 1) (tCons (tC (.ty "str")) (tNil))))))) (tNext)) (tRet (tAndV (tCB (rIsi K) (tCons (tVar 0) (tCons (tC (.ty "int")) (tNil)))) (tAndV (tOp rEq (tCB (rIsi K) (tCons (tVar 0) (tCons (tC (.ty "bool")) (tNil)))) (tCB (rIsi K) (tCons (tVar 1) (tCons (tC (.ty "bool")) (tNil))))) (tOp rEq (tVar 0) (tVar 1)))))))
section
variable {K : PySem.W.Frag} {A : Ads}
theorem pure_alikeN (n : Nat) (vs : List V) (H : Hp) (Q : VK) (E : XK) (h : sp_alikeN n vs H Q E) : t_alikeN (spPrev n) K A { nx := fun _ H' => Q .non H', rt := Q } (start ["_law_found", "_law_due", "_law_k"] vs) H := by
  obtain ⟨x, y, rfl, ad, k⟩ := h
  show t_alikeN (spPrev n) K A _ [some x, some y, none] H
  have sc : (x = .non ∧ y = .non) ∨ (∃ i : Int, x = .int i ∧ y = .int i) ∨ (∃ b : Bool, x = .bl b ∧ y = .bl b) → t_alikeN (spPrev n) K A { nx := fun _ H' => Q .non H', rt := Q } [some x, some y, none] H := by
    rintro (⟨rfl, rfl⟩ | ⟨i, rfl, rfl⟩ | ⟨b, rfl, rfl⟩)
    · unfold t_alikeN
      walk_at "s"
      refine isi_ty (.base .non) (b := false) (by rfl) ?_
      walk_at "s"
      refine tup_n (by walk_at "sz") (Hold.start H) fun p H1 hp hp1 hh1 => ?_
      walk_at "s"
      refine isi_T false false false rfl hp1 (.base .non) (by rfl) (by rfl) ?_
      walk_at "s"
      refine r_ite (fun _ => ?_) (fun c => absurd rfl (of_decide_eq_false c))
      walk_at "s"
      refine r_eq rfl ?_
      rw [decide_eq_true rfl]
      walk_at "s"
      refine isi_ty (.base .non) (b := false) (by rfl) ?_
      walk_at "s"
      refine isi_ty (.base .non) (b := false) (by rfl) ?_
      walk_at "s"
      exact k H1 hh1.ex
    · unfold t_alikeN
      walk_at "s"
      refine isi_ty (.base (.int i)) (b := false) (by rfl) ?_
      walk_at "s"
      refine tup_n (by walk_at "sz") (Hold.start H) fun p H1 hp hp1 hh1 => ?_
      walk_at "s"
      refine isi_T false false false rfl hp1 (.base (.int i)) (by rfl) (by rfl) ?_
      walk_at "s"
      refine r_ite (fun c => absurd (of_decide_eq_true c) (by intro z; cases z)) (fun _ => ?_)
      walk_at "s"
      refine isi_ty (.base (.int i)) (b := false) (by rfl) ?_
      walk_at "s"
      refine isi_ty (.base (.int i)) (b := true) (by rfl) ?_
      walk_at "s"
      refine isi_ty (.base (.int i)) (b := false) (by rfl) ?_
      walk_at "s"
      refine isi_ty (.base (.int i)) (b := false) (by rfl) ?_
      walk_at "s"
      rw [show (false == false) = true from rfl]
      walk_at "s"
      rw [decide_eq_true rfl]
      exact k H1 hh1.ex
    · unfold t_alikeN
      walk_at "s"
      refine isi_ty (.base (.bl b)) (b := false) (by rfl) ?_
      walk_at "s"
      refine tup_n (by walk_at "sz") (Hold.start H) fun p H1 hp hp1 hh1 => ?_
      walk_at "s"
      refine isi_T false false false rfl hp1 (.base (.bl b)) (by rfl) (by rfl) ?_
      walk_at "s"
      refine r_ite (fun c => absurd (of_decide_eq_true c) (by intro z; cases z)) (fun _ => ?_)
      walk_at "s"
      refine isi_ty (.base (.bl b)) (b := false) (by rfl) ?_
      walk_at "s"
      refine isi_ty (.base (.bl b)) (b := true) (by rfl) ?_
      walk_at "s"
      refine isi_ty (.base (.bl b)) (b := true) (by rfl) ?_
      walk_at "s"
      refine isi_ty (.base (.bl b)) (b := true) (by rfl) ?_
      walk_at "s"
      rw [show (true == true) = true from rfl]
      walk_at "s"
      rw [show (b == b) = true by cases b <;> rfl]
      exact k H1 hh1.ex
  cases n with
  | zero => exact sc ad
  | succ n =>
    rcases ad with ad | ⟨p, q, xs, ys, rfl, rfl, hl, hlen, hle, hes⟩
    · exact sc ad
    · clear sc
      unfold t_alikeN
      -- the two kinds are one: T, a tuple or a list
      have kinds : ∃ (T : String) (bt bl : Bool), kitB T "dict" = some false ∧ kitB T "tuple" = some bt ∧ kitB T "list" = some bl ∧ (bt || bl) = true ∧ (∀ H', Ex H H' → TyX K H' (.ref p) (.type T) ∧ TyX K H' (.ref q) (.type T)) ∧ (∀ H', Ex H H' → LenV K (.ref p) H' xs.length) ∧ (∀ H', Ex H H' → LenV K (.ref q) H' ys.length) ∧
          (∀ H' i v Q, Ex H H' → 0 ≤ i → xs[i.toNat]? = some v → Q v H' → rIx K (.ref p) (.int i) H' Q) ∧ (∀ H' i v Q, Ex H H' → 0 ≤ i → ys[i.toNat]? = some v → Q v H' → rIx K (.ref q) (.int i) H' Q) := by
        rcases hl with ⟨h1, h2⟩ | ⟨h1, h2⟩
        · exact ⟨"tuple", true, false, by rfl, by rfl, by rfl, rfl, fun H' e => ⟨.base (.tup (e _ _ h1)), .base (.tup (e _ _ h2))⟩, fun H' e => .inr ⟨xs, SqT.of (e _ _ h1), rfl⟩, fun H' e => .inr ⟨ys, SqT.of (e _ _ h2), rfl⟩,
            fun H' i v Q e i0 hi kk => rix_ht (e _ _ h1) (atI_of i0 hi) kk, fun H' i v Q e i0 hi kk => rix_ht (e _ _ h2) (atI_of i0 hi) kk⟩
        · exact ⟨"list", false, true, by rfl, by rfl, by rfl, rfl, fun H' e => ⟨.base (.lst (e _ _ h1)), .base (.lst (e _ _ h2))⟩, fun H' e => .inl ⟨xs, SqL.of (e _ _ h1), rfl⟩, fun H' e => .inl ⟨ys, SqL.of (e _ _ h2), rfl⟩,
            fun H' i v Q e i0 hi kk => rix_h (e _ _ h1) (atI_of i0 hi) kk, fun H' i v Q e i0 hi kk => rix_h (e _ _ h2) (atI_of i0 hi) kk⟩
      obtain ⟨T, bt, bl, kd, kt, kl, hb, tys, ln1, ln2, ix1, ix2⟩ := kinds
      walk_at "s"
      refine isi_ty (tys H (Ex.refl H)).2 kd ?_
      walk_at "s"
      refine tup_n (by walk_at "sz") (Hold.start H) fun t1 H1 hp hp1 hh1 => ?_
      walk_at "s"
      refine isi_T true bt bl hb hp1 (tys H1 hh1.ex).2 kt kl ?_
      walk_at "s"
      refine tup_n (by walk_at "sz") (Hold.start H1) fun t2 H2 hp2 hp2' hh2 => ?_
      have e2 : Ex H H2 := hh1.ex.trans hh2.ex
      walk_at "s"
      refine isi_T true bt bl hb hp2' (tys H2 e2).1 kt kl ?_
      walk_at "s"
      refine isi_ty (tys H2 e2).1 kl ?_
      walk_at "s"
      refine isi_ty (tys H2 e2).2 kl ?_
      walk_at "s"
      rw [show (bl != bl) = false by cases bl <;> rfl]
      walk_at "s"
      refine ⟨_, _, rfl, ln1 H2 e2, ?_⟩
      walk_at "s"
      refine ⟨_, _, rfl, ln2 H2 e2, ?_⟩
      walk_at "s"
      refine r_dN (by rw [hlen]) ?_
      walk_at "s"
      refine ⟨_, _, rfl, ln2 H2 e2, ?_⟩
      walk_at "s"
      refine lcR1_by (Hold.start H2) (by omega) (by omega) (fun i acc G' mu' => mu' = [] ∧ acc = []) ⟨rfl, rfl⟩ ?_ ?_
      · rintro i D acc G' mu' H3 hi hal exx hhx ⟨rfl, rfl⟩
        have e3 : Ex H H3 := e2.trans (exx.trans hhx.ex)
        obtain ⟨x', hx'⟩ := get_some (l := xs) (i := i) (by omega)
        obtain ⟨y', hy'⟩ := get_some (l := ys) (i := i) (by omega)
        walk_at "s"
        refine ⟨rfl, ?_⟩
        walk_at "s"
        refine ix1 H3 _ x' _ e3 (by omega) (by rw [Int.toNat_natCast]; exact hx') ?_
        walk_at "s"
        refine ix2 H3 _ y' _ e3 (by omega) (by rw [Int.toNat_natCast]; exact hy') ?_
        walk_at "s"
        refine ⟨x', y', rfl, (hes i x' y' hx' hy').up e3, fun H4 ex4 => ?_⟩
        walk_at "s"
        exact lcN (hhx.grow ex4) exx hal ⟨rfl, rfl⟩
      rintro D acc G' mu' H3 hal exx hhx ⟨rfl, rfl⟩
      have hD : H3 D = some (.lst []) := hhx.get (i := 0) rfl
      walk_at "s"
      refine lst_n (by walk_at "sz") (Hold.start H3) fun z H4 hz hz' hh4 => ?_
      refine eqI (xs := []) (ys := []) (SqL.of (hh4.rd hD)) (SqL.of hz') ?_
      rw [decide_eq_true rfl]
      exact k H4 (e2.trans (exx.trans (hhx.ex.trans hh4.ex)))
end
end Wm
end

section
local macro_rules | `(tactic| walk_at "cls") => `(tactic| first | (with_reducible exact Wm.WeatherC.cl (by assumption)) | (with_reducible exact Wm.HeaterC.cl (by assumption)) | (with_reducible exact Wm.RoomC.cl (by assumption)) | (with_reducible exact Wm.RunC.cl (by assumption)) | (with_reducible exact Wm.HistoryC.cl (by assumption)) | (with_reducible exact Wm.ThresholdObserverC.cl (by assumption)) | (with_reducible exact Wm.SettingC.cl (by assumption)) | (with_reducible exact Wm.HourSettingC.cl (by assumption)) | (with_reducible exact Wm.RestSettingC.cl (by assumption)) | (with_reducible exact Wm.PricesC.cl (by assumption)) | (with_reducible exact Wm.MomentC.cl (by assumption)) | (with_reducible exact Wm.LiveRoomC.cl (by assumption)) | (with_reducible exact Wm.AttemptC.cl (by assumption)))
local macro_rules | `(tactic| walk_at "noattr") => `(tactic| first | (with_reducible exact Wm.WeatherC.n_pattern (by assumption)) | (with_reducible exact Wm.HeaterC.n_power (by assumption)) | (with_reducible exact Wm.HeaterC.n_below (by assumption)) | (with_reducible exact Wm.HeaterC.n_above (by assumption)) | (with_reducible exact Wm.RoomC.n_outside (by assumption)) | (with_reducible exact Wm.RoomC.n_inside (by assumption)) | (with_reducible exact Wm.RoomC.n_begin_degrees (by assumption)) | (with_reducible exact Wm.RoomC.n_past (by assumption)) | (with_reducible exact Wm.RoomC.n_repeated (by assumption)) | (with_reducible exact Wm.RoomC.n_share (by assumption)) | (with_reducible exact Wm.RoomC.n_coldest (by assumption)) | (with_reducible exact Wm.RoomC.n_warmest (by assumption)) | (with_reducible exact Wm.RunC.n_begin (by assumption)) | (with_reducible exact Wm.RunC.n_end (by assumption)) | (with_reducible exact Wm.RunC.n_degrees (by assumption)) | (with_reducible exact Wm.RunC.n_is_heating (by assumption)) | (with_reducible exact Wm.RunC.n_sums (by assumption)) | (with_reducible exact Wm.RunC.n_size (by assumption)) | (with_reducible exact Wm.RunC.n_drift (by assumption)) | (with_reducible exact Wm.HistoryC.n_shifts (by assumption)) | (with_reducible exact Wm.HistoryC.n_added (by assumption)) | (with_reducible exact Wm.HistoryC.n_floor (by assumption)) | (with_reducible exact Wm.HistoryC.n_ceiling (by assumption)) | (with_reducible exact Wm.HistoryC.n_was_heating (by assumption)) | (with_reducible exact Wm.HistoryC.n_runs (by assumption)) | (with_reducible exact Wm.HistoryC.n_loop (by assumption)) | (with_reducible exact Wm.ThresholdObserverC.n_outside (by assumption)) | (with_reducible exact Wm.ThresholdObserverC.n_power (by assumption)) | (with_reducible exact Wm.ThresholdObserverC.n_tick (by assumption)) | (with_reducible exact Wm.ThresholdObserverC.n_degrees (by assumption)) | (with_reducible exact Wm.ThresholdObserverC.n_is_heating (by assumption)) | (with_reducible exact Wm.ThresholdObserverC.n_lows (by assumption)) | (with_reducible exact Wm.ThresholdObserverC.n_highs (by assumption)) | (with_reducible exact Wm.ThresholdObserverC.n_noted (by assumption)) | (with_reducible exact Wm.SettingC.n_least (by assumption)) | (with_reducible exact Wm.SettingC.n_most (by assumption)) | (with_reducible exact Wm.HourSettingC.n_least (by assumption)) | (with_reducible exact Wm.HourSettingC.n_most (by assumption)) | (with_reducible exact Wm.HourSettingC.n_length (by assumption)) | (with_reducible exact Wm.HourSettingC.n_hours (by assumption)) | (with_reducible exact Wm.RestSettingC.n_least (by assumption)) | (with_reducible exact Wm.RestSettingC.n_most (by assumption)) | (with_reducible exact Wm.RestSettingC.n_rest (by assumption)) | (with_reducible exact Wm.PricesC.n_table (by assumption)) | (with_reducible exact Wm.MomentC.n_tick (by assumption)) | (with_reducible exact Wm.MomentC.n_heat (by assumption)) | (with_reducible exact Wm.MomentC.n_on (by assumption)) | (with_reducible exact Wm.MomentC.n_burnt (by assumption)) | (with_reducible exact Wm.MomentC.n_sky (by assumption)) | (with_reducible exact Wm.MomentC.n_stove (by assumption)) | (with_reducible exact Wm.LiveRoomC.n_moment (by assumption)) | (with_reducible exact Wm.LiveRoomC.n_earlier (by assumption)) | (with_reducible exact Wm.LiveRoomC.n_done (by assumption)) | (with_reducible exact Wm.AttemptC.n_live (by assumption)) | (with_reducible exact Wm.AttemptC.n_kept (by assumption)) | (with_reducible exact Wm.AttemptC.n_stack (by assumption)) | (with_reducible exact Wm.AttemptC.n_steps (by assumption)))
local macro_rules | `(tactic| walk_at "at") => `(tactic| first | assumption | exact Wm.Hold.rd (by assumption) (by assumption) | exact Wm.Hold.get (i := 0) (by assumption) rfl | exact Wm.Hold.get (i := 1) (by assumption) rfl | exact Wm.Hold.get (i := 2) (by assumption) rfl | exact Wm.Hold.get (i := 3) (by assumption) rfl | exact Wm.Hold.get (i := 4) (by assumption) rfl)
local macro_rules | `(tactic| walk_at "s1") => `(tactic| first
  | (with_reducible refine Wm.r_seq ?_)
  | (with_reducible refine Wm.r_op ?_)
  | ((with_reducible refine' Wm.r_var ?h ?_); (case h => rfl))
  | (with_reducible refine Wm.r_c ?_)
  | (with_reducible refine Wm.r_I0 ?_)
  | (with_reducible refine Wm.r_cons ?_)
  | (with_reducible refine Wm.r_nil ?_)
  | (with_reducible refine Wm.r_asg ?_)
  | (with_reducible refine Wm.r_gname ?_; try simp only [List.set_cons_zero, List.set_cons_succ])
  | (with_reducible refine Wm.r_nx ?_)
  | (with_reducible refine Wm.r_rt ?_)
  | (with_reducible refine Wm.r_ret ?_)
  | (with_reducible refine Wm.r_test ?_)
  | (with_reducible refine Wm.r_bl ?_)
  | (with_reducible refine Wm.r_B ?_)
  | (with_reducible refine Wm.r_eqI ?_)
  | (with_reducible refine Wm.r_neI ?_)
  | (with_reducible refine Wm.r_eqB ?_)
  | (with_reducible refine Wm.r_neB ?_)
  | (with_reducible refine Wm.r_fld ?_)
  | (with_reducible refine Wm.r_call ?_)
  | (with_reducible refine Wm.r_mtd ?_)
  | (with_reducible refine Wm.r_prp ?_)
  | (with_reducible refine Wm.r_mak ?_)
  | (with_reducible refine Wm.r_makKw ?_)
  | (with_reducible refine Wm.r_cb ?_)
  | (with_reducible refine Wm.r_tup ?_)
  | (with_reducible refine Wm.r_lst ?_)
  | (with_reducible refine Wm.r_chain ?_)
  | (with_reducible refine Wm.r_and ?_)
  | (with_reducible refine Wm.r_or ?_)
  | (with_reducible refine Wm.r_not ?_)
  | (with_reducible refine Wm.r_andV ?_)
  | (with_reducible refine Wm.r_orV ?_)
  | (with_reducible refine Wm.r_notV ?_)
  | (with_reducible refine Wm.r_if ?_)
  | (with_reducible refine Wm.r_un ?_)
  | (with_reducible refine Wm.r_U ?_)
  | (with_reducible refine Wm.r_iteT ?_)
  | (with_reducible refine Wm.r_iteF ?_)
  | (with_reducible refine Wm.r_next ?_)
  | (with_reducible refine Wm.r_drop ?_)
  | (with_reducible refine Wm.r_retN ?_)
  | ((with_reducible refine' Wm.r_aug ?h ?_); (case h => rfl))
  | (with_reducible refine Wm.r_ipI ?_)
  | (with_reducible refine Wm.r_par2 ?_)
  | (with_reducible refine Wm.r_two ?_; try simp only [List.set_cons_zero, List.set_cons_succ])
  | (with_reducible refine Wm.r_yes ?_)
  | (with_reducible refine Wm.r_forET ?_)
  | (with_reducible refine Wm.r_chain3 ?_)
  | (with_reducible refine Wm.r_nT ?_)
  | (with_reducible refine Wm.r_nF ?_)
  | (with_reducible refine Wm.r_par3 ?_)
  | (with_reducible refine Wm.r_seenPut ?_)
  | (with_reducible refine Wm.r_seenGet ?_)
  | (with_reducible refine Wm.r_three ?_; try simp only [List.set_cons_zero, List.set_cons_succ])
  | (with_reducible refine Wm.r_sl ?_)
  | (with_reducible refine Wm.r_nopart ?_)
  | (with_reducible refine Wm.r_part ?_)
  | (with_reducible refine Wm.r_xi ?_)
  | (with_reducible refine Wm.r_gcons ?_)
  | (with_reducible refine Wm.r_gnil ?_)
  | (with_reducible refine Wm.r_sub ?_)
  | (with_reducible refine Wm.r_setF ?_)
  | (with_reducible refine Wm.r_app ?_)
  | (with_reducible refine Wm.int_i ?_)
  | (with_reducible refine Wm.int_b ?_)
  | (with_reducible refine Wm.min2 ?_)
  | (with_reducible refine Wm.max2 ?_)
  | (with_reducible refine Wm.abs1 ?_)
  | (with_reducible refine Wm.isN ?_)
  | (with_reducible refine Wm.notN ?_)
  | ((with_reducible refine' Wm.r_ty ?e ?_); (case e => walk_at "at"))
  | ((with_reducible refine' Wm.setF_m ?h 0 ?e ?c ?a ?l ?_); (case h => assumption); (case e => rfl); (case c => walk_at "cls"); (case a => walk_at "noattr"); (case l => exact of_decide_eq_true rfl); intro H1 hh1; simp only [List.set_cons_zero, List.set_cons_succ] at hh1)
  | ((with_reducible refine' Wm.setF_m ?h 1 ?e ?c ?a ?l ?_); (case h => assumption); (case e => rfl); (case c => walk_at "cls"); (case a => walk_at "noattr"); (case l => exact of_decide_eq_true rfl); intro H1 hh1; simp only [List.set_cons_zero, List.set_cons_succ] at hh1)
  | ((with_reducible refine' Wm.setF_m ?h 2 ?e ?c ?a ?l ?_); (case h => assumption); (case e => rfl); (case c => walk_at "cls"); (case a => walk_at "noattr"); (case l => exact of_decide_eq_true rfl); intro H1 hh1; simp only [List.set_cons_zero, List.set_cons_succ] at hh1)
  | ((with_reducible refine' Wm.setF_m ?h 3 ?e ?c ?a ?l ?_); (case h => assumption); (case e => rfl); (case c => walk_at "cls"); (case a => walk_at "noattr"); (case l => exact of_decide_eq_true rfl); intro H1 hh1; simp only [List.set_cons_zero, List.set_cons_succ] at hh1)
  | (with_reducible refine Wm.r_forL ?_)
  | (with_reducible refine Wm.r_forT ?_)
  | (with_reducible refine Wm.r_forR1 ?_)
  | (with_reducible refine Wm.r_forR2 ?_)
  | (with_reducible refine Wm.r_forR3 ?_)
  | (with_reducible refine Wm.r_lcL ?_)
  | (with_reducible refine Wm.r_lcT ?_)
  | (with_reducible refine Wm.r_lcR1 ?_)
  | (with_reducible refine Wm.r_lcR2 ?_)
  | ((with_reducible refine' Wm.fld_h ?e ?c ?n ?l ?_); (case e => walk_at "at"); (case c => walk_at "cls"); (case n => walk_at "noattr"); (case l => rfl))
  | ((with_reducible refine' Wm.mtd_h ?e ?l ?_); (case e => walk_at "at"); (case l => rfl))
  | ((with_reducible refine' Wm.prp_h ?e ?_); (case e => walk_at "at"))
  | ((with_reducible refine' Wm.rix_ht ?a ?b ?_); (case a => walk_at "at"); (case b => rfl))
  | ((with_reducible refine' Wm.rix_h ?a ?b ?_); (case a => walk_at "at"); (case b => rfl))
  | ((with_reducible refine' Wm.len_ht ?a ?_); (case a => walk_at "at"))
  | ((with_reducible refine' Wm.len_h ?a ?_); (case a => walk_at "at"))
  | ((with_reducible refine' Wm.len_l ?a ?b ?_); (case a => assumption); (case b => assumption))
  | ((with_reducible refine' Wm.len_t ?a ?b ?_); (case a => assumption); (case b => assumption))
  | ((with_reducible refine' Wm.gtup_h ?a ?b ?_); (case a => walk_at "at"); (case b => rfl))
  | (with_reducible refine Wm.r_I (Wm.cmulR (by decide)) ?_)
  | (with_reducible refine Wm.r_I (Wm.cmulL (by decide)) ?_)
  | (with_reducible refine Wm.r_I (Wm.cdiv (by decide) (by decide)) ?_)
  | (with_reducible refine Wm.r_I Wm.cpow18 ?_)
  | (with_reducible refine Wm.r_I Wm.cpow12 ?_)
  | (with_reducible refine Wm.r_I (by show (0 : Int) < _; decide) ?_))
local macro_rules | `(tactic| walk_at "s") => `(tactic| repeat (first | walk_at "s1" | (with_reducible refine Wm.r_ifS ?_)))
local macro_rules | `(tactic| walk_at "t") => `(tactic| repeat (walk_at "s1"))
local macro_rules | `(tactic| walk_at "sz") => `(tactic| exact of_decide_eq_true rfl)
local macro_rules | `(tactic| walk_at "d") => `(tactic| first | (with_reducible refine Wm.r_dT (by omega) ?_) | (with_reducible refine Wm.r_dF (by omega) ?_) | (with_reducible refine Wm.r_dN (by omega) ?_) | (with_reducible refine Wm.r_dM (by omega) ?_))
local macro_rules | `(tactic| walk_at "sd") => `(tactic| repeat (first | walk_at "s1" | (with_reducible refine Wm.r_ifS ?_) | walk_at "d"))
namespace Wm
open PySem PySem.Spec PyProof.Rows L2 StX
/-! ## _law_told: the simulation tick by tick -/
def bls (P : Par) (n : Nat) : List V := (List.range n).map fun u : Nat => V.bl (oAt P u)
def dgs (P : Par) (n : Nat) : List V := ((List.range n).map fun u : Nat => dAt P u).map V.int
def sp_law_told (K : PySem.W.Frag) (A : Ads) : Sp := fun vs H Q _ => ∃ (t s : Addr) (cnt : Int) (P : Par) (G : Hp) (mu : Mu), vs = [.ref t, .ref s, .int cnt] ∧ Hold G mu H ∧ G t = some (.tup (P.ch.map V.int)) ∧ G s = some (.tup [.int P.gain, .int P.lo, .int P.hi, .int P.start, .bl P.was]) ∧ ParOk P ∧ 0 ≤ cnt ∧ cnt ≤ 100000 ∧
  ∀ (q l1 l2 : Addr) (G' H' : Hp), Ex G G' → G' q = some (.tup [.ref l1, .ref l2]) → G' l1 = some (.lst (dgs P cnt.toNat)) → G' l2 = some (.lst (bls P cnt.toNat)) → Hold G' mu H' → Q (.ref q) H'
theorem o_prev (P : Par) {u : Int} (h : 0 ≤ u) : oAt P u = P.dec (dAt P u) (prevO P u) := by
  unfold prevO
  by_cases hz : u ≤ 0
  · have : u = 0 := by omega
    subst this
    rw [o_zero, d_zero, if_pos (Int.le_refl 0)]
  · rw [if_neg hz]
    have := o_succ P (show 0 ≤ u - 1 by omega)
    rw [show u - 1 + 1 = u by omega] at this
    exact this
def t_law_told (K : PySem.W.Frag) (A : Ads) : TS := tSeq (tAsg (tVar 1) (gTup K 5 (gCons (gName 3) (gCons (gName 4) (gCons (gName 5) (gCons (gName 6) (gCons (gName 7) (gNil)))))))) (tSeq (tPar 8 9 (tCons (tLst (tNil)) (tCons (tLst (tNil)) (tNil)))) (tSeq (tFor (iRng1 (tCons (tVar 2) (tNil))) (gName 10) (tSeq (tIfS (tTest (tOp (rI0 fun i j => .bl (decide (i < j))) (tVar 6) (tVar 4))) (tAsg (tC (.bl true)) (gName 7)) (tIfS (tTest (tOp (rI0 fun i j => .bl (decide (j < i))) (tVar 6) (tVar 5))) (tAsg (tC (.bl false)) (gName 7)) (tNext))) (tSeq (tDrop (tBM K "list" rAppend (tVar 8) (tCons (tVar 6) (tNil)))) (tSeq (tDrop (tBM K "list" rAppend (tVar 9) (tCons (tVar 7) (tNil)))) (tSeq (tAsg (tOp (rIx K) (tVar 0) (tOp (rI (fun _ j => 0 < j) fun i j => .int (i % j)) (tVar 10) (tCB (rLen K) (tCons (tVar 0) (tNil))))) (gName 11)) (tAsg (tOp (rI0 fun i j => .int (i + j)) (tOp (rI0 fun i j => .int (i + j)) (tVar 6) (tVar 11)) (tOp (rI CMul fun i j => .int (i * j)) (tVar 3) (tCB rInt (tCons (tVar 7) (tNil))))) (gName 6))))))) (tRet (tTup (tCons (tVar 8) (tCons (tVar 9) (tNil)))))))
section
variable {K : PySem.W.Frag} {A : Ads}
theorem pure_law_told (vs : List V) (H : Hp) (Q : VK) (E : XK) (h : sp_law_told K A vs H Q E) : t_law_told K A { nx := fun _ H' => Q .non H', rt := Q } (start ["_law_changes_here", "_law_setting_here", "_law_count", "_law_gain", "_law_low", "_law_high", "_law_degrees", "_law_heating", "_law_found", "_law_states", "_law_tick", "_law_change"] vs) H := by
  obtain ⟨t, s, cnt, P, G, mu, rfl, hh, ht, hs, ok, c0, c1, k⟩ := h
  have hsH := hh.rd hs
  have op := ok.pos
  have hg := ok.g2
  have hg1 := ok.g1
  have lh := ok.lh
  show t_law_told K A _ [some (.ref t), some (.ref s), some (.int cnt), none, none, none, none, none, none, none, none, none] H
  unfold t_law_told
  walk_at "s"
  refine lst_m (by walk_at "sz") hh fun l1 H1 hh1 => ?_
  walk_at "s"
  refine lst_m (by walk_at "sz") hh1 fun l2 H2 hh2 => ?_
  walk_at "s"
  refine forR1_by (by omega) (by omega) (fun i σ H' => ∃ v10 v11 : Option V, σ = [some (.ref t), some (.ref s), some (.int cnt), some (.int P.gain), some (.int P.lo), some (.int P.hi), some (.int (dAt P i)), some (.bl (prevO P i)), some (.ref l1), some (.ref l2), v10, v11] ∧ Hold G ((l2, .lst (bls P i)) :: (l1, .lst (dgs P i)) :: mu) H')
    ⟨none, none, by rw [show ((0 : Nat) : Int) = 0 from rfl, d_zero, show prevO P 0 = P.was from if_pos (Int.le_refl 0)], hh2⟩ ?_ ?_
  · rintro i σ H3 hi ⟨v10, v11, rfl, hh3⟩
    have ht3 := hh3.rd ht
    refine r_gname ?_
    simp only [List.set_cons_zero, List.set_cons_succ]
    -- the heater's state in the tick
    have oi := o_prev P (show 0 ≤ (i : Int) by omega)
    have rest : ∀ (rt : VK) (bk ct : L2.St → Hp → Prop), (tSeq (tDrop (tBM K "list" rAppend (tVar 8) (tCons (tVar 6) (tNil)))) (tSeq (tDrop (tBM K "list" rAppend (tVar 9) (tCons (tVar 7) (tNil)))) (tSeq (tAsg (tOp (rIx K) (tVar 0) (tOp (rI (fun _ j => 0 < j) fun i j => .int (i % j)) (tVar 10) (tCB (rLen K) (tCons (tVar 0) (tNil))))) (gName 11)) (tAsg (tOp (rI0 fun i j => .int (i + j)) (tOp (rI0 fun i j => .int (i + j)) (tVar 6) (tVar 11)) (tOp (rI CMul fun i j => .int (i * j)) (tVar 3) (tCB rInt (tCons (tVar 7) (tNil))))) (gName 6))))) ⟨fun σ H' => ∃ v10 v11 : Option V, σ = [some (.ref t), some (.ref s), some (.int cnt), some (.int P.gain), some (.int P.lo), some (.int P.hi), some (.int (dAt P ((i + 1 : Nat) : Int))), some (.bl (prevO P ((i + 1 : Nat) : Int))), some (.ref l1), some (.ref l2), v10, v11] ∧ Hold G ((l2, .lst (bls P (i + 1))) :: (l1, .lst (dgs P (i + 1))) :: mu) H', rt, bk, ct⟩
        [some (.ref t), some (.ref s), some (.int cnt), some (.int P.gain), some (.int P.lo), some (.int P.hi), some (.int (dAt P i)), some (.bl (oAt P i)), some (.ref l1), some (.ref l2), some (.int i), v11] H3 := by
      intro rt bk ct
      walk_at "s"
      refine app_m hh3 1 rfl (szl (by unfold dgs; rw [List.length_map, List.length_map, List.length_range]; omega)) fun H4 hh4 => ?_
      simp only [List.set_cons_zero, List.set_cons_succ] at hh4
      walk_at "s"
      refine app_m hh4 0 rfl (szl (by unfold bls; rw [List.length_map, List.length_range]; omega)) fun H5 hh5 => ?_
      simp only [List.set_cons_zero, List.set_cons_succ] at hh5
      have ht5 := hh5.rd ht
      walk_at "s"
      refine r_I (show (0 : Int) < ((P.ch.map V.int).length : Nat) by rw [List.length_map]; omega) ?_
      rw [List.length_map]
      have m0 := Int.emod_nonneg (i : Int) (show (P.ch.length : Int) ≠ 0 by omega)
      refine rix_ht ht5 (atI_of m0 (ints_at (ch_some ok i))) ?_
      walk_at "s"
      refine r_I (cmulL (by omega)) ?_
      walk_at "s"
      refine ⟨some (.int i), some (.int (chAt P i)), ?_, ?_⟩
      · have e3 : dAt P ((i + 1 : Nat) : Int) = dAt P i + chAt P i + P.gain * (if oAt P i = true then 1 else 0) := by
          rw [show ((i + 1 : Nat) : Int) = (i : Int) + 1 by omega, d_succ P (by omega)]
          unfold Par.heat
          split <;> omega
        have e4 : prevO P ((i + 1 : Nat) : Int) = oAt P i := by
          unfold prevO
          rw [if_neg (by omega), show ((i + 1 : Nat) : Int) - 1 = i by omega]
        rw [e3, e4]
      · have e1 : bls P i ++ [V.bl (oAt P i)] = bls P (i + 1) := by unfold bls; rw [List.range_succ, List.map_append] <;> rfl
        have e2 : dgs P i ++ [V.int (dAt P i)] = dgs P (i + 1) := by unfold dgs; rw [List.range_succ, List.map_append, List.map_append] <;> rfl
        rw [e1, e2] at hh5
        exact hh5
    refine r_seq ?_
    unfold Par.dec at oi
    refine ifA (ans_lt (fun Q q => r_var rfl q) (fun Q q => r_var rfl q)) (fun c => ?_) (fun c => ?_)
    · have c := of_decide_eq_true c
      rw [if_pos c] at oi
      refine r_asg (r_c (r_gname ?_))
      rw [← oi]
      exact rest _ _ _
    · have c := of_decide_eq_false c
      rw [if_neg c] at oi
      refine ifA (ans_gtI (fun Q q => r_var rfl q) (fun Q q => r_var rfl q)) (fun c2 => ?_) (fun c2 => ?_)
      · have c2 := of_decide_eq_true c2
        rw [decide_eq_false (show ¬ dAt P i ≤ P.hi by omega), Bool.and_false] at oi
        refine r_asg (r_c (r_gname ?_))
        rw [← oi]
        exact rest _ _ _
      · have c2 := of_decide_eq_false c2
        rw [decide_eq_true (show dAt P i ≤ P.hi by omega), Bool.and_true] at oi
        refine r_next ?_
        rw [← oi]
        exact rest _ _ _
  · rintro σ H3 ⟨v10, v11, rfl, hh3⟩
    walk_at "s"
    have e1 := hh3.frz_ex
    have h4 := hh3.frz
    have e2 := h4.frz_ex
    have h5 := h4.frz
    refine tup_G (by walk_at "sz") h5 fun q G4 H4 ex4 hq hh4 => ?_
    exact k q l1 l2 G4 H4 (e1.trans (e2.trans ex4)) hq (ex4 _ _ upd_same) (ex4 _ _ (e2 _ _ upd_same)) hh4
end
end Wm
end

section
/-! ## Rooms that rise or fall for ever; repetition within a window -/
namespace Wm
open PySem
/-- the last run of a room that does not repeat -/
structure EndV (P : Par) (b sl : Int) : Prop where
  b0 : 0 ≤ b
  ne : sl ≠ 0
  step : ∀ u, b ≤ u → dAt P (u + P.ch.length) = dAt P u + sl
  sw : ∀ u v, b < u → b < v → swAt P u = swAt P v
theorem HistV.endless {P : Par} {rs : List RunD} {loop : Option Int} (h : HistV P rs loop) (hr : repO rs loop = none) : ∃ r sl, r ∈ rs ∧ EndV P r.beg sl := by
  have ok := h.par
  cases loop with
  | some j => cases hr
  | none =>
    obtain ⟨l, hl, hf⟩ := h.open_ rfl
    have lm := List.mem_of_getElem? hl
    have v := h.each l lm
    have rok := h.runOk lm
    have len := v.len ok
    have b0 := v.b0
    unfold repO at hr
    simp only [hl] at hr
    have hz : l.steps.sum ≠ 0 := fun z => by rw [if_pos z] at hr; cases hr
    refine ⟨l, l.steps.sum, lm, b0, hz, fun u hu => ?_, fun u w hu hw => ?_⟩
    · have s1 := v.sim u hu (fun e he => by rw [hf] at he; cases he)
      have s2 := v.sim (u + P.ch.length) (by omega) (fun e he => by rw [hf] at he; cases he)
      rw [s1.1, s2.1, ← len]
      obtain ⟨e, p0, p1⟩ := pk_of l rok u
      have a1 := at_pk l rok (k := (u - l.beg) / l.steps.length) p0 p1
      have a2 := at_pk l rok (k := (u - l.beg) / l.steps.length + 1) p0 p1
      rw [← e] at a1
      rw [show l.beg + (u - l.beg) % ↑l.steps.length + ((u - l.beg) / ↑l.steps.length + 1) * ↑l.steps.length = u + l.steps.length by rw [Int.add_mul, Int.one_mul]; omega] at a2
      rw [a1, a2, Int.add_mul, Int.one_mul]
      omega
    · have key : ∀ z, l.beg < z → swAt P z = swAt P l.beg + swI P l.beg := fun z hz => sw_const P b0 hz fun x x0 x1 => (v.sim x x0 fun e he => by rw [hf] at he; cases he).2
      rw [key u hu, key w hw]
/-- a window of c ticks that is alike when moved by d, a divisor of c: then all that follows is -/
theorem RepV.window {P : Par} {rs : List RunD} {loop : Option Int} {f c : Int} (h : RepV P rs loop f c) {d : Int} (d0 : 0 < d) (hd : c % d = 0) (hw : ∀ k, 0 ≤ k → k < c - d → dAt P (f + d + k) = dAt P (f + k) ∧ oAt P (f + d + k) = oAt P (f + k)) :
    ∀ u, f ≤ u → dAt P (u + d) = dAt P u ∧ oAt P (u + d) = oAt P u := by
  have c0 := h.c0
  obtain ⟨m, hm⟩ := Int.dvd_of_emod_eq_zero hd
  have m1 : 1 ≤ m := by
    rcases Int.lt_or_le 0 m with z | z
    · omega
    · have : d * m ≤ 0 := Int.mul_nonpos_of_nonneg_of_nonpos (Int.le_of_lt d0) z
      omega
  -- within one round
  have base : ∀ k, 0 ≤ k → k < d → ∀ i : Nat, (i : Int) < m → dAt P (f + k + i * d) = dAt P (f + k) ∧ oAt P (f + k + i * d) = oAt P (f + k) := by
    intro k k0 k1 i
    induction i with
    | zero => intro _; simp
    | succ i ih =>
      intro hi
      obtain ⟨h1, h2⟩ := ih (by omega)
      have hle : ((i : Int) + 1 + 1) ≤ m := by omega
      have e := Int.mul_le_mul_of_nonneg_right hle (Int.le_of_lt d0)
      rw [Int.mul_comm m d, ← hm, Int.add_mul, Int.add_mul, Int.one_mul] at e
      have i0 : 0 ≤ (i : Int) * d := Int.mul_nonneg (by omega) (Int.le_of_lt d0)
      have := hw (k + i * d) (by omega) (by omega)
      rw [show f + k + ((i + 1 : Nat) : Int) * d = f + d + (k + i * d) by rw [Int.natCast_add, Int.add_mul]; omega, this.1, this.2, show f + (k + i * d) = f + k + i * d by omega]
      exact ⟨h1, h2⟩
  -- a round moved by d
  have one : ∀ k, 0 ≤ k → k < c → dAt P (f + k + d) = dAt P (f + k) ∧ oAt P (f + k + d) = oAt P (f + k) := by
    intro k k0 k1
    by_cases hk : k < c - d
    · have := hw k k0 hk
      rw [show f + k + d = f + d + k by omega]
      exact this
    · have e1 := h.per (f + (k - (c - d))) (by omega)
      rw [show f + (k - (c - d)) + c = f + k + d by omega] at e1
      have mm : c - d = ((m - 1).toNat : Int) * d := by rw [Int.toNat_of_nonneg (by omega), Int.sub_mul, Int.one_mul, Int.mul_comm m d, ← hm]
      have e2 := base (k - (c - d)) (by omega) (by omega) (m - 1).toNat (by omega)
      rw [show f + (k - (c - d)) + ((m - 1).toNat : Int) * d = f + k by omega] at e2
      rw [e1.1, e1.2, ← e2.1, ← e2.2]
      exact ⟨rfl, rfl⟩
  intro u hu
  have q0 : 0 ≤ (u - f) / c := Int.ediv_nonneg (by omega) (by omega)
  have m0 := Int.emod_nonneg (u - f) (show c ≠ 0 by omega)
  have m2 := Int.emod_lt_of_pos (u - f) c0
  have em := Int.emod_add_mul_ediv (u - f) c
  rw [Int.mul_comm] at em
  have p1 := h.perK (u := f + (u - f) % c) (by omega) ((u - f) / c).toNat
  have p2 := h.perK (u := f + (u - f) % c + d) (by omega) ((u - f) / c).toNat
  rw [Int.toNat_of_nonneg q0] at p1 p2
  have o := one ((u - f) % c) m0 m2
  rw [show f + (u - f) % c + (u - f) / c * c = u by omega] at p1
  rw [show f + (u - f) % c + d + (u - f) / c * c = u + d by omega] at p2
  rw [p1.1, p1.2, p2.1, p2.2]
  exact o
end Wm
end

section
/-! ## Extremes: within the first round; rising for ever -/
namespace Wm
open PySem
theorem Ext.within {P : Par} {rs : List RunD} {loop : Option Int} {sign d t f c : Int} (h : Ext P rs loop sign (some (d, t))) (rv : RepV P rs loop f c) : t < f + c := by
  obtain ⟨t0, _, hd, hb⟩ := h
  have c0 := rv.c0
  have f0 := rv.f0
  by_cases hlt : t < f + c
  · exact hlt
  · have p := (rv.per (t - c) (by omega)).1
    rw [show t - c + c = t by omega] at p
    have := (hb (t - c) (by omega)).2 (by rw [← p, hd])
    omega
theorem EndV.far {P : Par} {b sl : Int} (h : EndV P b sl) {u : Int} (hu : b ≤ u) : ∀ k : Nat, dAt P (u + k * P.ch.length) = dAt P u + k * sl
  | 0 => by simp
  | k + 1 => by
    have ih := h.far hu k
    have kc : 0 ≤ (k : Int) * (P.ch.length : Int) := Int.mul_nonneg (by omega) (by omega)
    have := h.step (u + k * P.ch.length) (by omega)
    rw [show u + ((k + 1 : Nat) : Int) * P.ch.length = u + k * P.ch.length + P.ch.length by rw [Int.natCast_add, Int.add_mul]; omega, this, ih, Int.natCast_add, Int.add_mul]
    omega
theorem HistV.endless_of {P : Par} {rs : List RunD} (h : HistV P rs none) {l : RunD} (hl : rs[rs.length - 1]? = some l) (hz : l.steps.sum ≠ 0) : EndV P l.beg l.steps.sum ∧ repO rs none = none := by
  have ok := h.par
  obtain ⟨l', hl', hf⟩ := h.open_ rfl
  rw [hl] at hl'
  cases hl'
  have lm := List.mem_of_getElem? hl
  have v := h.each l lm
  have rok := h.runOk lm
  have len := v.len ok
  have b0 := v.b0
  refine ⟨⟨b0, hz, fun u hu => ?_, fun u w hu hw => ?_⟩, by unfold repO; simp only [hl]; rw [if_neg hz]⟩
  · have s1 := v.sim u hu (fun e he => by rw [hf] at he; cases he)
    have s2 := v.sim (u + P.ch.length) (by omega) (fun e he => by rw [hf] at he; cases he)
    rw [s1.1, s2.1, ← len]
    obtain ⟨e, p0, p1⟩ := pk_of l rok u
    have a1 := at_pk l rok (k := (u - l.beg) / l.steps.length) p0 p1
    have a2 := at_pk l rok (k := (u - l.beg) / l.steps.length + 1) p0 p1
    rw [← e] at a1
    rw [show l.beg + (u - l.beg) % ↑l.steps.length + ((u - l.beg) / ↑l.steps.length + 1) * ↑l.steps.length = u + l.steps.length by rw [Int.add_mul, Int.one_mul]; omega] at a2
    rw [a1, a2, Int.add_mul, Int.one_mul]
    omega
  · have key : ∀ z, l.beg < z → swAt P z = swAt P l.beg + swI P l.beg := fun z hz => sw_const P b0 hz fun x x0 x1 => (v.sim x x0 fun e he => by rw [hf] at he; cases he).2
    rw [key u hu, key w hw]
end Wm
end

section
/-! ## sum(t) of a tuple of ints -/
namespace PySem
section
variable {prog : Program} {w : World} {A : Around} {E : Value → Shared → Prop} {s : Shared} {l : Addr} {xs : Array (Int × Tok)}
theorem wm_sum_tuple {Q : Value → Shared → Prop} (hh : A.handled = none) (hl : s.heap.IsTuple l (intItems xs))
    (h : ∀ h' tk t', (∀ b o, s.heap.get? b = some o → h'.get? b = some o) → Q (.int (preSum (numAt xs) xs.size) t') { s with heap := h', toks := tk }) :
    wpAny (model prog w) A (call (.builtin "sum") [.ref l]) Q E s := by
  have hlt : l < s.heap.objs.size := by obtain ⟨_, q, _⟩ := hl; exact Heap.lt_size q
  refine call_sum_walkG (wpAny_pyIter_tuple hl ?_)
  refine ⟨_, _, _, _, _, _, numAt xs, rfl, Walks.tuple (A := A.in1) hh _ l (Nat.ne_of_lt hlt) (intItems xs), ⟨⟨_, Heap.get?_push_size _ rfl, rfl, rfl⟩, hl.at fun o e => Heap.get?_push_of_some _ e⟩, ?_, (fun _ _ => intItems_at), fun h' tk t' hk => ?_⟩
  · intro b hb
    show b < (s.heap.push _).objs.size
    rw [Heap.size_push]
    rcases List.mem_cons.mp hb with rfl | hb
    · exact Nat.lt_succ_self _
    · rcases List.mem_cons.mp hb with rfl | hb
      · exact Nat.lt_succ_of_lt hlt
      · cases hb
  · have := h h' tk t' fun b o e => hk b o (by rw [List.mem_singleton]; exact Nat.ne_of_lt (Heap.lt_size e)) (Heap.get?_push_of_some _ e)
    simpa [intItems] using this
open PyProof.Rows L2 StX in
theorem wm_sum_tup {Q : Value → Shared → Prop} {its : List Value} {ns : List Int} (hh : A.handled = none) (hl : s.heap.IsTuple l its.toArray) (hi : IntsAre its ns)
    (h : ∀ h' tk t', (∀ b o, s.heap.get? b = some o → h'.get? b = some o) → Q (.int ns.sum t') { s with heap := h', toks := tk }) : wpAny (model prog w) A (call (.builtin "sum") [.ref l]) Q E s := by
  obtain ⟨xs, e⟩ := hi.allInts.items
  have hn : numsOf (intItems xs).toList = ns := by rw [← e]; exact hi.numsOf
  rw [nums_intItems] at hn
  rw [e] at hl
  refine wm_sum_tuple hh hl fun h' tk t' hk => ?_
  have := h h' tk t' hk
  rw [preSum_eq, List.take_of_length_le (by simp), hn]
  exact this
end
end PySem
namespace Wm
open PySem PySem.Spec PyProof.Rows L2 StX
def rSumT (K : PySem.W.Frag) : List V → Hp → VK → Prop := fun vs H Q => ∃ (a : Addr) (ns : List Int), vs = [V.ref a] ∧ SqT K H a (ns.map V.int) ∧ Q (.int ns.sum) H
theorem cr_sumT {X : Cx} (hc : X.calm = true) : CallR X (.builtin "sum") (rSumT X.K) := by
  intro pins s σ H vs us Q I r h
  obtain ⟨a, ns, rfl, hs, q⟩ := h
  obtain ⟨its, rv, hl, _⟩ := I.tuple hs
  rw [Vals.ref1 r]
  exact wm_sum_tup (I.ok.hd hc) hl rv.ints fun h' tk t' hk => ⟨.int _, H, I.kept hk, ⟨_, rfl⟩, q⟩
end Wm
end

section
local macro_rules | `(tactic| walk_at "cls") => `(tactic| first | (with_reducible exact Wm.WeatherC.cl (by assumption)) | (with_reducible exact Wm.HeaterC.cl (by assumption)) | (with_reducible exact Wm.RoomC.cl (by assumption)) | (with_reducible exact Wm.RunC.cl (by assumption)) | (with_reducible exact Wm.HistoryC.cl (by assumption)) | (with_reducible exact Wm.ThresholdObserverC.cl (by assumption)) | (with_reducible exact Wm.SettingC.cl (by assumption)) | (with_reducible exact Wm.HourSettingC.cl (by assumption)) | (with_reducible exact Wm.RestSettingC.cl (by assumption)) | (with_reducible exact Wm.PricesC.cl (by assumption)) | (with_reducible exact Wm.MomentC.cl (by assumption)) | (with_reducible exact Wm.LiveRoomC.cl (by assumption)) | (with_reducible exact Wm.AttemptC.cl (by assumption)))
local macro_rules | `(tactic| walk_at "noattr") => `(tactic| first | (with_reducible exact Wm.WeatherC.n_pattern (by assumption)) | (with_reducible exact Wm.HeaterC.n_power (by assumption)) | (with_reducible exact Wm.HeaterC.n_below (by assumption)) | (with_reducible exact Wm.HeaterC.n_above (by assumption)) | (with_reducible exact Wm.RoomC.n_outside (by assumption)) | (with_reducible exact Wm.RoomC.n_inside (by assumption)) | (with_reducible exact Wm.RoomC.n_begin_degrees (by assumption)) | (with_reducible exact Wm.RoomC.n_past (by assumption)) | (with_reducible exact Wm.RoomC.n_repeated (by assumption)) | (with_reducible exact Wm.RoomC.n_share (by assumption)) | (with_reducible exact Wm.RoomC.n_coldest (by assumption)) | (with_reducible exact Wm.RoomC.n_warmest (by assumption)) | (with_reducible exact Wm.RunC.n_begin (by assumption)) | (with_reducible exact Wm.RunC.n_end (by assumption)) | (with_reducible exact Wm.RunC.n_degrees (by assumption)) | (with_reducible exact Wm.RunC.n_is_heating (by assumption)) | (with_reducible exact Wm.RunC.n_sums (by assumption)) | (with_reducible exact Wm.RunC.n_size (by assumption)) | (with_reducible exact Wm.RunC.n_drift (by assumption)) | (with_reducible exact Wm.HistoryC.n_shifts (by assumption)) | (with_reducible exact Wm.HistoryC.n_added (by assumption)) | (with_reducible exact Wm.HistoryC.n_floor (by assumption)) | (with_reducible exact Wm.HistoryC.n_ceiling (by assumption)) | (with_reducible exact Wm.HistoryC.n_was_heating (by assumption)) | (with_reducible exact Wm.HistoryC.n_runs (by assumption)) | (with_reducible exact Wm.HistoryC.n_loop (by assumption)) | (with_reducible exact Wm.ThresholdObserverC.n_outside (by assumption)) | (with_reducible exact Wm.ThresholdObserverC.n_power (by assumption)) | (with_reducible exact Wm.ThresholdObserverC.n_tick (by assumption)) | (with_reducible exact Wm.ThresholdObserverC.n_degrees (by assumption)) | (with_reducible exact Wm.ThresholdObserverC.n_is_heating (by assumption)) | (with_reducible exact Wm.ThresholdObserverC.n_lows (by assumption)) | (with_reducible exact Wm.ThresholdObserverC.n_highs (by assumption)) | (with_reducible exact Wm.ThresholdObserverC.n_noted (by assumption)) | (with_reducible exact Wm.SettingC.n_least (by assumption)) | (with_reducible exact Wm.SettingC.n_most (by assumption)) | (with_reducible exact Wm.HourSettingC.n_least (by assumption)) | (with_reducible exact Wm.HourSettingC.n_most (by assumption)) | (with_reducible exact Wm.HourSettingC.n_length (by assumption)) | (with_reducible exact Wm.HourSettingC.n_hours (by assumption)) | (with_reducible exact Wm.RestSettingC.n_least (by assumption)) | (with_reducible exact Wm.RestSettingC.n_most (by assumption)) | (with_reducible exact Wm.RestSettingC.n_rest (by assumption)) | (with_reducible exact Wm.PricesC.n_table (by assumption)) | (with_reducible exact Wm.MomentC.n_tick (by assumption)) | (with_reducible exact Wm.MomentC.n_heat (by assumption)) | (with_reducible exact Wm.MomentC.n_on (by assumption)) | (with_reducible exact Wm.MomentC.n_burnt (by assumption)) | (with_reducible exact Wm.MomentC.n_sky (by assumption)) | (with_reducible exact Wm.MomentC.n_stove (by assumption)) | (with_reducible exact Wm.LiveRoomC.n_moment (by assumption)) | (with_reducible exact Wm.LiveRoomC.n_earlier (by assumption)) | (with_reducible exact Wm.LiveRoomC.n_done (by assumption)) | (with_reducible exact Wm.AttemptC.n_live (by assumption)) | (with_reducible exact Wm.AttemptC.n_kept (by assumption)) | (with_reducible exact Wm.AttemptC.n_stack (by assumption)) | (with_reducible exact Wm.AttemptC.n_steps (by assumption)))
local macro_rules | `(tactic| walk_at "at") => `(tactic| first | assumption | exact Wm.Hold.rd (by assumption) (by assumption) | exact Wm.Hold.get (i := 0) (by assumption) rfl | exact Wm.Hold.get (i := 1) (by assumption) rfl | exact Wm.Hold.get (i := 2) (by assumption) rfl | exact Wm.Hold.get (i := 3) (by assumption) rfl | exact Wm.Hold.get (i := 4) (by assumption) rfl)
local macro_rules | `(tactic| walk_at "s1") => `(tactic| first
  | (with_reducible refine Wm.r_seq ?_)
  | (with_reducible refine Wm.r_op ?_)
  | ((with_reducible refine' Wm.r_var ?h ?_); (case h => rfl))
  | (with_reducible refine Wm.r_c ?_)
  | (with_reducible refine Wm.r_I0 ?_)
  | (with_reducible refine Wm.r_cons ?_)
  | (with_reducible refine Wm.r_nil ?_)
  | (with_reducible refine Wm.r_asg ?_)
  | (with_reducible refine Wm.r_gname ?_; try simp only [List.set_cons_zero, List.set_cons_succ])
  | (with_reducible refine Wm.r_nx ?_)
  | (with_reducible refine Wm.r_rt ?_)
  | (with_reducible refine Wm.r_ret ?_)
  | (with_reducible refine Wm.r_test ?_)
  | (with_reducible refine Wm.r_bl ?_)
  | (with_reducible refine Wm.r_B ?_)
  | (with_reducible refine Wm.r_eqI ?_)
  | (with_reducible refine Wm.r_neI ?_)
  | (with_reducible refine Wm.r_eqB ?_)
  | (with_reducible refine Wm.r_neB ?_)
  | (with_reducible refine Wm.r_fld ?_)
  | (with_reducible refine Wm.r_call ?_)
  | (with_reducible refine Wm.r_mtd ?_)
  | (with_reducible refine Wm.r_prp ?_)
  | (with_reducible refine Wm.r_mak ?_)
  | (with_reducible refine Wm.r_makKw ?_)
  | (with_reducible refine Wm.r_cb ?_)
  | (with_reducible refine Wm.r_tup ?_)
  | (with_reducible refine Wm.r_lst ?_)
  | (with_reducible refine Wm.r_chain ?_)
  | (with_reducible refine Wm.r_and ?_)
  | (with_reducible refine Wm.r_or ?_)
  | (with_reducible refine Wm.r_not ?_)
  | (with_reducible refine Wm.r_andV ?_)
  | (with_reducible refine Wm.r_orV ?_)
  | (with_reducible refine Wm.r_notV ?_)
  | (with_reducible refine Wm.r_if ?_)
  | (with_reducible refine Wm.r_un ?_)
  | (with_reducible refine Wm.r_U ?_)
  | (with_reducible refine Wm.r_iteT ?_)
  | (with_reducible refine Wm.r_iteF ?_)
  | (with_reducible refine Wm.r_next ?_)
  | (with_reducible refine Wm.r_drop ?_)
  | (with_reducible refine Wm.r_retN ?_)
  | ((with_reducible refine' Wm.r_aug ?h ?_); (case h => rfl))
  | (with_reducible refine Wm.r_ipI ?_)
  | (with_reducible refine Wm.r_par2 ?_)
  | (with_reducible refine Wm.r_two ?_; try simp only [List.set_cons_zero, List.set_cons_succ])
  | (with_reducible refine Wm.r_yes ?_)
  | (with_reducible refine Wm.r_forET ?_)
  | (with_reducible refine Wm.r_chain3 ?_)
  | (with_reducible refine Wm.r_nT ?_)
  | (with_reducible refine Wm.r_nF ?_)
  | (with_reducible refine Wm.r_par3 ?_)
  | (with_reducible refine Wm.r_seenPut ?_)
  | (with_reducible refine Wm.r_seenGet ?_)
  | (with_reducible refine Wm.r_three ?_; try simp only [List.set_cons_zero, List.set_cons_succ])
  | (with_reducible refine Wm.r_sl ?_)
  | (with_reducible refine Wm.r_nopart ?_)
  | (with_reducible refine Wm.r_part ?_)
  | (with_reducible refine Wm.r_xi ?_)
  | (with_reducible refine Wm.r_gcons ?_)
  | (with_reducible refine Wm.r_gnil ?_)
  | (with_reducible refine Wm.r_sub ?_)
  | (with_reducible refine Wm.r_setF ?_)
  | (with_reducible refine Wm.r_app ?_)
  | (with_reducible refine Wm.int_i ?_)
  | (with_reducible refine Wm.int_b ?_)
  | (with_reducible refine Wm.min2 ?_)
  | (with_reducible refine Wm.max2 ?_)
  | (with_reducible refine Wm.abs1 ?_)
  | (with_reducible refine Wm.isN ?_)
  | (with_reducible refine Wm.notN ?_)
  | ((with_reducible refine' Wm.r_ty ?e ?_); (case e => walk_at "at"))
  | ((with_reducible refine' Wm.setF_m ?h 0 ?e ?c ?a ?l ?_); (case h => assumption); (case e => rfl); (case c => walk_at "cls"); (case a => walk_at "noattr"); (case l => exact of_decide_eq_true rfl); intro H1 hh1; simp only [List.set_cons_zero, List.set_cons_succ] at hh1)
  | ((with_reducible refine' Wm.setF_m ?h 1 ?e ?c ?a ?l ?_); (case h => assumption); (case e => rfl); (case c => walk_at "cls"); (case a => walk_at "noattr"); (case l => exact of_decide_eq_true rfl); intro H1 hh1; simp only [List.set_cons_zero, List.set_cons_succ] at hh1)
  | ((with_reducible refine' Wm.setF_m ?h 2 ?e ?c ?a ?l ?_); (case h => assumption); (case e => rfl); (case c => walk_at "cls"); (case a => walk_at "noattr"); (case l => exact of_decide_eq_true rfl); intro H1 hh1; simp only [List.set_cons_zero, List.set_cons_succ] at hh1)
  | ((with_reducible refine' Wm.setF_m ?h 3 ?e ?c ?a ?l ?_); (case h => assumption); (case e => rfl); (case c => walk_at "cls"); (case a => walk_at "noattr"); (case l => exact of_decide_eq_true rfl); intro H1 hh1; simp only [List.set_cons_zero, List.set_cons_succ] at hh1)
  | (with_reducible refine Wm.r_forL ?_)
  | (with_reducible refine Wm.r_forT ?_)
  | (with_reducible refine Wm.r_forR1 ?_)
  | (with_reducible refine Wm.r_forR2 ?_)
  | (with_reducible refine Wm.r_forR3 ?_)
  | (with_reducible refine Wm.r_lcL ?_)
  | (with_reducible refine Wm.r_lcT ?_)
  | (with_reducible refine Wm.r_lcR1 ?_)
  | (with_reducible refine Wm.r_lcR2 ?_)
  | ((with_reducible refine' Wm.fld_h ?e ?c ?n ?l ?_); (case e => walk_at "at"); (case c => walk_at "cls"); (case n => walk_at "noattr"); (case l => rfl))
  | ((with_reducible refine' Wm.mtd_h ?e ?l ?_); (case e => walk_at "at"); (case l => rfl))
  | ((with_reducible refine' Wm.prp_h ?e ?_); (case e => walk_at "at"))
  | ((with_reducible refine' Wm.rix_ht ?a ?b ?_); (case a => walk_at "at"); (case b => rfl))
  | ((with_reducible refine' Wm.rix_h ?a ?b ?_); (case a => walk_at "at"); (case b => rfl))
  | ((with_reducible refine' Wm.len_ht ?a ?_); (case a => walk_at "at"))
  | ((with_reducible refine' Wm.len_h ?a ?_); (case a => walk_at "at"))
  | ((with_reducible refine' Wm.len_l ?a ?b ?_); (case a => assumption); (case b => assumption))
  | ((with_reducible refine' Wm.len_t ?a ?b ?_); (case a => assumption); (case b => assumption))
  | ((with_reducible refine' Wm.gtup_h ?a ?b ?_); (case a => walk_at "at"); (case b => rfl))
  | (with_reducible refine Wm.r_I (Wm.cmulR (by decide)) ?_)
  | (with_reducible refine Wm.r_I (Wm.cmulL (by decide)) ?_)
  | (with_reducible refine Wm.r_I (Wm.cdiv (by decide) (by decide)) ?_)
  | (with_reducible refine Wm.r_I Wm.cpow18 ?_)
  | (with_reducible refine Wm.r_I Wm.cpow12 ?_)
  | (with_reducible refine Wm.r_I (by show (0 : Int) < _; decide) ?_))
local macro_rules | `(tactic| walk_at "s") => `(tactic| repeat (first | walk_at "s1" | (with_reducible refine Wm.r_ifS ?_)))
local macro_rules | `(tactic| walk_at "t") => `(tactic| repeat (walk_at "s1"))
local macro_rules | `(tactic| walk_at "sz") => `(tactic| exact of_decide_eq_true rfl)
local macro_rules | `(tactic| walk_at "d") => `(tactic| first | (with_reducible refine Wm.r_dT (by omega) ?_) | (with_reducible refine Wm.r_dF (by omega) ?_) | (with_reducible refine Wm.r_dN (by omega) ?_) | (with_reducible refine Wm.r_dM (by omega) ?_))
local macro_rules | `(tactic| walk_at "sd") => `(tactic| repeat (first | walk_at "s1" | (with_reducible refine Wm.r_ifS ?_) | walk_at "d"))
namespace Wm
open PySem PySem.Spec PyProof.Rows L2 StX
/-! ## Facts that are found by their address -/
def Lst (G : Hp) (p : Addr) (xs : List V) : Prop := G p = some (.lst xs)
def Tup (G : Hp) (p : Addr) (xs : List V) : Prop := G p = some (.tup xs)
theorem Lst.at_ {G H : Hp} {p : Addr} {xs : List V} (h : Lst G p xs) (e : Ex G H) : H p = some (.lst xs) := e _ _ h
theorem Tup.at_ {G H : Hp} {p : Addr} {xs : List V} (h : Tup G p xs) (e : Ex G H) : H p = some (.tup xs) := e _ _ h
theorem Lst.up {G H : Hp} {p : Addr} {xs : List V} (h : Lst G p xs) (e : Ex G H) : Lst H p xs := e _ _ h
theorem Tup.up {G H : Hp} {p : Addr} {xs : List V} (h : Tup G p xs) (e : Ex G H) : Tup H p xs := e _ _ h
section
variable {K : PySem.W.Frag} {A : Ads} {G H : Hp} {mu : Mu} {σ : L2.St} {Q : VK} {E : XK} {p q : Addr} {R : RoomD} {t : Int} {xs ys : List V} {v : V} {m : Str} {sp : Sp} {tr : TA}
theorem tup_N (hP : xs.length ≤ sizeLine) (hh : Hold G mu H) (k : ∀ p G' H', Ex G G' → Tup G' p xs → Hold G' mu H' → Q (.ref p) H') : rTup xs H Q := tup_G hP hh k
theorem lst_N (hP : xs.length ≤ sizeLine) (hh : Hold G mu H) (k : ∀ p G' H', Ex G G' → Lst G' p xs → Hold G' mu H' → Q (.ref p) H') : rLst xs H Q := lst_G hP hh k
theorem cat_N (hh : Hold G mu H) (h1 : H p = some (.lst xs)) (h2 : H q = some (.lst ys)) (hz : xs.length + ys.length ≤ 1000000) (k : ∀ q G' H', Ex G G' → Lst G' q (xs ++ ys) → Hold G' mu H' → Q (.ref q) H') : rCat (.ref p) (.ref q) H Q := cat_G hh h1 h2 (sz hz) k
theorem rep_N {i : Int} (hh : Hold G mu H) (h : H p = some (.lst ys)) (h1 : 0 ≤ i) (h2 : i < 100000) (hz : ys.length * i.toNat ≤ 1000000) (k : ∀ l G' H', Ex G G' → Lst G' l (List.replicate i.toNat ys).flatten → Hold G' mu H' → Q (.ref l) H') : rRep (.ref p) (.int i) H Q := rep_G hh h (by omega) (by omega) (sz hz) k
theorem catT_N (hh : Hold G mu H) (h1 : Tup G p xs) (h2 : Tup G q ys) (hz : xs.length + ys.length ≤ 1000000) (k : ∀ r G' H', Ex G G' → Tup G' r (xs ++ ys) → Hold G' mu H' → Q (.ref r) H') : rCatA K (.ref p) (.ref q) H Q := by
  refine ⟨p, q, xs, ys, rfl, rfl, hh.tup (SqT.of_ h1), hh.tup (SqT.of_ h2), sz hz, fun e => ?_, fun _ e => ?_, fun _ _ p hp => k p _ _ (Ex.new (hh.g_none hp)) upd_same (hh.new hp)⟩
  · subst e
    exact k q G H (Ex.refl G) h2 hh
  · subst e
    exact k p G H (Ex.refl G) (by rw [List.append_nil]; exact h1) hh
theorem slT_N {lo hi : Option Int} (hh : Hold G mu H) (h : Tup G p xs) (k : ∀ r G' H', Ex G G' → Tup G' r (cutV xs lo hi) → Hold G' mu H' → Q (.ref r) H') : rSlA K (.ref p) lo hi H Q := by
  refine ⟨p, xs, rfl, hh.tup (SqT.of_ h), fun e => ?_, fun _ p hp => k p _ _ (Ex.new (hh.g_none hp)) upd_same (hh.new hp)⟩
  refine k p G H (Ex.refl G) ?_ hh
  have : cutV xs lo hi = xs := by
    unfold cutV
    rw [e.1, e.2]
    simp
  rw [this]
  exact h
theorem r_mod {i j : Int} (h : 0 < j) (k : Q (.int (i % j)) H) : rI (fun _ j => 0 < j) (fun i j => .int (i % j)) (.int i) (.int j) H Q := ⟨i, j, rfl, rfl, h, k⟩
theorem r_p18 (k : Q (.int (10 ^ 18)) H) : rI CPow (fun i j => .int (i ^ j.toNat)) (.int 10) (.int 18) H Q := ⟨10, 18, rfl, rfl, ⟨by decide, by decide, by decide⟩, k⟩
theorem r_p12 (k : Q (.int (10 ^ 12)) H) : rI CPow (fun i j => .int (i ^ j.toNat)) (.int 10) (.int 12) H Q := ⟨10, 12, rfl, rfl, ⟨by decide, by decide, by decide⟩, k⟩
theorem r_p17 (k : Q (.int (10 ^ 17)) H) : rI CPow (fun i j => .int (i ^ j.toNat)) (.int 10) (.int 17) H Q := ⟨10, 17, rfl, rfl, ⟨by decide, by decide, by decide⟩, k⟩
theorem r_p16 (k : Q (.int (10 ^ 16)) H) : rI CPow (fun i j => .int (i ^ j.toNat)) (.int 10) (.int 16) H Q := ⟨10, 16, rfl, rfl, ⟨by decide, by decide, by decide⟩, k⟩
theorem r_p15 (k : Q (.int (10 ^ 15)) H) : rI CPow (fun i j => .int (i ^ j.toNat)) (.int 10) (.int 15) H Q := ⟨10, 15, rfl, rfl, ⟨by decide, by decide, by decide⟩, k⟩
theorem r_p13 (k : Q (.int (10 ^ 13)) H) : rI CPow (fun i j => .int (i ^ j.toNat)) (.int 10) (.int 13) H Q := ⟨10, 13, rfl, rfl, ⟨by decide, by decide, by decide⟩, k⟩
theorem r_p11 (k : Q (.int (10 ^ 11)) H) : rI CPow (fun i j => .int (i ^ j.toNat)) (.int 10) (.int 11) H Q := ⟨10, 11, rfl, rfl, ⟨by decide, by decide, by decide⟩, k⟩
theorem r_p9 (k : Q (.int (10 ^ 9)) H) : rI CPow (fun i j => .int (i ^ j.toNat)) (.int 10) (.int 9) H Q := ⟨10, 9, rfl, rfl, ⟨by decide, by decide, by decide⟩, k⟩
theorem r_p6 (k : Q (.int (10 ^ 6)) H) : rI CPow (fun i j => .int (i ^ j.toNat)) (.int 10) (.int 6) H Q := ⟨10, 6, rfl, rfl, ⟨by decide, by decide, by decide⟩, k⟩
theorem r_p5 (k : Q (.int (10 ^ 5)) H) : rI CPow (fun i j => .int (i ^ j.toNat)) (.int 10) (.int 5) H Q := ⟨10, 5, rfl, rfl, ⟨by decide, by decide, by decide⟩, k⟩
theorem r_p4 (k : Q (.int (10 ^ 4)) H) : rI CPow (fun i j => .int (i ^ j.toNat)) (.int 10) (.int 4) H Q := ⟨10, 4, rfl, rfl, ⟨by decide, by decide, by decide⟩, k⟩
theorem r_p20 (k : Q (.int (10 ^ 20)) H) : rI CPow (fun i j => .int (i ^ j.toNat)) (.int 10) (.int 20) H Q := ⟨10, 20, rfl, rfl, ⟨by decide, by decide, by decide⟩, k⟩
theorem r_p30 (k : Q (.int (10 ^ 30)) H) : rI CPow (fun i j => .int (i ^ j.toNat)) (.int 10) (.int 30) H Q := ⟨10, 30, rfl, rfl, ⟨by decide, by decide, by decide⟩, k⟩
theorem r_wp {σ' : L2.St} {vs : List Nat} {Z : Prop} (h : wipe σ vs = wipe σ' vs) (k : Z) : wipe σ vs = wipe σ' vs ∧ Z := ⟨h, k⟩
/-- methods and properties of a room -/
theorem ap_mtd (ir : IsRoom K A H p R) (hl : ∀ a b c : Addr, ∀ s : Int, ∀ v1 v2 v3 v4 : V, (roomF a b c s v1 v2 v3 v4).lookup m = none) (k : tr σ H fun vs H2 => sp (.ref p :: vs) H2 Q E) : rMtd A.cRoom m sp E tr σ (.ref p) H Q := by
  obtain ⟨dx, vr, vs, vc, vw, o1, o2, h1, _⟩ := ir.ob
  exact ⟨p, dx, _, rfl, h1, hl _ _ _ _ _ _ _ _, k⟩
theorem ap_prp (ir : IsRoom K A H p R) (k : sp [.ref p] H Q E) : rPrp A.cRoom sp E (.ref p) H Q := by
  obtain ⟨dx, vr, vs, vc, vw, o1, o2, h1, _⟩ := ir.ob
  exact ⟨p, dx, _, rfl, h1, k⟩
theorem ap_temp (hh : Hold G mu H) (ir : IsRoom K A H p R) (t0 : 0 ≤ t) (t1 : t ≤ 10 ^ 18) (k : ∀ H1, Hold G mu H1 → Q (.int (dAt R.P t)) H1) : sp_Room_temperature K A [.ref p, .int t] H Q E :=
  ⟨p, R, t, rfl, ir, t0, t1, fun H1 e => k H1 (hh.grow e)⟩
theorem ap_on (hh : Hold G mu H) (ir : IsRoom K A H p R) (t0 : 0 ≤ t) (t1 : t ≤ 10 ^ 18) (k : ∀ H1, Hold G mu H1 → Q (.bl (oAt R.P t)) H1) : sp_Room_is_on K A [.ref p, .int t] H Q E :=
  ⟨p, R, t, rfl, ir, t0, t1, fun H1 e => k H1 (hh.grow e)⟩
theorem ap_heats (hh : Hold G mu H) (ir : IsRoom K A H p R) (t0 : 0 ≤ t) (t1 : t ≤ 10 ^ 18) (k : ∀ H1, Hold G mu H1 → Q (.int (hAt R.P t)) H1) : sp_Room_heating_ticks K A [.ref p, .int t] H Q E :=
  ⟨p, R, t, rfl, ir, t0, t1, fun H1 e => k H1 (hh.grow e)⟩
theorem ap_sws (hh : Hold G mu H) (ir : IsRoom K A H p R) (t0 : 0 ≤ t) (t1 : t ≤ 10 ^ 18) (k : ∀ H1, Hold G mu H1 → Q (.int (swAt R.P t)) H1) : sp_Room_switchings K A [.ref p, .int t] H Q E :=
  ⟨p, R, t, rfl, ir, t0, t1, fun H1 e => k H1 (hh.grow e)⟩
theorem ap_nth (hh : Hold G mu H) (ir : IsRoom K A H p R) (t0 : 1 ≤ t) (t1 : t ≤ 10 ^ 18) (k : ∀ o H1, NthV R.P t o → Hold G mu H1 → Q (optI o) H1) : sp_Room_nth_switching K A [.ref p, .int t] H Q E :=
  ⟨p, R, t, rfl, ir, t0, t1, fun o H1 n e => k o H1 n (hh.grow e)⟩
/-- a test whose answer is told; what it makes is dropped -/
theorem ifN {tt : TT} {t u : TS} {D : Ends} {b : Bool} (h : ∀ QT : Bool → Hp → Prop, (∀ H', Hold G mu H' → QT b H') → tt σ H QT) (h1 : b = true → ∀ H', Hold G mu H' → t D σ H') (h2 : b = false → ∀ H', Hold G mu H' → u D σ H') : tIfS tt t u D σ H := by
  refine r_ifS (h _ fun H' e => ?_)
  cases b with
  | true => exact r_iteT (h1 rfl H' e)
  | false => exact r_iteF (h2 rfl H' e)
theorem ifP {tt : TT} {t u : TS} {D : Ends} {b : Bool} (W : Hp → Prop) (h : ∀ QT : Bool → Hp → Prop, (∀ H', W H' → QT b H') → tt σ H QT) (h1 : b = true → ∀ H', W H' → t D σ H') (h2 : b = false → ∀ H', W H' → u D σ H') : tIfS tt t u D σ H := by
  refine r_ifS (h _ fun H' e => ?_)
  cases b with
  | true => exact r_iteT (h1 rfl H' e)
  | false => exact r_iteF (h2 rfl H' e)
theorem _root_.Wm.Hold.weak {G G' H : Hp} {mu : Mu} (h : Hold G' mu H) (e : Ex G G') : Hold G mu H := by
  refine ⟨e.trans h.ex, h.at_, fun q hq => ?_, h.nd⟩
  cases z : G q.1 with
  | none => rfl
  | some o => have := h.out q hq; rw [e _ _ z] at this; cases this
/-- a draw -/
theorem ap_next {a c : Addr} {d : DS} {lim : Int} (hh : Hold G (dh a c d :: dc c d :: mu) H) (ok : d.Ok) (h0 : 0 < lim) (h1 : lim < 2 ^ 64) (k : ∀ (n : Int) (d' : DS) (H' : Hp), 0 ≤ n → n < lim → d'.Ok → Hold G (dh a c d' :: dc c d' :: mu) H' → Q (.int n) H') : sp_law_next K A [.ref a, .int lim] H Q E :=
  ⟨a, c, d, lim, G, mu, rfl, hh, ok, h0, h1, k⟩
theorem ap_next1 {a c : Addr} {d : DS} {lim : Int} {x : Addr × HO} (hh : Hold G (x :: dh a c d :: dc c d :: mu) H) (ok : d.Ok) (h0 : 0 < lim) (h1 : lim < 2 ^ 64) (k : ∀ (n : Int) (d' : DS) (H' : Hp), 0 ≤ n → n < lim → d'.Ok → Hold G (x :: dh a c d' :: dc c d' :: mu) H' → Q (.int n) H') : sp_law_next K A [.ref a, .int lim] H Q E :=
  ⟨a, c, d, lim, G, _, rfl, hh.perm perm_in2, ok, h0, h1, fun n d' H' a b c h => k n d' H' a b c (h.perm perm_in2.symm)⟩
end
/-- an item of what is told, or None -/
theorem rix_opt0 {K : PySem.W.Frag} {H : Hp} {v : V} {x y : Int} {Q : VK} (h : OptAt H v (some (x, y))) (k : Q (.int x) H) : rIx K v (.int 0) H Q := by
  obtain ⟨q, rfl, hq⟩ := h
  exact rix_ht hq rfl k
theorem rix_opt1 {K : PySem.W.Frag} {H : Hp} {v : V} {x y : Int} {Q : VK} (h : OptAt H v (some (x, y))) (k : Q (.int y) H) : rIx K v (.int 1) H Q := by
  obtain ⟨q, rfl, hq⟩ := h
  exact rix_ht hq rfl k
theorem OptAt.ne {H : Hp} {v : V} {x : Int × Int} (h : OptAt H v (some x)) : v ≠ .non := fun z => by
  obtain ⟨q, e, _⟩ := h
  rw [z] at e
  cases e
theorem rix_three {K : PySem.W.Frag} {H : Hp} {Q : VK} {p : Addr} {x y z n : Int} (h : H p = some (.lst [.int x, .int y, .int z])) (n0 : 0 ≤ n) (n3 : n < 3) (k : ∀ w, (w = x ∨ w = y ∨ w = z) → Q (.int w) H) : rIx K (.ref p) (.int n) H Q := by
  have : n = 0 ∨ n = 1 ∨ n = 2 := by omega
  rcases this with rfl | rfl | rfl
  · exact rix_h h rfl (k x (.inl rfl))
  · exact rix_h h rfl (k y (.inr (.inl rfl)))
  · exact rix_h h rfl (k z (.inr (.inr rfl)))
/-! ## Alike data, place by place -/
inductive ADs (H : Hp) (n : Nat) : List V → List V → Prop
  | nil : ADs H n [] []
  | cons {x y : V} {xs ys : List V} : ADn H n x y → ADs H n xs ys → ADs H n (x :: xs) (y :: ys)
theorem ADs.len {H : Hp} {n : Nat} {xs ys : List V} (h : ADs H n xs ys) : xs.length = ys.length := by
  induction h with
  | nil => rfl
  | cons _ _ ih => simp [ih]
theorem ADs.get {H : Hp} {n : Nat} {xs ys : List V} (h : ADs H n xs ys) : ∀ (i : Nat) (x y : V), xs[i]? = some x → ys[i]? = some y → ADn H n x y := by
  induction h with
  | nil => intro i x y h; cases h
  | cons hx _ ih =>
    intro i x y h1 h2
    cases i with
    | zero => cases h1; cases h2; exact hx
    | succ i => exact ih i x y h1 h2
theorem ad_int {H : Hp} {n : Nat} (i : Int) : ADn H n (.int i) (.int i) := by
  cases n with
  | zero => exact .inr (.inl ⟨i, rfl, rfl⟩)
  | succ n => exact .inl (.inr (.inl ⟨i, rfl, rfl⟩))
theorem ad_bl {H : Hp} {n : Nat} (i : Bool) : ADn H n (.bl i) (.bl i) := by
  cases n with
  | zero => exact .inr (.inr ⟨i, rfl, rfl⟩)
  | succ n => exact .inl (.inr (.inr ⟨i, rfl, rfl⟩))
theorem ad_non {H : Hp} {n : Nat} : ADn H n .non .non := by
  cases n with
  | zero => exact .inl ⟨rfl, rfl⟩
  | succ n => exact .inl (.inl ⟨rfl, rfl⟩)
theorem ad_lst {H : Hp} {n : Nat} {p q : Addr} {xs ys : List V} (hp : H p = some (.lst xs)) (hq : H q = some (.lst ys)) (hl : xs.length ≤ 100000) (h : ADs H n xs ys) : ADn H (n + 1) (.ref p) (.ref q) :=
  .inr ⟨p, q, xs, ys, rfl, rfl, .inr ⟨hp, hq⟩, h.len, hl, h.get⟩
theorem ad_tup {H : Hp} {n : Nat} {p q : Addr} {xs ys : List V} (hp : H p = some (.tup xs)) (hq : H q = some (.tup ys)) (hl : xs.length ≤ 100000) (h : ADs H n xs ys) : ADn H (n + 1) (.ref p) (.ref q) :=
  .inr ⟨p, q, xs, ys, rfl, rfl, .inl ⟨hp, hq⟩, h.len, hl, h.get⟩
theorem ads_ints {H : Hp} {n : Nat} : ∀ xs : List Int, ADs H n (xs.map V.int) (xs.map V.int)
  | [] => .nil
  | x :: r => .cons (ad_int x) (ads_ints r)
theorem ads_refl {H : Hp} {n : Nat} : ∀ {xs : List V}, (∀ x ∈ xs, (∃ i, x = .int i) ∨ ∃ b, x = .bl b) → ADs H n xs xs
  | [], _ => .nil
  | x :: r, h => by
    refine .cons ?_ (ads_refl fun y hy => h y (List.mem_cons_of_mem _ hy))
    rcases h x List.mem_cons_self with ⟨i, rfl⟩ | ⟨b, rfl⟩
    · exact ad_int i
    · exact ad_bl b
theorem ad_opt {H : Hp} {n : Nat} {v : V} {x y : Int} {q : Addr} (h : OptAt H v (some (x, y))) (hq : H q = some (.tup [.int x, .int y])) : ADn H (n + 1) v (.ref q) := by
  obtain ⟨p, rfl, hp⟩ := h
  exact ad_tup hp hq (show 2 ≤ 100000 by decide) (.cons (ad_int x) (.cons (ad_int y) .nil))
/-! ## What the room laws have in common -/
structure RoomCs (K : PySem.W.Frag) (A : Ads) : Prop where
  w : WeatherC K A.cWeather
  h : HeaterC K A.cHeater
  r : RoomC K A.cRoom
  p : HistoryC K A.cHistory
  u : RunC K A.cRun
theorem SetOk.ht {g lo hi st : Int} (h : SetOk g lo hi st) : HtOk g lo hi := ⟨h.g1, h.g2, by have := h.l1; omega, h.lh, by have := h.l2; have := h.w; omega⟩
theorem SetOk.st {g lo hi st : Int} (h : SetOk g lo hi st) : -(10 ^ 12) ≤ st ∧ st ≤ 10 ^ 12 := ⟨by have := h.s1; have := h.l1; omega, by have := h.s2; have := h.l2; omega⟩
/-- what the setting of a room says of how soon all happens -/
theorem near_of {g lo hi st : Int} {ch : List Int} {on : Bool} (h : SetOk g lo hi st) : Near ⟨ch, g, lo, hi, st, on⟩ (2 * 10 ^ 11 + 300) := by
  have := h.w
  have := h.s1
  have := h.s2
  have := h.lh
  exact ⟨by show hi - lo + 300 ≤ _; omega, by show hi - st ≤ _; omega, by show st - lo ≤ _; omega⟩
theorem soon {n : Nat} (h : n ≤ 6) : (400 * (n : Int) + 2) * (n * (2 * 10 ^ 11 + 300 + 8000)) ≤ 10 ^ 16 := by
  have h1 : (n : Int) * (2 * 10 ^ 11 + 300 + 8000) ≤ 6 * (2 * 10 ^ 11 + 300 + 8000) := Int.mul_le_mul_of_nonneg_right (by omega) (by decide)
  have h2 : 0 ≤ (n : Int) * (2 * 10 ^ 11 + 300 + 8000) := Int.mul_nonneg (by omega) (by decide)
  have h3 := Int.mul_le_mul_of_nonneg_right (show 400 * (n : Int) + 2 ≤ 2402 by omega) h2
  have h4 := Int.mul_le_mul_of_nonneg_left h1 (show (0 : Int) ≤ 2402 by decide)
  have : (2402 : Int) * (6 * (2 * 10 ^ 11 + 300 + 8000)) ≤ 10 ^ 16 := by decide
  omega
theorem gtup2 {K : PySem.W.Frag} {H : Hp} {σ : L2.St} {v : V} {x y : Int} {ts : TGs} {R : L2.St → Hp → Prop} (h : OptAt H v (some (x, y))) (k : ts [.int x, .int y] σ H R) : gTup K 2 ts v σ H R := by
  obtain ⟨q, rfl, hq⟩ := h
  exact ⟨q, _, rfl, SqT.of_ hq, rfl, k⟩
section
variable {K : PySem.W.Frag} {A : Ads} {G H : Hp} {mu : Mu} {Q : VK} {E : XK} {a c t se p : Addr} {d : DS} {R : RoomD} {most : Int}
theorem ap_changes (hh : Hold G (dh a c d :: dc c d :: mu) H) (ok : d.Ok) (m1 : 1 ≤ most) (m2 : most ≤ 24)
    (k : ∀ (t : Addr) (ch : List Int) (d' : DS) (G' H' : Hp), Ex G G' → Tup G' t (ch.map V.int) → WOk ch → (ch.length : Int) ≤ most → d'.Ok → Hold G' (dh a c d' :: dc c d' :: mu) H' → Q (.ref t) H') : sp_law_changes K A [.ref a, .int most] H Q E :=
  ⟨a, c, most, d, G, mu, rfl, hh, ok, m1, m2, k⟩
theorem ap_setting (hh : Hold G (dh a c d :: dc c d :: mu) H) (ok : d.Ok)
    (k : ∀ (t : Addr) (g lo hi st : Int) (on : Bool) (d' : DS) (G' H' : Hp), Ex G G' → Tup G' t [.int g, .int lo, .int hi, .int st, .bl on] → SetOk g lo hi st → d'.Ok → Hold G' (dh a c d' :: dc c d' :: mu) H' → Q (.ref t) H') : sp_law_setting K A [.ref a] H Q E :=
  ⟨a, c, d, G, mu, rfl, hh, ok, k⟩
/-- the room of drawn changes and a drawn setting -/
theorem ap_room {ch : List Int} {g lo hi st : Int} {on : Bool} (T : RoomCs K A) (hh : Hold G mu H) (ht : Tup G t (ch.map V.int)) (hs : Tup G se [.int g, .int lo, .int hi, .int st, .bl on]) (wok : WOk ch) (hl : ch.length ≤ 6) (sok : SetOk g lo hi st)
    (k : ∀ (p : Addr) (R : RoomD) (G' H' : Hp), Ex G G' → IsRoom K A G' p R → R.P = ⟨ch, g, lo, hi, st, on⟩ → Hold G' mu H' → Q (.ref p) H') : sp_law_room K A [.ref t, .ref se] H Q E :=
  ⟨t, se, ⟨ch, g, lo, hi, st, on⟩, G, mu, rfl, T.w, T.h, T.r, T.p, T.u, hh, ht, hs, wok, hl, sok.ht, sok.st.1, sok.st.2, k⟩
theorem ap_told {P : Par} {cnt : Int} (hh : Hold G mu H) (ht : G t = some (.tup (P.ch.map V.int))) (hs : G se = some (.tup [.int P.gain, .int P.lo, .int P.hi, .int P.start, .bl P.was])) (ok : ParOk P) (c0 : 0 ≤ cnt) (c1 : cnt ≤ 100000)
    (k : ∀ (q l1 l2 : Addr) (G' H' : Hp), Ex G G' → Tup G' q [.ref l1, .ref l2] → Lst G' l1 (dgs P cnt.toNat) → Lst G' l2 (bls P cnt.toNat) → Hold G' mu H' → Q (.ref q) H') : sp_law_told K A [.ref t, .ref se, .int cnt] H Q E :=
  ⟨t, se, cnt, P, G, mu, rfl, hh, ht, hs, ok, c0, c1, k⟩
theorem ap_alike {x y : V} (hh : Hold G mu H) (h : ADn H 4 x y) (k : ∀ H', Hold G mu H' → Q (.bl true) H') : sp_law_alike K A [x, y] H Q E := ⟨x, y, rfl, h, fun H' e => k H' (hh.grow e)⟩
/-- what the drawn room's history bears -/
theorem room_soon {ch : List Int} {g lo hi st : Int} {on : Bool} (ir : IsRoom K A G p R) (hP : R.P = ⟨ch, g, lo, hi, st, on⟩) (hl : ch.length ≤ 6) (sok : SetOk g lo hi st) : R.P.ch.length ≤ 6 ∧ (∀ l ∈ R.rs, l.beg ≤ 10 ^ 16) ∧ (∀ f cc, repO R.rs R.loop = some (f, cc) → f ≤ 10 ^ 16 ∧ cc ≤ 10 ^ 16) := by
  have hok := ir.pa_.2.2.1
  have hv := hok.v
  have hcl6 : R.P.ch.length ≤ 6 := by rw [hP]; exact hl
  have nr : Near R.P (2 * 10 ^ 11 + 300) := by rw [hP]; exact near_of sok
  obtain ⟨nrA, nrB⟩ := hok.near nr
  have sn := soon hcl6
  refine ⟨hcl6, fun l hlm => by have := nrA l hlm; omega, fun f cc hrep => ?_⟩
  have rv := hv.rep_some hrep
  obtain ⟨f0, c0, big, ph, per⟩ := id rv
  cases hlo : R.loop with
  | none =>
    rw [hlo] at hrep
    rw [hlo] at hv
    obtain ⟨l, hl, _⟩ := hv.open_ rfl
    unfold repO at hrep
    simp only [hl] at hrep
    split at hrep
    · cases hrep
      have := nrA l (List.mem_of_getElem? hl)
      have len := (hv.each l (List.mem_of_getElem? hl)).len hv.par
      omega
    · cases hrep
  | some j =>
    rw [hlo] at hv hrep
    have sc := hv.shut_
    have := nrB j hlo
    have hfc : f + cc ≤ finLast R.rs ∧ cc ≤ finLast R.rs := by
      have e1 := hrep
      unfold repO at e1
      simp only [Option.some.injEq, Prod.mk.injEq] at e1
      obtain ⟨e2, e3⟩ := e1
      have b0 := sc.b0
      have hc : circ R.rs j = finLast R.rs - begAt R.rs j := rfl
      have l0 : ∀ i : Int, 0 ≤ lenAt R.rs i := fun i => by
        unfold lenAt lenR
        split
        · rename_i r' hr'
          split
          · have := ((hv.each r' (List.mem_of_getElem? hr')).fin _ ‹_›).1
            omega
          · omega
        · omega
      have l1 := l0 (j - 1)
      have l2 := l0 ((R.rs.length : Int) - 1)
      split at e2 <;> omega
    omega
end
/-! ## Comprehensions: the items' list, told by a filter and a map -/
section
variable {K : PySem.W.Frag} {G H : Hp} {mu : Mu} {σ : L2.St} {Q : VK} {g : TG} {tt : TT} {te : TE} {vs : List Nat} {a : Addr} {α : Type}
theorem Hold.frzL {D : Addr} {acc : List V} (h : Hold G ((D, .lst acc) :: mu) H) : ∃ G', Ex G G' ∧ Lst G' D acc ∧ Hold G' mu H := ⟨_, h.frz_ex, upd_same, h.frz⟩
/-- one turn: LY, LN are what the turn's ends want -/
def LcX (G : Hp) (mu : Mu) (keep : α → Bool) (f : α → V) (e : α → V) (g : TG) (tt : TT) (te : TE) (vs : List Nat) (σ : L2.St) (z : α) : Prop :=
  ∀ (D : Addr) (acc : List V) (G' H' : Hp) (LY : V → Hp → Prop) (LN : Hp → Prop), Ex G G' → Hold G' ((D, .lst acc) :: mu) H' →
    (∀ y H4 G4, keep z = true → y = f z → Ex G' G4 → Hold G4 ((D, .lst acc) :: mu) H4 → LY y H4) → (∀ H4 G4, keep z = false → Ex G' G4 → Hold G4 ((D, .lst acc) :: mu) H4 → LN H4) →
    g (e z) (wipe σ vs) H' fun σ2 H2 => wipe σ2 vs = wipe σ vs ∧ tt σ2 H2 fun b H3 => if b = true then te σ2 H3 LY else LN H3
theorem take_flt {keep : α → Bool} {f : α → V} {l : List α} {i : Nat} {z : α} (h : l[i]? = some z) :
    (keep z = true → ((l.take i).filter keep).map f ++ [f z] = ((l.take (i + 1)).filter keep).map f) ∧ (keep z = false → ((l.take i).filter keep).map f = ((l.take (i + 1)).filter keep).map f) := by
  rw [take_one h, List.filter_append, List.map_append]
  exact ⟨fun k => by rw [List.filter_cons_of_pos k] <;> rfl, fun k => by rw [List.filter_cons_of_neg (by rw [k]; exact Bool.false_ne_true)] <;> simp⟩
theorem lc_fil {J : It} (l : List α) (e : α → V) (keep : α → Bool) (f : α → V) (hl : l.length ≤ 1000000) (hh : Hold G mu H)
    (hstop : ∀ H', Ex G H' → J.stop l.length H') (hgo : ∀ i H', i < l.length → Ex G H' → J.go i H') (hy : ∀ i H' x H'', i < l.length → Ex G H' → J.yld i H' x H'' → H'' = H' ∧ ∃ z, l[i]? = some z ∧ x = e z)
    (hs : ∀ z ∈ l, LcX G mu keep f e g tt te vs σ z)
    (hd : ∀ D G' H', Ex G G' → Lst G' D ((l.filter keep).map f) → Hold G' mu H' → Q (.ref D) H') : LcW J g tt te vs σ H Q := by
  refine lc_go (n := l.length) hh (fun i x => ∃ z, l[i]? = some z ∧ x = e z) (fun i acc G' mu' => mu' = mu ∧ acc = ((l.take i).filter keep).map f) ⟨rfl, rfl⟩ hstop hgo hy ?_ ?_
  · rintro i x D acc G' mu' H' hi ⟨z, hz, rfl⟩ hal ex hh' ⟨rfl, rfl⟩
    refine hs z (List.mem_of_getElem? hz) D _ G' H' _ _ ex hh' (fun y H4 G4 hk hy ex4 hh4 => ?_) (fun H4 G4 hk ex4 hh4 => ?_)
    · subst hy
      exact lcY hh4 (ex.trans ex4) hal (by omega) ⟨rfl, (take_flt hz).1 hk⟩
    · exact lcN hh4 (ex.trans ex4) hal ⟨rfl, (take_flt hz).2 hk⟩
  · rintro D acc G' mu' H' hal ex hh' ⟨rfl, rfl⟩
    obtain ⟨G2, ex2, h2, hh2⟩ := hh'.frzL
    rw [List.take_length] at h2
    exact hd D G2 H' (ex.trans ex2) h2 hh2
def rngI (n : Nat) : List Int := (List.range n).map fun i : Nat => (i : Int)
theorem rngI_len (n : Nat) : (rngI n).length = n := by simp [rngI]
theorem rngI_get {n i : Nat} (h : i < n) : (rngI n)[i]? = some (i : Int) := by
  unfold rngI
  rw [List.getElem?_map, List.getElem?_range h]
  rfl
theorem rngI_mem {n : Nat} {z : Int} (h : z ∈ rngI n) : 0 ≤ z ∧ z < n := by
  obtain ⟨i, hi, rfl⟩ := List.mem_map.mp h
  have := List.mem_range.mp hi
  omega
/-- over range(n) -/
theorem lcR1_fil {n : Int} (keep : Int → Bool) (f : Int → V) (hh : Hold G mu H) (hn : n ≤ 1000000) (hn0 : -(2 ^ 62) ≤ n) (hs : ∀ z, 0 ≤ z → z < n → LcX G mu keep f V.int g tt te vs σ z)
    (hd : ∀ D G' H', Ex G G' → Lst G' D (((rngI n.toNat).filter keep).map f) → Hold G' mu H' → Q (.ref D) H') : LcR1 g tt te vs σ Q [.int n] H := by
  refine ⟨n, rfl, hn0, by omega, lc_fil (rngI n.toNat) V.int keep f (by rw [rngI_len]; omega) hh ?_ ?_ ?_ (fun z hz => ?_) hd⟩
  · intro H' _
    rw [rngI_len]
    exact Nat.le_refl _
  · intro i H' hi _
    rw [rngI_len] at hi
    exact hi
  · intro i H' x H'' hi _ y
    rw [rngI_len] at hi
    exact ⟨y.1, (i : Int), rngI_get hi, by have := y.2; rw [Int.zero_add] at this; exact this⟩
  · have := rngI_mem hz
    exact hs z (by omega) (by omega)
/-- over range(lo, n) -/
theorem lcR2_fil {lo n : Int} (keep : Int → Bool) (f : Int → V) (hh : Hold G mu H) (h1 : -(2 ^ 62) ≤ lo) (h2 : lo < 2 ^ 62) (h3 : -(2 ^ 62) ≤ n) (h4 : n < 2 ^ 62) (h5 : n - lo ≤ 1000000) (hs : ∀ z, lo ≤ z → z < n → LcX G mu keep f V.int g tt te vs σ z)
    (hd : ∀ D G' H', Ex G G' → Lst G' D ((((rngI (n - lo).toNat).map (lo + ·)).filter keep).map f) → Hold G' mu H' → Q (.ref D) H') : LcR2 g tt te vs σ Q [.int lo, .int n] H := by
  have len : ((rngI (n - lo).toNat).map (lo + ·)).length = (n - lo).toNat := by rw [List.length_map, rngI_len]
  refine ⟨lo, n, rfl, ⟨h1, h2, h3, h4⟩, lc_fil ((rngI (n - lo).toNat).map (lo + ·)) V.int keep f (by rw [len]; omega) hh ?_ ?_ ?_ (fun z hz => ?_) hd⟩
  · intro H' _
    rw [len]
    exact Nat.le_refl _
  · intro i H' hi _
    rw [len] at hi
    exact hi
  · intro i H' x H'' hi _ y
    rw [len] at hi
    exact ⟨y.1, lo + (i : Int), by rw [List.getElem?_map, rngI_get hi] <;> rfl, y.2⟩
  · obtain ⟨w, hw, rfl⟩ := List.mem_map.mp hz
    have := rngI_mem hw
    exact hs _ (by omega) (by omega)
/-- over a list -/
theorem lcL_fil (l : List α) (e : α → V) (keep : α → Bool) (f : α → V) (hh : Hold G mu H) (hl : l.length ≤ 1000000) (h : Lst G a (l.map e)) (hs : ∀ z ∈ l, LcX G mu keep f e g tt te vs σ z)
    (hd : ∀ D G' H', Ex G G' → Lst G' D ((l.filter keep).map f) → Hold G' mu H' → Q (.ref D) H') : LcL K g tt te vs σ Q (.ref a) H := by
  have at_ : ∀ {i : Nat} {x : V}, (l.map e)[i]? = some x → ∃ z, l[i]? = some z ∧ x = e z := fun {i x} hx => by
    rw [List.getElem?_map] at hx
    cases hz : l[i]? with
    | none => rw [hz] at hx; cases hx
    | some z => rw [hz] at hx; exact ⟨z, rfl, (Option.some.inj hx).symm⟩
  refine ⟨a, rfl, ⟨_, SqL.of (hh.rd h)⟩, lc_fil l e keep f hl hh (fun H' ex => ⟨_, SqL.of (h.at_ ex), by rw [List.length_map]; exact Nat.le_refl _⟩) (fun i H' hi ex => ⟨_, e l[i], SqL.of (h.at_ ex), by rw [List.getElem?_map, List.getElem?_eq_getElem hi] <;> rfl⟩) (fun i H' x H'' hi ex y => ⟨y.1, at_ (y.2 _ (SqL.of (h.at_ ex)))⟩) hs hd⟩
/-- over a tuple -/
theorem lcT_fil (l : List α) (e : α → V) (keep : α → Bool) (f : α → V) (hh : Hold G mu H) (hl : l.length ≤ 1000000) (h : Tup G a (l.map e)) (hs : ∀ z ∈ l, LcX G mu keep f e g tt te vs σ z)
    (hd : ∀ D G' H', Ex G G' → Lst G' D ((l.filter keep).map f) → Hold G' mu H' → Q (.ref D) H') : LcT K g tt te vs σ Q (.ref a) H := by
  have at_ : ∀ {i : Nat} {x : V}, (l.map e)[i]? = some x → ∃ z, l[i]? = some z ∧ x = e z := fun {i x} hx => by
    rw [List.getElem?_map] at hx
    cases hz : l[i]? with
    | none => rw [hz] at hx; cases hx
    | some z => rw [hz] at hx; exact ⟨z, rfl, (Option.some.inj hx).symm⟩
  refine ⟨a, rfl, ⟨_, SqT.of (hh.rd h)⟩, lc_fil l e keep f hl hh (fun H' ex => ⟨_, SqT.of (h.at_ ex), by rw [List.length_map]; exact Nat.le_refl _⟩) (fun i H' hi ex => ⟨_, e l[i], SqT.of (h.at_ ex), by rw [List.getElem?_map, List.getElem?_eq_getElem hi] <;> rfl⟩) (fun i H' x H'' hi ex y => ⟨y.1, at_ (y.2 _ (SqT.of (h.at_ ex)))⟩) hs hd⟩
/-- no item is kept -/
theorem flt_none {l : List α} {keep : α → Bool} {f : α → V} (h : ∀ z ∈ l, keep z = false) : (l.filter keep).map f = [] := by
  rw [List.filter_eq_nil_iff.mpr fun z hz => by rw [h z hz]; exact Bool.false_ne_true]
  rfl
theorem flt_all {l : List α} {f : α → V} : (l.filter fun _ => true).map f = l.map f := by
  rw [List.filter_eq_self.mpr fun _ _ => rfl]
/-- items that are drawn: what all bear -/
def LcS (G : Hp) (St : Mu → Prop) (Pe : V → Prop) (x : V) (g : TG) (tt : TT) (te : TE) (vs : List Nat) (σ : L2.St) : Prop :=
  ∀ (D : Addr) (acc : List V) (G' H' : Hp) (mu' : Mu) (LY : V → Hp → Prop) (LN : Hp → Prop), Ex G G' → St mu' → Hold G' ((D, .lst acc) :: mu') H' →
    (∀ y H4 G4 mu4, Pe y → St mu4 → Ex G' G4 → Hold G4 ((D, .lst acc) :: mu4) H4 → LY y H4) → (∀ H4 G4 mu4, St mu4 → Ex G' G4 → Hold G4 ((D, .lst acc) :: mu4) H4 → LN H4) →
    g x (wipe σ vs) H' fun σ2 H2 => wipe σ2 vs = wipe σ vs ∧ tt σ2 H2 fun b H3 => if b = true then te σ2 H3 LY else LN H3
theorem lcR1_st {n : Int} (St : Mu → Prop) (Pe : V → Prop) (hh : Hold G mu H) (h0 : St mu) (hn : n ≤ 1000000) (hn0 : -(2 ^ 62) ≤ n) (hs : ∀ z, 0 ≤ z → z < n → LcS G St Pe (V.int z) g tt te vs σ)
    (hd : ∀ D acc G' H' mu', acc.length ≤ n.toNat → Ex G G' → St mu' → Lst G' D acc → (∀ y ∈ acc, Pe y) → Hold G' mu' H' → Q (.ref D) H') : LcR1 g tt te vs σ Q [.int n] H := by
  refine lcR1_by hh (by omega) hn0 (fun i acc G' mu' => St mu' ∧ ∀ y ∈ acc, Pe y) ⟨h0, fun y h => by cases h⟩ ?_ ?_
  · rintro i D acc G' mu' H' hi hal ex hh' ⟨st, pe⟩
    refine hs (i : Int) (by omega) hi D acc G' H' mu' _ _ ex st hh' (fun y H4 G4 mu4 hy s4 ex4 hh4 => ?_) (fun H4 G4 mu4 s4 ex4 hh4 => ?_)
    · refine lcY hh4 (ex.trans ex4) hal (by omega) ⟨s4, fun z hz => ?_⟩
      rcases List.mem_append.mp hz with h | h
      · exact pe z h
      · rw [List.mem_singleton] at h
        rw [h]; exact hy
    · exact lcN hh4 (ex.trans ex4) hal ⟨s4, pe⟩
  · rintro D acc G' mu' H' hal ex hh' ⟨st, pe⟩
    obtain ⟨G2, ex2, h2, hh2⟩ := hh'.frzL
    exact hd D acc G2 H' mu' hal (ex.trans ex2) st h2 pe hh2
theorem lcL_st {xs : List V} (St : Mu → Prop) (Pe : V → Prop) (hh : Hold G mu H) (h0 : St mu) (hl : xs.length ≤ 1000000) (h : Lst G a xs) (hs : ∀ x ∈ xs, LcS G St Pe x g tt te vs σ)
    (hd : ∀ D acc G' H' mu', acc.length ≤ xs.length → Ex G G' → St mu' → Lst G' D acc → (∀ y ∈ acc, Pe y) → Hold G' mu' H' → Q (.ref D) H') : LcL K g tt te vs σ Q (.ref a) H := by
  refine lcL_by hh (SqL.of_ h) (fun i acc G' mu' => St mu' ∧ ∀ y ∈ acc, Pe y) ⟨h0, fun y h => by cases h⟩ ?_ ?_
  · rintro i x D acc G' mu' H' hx hal ex hh' ⟨st, pe⟩
    have hi := (List.getElem?_eq_some_iff.mp hx).1
    refine hs x (List.mem_of_getElem? hx) D acc G' H' mu' _ _ ex st hh' (fun y H4 G4 mu4 hy s4 ex4 hh4 => ?_) (fun H4 G4 mu4 s4 ex4 hh4 => ?_)
    · refine lcY hh4 (ex.trans ex4) hal (by omega) ⟨s4, fun z hz => ?_⟩
      rcases List.mem_append.mp hz with h | h
      · exact pe z h
      · rw [List.mem_singleton] at h
        rw [h]; exact hy
    · exact lcN hh4 (ex.trans ex4) hal ⟨s4, pe⟩
  · rintro D acc G' mu' H' hal ex hh' ⟨st, pe⟩
    obtain ⟨G2, ex2, h2, hh2⟩ := hh'.frzL
    exact hd D acc G2 H' mu' hal (ex.trans ex2) st h2 pe hh2
/-- a list of whole numbers, if each item is one -/
theorem allI {P : Int → Prop} : ∀ {acc : List V}, (∀ y ∈ acc, ∃ z, y = V.int z ∧ P z) → ∃ xs : List Int, acc = xs.map V.int ∧ ∀ z ∈ xs, P z
  | [], _ => ⟨[], rfl, fun z h => by cases h⟩
  | y :: r, h => by
    obtain ⟨z, rfl, hz⟩ := h y List.mem_cons_self
    obtain ⟨xs, rfl, hx⟩ := allI fun y hy => h y (List.mem_cons_of_mem _ hy)
    refine ⟨z :: xs, rfl, fun w hw => ?_⟩
    rcases List.mem_cons.mp hw with rfl | hw
    · exact hz
    · exact hx w hw
end
/-! ## Loops by an invariant that does not count -/
section
variable {K : PySem.W.Frag} {σ : L2.St} {H : Hp} {D : Ends} {g : TG} {tb : TS} {a : Addr} {xs : List V}
theorem forR1_I {n : Int} (hb : n < 2 ^ 62) (hb' : -(2 ^ 62) ≤ n) (I : L2.St → Hp → Prop) (h0 : I σ H)
    (hs : ∀ (i : Int) σ H, 0 ≤ i → i < n → I σ H → g (.int i) σ H fun σ2 H2 => tb { D with nx := I, ct := I, bk := D.nx } σ2 H2) (hd : ∀ σ H, I σ H → D.nx σ H) : ForR1 g tb D σ [.int n] H :=
  forR1_by hb hb' (fun _ => I) h0 (fun i σ H hi p => hs (i : Int) σ H (by omega) hi p) hd
theorem forT_I (I : L2.St → Hp → Prop) (e : ∀ σ H, I σ H → H a = some (.tup xs)) (h0 : I σ H)
    (hs : ∀ x σ H, x ∈ xs → I σ H → g x σ H fun σ2 H2 => tb { D with nx := I, ct := I, bk := D.nx } σ2 H2) (hd : ∀ σ H, I σ H → D.nx σ H) : ForT K g tb D σ (.ref a) H :=
  forT_by (SqT.of_ (e _ _ h0)) (fun _ => I) h0 (fun _ σ H _ p => SqT.of_ (e σ H p)) (fun i x σ H hx p => hs x σ H (List.mem_of_getElem? hx) p) hd
theorem forL_I (I : L2.St → Hp → Prop) (e : ∀ σ H, I σ H → H a = some (.lst xs)) (h0 : I σ H)
    (hs : ∀ x σ H, x ∈ xs → I σ H → g x σ H fun σ2 H2 => tb { D with nx := I, ct := I, bk := D.nx } σ2 H2) (hd : ∀ σ H, I σ H → D.nx σ H) : ForL K g tb D σ (.ref a) H :=
  forL_by (SqL.of_ (e _ _ h0)) (fun _ => I) h0 (fun _ σ H _ p => SqL.of_ (e σ H p)) (fun i x σ H hx p => hs x σ H (List.mem_of_getElem? hx) p) hd
end
end Wm
end

section
local macro_rules | `(tactic| walk_at "cls") => `(tactic| first | (with_reducible exact Wm.WeatherC.cl (by assumption)) | (with_reducible exact Wm.HeaterC.cl (by assumption)) | (with_reducible exact Wm.RoomC.cl (by assumption)) | (with_reducible exact Wm.RunC.cl (by assumption)) | (with_reducible exact Wm.HistoryC.cl (by assumption)) | (with_reducible exact Wm.ThresholdObserverC.cl (by assumption)) | (with_reducible exact Wm.SettingC.cl (by assumption)) | (with_reducible exact Wm.HourSettingC.cl (by assumption)) | (with_reducible exact Wm.RestSettingC.cl (by assumption)) | (with_reducible exact Wm.PricesC.cl (by assumption)) | (with_reducible exact Wm.MomentC.cl (by assumption)) | (with_reducible exact Wm.LiveRoomC.cl (by assumption)) | (with_reducible exact Wm.AttemptC.cl (by assumption)))
local macro_rules | `(tactic| walk_at "noattr") => `(tactic| first | (with_reducible exact Wm.WeatherC.n_pattern (by assumption)) | (with_reducible exact Wm.HeaterC.n_power (by assumption)) | (with_reducible exact Wm.HeaterC.n_below (by assumption)) | (with_reducible exact Wm.HeaterC.n_above (by assumption)) | (with_reducible exact Wm.RoomC.n_outside (by assumption)) | (with_reducible exact Wm.RoomC.n_inside (by assumption)) | (with_reducible exact Wm.RoomC.n_begin_degrees (by assumption)) | (with_reducible exact Wm.RoomC.n_past (by assumption)) | (with_reducible exact Wm.RoomC.n_repeated (by assumption)) | (with_reducible exact Wm.RoomC.n_share (by assumption)) | (with_reducible exact Wm.RoomC.n_coldest (by assumption)) | (with_reducible exact Wm.RoomC.n_warmest (by assumption)) | (with_reducible exact Wm.RunC.n_begin (by assumption)) | (with_reducible exact Wm.RunC.n_end (by assumption)) | (with_reducible exact Wm.RunC.n_degrees (by assumption)) | (with_reducible exact Wm.RunC.n_is_heating (by assumption)) | (with_reducible exact Wm.RunC.n_sums (by assumption)) | (with_reducible exact Wm.RunC.n_size (by assumption)) | (with_reducible exact Wm.RunC.n_drift (by assumption)) | (with_reducible exact Wm.HistoryC.n_shifts (by assumption)) | (with_reducible exact Wm.HistoryC.n_added (by assumption)) | (with_reducible exact Wm.HistoryC.n_floor (by assumption)) | (with_reducible exact Wm.HistoryC.n_ceiling (by assumption)) | (with_reducible exact Wm.HistoryC.n_was_heating (by assumption)) | (with_reducible exact Wm.HistoryC.n_runs (by assumption)) | (with_reducible exact Wm.HistoryC.n_loop (by assumption)) | (with_reducible exact Wm.ThresholdObserverC.n_outside (by assumption)) | (with_reducible exact Wm.ThresholdObserverC.n_power (by assumption)) | (with_reducible exact Wm.ThresholdObserverC.n_tick (by assumption)) | (with_reducible exact Wm.ThresholdObserverC.n_degrees (by assumption)) | (with_reducible exact Wm.ThresholdObserverC.n_is_heating (by assumption)) | (with_reducible exact Wm.ThresholdObserverC.n_lows (by assumption)) | (with_reducible exact Wm.ThresholdObserverC.n_highs (by assumption)) | (with_reducible exact Wm.ThresholdObserverC.n_noted (by assumption)) | (with_reducible exact Wm.SettingC.n_least (by assumption)) | (with_reducible exact Wm.SettingC.n_most (by assumption)) | (with_reducible exact Wm.HourSettingC.n_least (by assumption)) | (with_reducible exact Wm.HourSettingC.n_most (by assumption)) | (with_reducible exact Wm.HourSettingC.n_length (by assumption)) | (with_reducible exact Wm.HourSettingC.n_hours (by assumption)) | (with_reducible exact Wm.RestSettingC.n_least (by assumption)) | (with_reducible exact Wm.RestSettingC.n_most (by assumption)) | (with_reducible exact Wm.RestSettingC.n_rest (by assumption)) | (with_reducible exact Wm.PricesC.n_table (by assumption)) | (with_reducible exact Wm.MomentC.n_tick (by assumption)) | (with_reducible exact Wm.MomentC.n_heat (by assumption)) | (with_reducible exact Wm.MomentC.n_on (by assumption)) | (with_reducible exact Wm.MomentC.n_burnt (by assumption)) | (with_reducible exact Wm.MomentC.n_sky (by assumption)) | (with_reducible exact Wm.MomentC.n_stove (by assumption)) | (with_reducible exact Wm.LiveRoomC.n_moment (by assumption)) | (with_reducible exact Wm.LiveRoomC.n_earlier (by assumption)) | (with_reducible exact Wm.LiveRoomC.n_done (by assumption)) | (with_reducible exact Wm.AttemptC.n_live (by assumption)) | (with_reducible exact Wm.AttemptC.n_kept (by assumption)) | (with_reducible exact Wm.AttemptC.n_stack (by assumption)) | (with_reducible exact Wm.AttemptC.n_steps (by assumption)))
local macro_rules | `(tactic| walk_at "at") => `(tactic| first | assumption | exact Wm.Hold.rd (by assumption) (by assumption) | exact Wm.Hold.get (i := 0) (by assumption) rfl | exact Wm.Hold.get (i := 1) (by assumption) rfl | exact Wm.Hold.get (i := 2) (by assumption) rfl | exact Wm.Hold.get (i := 3) (by assumption) rfl | exact Wm.Hold.get (i := 4) (by assumption) rfl)
local macro_rules | `(tactic| walk_at "s1") => `(tactic| first
  | (with_reducible refine Wm.r_seq ?_)
  | (with_reducible refine Wm.r_op ?_)
  | ((with_reducible refine' Wm.r_var ?h ?_); (case h => rfl))
  | (with_reducible refine Wm.r_c ?_)
  | (with_reducible refine Wm.r_I0 ?_)
  | (with_reducible refine Wm.r_cons ?_)
  | (with_reducible refine Wm.r_nil ?_)
  | (with_reducible refine Wm.r_asg ?_)
  | (with_reducible refine Wm.r_gname ?_; try simp only [List.set_cons_zero, List.set_cons_succ])
  | (with_reducible refine Wm.r_nx ?_)
  | (with_reducible refine Wm.r_rt ?_)
  | (with_reducible refine Wm.r_ret ?_)
  | (with_reducible refine Wm.r_test ?_)
  | (with_reducible refine Wm.r_bl ?_)
  | (with_reducible refine Wm.r_B ?_)
  | (with_reducible refine Wm.r_eqI ?_)
  | (with_reducible refine Wm.r_neI ?_)
  | (with_reducible refine Wm.r_eqB ?_)
  | (with_reducible refine Wm.r_neB ?_)
  | (with_reducible refine Wm.r_fld ?_)
  | (with_reducible refine Wm.r_call ?_)
  | (with_reducible refine Wm.r_mtd ?_)
  | (with_reducible refine Wm.r_prp ?_)
  | (with_reducible refine Wm.r_mak ?_)
  | (with_reducible refine Wm.r_makKw ?_)
  | (with_reducible refine Wm.r_cb ?_)
  | (with_reducible refine Wm.r_tup ?_)
  | (with_reducible refine Wm.r_lst ?_)
  | (with_reducible refine Wm.r_chain ?_)
  | (with_reducible refine Wm.r_and ?_)
  | (with_reducible refine Wm.r_or ?_)
  | (with_reducible refine Wm.r_not ?_)
  | (with_reducible refine Wm.r_andV ?_)
  | (with_reducible refine Wm.r_orV ?_)
  | (with_reducible refine Wm.r_notV ?_)
  | (with_reducible refine Wm.r_if ?_)
  | (with_reducible refine Wm.r_un ?_)
  | (with_reducible refine Wm.r_U ?_)
  | (with_reducible refine Wm.r_iteT ?_)
  | (with_reducible refine Wm.r_iteF ?_)
  | (with_reducible refine Wm.r_next ?_)
  | (with_reducible refine Wm.r_drop ?_)
  | (with_reducible refine Wm.r_retN ?_)
  | ((with_reducible refine' Wm.r_aug ?h ?_); (case h => rfl))
  | (with_reducible refine Wm.r_ipI ?_)
  | (with_reducible refine Wm.r_par2 ?_)
  | (with_reducible refine Wm.r_two ?_; try simp only [List.set_cons_zero, List.set_cons_succ])
  | (with_reducible refine Wm.r_yes ?_)
  | (with_reducible refine Wm.r_forET ?_)
  | (with_reducible refine Wm.r_chain3 ?_)
  | (with_reducible refine Wm.r_nT ?_)
  | (with_reducible refine Wm.r_nF ?_)
  | (with_reducible refine Wm.r_par3 ?_)
  | (with_reducible refine Wm.r_seenPut ?_)
  | (with_reducible refine Wm.r_seenGet ?_)
  | (with_reducible refine Wm.r_three ?_; try simp only [List.set_cons_zero, List.set_cons_succ])
  | (with_reducible refine Wm.r_sl ?_)
  | (with_reducible refine Wm.r_nopart ?_)
  | (with_reducible refine Wm.r_part ?_)
  | (with_reducible refine Wm.r_xi ?_)
  | (with_reducible refine Wm.r_gcons ?_)
  | (with_reducible refine Wm.r_gnil ?_)
  | (with_reducible refine Wm.r_sub ?_)
  | (with_reducible refine Wm.r_setF ?_)
  | (with_reducible refine Wm.r_app ?_)
  | (with_reducible refine Wm.int_i ?_)
  | (with_reducible refine Wm.int_b ?_)
  | (with_reducible refine Wm.min2 ?_)
  | (with_reducible refine Wm.max2 ?_)
  | (with_reducible refine Wm.abs1 ?_)
  | (with_reducible refine Wm.isN ?_)
  | (with_reducible refine Wm.notN ?_)
  | ((with_reducible refine' Wm.r_ty ?e ?_); (case e => walk_at "at"))
  | ((with_reducible refine' Wm.setF_m ?h 0 ?e ?c ?a ?l ?_); (case h => assumption); (case e => rfl); (case c => walk_at "cls"); (case a => walk_at "noattr"); (case l => exact of_decide_eq_true rfl); intro H1 hh1; simp only [List.set_cons_zero, List.set_cons_succ] at hh1)
  | ((with_reducible refine' Wm.setF_m ?h 1 ?e ?c ?a ?l ?_); (case h => assumption); (case e => rfl); (case c => walk_at "cls"); (case a => walk_at "noattr"); (case l => exact of_decide_eq_true rfl); intro H1 hh1; simp only [List.set_cons_zero, List.set_cons_succ] at hh1)
  | ((with_reducible refine' Wm.setF_m ?h 2 ?e ?c ?a ?l ?_); (case h => assumption); (case e => rfl); (case c => walk_at "cls"); (case a => walk_at "noattr"); (case l => exact of_decide_eq_true rfl); intro H1 hh1; simp only [List.set_cons_zero, List.set_cons_succ] at hh1)
  | ((with_reducible refine' Wm.setF_m ?h 3 ?e ?c ?a ?l ?_); (case h => assumption); (case e => rfl); (case c => walk_at "cls"); (case a => walk_at "noattr"); (case l => exact of_decide_eq_true rfl); intro H1 hh1; simp only [List.set_cons_zero, List.set_cons_succ] at hh1)
  | (with_reducible refine Wm.r_forL ?_)
  | (with_reducible refine Wm.r_forT ?_)
  | (with_reducible refine Wm.r_forR1 ?_)
  | (with_reducible refine Wm.r_forR2 ?_)
  | (with_reducible refine Wm.r_forR3 ?_)
  | (with_reducible refine Wm.r_lcL ?_)
  | (with_reducible refine Wm.r_lcT ?_)
  | (with_reducible refine Wm.r_lcR1 ?_)
  | (with_reducible refine Wm.r_lcR2 ?_)
  | ((with_reducible refine' Wm.fld_h ?e ?c ?n ?l ?_); (case e => walk_at "at"); (case c => walk_at "cls"); (case n => walk_at "noattr"); (case l => rfl))
  | ((with_reducible refine' Wm.mtd_h ?e ?l ?_); (case e => walk_at "at"); (case l => rfl))
  | ((with_reducible refine' Wm.prp_h ?e ?_); (case e => walk_at "at"))
  | ((with_reducible refine' Wm.rix_ht ?a ?b ?_); (case a => walk_at "at"); (case b => rfl))
  | ((with_reducible refine' Wm.rix_h ?a ?b ?_); (case a => walk_at "at"); (case b => rfl))
  | ((with_reducible refine' Wm.len_ht ?a ?_); (case a => walk_at "at"))
  | ((with_reducible refine' Wm.len_h ?a ?_); (case a => walk_at "at"))
  | ((with_reducible refine' Wm.len_l ?a ?b ?_); (case a => assumption); (case b => assumption))
  | ((with_reducible refine' Wm.len_t ?a ?b ?_); (case a => assumption); (case b => assumption))
  | ((with_reducible refine' Wm.gtup_h ?a ?b ?_); (case a => walk_at "at"); (case b => rfl))
  | (with_reducible refine Wm.r_I (Wm.cmulR (by decide)) ?_)
  | (with_reducible refine Wm.r_I (Wm.cmulL (by decide)) ?_)
  | (with_reducible refine Wm.r_I (Wm.cdiv (by decide) (by decide)) ?_)
  | (with_reducible refine Wm.r_I Wm.cpow18 ?_)
  | (with_reducible refine Wm.r_I Wm.cpow12 ?_)
  | (with_reducible refine Wm.r_I (by show (0 : Int) < _; decide) ?_))
local macro_rules | `(tactic| walk_at "s") => `(tactic| repeat (first | walk_at "s1" | (with_reducible refine Wm.r_ifS ?_)))
local macro_rules | `(tactic| walk_at "t") => `(tactic| repeat (walk_at "s1"))
local macro_rules | `(tactic| walk_at "sz") => `(tactic| exact of_decide_eq_true rfl)
local macro_rules | `(tactic| walk_at "d") => `(tactic| first | (with_reducible refine Wm.r_dT (by omega) ?_) | (with_reducible refine Wm.r_dF (by omega) ?_) | (with_reducible refine Wm.r_dN (by omega) ?_) | (with_reducible refine Wm.r_dM (by omega) ?_))
local macro_rules | `(tactic| walk_at "sd") => `(tactic| repeat (first | walk_at "s1" | (with_reducible refine Wm.r_ifS ?_) | walk_at "d"))
local macro_rules | `(tactic| walk_at "ex") => `(tactic| first
  | assumption
  | exact Wm.Ex.refl _
  | (refine Wm.Ex.trans ?_ (by assumption); walk_at "ex")
  | (refine Wm.Ex.trans ?_ (Wm.Hold.ex (by assumption)); walk_at "ex"))
local macro_rules | `(tactic| walk_at "room") => `(tactic| first
  | assumption
  | (refine' Wm.IsRoom.up ?e ?h; (case h => assumption); (case e => walk_at "ex")))
local macro_rules | `(tactic| walk_at "opt") => `(tactic| first
  | assumption
  | (refine' Wm.OptAt.up ?e ?h; (case h => assumption); (case e => walk_at "ex")))
local macro_rules | `(tactic| walk_at "lst") => `(tactic| first
  | assumption
  | (refine' Wm.Lst.at_ ?h ?e; (case h => assumption); (case e => walk_at "ex"))
  | exact Wm.Hold.get (i := 0) (by assumption) rfl | exact Wm.Hold.get (i := 1) (by assumption) rfl | exact Wm.Hold.get (i := 2) (by assumption) rfl | exact Wm.Hold.get (i := 3) (by assumption) rfl | exact Wm.Hold.get (i := 4) (by assumption) rfl)
local macro_rules | `(tactic| walk_at "tup") => `(tactic| first
  | assumption
  | (refine' Wm.Tup.at_ ?h ?e; (case h => assumption); (case e => walk_at "ex")))
local macro_rules | `(tactic| walk_at "p1") => `(tactic| first
  | (with_reducible refine Wm.r_p18 ?_) | (with_reducible refine Wm.r_p12 ?_) | (with_reducible refine Wm.r_p17 ?_) | (with_reducible refine Wm.r_p15 ?_) | (with_reducible refine Wm.r_p11 ?_) | (with_reducible refine Wm.r_p6 ?_) | (with_reducible refine Wm.r_p5 ?_) | (with_reducible refine Wm.r_p4 ?_) | (with_reducible refine Wm.r_p9 ?_) | (with_reducible refine Wm.r_p13 ?_) | (with_reducible refine Wm.r_p20 ?_) | (with_reducible refine Wm.r_p30 ?_) | (with_reducible refine Wm.r_p16 ?_))
local macro_rules | `(tactic| walk_at "w2") => `(tactic| first
  | ((with_reducible refine' Wm.r_wp ?h ?_); (case h => rfl))
  | ((with_reducible refine' Wm.ap_mtd ?ir ?hl ?_); (case ir => walk_at "room"); (case hl => intros; rfl))
  | ((with_reducible refine' Wm.ap_prp ?ir ?_); (case ir => walk_at "room"))
  | ((with_reducible refine' Wm.ap_temp ?hh ?ir ?t0 ?t1 ?_); (case hh => assumption); (case ir => walk_at "room"); (case t0 => omega); (case t1 => omega); intro H1 hh1)
  | ((with_reducible refine' Wm.ap_on ?hh ?ir ?t0 ?t1 ?_); (case hh => assumption); (case ir => walk_at "room"); (case t0 => omega); (case t1 => omega); intro H1 hh1)
  | ((with_reducible refine' Wm.ap_heats ?hh ?ir ?t0 ?t1 ?_); (case hh => assumption); (case ir => walk_at "room"); (case t0 => omega); (case t1 => omega); intro H1 hh1)
  | ((with_reducible refine' Wm.ap_sws ?hh ?ir ?t0 ?t1 ?_); (case hh => assumption); (case ir => walk_at "room"); (case t0 => omega); (case t1 => omega); intro H1 hh1)
  | ((with_reducible refine' Wm.rix_ht ?a ?b ?_); (case a => walk_at "tup"); (case b => rfl))
  | ((with_reducible refine' Wm.rix_h ?a ?b ?_); (case a => walk_at "lst"); (case b => rfl))
  | ((with_reducible refine' Wm.len_ht ?a ?_); (case a => walk_at "tup"))
  | ((with_reducible refine' Wm.len_h ?a ?_); (case a => walk_at "lst"))
  | ((with_reducible refine' Wm.gtup_h ?a ?b ?_); (case a => walk_at "tup"); (case b => rfl))
  | ((with_reducible refine' Wm.r_I (Wm.cmulL ?h) ?_); (case h => omega))
  | ((with_reducible refine' Wm.r_I (Wm.cmulR ?h) ?_); (case h => omega))
  | ((with_reducible refine' Wm.r_I (Wm.cdiv ?h ?h2) ?_); (case h => omega); (case h2 => omega))
  | ((with_reducible refine' Wm.r_mod ?h ?_); (case h => omega))
  | ((with_reducible refine' Wm.tup_N ?hP ?hh ?_); (case hP => walk_at "sz"); (case hh => assumption); intro p G1 H1 ex1 tp hh1))
local macro_rules | `(tactic| walk_at "w1") => `(tactic| first | walk_at "p1" | walk_at "s1" | walk_at "w2")
local macro_rules | `(tactic| walk_at "w") => `(tactic| repeat (first | walk_at "w1" | (with_reducible refine Wm.r_ifS ?_)))
local macro_rules | `(tactic| walk_at "wl") => `(tactic| ((with_reducible refine' Wm.lst_N ?hP ?hh ?_); (case hP => walk_at "sz"); (case hh => assumption); intro p G1 H1 ex1 tp hh1))
local macro_rules | `(tactic| walk_at "wd") => `(tactic| repeat (first | walk_at "w1" | (with_reducible refine Wm.r_ifS ?_) | walk_at "d" | walk_at "wl"))
local macro_rules | `(tactic| walk_at "v") => `(tactic| repeat (walk_at "w1"))
namespace Wm
open PySem PySem.Spec PyProof.Rows L2 StX
/-! ## Later weather, moved heaters -/
def rotW (ch : List Int) (t : Int) : List Int := ch.drop (t % ch.length).toNat ++ ch.take (t % ch.length).toNat
theorem rotW_len (ch : List Int) (t : Int) (h : 0 < ch.length) : (rotW ch t).length = ch.length := by
  have := Int.emod_lt_of_pos t (show (0 : Int) < ch.length by omega)
  have := Int.emod_nonneg t (show (ch.length : Int) ≠ 0 by omega)
  unfold rotW
  rw [List.length_append, List.length_drop, List.length_take]
  omega
theorem rotW_ok {ch : List Int} (h : WOk ch) (t : Int) : WOk (rotW ch t) := by
  obtain ⟨a, b, c⟩ := h
  refine ⟨by rw [rotW_len ch t a]; exact a, by rw [rotW_len ch t a]; exact b, fun x hx => ?_⟩
  unfold rotW at hx
  rcases List.mem_append.mp hx with h | h
  · exact c x (List.mem_of_mem_drop h)
  · exact c x (List.mem_of_mem_take h)
def sp_Weather_later (K : PySem.W.Frag) (A : Ads) : Sp := fun vs H Q _ => ∃ (p wt : Addr) (t : Int) (ch : List Int) (G : Hp) (mu : Mu), vs = [.ref p, .int t] ∧ Hold G mu H ∧ IsWeather K A G p wt ch ∧ 0 ≤ t ∧ t ≤ 10 ^ 18 ∧
  ∀ (q qt : Addr) (G' H' : Hp), Ex G G' → IsWeather K A G' q qt (rotW ch t) → Hold G' mu H' → Q (.ref q) H'
def sp_Heater_moved (K : PySem.W.Frag) (A : Ads) : Sp := fun vs H Q _ => ∃ (p : Addr) (d g lo hi : Int) (G : Hp) (mu : Mu), vs = [.ref p, .int d] ∧ Hold G mu H ∧ IsHeater K A G p g lo hi ∧ HtOk g (lo + d) (hi + d) ∧
  ∀ (q : Addr) (G' H' : Hp), Ex G G' → IsHeater K A G' q g (lo + d) (hi + d) → Hold G' mu H' → Q (.ref q) H'
def t_Weather_later (K : PySem.W.Frag) (A : Ads) : TS := tSeq (tDrop (tCal (sp_validate_number K A) E0 (tCons (tVar 1) (tCons (tC (.int 0)) (tCons (tC (.int 1000000000000000000)) (tNil)))))) (tSeq (tAsg (tOp (rI (fun _ j => 0 < j) fun i j => .int (i % j)) (tCB rInt (tCons (tVar 1) (tNil))) (tCB (rLen K) (tCons (tFld K (tVar 0) "pattern") (tNil)))) (gName 2)) (tSeq (tAsg (tOp (rCatA K) (tSl (rSlA K) (tFld K (tVar 0) "pattern") (tPart (tVar 2)) (tNoPart)) (tSl (rSlA K) (tFld K (tVar 0) "pattern") (tNoPart) (tPart (tVar 2)))) (gName 3)) (tRet (tMakS K A.cWeather (sp_Weather_init K A) E0 (tVar 3)))))
def t_Heater_moved (K : PySem.W.Frag) (A : Ads) : TS := tRet (tMak A.cHeater (sp_Heater_init K A) E0 (tCons (tFld K (tVar 0) "power") (tCons (tOp (rI0 fun i j => .int (i + j)) (tFld K (tVar 0) "below") (tVar 1)) (tCons (tOp (rI0 fun i j => .int (i + j)) (tFld K (tVar 0) "above") (tVar 1)) (tNil)))))
section
variable {K : PySem.W.Frag} {A : Ads} {G H : Hp} {mu : Mu} {Q : VK} {E : XK} {p q w wt h : Addr} {R : RoomD} {t d g lo hi st : Int} {ch : List Int} {on : Bool} {xs : List V}
theorem pure_Heater_moved (vs : List V) (H : Hp) (Q : VK) (E : XK) (h : sp_Heater_moved K A vs H Q E) : t_Heater_moved K A { nx := fun _ H' => Q .non H', rt := Q } (start ["self", "degrees"] vs) H := by
  obtain ⟨p, d, g, lo, hi, G, mu, rfl, hh, ih, hok, k⟩ := h
  obtain ⟨HC, _, dx, h1⟩ := id ih
  show t_Heater_moved K A _ [some (.ref p), some (.int d)] H
  unfold t_Heater_moved
  walk_at "w"
  refine make_m hh fun x dx H2 hh2 => ⟨x, dx, _, _, _, G, mu, rfl, HC, hok, hh2, fun G3 H3 ex3 ih3 hh3 => ⟨rfl, ?_⟩⟩
  exact k x G3 H3 ex3 ih3 hh3
/-- C(*t) -/
theorem weatherS (hh : Hold G mu H) (WC : WeatherC K A.cWeather) (wok : WOk ch) (ht : Tup G p (ch.map V.int)) (k : ∀ (q qt : Addr) (G' H' : Hp), Ex G G' → IsWeather K A G' q qt ch → Hold G' mu H' → Q (.ref q) H') :
    ∃ a xs, V.ref p = V.ref a ∧ (SqT K H a xs ∨ SqL K H a xs) ∧ ∀ x dx, H x = none → H dx = none → dx ≠ x → sp_Weather_init K A (V.ref x :: xs) (upd (upd H dx (.own x)) x (.ins A.cWeather dx [])) (fun v H2 => v = .non ∧ Q (.ref x) H2) E := by
  refine ⟨p, ch.map V.int, rfl, .inl (hh.tup (SqT.of_ ht)), fun x dx hx hd hne => ?_⟩
  have hh2 : Hold G ((x, .ins A.cWeather dx []) :: mu) (upd (upd H dx (.own x)) x (.ins A.cWeather dx [])) := (hh.newg (o := .own x) hd).newm (by rw [upd_ne (Ne.symm hne)]; exact hx)
  refine ⟨[V.ref x], ch.map V.int, rfl, rfl, sz (by rw [List.length_map]; have := wok.2.1; omega), fun r hr => ?_⟩
  refine ⟨x, dx, r, ch, _, mu, rfl, WC, wok, hh2.new hr, upd_same, fun G' H' ex iw hh' => ⟨rfl, k x r G' H' ?_ iw hh'⟩⟩
  exact (Ex.new (hh2.g_none hr)).trans ex
end
section
variable {K : PySem.W.Frag} {A : Ads}
theorem pure_Weather_later (vs : List V) (H : Hp) (Q : VK) (E : XK) (h : sp_Weather_later K A vs H Q E) : t_Weather_later K A { nx := fun _ H' => Q .non H', rt := Q } (start ["self", "ticks", "rest", "changes"] vs) H := by
  obtain ⟨p, wt, t, ch, G, mu, rfl, hh, iw, t0, t1, k⟩ := h
  obtain ⟨WC, wok, dx, h1, h2⟩ := id iw
  have hpos := wok.1
  have h24 := wok.2.1
  have ht : Tup G wt (ch.map V.int) := h2
  show t_Weather_later K A _ [some (.ref p), some (.int t), none, none] H
  unfold t_Weather_later
  walk_at "w"
  refine ⟨t, 0, 10 ^ 18, rfl, t0, t1, ?_⟩
  walk_at "w"
  rw [List.length_map]
  walk_at "w"
  have m0 := Int.emod_nonneg t (show (ch.length : Int) ≠ 0 by omega)
  have m1 := Int.emod_lt_of_pos t (show (0 : Int) < ch.length by omega)
  have em : t % (ch.length : Int) = ((t % (ch.length : Int)).toNat : Nat) := by omega
  refine slT_N hh ht fun q1 G1 H1 ex1 hq1 hh1 => ?_
  have h11 := ex1 _ _ h1
  walk_at "w"
  refine slT_N hh1 (ht.up ex1) fun q2 G2 H2 ex2 hq2 hh2 => ?_
  rw [cut_from _ em (by rw [List.length_map]; omega)] at hq1
  rw [cut_to _ em (by rw [List.length_map]; omega)] at hq2
  refine catT_N hh2 (hq1.up ex2) hq2 (by rw [List.length_drop, List.length_take, List.length_map]; omega) fun q3 G3 H3 ex3 hq3 hh3 => ?_
  have e3 : (ch.map V.int).drop (t % (ch.length : Int)).toNat ++ (ch.map V.int).take (t % (ch.length : Int)).toNat = (rotW ch t).map V.int := by
    unfold rotW
    rw [List.map_append, List.map_drop, List.map_take]
  rw [e3] at hq3
  walk_at "w"
  refine ⟨_, rfl, ?_⟩
  exact weatherS hh3 WC (rotW_ok wok t) hq3 fun q qt G' H' ex iw hh' => k q qt G' H' (ex1.trans (ex2.trans (ex3.trans ex))) iw hh'
end
section
variable {K : PySem.W.Frag} {A : Ads} {G H : Hp} {mu : Mu} {Q : VK} {E : XK} {σ : L2.St} {p q w wt h : Addr} {R : RoomD} {t d g lo hi st : Int} {ch : List Int} {on : Bool} {tr : TA}
/-- Room(w, h, st, on=on) -/
theorem ap_newRoom (T : RoomCs K A) (hh : Hold G mu H) (iw : IsWeather K A G w wt ch) (ih : IsHeater K A G h g lo hi) (s1 : -(10 ^ 12) ≤ st) (s2 : st ≤ 10 ^ 12)
    (k : ∀ (p : Addr) (R : RoomD) (G' H' : Hp), Ex G G' → IsRoom K A G' p R → R.P = ⟨ch, g, lo, hi, st, on⟩ → Hold G' mu H' → Q (.ref p) H') : rMakKw A.cRoom 3 1 (sp_Room_init K A) E [.ref w, .ref h, .int st] [.bl on] H Q := by
  refine makeKw_m hh rfl rfl fun p dp H4 hh4 => ?_
  exact ⟨p, dp, w, wt, h, ⟨ch, g, lo, hi, st, on⟩, G, mu, rfl, T.r, T.p, T.u, iw, ih, s1, s2, hh4, fun rs loop pa G5 H5 ex5 ir hh5 => ⟨rfl, k p _ G5 H5 ex5 ir rfl hh5⟩⟩
theorem ap_weather (ir : IsRoom K A H p R) (k : Q (.ref R.w) H) : sp_Room_weather K A [.ref p] H Q E := ⟨p, R, rfl, ir, k⟩
theorem ap_heater (ir : IsRoom K A H p R) (k : Q (.ref R.h) H) : sp_Room_heater K A [.ref p] H Q E := ⟨p, R, rfl, ir, k⟩
theorem ap_startR (ir : IsRoom K A H p R) (k : Q (.int R.P.start) H) : sp_Room_start K A [.ref p] H Q E := ⟨p, R, rfl, ir, k⟩
theorem ap_mtdW {m : Str} {sp : Sp} (iw : IsWeather K A H w wt ch) (hl : ∀ a : Addr, (([("pattern", .ref a)] : List (Str × V)).lookup m) = none) (k : tr σ H fun vs H2 => sp (.ref w :: vs) H2 Q E) : rMtd A.cWeather m sp E tr σ (.ref w) H Q := by
  obtain ⟨_, _, dx, h1, _⟩ := iw
  exact ⟨w, dx, _, rfl, h1, hl _, k⟩
theorem ap_prpW {sp : Sp} (iw : IsWeather K A H w wt ch) (k : sp [.ref w] H Q E) : rPrp A.cWeather sp E (.ref w) H Q := by
  obtain ⟨_, _, dx, h1, _⟩ := iw
  exact ⟨w, dx, _, rfl, h1, k⟩
theorem ap_mtdH {m : Str} {sp : Sp} (ih : IsHeater K A H h g lo hi) (hl : ∀ a b c : Int, (([("power", .int a), ("below", .int b), ("above", .int c)] : List (Str × V)).lookup m) = none) (k : tr σ H fun vs H2 => sp (.ref h :: vs) H2 Q E) : rMtd A.cHeater m sp E tr σ (.ref h) H Q := by
  obtain ⟨_, _, dx, h1⟩ := ih
  exact ⟨h, dx, _, rfl, h1, hl _ _ _, k⟩
theorem ap_prpH {sp : Sp} (ih : IsHeater K A H h g lo hi) (k : sp [.ref h] H Q E) : rPrp A.cHeater sp E (.ref h) H Q := by
  obtain ⟨_, _, dx, h1⟩ := ih
  exact ⟨h, dx, _, rfl, h1, k⟩
theorem ap_later (hh : Hold G mu H) (iw : IsWeather K A G w wt ch) (t0 : 0 ≤ t) (t1 : t ≤ 10 ^ 18) (k : ∀ (q qt : Addr) (G' H' : Hp), Ex G G' → IsWeather K A G' q qt (rotW ch t) → Hold G' mu H' → Q (.ref q) H') : sp_Weather_later K A [.ref w, .int t] H Q E :=
  ⟨w, wt, t, ch, G, mu, rfl, hh, iw, t0, t1, k⟩
theorem ap_moved (hh : Hold G mu H) (ih : IsHeater K A G h g lo hi) (ok : HtOk g (lo + d) (hi + d)) (k : ∀ (q : Addr) (G' H' : Hp), Ex G G' → IsHeater K A G' q g (lo + d) (hi + d) → Hold G' mu H' → Q (.ref q) H') : sp_Heater_moved K A [.ref h, .int d] H Q E :=
  ⟨h, d, g, lo, hi, G, mu, rfl, hh, ih, ok, k⟩
end
end Wm
end

section
local macro_rules | `(tactic| walk_at "cls") => `(tactic| first | (with_reducible exact Wm.WeatherC.cl (by assumption)) | (with_reducible exact Wm.HeaterC.cl (by assumption)) | (with_reducible exact Wm.RoomC.cl (by assumption)) | (with_reducible exact Wm.RunC.cl (by assumption)) | (with_reducible exact Wm.HistoryC.cl (by assumption)) | (with_reducible exact Wm.ThresholdObserverC.cl (by assumption)) | (with_reducible exact Wm.SettingC.cl (by assumption)) | (with_reducible exact Wm.HourSettingC.cl (by assumption)) | (with_reducible exact Wm.RestSettingC.cl (by assumption)) | (with_reducible exact Wm.PricesC.cl (by assumption)) | (with_reducible exact Wm.MomentC.cl (by assumption)) | (with_reducible exact Wm.LiveRoomC.cl (by assumption)) | (with_reducible exact Wm.AttemptC.cl (by assumption)))
local macro_rules | `(tactic| walk_at "noattr") => `(tactic| first | (with_reducible exact Wm.WeatherC.n_pattern (by assumption)) | (with_reducible exact Wm.HeaterC.n_power (by assumption)) | (with_reducible exact Wm.HeaterC.n_below (by assumption)) | (with_reducible exact Wm.HeaterC.n_above (by assumption)) | (with_reducible exact Wm.RoomC.n_outside (by assumption)) | (with_reducible exact Wm.RoomC.n_inside (by assumption)) | (with_reducible exact Wm.RoomC.n_begin_degrees (by assumption)) | (with_reducible exact Wm.RoomC.n_past (by assumption)) | (with_reducible exact Wm.RoomC.n_repeated (by assumption)) | (with_reducible exact Wm.RoomC.n_share (by assumption)) | (with_reducible exact Wm.RoomC.n_coldest (by assumption)) | (with_reducible exact Wm.RoomC.n_warmest (by assumption)) | (with_reducible exact Wm.RunC.n_begin (by assumption)) | (with_reducible exact Wm.RunC.n_end (by assumption)) | (with_reducible exact Wm.RunC.n_degrees (by assumption)) | (with_reducible exact Wm.RunC.n_is_heating (by assumption)) | (with_reducible exact Wm.RunC.n_sums (by assumption)) | (with_reducible exact Wm.RunC.n_size (by assumption)) | (with_reducible exact Wm.RunC.n_drift (by assumption)) | (with_reducible exact Wm.HistoryC.n_shifts (by assumption)) | (with_reducible exact Wm.HistoryC.n_added (by assumption)) | (with_reducible exact Wm.HistoryC.n_floor (by assumption)) | (with_reducible exact Wm.HistoryC.n_ceiling (by assumption)) | (with_reducible exact Wm.HistoryC.n_was_heating (by assumption)) | (with_reducible exact Wm.HistoryC.n_runs (by assumption)) | (with_reducible exact Wm.HistoryC.n_loop (by assumption)) | (with_reducible exact Wm.ThresholdObserverC.n_outside (by assumption)) | (with_reducible exact Wm.ThresholdObserverC.n_power (by assumption)) | (with_reducible exact Wm.ThresholdObserverC.n_tick (by assumption)) | (with_reducible exact Wm.ThresholdObserverC.n_degrees (by assumption)) | (with_reducible exact Wm.ThresholdObserverC.n_is_heating (by assumption)) | (with_reducible exact Wm.ThresholdObserverC.n_lows (by assumption)) | (with_reducible exact Wm.ThresholdObserverC.n_highs (by assumption)) | (with_reducible exact Wm.ThresholdObserverC.n_noted (by assumption)) | (with_reducible exact Wm.SettingC.n_least (by assumption)) | (with_reducible exact Wm.SettingC.n_most (by assumption)) | (with_reducible exact Wm.HourSettingC.n_least (by assumption)) | (with_reducible exact Wm.HourSettingC.n_most (by assumption)) | (with_reducible exact Wm.HourSettingC.n_length (by assumption)) | (with_reducible exact Wm.HourSettingC.n_hours (by assumption)) | (with_reducible exact Wm.RestSettingC.n_least (by assumption)) | (with_reducible exact Wm.RestSettingC.n_most (by assumption)) | (with_reducible exact Wm.RestSettingC.n_rest (by assumption)) | (with_reducible exact Wm.PricesC.n_table (by assumption)) | (with_reducible exact Wm.MomentC.n_tick (by assumption)) | (with_reducible exact Wm.MomentC.n_heat (by assumption)) | (with_reducible exact Wm.MomentC.n_on (by assumption)) | (with_reducible exact Wm.MomentC.n_burnt (by assumption)) | (with_reducible exact Wm.MomentC.n_sky (by assumption)) | (with_reducible exact Wm.MomentC.n_stove (by assumption)) | (with_reducible exact Wm.LiveRoomC.n_moment (by assumption)) | (with_reducible exact Wm.LiveRoomC.n_earlier (by assumption)) | (with_reducible exact Wm.LiveRoomC.n_done (by assumption)) | (with_reducible exact Wm.AttemptC.n_live (by assumption)) | (with_reducible exact Wm.AttemptC.n_kept (by assumption)) | (with_reducible exact Wm.AttemptC.n_stack (by assumption)) | (with_reducible exact Wm.AttemptC.n_steps (by assumption)))
local macro_rules | `(tactic| walk_at "at") => `(tactic| first | assumption | exact Wm.Hold.rd (by assumption) (by assumption) | exact Wm.Hold.get (i := 0) (by assumption) rfl | exact Wm.Hold.get (i := 1) (by assumption) rfl | exact Wm.Hold.get (i := 2) (by assumption) rfl | exact Wm.Hold.get (i := 3) (by assumption) rfl | exact Wm.Hold.get (i := 4) (by assumption) rfl)
local macro_rules | `(tactic| walk_at "s1") => `(tactic| first
  | (with_reducible refine Wm.r_seq ?_)
  | (with_reducible refine Wm.r_op ?_)
  | ((with_reducible refine' Wm.r_var ?h ?_); (case h => rfl))
  | (with_reducible refine Wm.r_c ?_)
  | (with_reducible refine Wm.r_I0 ?_)
  | (with_reducible refine Wm.r_cons ?_)
  | (with_reducible refine Wm.r_nil ?_)
  | (with_reducible refine Wm.r_asg ?_)
  | (with_reducible refine Wm.r_gname ?_; try simp only [List.set_cons_zero, List.set_cons_succ])
  | (with_reducible refine Wm.r_nx ?_)
  | (with_reducible refine Wm.r_rt ?_)
  | (with_reducible refine Wm.r_ret ?_)
  | (with_reducible refine Wm.r_test ?_)
  | (with_reducible refine Wm.r_bl ?_)
  | (with_reducible refine Wm.r_B ?_)
  | (with_reducible refine Wm.r_eqI ?_)
  | (with_reducible refine Wm.r_neI ?_)
  | (with_reducible refine Wm.r_eqB ?_)
  | (with_reducible refine Wm.r_neB ?_)
  | (with_reducible refine Wm.r_fld ?_)
  | (with_reducible refine Wm.r_call ?_)
  | (with_reducible refine Wm.r_mtd ?_)
  | (with_reducible refine Wm.r_prp ?_)
  | (with_reducible refine Wm.r_mak ?_)
  | (with_reducible refine Wm.r_makKw ?_)
  | (with_reducible refine Wm.r_cb ?_)
  | (with_reducible refine Wm.r_tup ?_)
  | (with_reducible refine Wm.r_lst ?_)
  | (with_reducible refine Wm.r_chain ?_)
  | (with_reducible refine Wm.r_and ?_)
  | (with_reducible refine Wm.r_or ?_)
  | (with_reducible refine Wm.r_not ?_)
  | (with_reducible refine Wm.r_andV ?_)
  | (with_reducible refine Wm.r_orV ?_)
  | (with_reducible refine Wm.r_notV ?_)
  | (with_reducible refine Wm.r_if ?_)
  | (with_reducible refine Wm.r_un ?_)
  | (with_reducible refine Wm.r_U ?_)
  | (with_reducible refine Wm.r_iteT ?_)
  | (with_reducible refine Wm.r_iteF ?_)
  | (with_reducible refine Wm.r_next ?_)
  | (with_reducible refine Wm.r_drop ?_)
  | (with_reducible refine Wm.r_retN ?_)
  | ((with_reducible refine' Wm.r_aug ?h ?_); (case h => rfl))
  | (with_reducible refine Wm.r_ipI ?_)
  | (with_reducible refine Wm.r_par2 ?_)
  | (with_reducible refine Wm.r_two ?_; try simp only [List.set_cons_zero, List.set_cons_succ])
  | (with_reducible refine Wm.r_yes ?_)
  | (with_reducible refine Wm.r_forET ?_)
  | (with_reducible refine Wm.r_chain3 ?_)
  | (with_reducible refine Wm.r_nT ?_)
  | (with_reducible refine Wm.r_nF ?_)
  | (with_reducible refine Wm.r_par3 ?_)
  | (with_reducible refine Wm.r_seenPut ?_)
  | (with_reducible refine Wm.r_seenGet ?_)
  | (with_reducible refine Wm.r_three ?_; try simp only [List.set_cons_zero, List.set_cons_succ])
  | (with_reducible refine Wm.r_sl ?_)
  | (with_reducible refine Wm.r_nopart ?_)
  | (with_reducible refine Wm.r_part ?_)
  | (with_reducible refine Wm.r_xi ?_)
  | (with_reducible refine Wm.r_gcons ?_)
  | (with_reducible refine Wm.r_gnil ?_)
  | (with_reducible refine Wm.r_sub ?_)
  | (with_reducible refine Wm.r_setF ?_)
  | (with_reducible refine Wm.r_app ?_)
  | (with_reducible refine Wm.int_i ?_)
  | (with_reducible refine Wm.int_b ?_)
  | (with_reducible refine Wm.min2 ?_)
  | (with_reducible refine Wm.max2 ?_)
  | (with_reducible refine Wm.abs1 ?_)
  | (with_reducible refine Wm.isN ?_)
  | (with_reducible refine Wm.notN ?_)
  | ((with_reducible refine' Wm.r_ty ?e ?_); (case e => walk_at "at"))
  | ((with_reducible refine' Wm.setF_m ?h 0 ?e ?c ?a ?l ?_); (case h => assumption); (case e => rfl); (case c => walk_at "cls"); (case a => walk_at "noattr"); (case l => exact of_decide_eq_true rfl); intro H1 hh1; simp only [List.set_cons_zero, List.set_cons_succ] at hh1)
  | ((with_reducible refine' Wm.setF_m ?h 1 ?e ?c ?a ?l ?_); (case h => assumption); (case e => rfl); (case c => walk_at "cls"); (case a => walk_at "noattr"); (case l => exact of_decide_eq_true rfl); intro H1 hh1; simp only [List.set_cons_zero, List.set_cons_succ] at hh1)
  | ((with_reducible refine' Wm.setF_m ?h 2 ?e ?c ?a ?l ?_); (case h => assumption); (case e => rfl); (case c => walk_at "cls"); (case a => walk_at "noattr"); (case l => exact of_decide_eq_true rfl); intro H1 hh1; simp only [List.set_cons_zero, List.set_cons_succ] at hh1)
  | ((with_reducible refine' Wm.setF_m ?h 3 ?e ?c ?a ?l ?_); (case h => assumption); (case e => rfl); (case c => walk_at "cls"); (case a => walk_at "noattr"); (case l => exact of_decide_eq_true rfl); intro H1 hh1; simp only [List.set_cons_zero, List.set_cons_succ] at hh1)
  | (with_reducible refine Wm.r_forL ?_)
  | (with_reducible refine Wm.r_forT ?_)
  | (with_reducible refine Wm.r_forR1 ?_)
  | (with_reducible refine Wm.r_forR2 ?_)
  | (with_reducible refine Wm.r_forR3 ?_)
  | (with_reducible refine Wm.r_lcL ?_)
  | (with_reducible refine Wm.r_lcT ?_)
  | (with_reducible refine Wm.r_lcR1 ?_)
  | (with_reducible refine Wm.r_lcR2 ?_)
  | ((with_reducible refine' Wm.fld_h ?e ?c ?n ?l ?_); (case e => walk_at "at"); (case c => walk_at "cls"); (case n => walk_at "noattr"); (case l => rfl))
  | ((with_reducible refine' Wm.mtd_h ?e ?l ?_); (case e => walk_at "at"); (case l => rfl))
  | ((with_reducible refine' Wm.prp_h ?e ?_); (case e => walk_at "at"))
  | ((with_reducible refine' Wm.rix_ht ?a ?b ?_); (case a => walk_at "at"); (case b => rfl))
  | ((with_reducible refine' Wm.rix_h ?a ?b ?_); (case a => walk_at "at"); (case b => rfl))
  | ((with_reducible refine' Wm.len_ht ?a ?_); (case a => walk_at "at"))
  | ((with_reducible refine' Wm.len_h ?a ?_); (case a => walk_at "at"))
  | ((with_reducible refine' Wm.len_l ?a ?b ?_); (case a => assumption); (case b => assumption))
  | ((with_reducible refine' Wm.len_t ?a ?b ?_); (case a => assumption); (case b => assumption))
  | ((with_reducible refine' Wm.gtup_h ?a ?b ?_); (case a => walk_at "at"); (case b => rfl))
  | (with_reducible refine Wm.r_I (Wm.cmulR (by decide)) ?_)
  | (with_reducible refine Wm.r_I (Wm.cmulL (by decide)) ?_)
  | (with_reducible refine Wm.r_I (Wm.cdiv (by decide) (by decide)) ?_)
  | (with_reducible refine Wm.r_I Wm.cpow18 ?_)
  | (with_reducible refine Wm.r_I Wm.cpow12 ?_)
  | (with_reducible refine Wm.r_I (by show (0 : Int) < _; decide) ?_))
local macro_rules | `(tactic| walk_at "s") => `(tactic| repeat (first | walk_at "s1" | (with_reducible refine Wm.r_ifS ?_)))
local macro_rules | `(tactic| walk_at "t") => `(tactic| repeat (walk_at "s1"))
local macro_rules | `(tactic| walk_at "sz") => `(tactic| exact of_decide_eq_true rfl)
local macro_rules | `(tactic| walk_at "d") => `(tactic| first | (with_reducible refine Wm.r_dT (by omega) ?_) | (with_reducible refine Wm.r_dF (by omega) ?_) | (with_reducible refine Wm.r_dN (by omega) ?_) | (with_reducible refine Wm.r_dM (by omega) ?_))
local macro_rules | `(tactic| walk_at "sd") => `(tactic| repeat (first | walk_at "s1" | (with_reducible refine Wm.r_ifS ?_) | walk_at "d"))
local macro_rules | `(tactic| walk_at "ex") => `(tactic| first
  | assumption
  | exact Wm.Ex.refl _
  | (refine Wm.Ex.trans ?_ (by assumption); walk_at "ex")
  | (refine Wm.Ex.trans ?_ (Wm.Hold.ex (by assumption)); walk_at "ex"))
local macro_rules | `(tactic| walk_at "room") => `(tactic| first
  | assumption
  | (refine' Wm.IsRoom.up ?e ?h; (case h => assumption); (case e => walk_at "ex")))
local macro_rules | `(tactic| walk_at "opt") => `(tactic| first
  | assumption
  | (refine' Wm.OptAt.up ?e ?h; (case h => assumption); (case e => walk_at "ex")))
local macro_rules | `(tactic| walk_at "lst") => `(tactic| first
  | assumption
  | (refine' Wm.Lst.at_ ?h ?e; (case h => assumption); (case e => walk_at "ex"))
  | exact Wm.Hold.get (i := 0) (by assumption) rfl | exact Wm.Hold.get (i := 1) (by assumption) rfl | exact Wm.Hold.get (i := 2) (by assumption) rfl | exact Wm.Hold.get (i := 3) (by assumption) rfl | exact Wm.Hold.get (i := 4) (by assumption) rfl)
local macro_rules | `(tactic| walk_at "tup") => `(tactic| first
  | assumption
  | (refine' Wm.Tup.at_ ?h ?e; (case h => assumption); (case e => walk_at "ex")))
local macro_rules | `(tactic| walk_at "p1") => `(tactic| first
  | (with_reducible refine Wm.r_p18 ?_) | (with_reducible refine Wm.r_p12 ?_) | (with_reducible refine Wm.r_p17 ?_) | (with_reducible refine Wm.r_p15 ?_) | (with_reducible refine Wm.r_p11 ?_) | (with_reducible refine Wm.r_p6 ?_) | (with_reducible refine Wm.r_p5 ?_) | (with_reducible refine Wm.r_p4 ?_) | (with_reducible refine Wm.r_p9 ?_) | (with_reducible refine Wm.r_p13 ?_) | (with_reducible refine Wm.r_p20 ?_) | (with_reducible refine Wm.r_p30 ?_) | (with_reducible refine Wm.r_p16 ?_))
local macro_rules | `(tactic| walk_at "w2") => `(tactic| first
  | ((with_reducible refine' Wm.r_wp ?h ?_); (case h => rfl))
  | ((with_reducible refine' Wm.ap_mtd ?ir ?hl ?_); (case ir => walk_at "room"); (case hl => intros; rfl))
  | ((with_reducible refine' Wm.ap_prp ?ir ?_); (case ir => walk_at "room"))
  | ((with_reducible refine' Wm.ap_temp ?hh ?ir ?t0 ?t1 ?_); (case hh => assumption); (case ir => walk_at "room"); (case t0 => omega); (case t1 => omega); intro H1 hh1)
  | ((with_reducible refine' Wm.ap_on ?hh ?ir ?t0 ?t1 ?_); (case hh => assumption); (case ir => walk_at "room"); (case t0 => omega); (case t1 => omega); intro H1 hh1)
  | ((with_reducible refine' Wm.ap_heats ?hh ?ir ?t0 ?t1 ?_); (case hh => assumption); (case ir => walk_at "room"); (case t0 => omega); (case t1 => omega); intro H1 hh1)
  | ((with_reducible refine' Wm.ap_sws ?hh ?ir ?t0 ?t1 ?_); (case hh => assumption); (case ir => walk_at "room"); (case t0 => omega); (case t1 => omega); intro H1 hh1)
  | ((with_reducible refine' Wm.rix_ht ?a ?b ?_); (case a => walk_at "tup"); (case b => rfl))
  | ((with_reducible refine' Wm.rix_h ?a ?b ?_); (case a => walk_at "lst"); (case b => rfl))
  | ((with_reducible refine' Wm.len_ht ?a ?_); (case a => walk_at "tup"))
  | ((with_reducible refine' Wm.len_h ?a ?_); (case a => walk_at "lst"))
  | ((with_reducible refine' Wm.gtup_h ?a ?b ?_); (case a => walk_at "tup"); (case b => rfl))
  | ((with_reducible refine' Wm.r_I (Wm.cmulL ?h) ?_); (case h => omega))
  | ((with_reducible refine' Wm.r_I (Wm.cmulR ?h) ?_); (case h => omega))
  | ((with_reducible refine' Wm.r_I (Wm.cdiv ?h ?h2) ?_); (case h => omega); (case h2 => omega))
  | ((with_reducible refine' Wm.r_mod ?h ?_); (case h => omega))
  | ((with_reducible refine' Wm.tup_N ?hP ?hh ?_); (case hP => walk_at "sz"); (case hh => assumption); intro p G1 H1 ex1 tp hh1))
local macro_rules | `(tactic| walk_at "w1") => `(tactic| first | walk_at "p1" | walk_at "s1" | walk_at "w2")
local macro_rules | `(tactic| walk_at "w") => `(tactic| repeat (first | walk_at "w1" | (with_reducible refine Wm.r_ifS ?_)))
local macro_rules | `(tactic| walk_at "wl") => `(tactic| ((with_reducible refine' Wm.lst_N ?hP ?hh ?_); (case hP => walk_at "sz"); (case hh => assumption); intro p G1 H1 ex1 tp hh1))
local macro_rules | `(tactic| walk_at "wd") => `(tactic| repeat (first | walk_at "w1" | (with_reducible refine Wm.r_ifS ?_) | walk_at "d" | walk_at "wl"))
local macro_rules | `(tactic| walk_at "v") => `(tactic| repeat (walk_at "w1"))
namespace Wm
open PySem PySem.Spec PyProof.Rows L2 StX
/-! ## Room.temperatures -/
def tempsOf (P : Par) (a : Int) (n : Nat) : List V := ((List.range n).map fun i : Nat => dAt P (a + i)).map V.int
def sp_Room_temperatures (K : PySem.W.Frag) (A : Ads) : SpG := fun vs H Q _ => ∃ (p : Addr) (R : RoomD) (a b : Int), vs = [.ref p, .int a, .int b] ∧ IsRoom K A H p R ∧ 0 ≤ a ∧ a ≤ b ∧ b ≤ 10 ^ 18 ∧ b ≤ a + 9999 ∧ ∀ H', Ex H H' → Q (tempsOf R.P a (b - a + 1).toNat) H'
def t_Room_temperatures (K : PySem.W.Frag) (A : Ads) : TGn := tGThen (tPlain (tDrop (tCal (sp_validate_number K A) E0 (tCons (tVar 1) (tCons (tC (.int 0)) (tCons (tC (.int 1000000000000000000)) (tNil))))))) (tGThen (tPlain (tDrop (tCal (sp_validate_number K A) E0 (tCons (tVar 2) (tCons (tVar 1) (tCons (tCB rMin2 (tCons (tC (.int 1000000000000000000)) (tCons (tOp (rI0 fun i j => .int (i - j)) (tOp (rI0 fun i j => .int (i + j)) (tVar 1) (tC (.int 10000))) (tC (.int 1))) (tNil)))) (tNil))))))) (tGThen (tGFor (iRng2 (tCons (tVar 1) (tCons (tOp (rI0 fun i j => .int (i + j)) (tVar 2) (tC (.int 1))) (tNil)))) (gName 3) (tGThen (tGYield (tMtd A.cRoom "temperature" (sp_Room_temperature K A) E0 (tVar 0) (tCons (tVar 3) (tNil)))) (tG0))) (tG0)))
section
variable {K : PySem.W.Frag} {A : Ads}
theorem tempsOf_succ (P : Par) (a : Int) (n : Nat) : tempsOf P a (n + 1) = tempsOf P a n ++ [.int (dAt P (a + n))] := by
  unfold tempsOf
  rw [List.range_succ, List.map_append, List.map_append]
  rfl
theorem tempsOf_len (P : Par) (a : Int) (n : Nat) : (tempsOf P a n).length = n := by unfold tempsOf; rw [List.length_map, List.length_map, List.length_range]
theorem pure_Room_temperatures (vs : List V) (H : Hp) (Q : List V → Hp → Prop) (E : XK) (h : sp_Room_temperatures K A vs H Q E) : t_Room_temperatures K A { nx := fun ys _ H' => Q ys H', rt := fun ys v H' => v = .non ∧ Q ys H' } [] (start ["self", "first", "last", "tick"] vs) H := by
  obtain ⟨p, R, a, b, rfl, ir, a0, ab, b1, b2, k⟩ := h
  have hh : Hold H [] H := Hold.start H
  show t_Room_temperatures K A _ [] [some (.ref p), some (.int a), some (.int b), none] H
  unfold t_Room_temperatures
  refine g_then (g_plain ?_)
  walk_at "w"
  refine ⟨a, 0, 10 ^ 18, rfl, a0, by omega, ?_⟩
  dsimp only
  refine g_then (g_plain ?_)
  walk_at "w"
  refine ⟨b, a, _, rfl, ab, ?_, ?_⟩
  · split <;> omega
  dsimp only
  refine g_then ?_
  refine g_forR2 (lo := a) (n := b + 1) (fun R' q => ?_) (by omega) (by omega) (by omega) (by omega) (fun i ys σ H' => (∃ v : Option V, σ = [some (.ref p), some (.int a), some (.int b), v]) ∧ ys = tempsOf R.P a i ∧ Hold H [] H') ⟨⟨_, rfl⟩, rfl, hh⟩ ?_ ?_
  · walk_at "w"
    exact q
  · rintro i ys σ H2 hi ⟨⟨v, rfl⟩, rfl, hh2⟩
    walk_at "w"
    refine g_then (g_yield (by rw [tempsOf_len]; omega) ?_)
    walk_at "w"
    rename_i H3 hh3
    exact ⟨⟨_, rfl⟩, (tempsOf_succ R.P a i).symm, hh3⟩
  · rintro ys σ H2 ⟨⟨v, rfl⟩, rfl, hh2⟩
    refine g_0 ?_
    rw [show (b + 1 - a).toNat = (b - a + 1).toNat by omega]
    exact k H2 hh2.ex
end
section
variable {K : PySem.W.Frag} {A : Ads} {G H : Hp} {mu : Mu} {Q : VK} {σ : L2.St} {p : Addr} {R : RoomD} {a b : Int} {xs : List V} {ta : TE} {t : TA} {C : Addr} {m : Str} {sp : SpG} {E : XK}
theorem slL_N {lo hi : Option Int} (hh : Hold G mu H) (h : Lst G p xs) (k : ∀ r G' H', Ex G G' → Lst G' r (cutV xs lo hi) → Hold G' mu H' → Q (.ref r) H') : rSlL K (.ref p) lo hi H Q :=
  ⟨p, xs, rfl, hh.lst (SqL.of_ h), fun q hq => k q _ _ (Ex.new (hh.g_none hq)) upd_same (hh.new hq)⟩
def rLgQ (sp : SpG) (vs : List V) (H : Hp) (Q : VK) (E : XK) : Prop := sp vs H (fun out H3 => ∀ p, H3 p = none → Q (.ref p) (upd H3 p (.lst out))) E
def rMtG (C : Addr) (m : Str) (sp : SpG) (E : XK) (t : TA) (σ : L2.St) (x : V) (H1 : Hp) (Q : VK) : Prop := ∃ a dx fs, x = .ref a ∧ H1 a = some (.ins C dx fs) ∧ fs.lookup m = none ∧ t σ H1 fun vs H2 => rLgQ sp (x :: (vs ++ [])) H2 Q E
theorem r_lg (k : ta σ H fun x H1 => rMtG C m sp E t σ x H1 Q) : tListG (tMethG C m sp [] E ta t) σ H Q := k
theorem ap_mtdG (ir : IsRoom K A H p R) (hl : ∀ a b c : Addr, ∀ s : Int, ∀ v1 v2 v3 v4 : V, (roomF a b c s v1 v2 v3 v4).lookup m = none) (k : t σ H fun vs H2 => rLgQ sp (.ref p :: (vs ++ [])) H2 Q E) : rMtG A.cRoom m sp E t σ (.ref p) H Q := by
  obtain ⟨dx, vr, vs, vc, vw, o1, o2, h1, _⟩ := ir.ob
  exact ⟨p, dx, _, rfl, h1, hl _ _ _ _ _ _ _ _, k⟩
theorem ap_temps (hh : Hold G mu H) (ir : IsRoom K A G p R) (a0 : 0 ≤ a) (ab : a ≤ b) (b1 : b ≤ 10 ^ 18) (b2 : b ≤ a + 9999) (k : ∀ q G' H', Ex G G' → Lst G' q (tempsOf R.P a (b - a + 1).toNat) → Hold G' mu H' → Q (.ref q) H') :
    rLgQ (sp_Room_temperatures K A) [.ref p, .int a, .int b] H Q E :=
  ⟨p, R, a, b, rfl, ir.up hh.ex, a0, ab, b1, b2, fun H' ex q hq => k q _ _ (Ex.new ((hh.grow ex).g_none hq)) upd_same ((hh.grow ex).new hq)⟩
end
end Wm
end

section
local macro_rules | `(tactic| walk_at "cls") => `(tactic| first | (with_reducible exact Wm.WeatherC.cl (by assumption)) | (with_reducible exact Wm.HeaterC.cl (by assumption)) | (with_reducible exact Wm.RoomC.cl (by assumption)) | (with_reducible exact Wm.RunC.cl (by assumption)) | (with_reducible exact Wm.HistoryC.cl (by assumption)) | (with_reducible exact Wm.ThresholdObserverC.cl (by assumption)) | (with_reducible exact Wm.SettingC.cl (by assumption)) | (with_reducible exact Wm.HourSettingC.cl (by assumption)) | (with_reducible exact Wm.RestSettingC.cl (by assumption)) | (with_reducible exact Wm.PricesC.cl (by assumption)) | (with_reducible exact Wm.MomentC.cl (by assumption)) | (with_reducible exact Wm.LiveRoomC.cl (by assumption)) | (with_reducible exact Wm.AttemptC.cl (by assumption)))
local macro_rules | `(tactic| walk_at "noattr") => `(tactic| first | (with_reducible exact Wm.WeatherC.n_pattern (by assumption)) | (with_reducible exact Wm.HeaterC.n_power (by assumption)) | (with_reducible exact Wm.HeaterC.n_below (by assumption)) | (with_reducible exact Wm.HeaterC.n_above (by assumption)) | (with_reducible exact Wm.RoomC.n_outside (by assumption)) | (with_reducible exact Wm.RoomC.n_inside (by assumption)) | (with_reducible exact Wm.RoomC.n_begin_degrees (by assumption)) | (with_reducible exact Wm.RoomC.n_past (by assumption)) | (with_reducible exact Wm.RoomC.n_repeated (by assumption)) | (with_reducible exact Wm.RoomC.n_share (by assumption)) | (with_reducible exact Wm.RoomC.n_coldest (by assumption)) | (with_reducible exact Wm.RoomC.n_warmest (by assumption)) | (with_reducible exact Wm.RunC.n_begin (by assumption)) | (with_reducible exact Wm.RunC.n_end (by assumption)) | (with_reducible exact Wm.RunC.n_degrees (by assumption)) | (with_reducible exact Wm.RunC.n_is_heating (by assumption)) | (with_reducible exact Wm.RunC.n_sums (by assumption)) | (with_reducible exact Wm.RunC.n_size (by assumption)) | (with_reducible exact Wm.RunC.n_drift (by assumption)) | (with_reducible exact Wm.HistoryC.n_shifts (by assumption)) | (with_reducible exact Wm.HistoryC.n_added (by assumption)) | (with_reducible exact Wm.HistoryC.n_floor (by assumption)) | (with_reducible exact Wm.HistoryC.n_ceiling (by assumption)) | (with_reducible exact Wm.HistoryC.n_was_heating (by assumption)) | (with_reducible exact Wm.HistoryC.n_runs (by assumption)) | (with_reducible exact Wm.HistoryC.n_loop (by assumption)) | (with_reducible exact Wm.ThresholdObserverC.n_outside (by assumption)) | (with_reducible exact Wm.ThresholdObserverC.n_power (by assumption)) | (with_reducible exact Wm.ThresholdObserverC.n_tick (by assumption)) | (with_reducible exact Wm.ThresholdObserverC.n_degrees (by assumption)) | (with_reducible exact Wm.ThresholdObserverC.n_is_heating (by assumption)) | (with_reducible exact Wm.ThresholdObserverC.n_lows (by assumption)) | (with_reducible exact Wm.ThresholdObserverC.n_highs (by assumption)) | (with_reducible exact Wm.ThresholdObserverC.n_noted (by assumption)) | (with_reducible exact Wm.SettingC.n_least (by assumption)) | (with_reducible exact Wm.SettingC.n_most (by assumption)) | (with_reducible exact Wm.HourSettingC.n_least (by assumption)) | (with_reducible exact Wm.HourSettingC.n_most (by assumption)) | (with_reducible exact Wm.HourSettingC.n_length (by assumption)) | (with_reducible exact Wm.HourSettingC.n_hours (by assumption)) | (with_reducible exact Wm.RestSettingC.n_least (by assumption)) | (with_reducible exact Wm.RestSettingC.n_most (by assumption)) | (with_reducible exact Wm.RestSettingC.n_rest (by assumption)) | (with_reducible exact Wm.PricesC.n_table (by assumption)) | (with_reducible exact Wm.MomentC.n_tick (by assumption)) | (with_reducible exact Wm.MomentC.n_heat (by assumption)) | (with_reducible exact Wm.MomentC.n_on (by assumption)) | (with_reducible exact Wm.MomentC.n_burnt (by assumption)) | (with_reducible exact Wm.MomentC.n_sky (by assumption)) | (with_reducible exact Wm.MomentC.n_stove (by assumption)) | (with_reducible exact Wm.LiveRoomC.n_moment (by assumption)) | (with_reducible exact Wm.LiveRoomC.n_earlier (by assumption)) | (with_reducible exact Wm.LiveRoomC.n_done (by assumption)) | (with_reducible exact Wm.AttemptC.n_live (by assumption)) | (with_reducible exact Wm.AttemptC.n_kept (by assumption)) | (with_reducible exact Wm.AttemptC.n_stack (by assumption)) | (with_reducible exact Wm.AttemptC.n_steps (by assumption)))
local macro_rules | `(tactic| walk_at "at") => `(tactic| first | assumption | exact Wm.Hold.rd (by assumption) (by assumption) | exact Wm.Hold.get (i := 0) (by assumption) rfl | exact Wm.Hold.get (i := 1) (by assumption) rfl | exact Wm.Hold.get (i := 2) (by assumption) rfl | exact Wm.Hold.get (i := 3) (by assumption) rfl | exact Wm.Hold.get (i := 4) (by assumption) rfl)
local macro_rules | `(tactic| walk_at "s1") => `(tactic| first
  | (with_reducible refine Wm.r_seq ?_)
  | (with_reducible refine Wm.r_op ?_)
  | ((with_reducible refine' Wm.r_var ?h ?_); (case h => rfl))
  | (with_reducible refine Wm.r_c ?_)
  | (with_reducible refine Wm.r_I0 ?_)
  | (with_reducible refine Wm.r_cons ?_)
  | (with_reducible refine Wm.r_nil ?_)
  | (with_reducible refine Wm.r_asg ?_)
  | (with_reducible refine Wm.r_gname ?_; try simp only [List.set_cons_zero, List.set_cons_succ])
  | (with_reducible refine Wm.r_nx ?_)
  | (with_reducible refine Wm.r_rt ?_)
  | (with_reducible refine Wm.r_ret ?_)
  | (with_reducible refine Wm.r_test ?_)
  | (with_reducible refine Wm.r_bl ?_)
  | (with_reducible refine Wm.r_B ?_)
  | (with_reducible refine Wm.r_eqI ?_)
  | (with_reducible refine Wm.r_neI ?_)
  | (with_reducible refine Wm.r_eqB ?_)
  | (with_reducible refine Wm.r_neB ?_)
  | (with_reducible refine Wm.r_fld ?_)
  | (with_reducible refine Wm.r_call ?_)
  | (with_reducible refine Wm.r_mtd ?_)
  | (with_reducible refine Wm.r_prp ?_)
  | (with_reducible refine Wm.r_mak ?_)
  | (with_reducible refine Wm.r_makKw ?_)
  | (with_reducible refine Wm.r_cb ?_)
  | (with_reducible refine Wm.r_tup ?_)
  | (with_reducible refine Wm.r_lst ?_)
  | (with_reducible refine Wm.r_chain ?_)
  | (with_reducible refine Wm.r_and ?_)
  | (with_reducible refine Wm.r_or ?_)
  | (with_reducible refine Wm.r_not ?_)
  | (with_reducible refine Wm.r_andV ?_)
  | (with_reducible refine Wm.r_orV ?_)
  | (with_reducible refine Wm.r_notV ?_)
  | (with_reducible refine Wm.r_if ?_)
  | (with_reducible refine Wm.r_un ?_)
  | (with_reducible refine Wm.r_U ?_)
  | (with_reducible refine Wm.r_iteT ?_)
  | (with_reducible refine Wm.r_iteF ?_)
  | (with_reducible refine Wm.r_next ?_)
  | (with_reducible refine Wm.r_drop ?_)
  | (with_reducible refine Wm.r_retN ?_)
  | ((with_reducible refine' Wm.r_aug ?h ?_); (case h => rfl))
  | (with_reducible refine Wm.r_ipI ?_)
  | (with_reducible refine Wm.r_par2 ?_)
  | (with_reducible refine Wm.r_two ?_; try simp only [List.set_cons_zero, List.set_cons_succ])
  | (with_reducible refine Wm.r_yes ?_)
  | (with_reducible refine Wm.r_forET ?_)
  | (with_reducible refine Wm.r_chain3 ?_)
  | (with_reducible refine Wm.r_nT ?_)
  | (with_reducible refine Wm.r_nF ?_)
  | (with_reducible refine Wm.r_par3 ?_)
  | (with_reducible refine Wm.r_seenPut ?_)
  | (with_reducible refine Wm.r_seenGet ?_)
  | (with_reducible refine Wm.r_three ?_; try simp only [List.set_cons_zero, List.set_cons_succ])
  | (with_reducible refine Wm.r_sl ?_)
  | (with_reducible refine Wm.r_nopart ?_)
  | (with_reducible refine Wm.r_part ?_)
  | (with_reducible refine Wm.r_xi ?_)
  | (with_reducible refine Wm.r_gcons ?_)
  | (with_reducible refine Wm.r_gnil ?_)
  | (with_reducible refine Wm.r_sub ?_)
  | (with_reducible refine Wm.r_setF ?_)
  | (with_reducible refine Wm.r_app ?_)
  | (with_reducible refine Wm.int_i ?_)
  | (with_reducible refine Wm.int_b ?_)
  | (with_reducible refine Wm.min2 ?_)
  | (with_reducible refine Wm.max2 ?_)
  | (with_reducible refine Wm.abs1 ?_)
  | (with_reducible refine Wm.isN ?_)
  | (with_reducible refine Wm.notN ?_)
  | ((with_reducible refine' Wm.r_ty ?e ?_); (case e => walk_at "at"))
  | ((with_reducible refine' Wm.setF_m ?h 0 ?e ?c ?a ?l ?_); (case h => assumption); (case e => rfl); (case c => walk_at "cls"); (case a => walk_at "noattr"); (case l => exact of_decide_eq_true rfl); intro H1 hh1; simp only [List.set_cons_zero, List.set_cons_succ] at hh1)
  | ((with_reducible refine' Wm.setF_m ?h 1 ?e ?c ?a ?l ?_); (case h => assumption); (case e => rfl); (case c => walk_at "cls"); (case a => walk_at "noattr"); (case l => exact of_decide_eq_true rfl); intro H1 hh1; simp only [List.set_cons_zero, List.set_cons_succ] at hh1)
  | ((with_reducible refine' Wm.setF_m ?h 2 ?e ?c ?a ?l ?_); (case h => assumption); (case e => rfl); (case c => walk_at "cls"); (case a => walk_at "noattr"); (case l => exact of_decide_eq_true rfl); intro H1 hh1; simp only [List.set_cons_zero, List.set_cons_succ] at hh1)
  | ((with_reducible refine' Wm.setF_m ?h 3 ?e ?c ?a ?l ?_); (case h => assumption); (case e => rfl); (case c => walk_at "cls"); (case a => walk_at "noattr"); (case l => exact of_decide_eq_true rfl); intro H1 hh1; simp only [List.set_cons_zero, List.set_cons_succ] at hh1)
  | (with_reducible refine Wm.r_forL ?_)
  | (with_reducible refine Wm.r_forT ?_)
  | (with_reducible refine Wm.r_forR1 ?_)
  | (with_reducible refine Wm.r_forR2 ?_)
  | (with_reducible refine Wm.r_forR3 ?_)
  | (with_reducible refine Wm.r_lcL ?_)
  | (with_reducible refine Wm.r_lcT ?_)
  | (with_reducible refine Wm.r_lcR1 ?_)
  | (with_reducible refine Wm.r_lcR2 ?_)
  | ((with_reducible refine' Wm.fld_h ?e ?c ?n ?l ?_); (case e => walk_at "at"); (case c => walk_at "cls"); (case n => walk_at "noattr"); (case l => rfl))
  | ((with_reducible refine' Wm.mtd_h ?e ?l ?_); (case e => walk_at "at"); (case l => rfl))
  | ((with_reducible refine' Wm.prp_h ?e ?_); (case e => walk_at "at"))
  | ((with_reducible refine' Wm.rix_ht ?a ?b ?_); (case a => walk_at "at"); (case b => rfl))
  | ((with_reducible refine' Wm.rix_h ?a ?b ?_); (case a => walk_at "at"); (case b => rfl))
  | ((with_reducible refine' Wm.len_ht ?a ?_); (case a => walk_at "at"))
  | ((with_reducible refine' Wm.len_h ?a ?_); (case a => walk_at "at"))
  | ((with_reducible refine' Wm.len_l ?a ?b ?_); (case a => assumption); (case b => assumption))
  | ((with_reducible refine' Wm.len_t ?a ?b ?_); (case a => assumption); (case b => assumption))
  | ((with_reducible refine' Wm.gtup_h ?a ?b ?_); (case a => walk_at "at"); (case b => rfl))
  | (with_reducible refine Wm.r_I (Wm.cmulR (by decide)) ?_)
  | (with_reducible refine Wm.r_I (Wm.cmulL (by decide)) ?_)
  | (with_reducible refine Wm.r_I (Wm.cdiv (by decide) (by decide)) ?_)
  | (with_reducible refine Wm.r_I Wm.cpow18 ?_)
  | (with_reducible refine Wm.r_I Wm.cpow12 ?_)
  | (with_reducible refine Wm.r_I (by show (0 : Int) < _; decide) ?_))
local macro_rules | `(tactic| walk_at "s") => `(tactic| repeat (first | walk_at "s1" | (with_reducible refine Wm.r_ifS ?_)))
local macro_rules | `(tactic| walk_at "t") => `(tactic| repeat (walk_at "s1"))
local macro_rules | `(tactic| walk_at "sz") => `(tactic| exact of_decide_eq_true rfl)
local macro_rules | `(tactic| walk_at "d") => `(tactic| first | (with_reducible refine Wm.r_dT (by omega) ?_) | (with_reducible refine Wm.r_dF (by omega) ?_) | (with_reducible refine Wm.r_dN (by omega) ?_) | (with_reducible refine Wm.r_dM (by omega) ?_))
local macro_rules | `(tactic| walk_at "sd") => `(tactic| repeat (first | walk_at "s1" | (with_reducible refine Wm.r_ifS ?_) | walk_at "d"))
local macro_rules | `(tactic| walk_at "ex") => `(tactic| first
  | assumption
  | exact Wm.Ex.refl _
  | (refine Wm.Ex.trans ?_ (by assumption); walk_at "ex")
  | (refine Wm.Ex.trans ?_ (Wm.Hold.ex (by assumption)); walk_at "ex"))
local macro_rules | `(tactic| walk_at "room") => `(tactic| first
  | assumption
  | (refine' Wm.IsRoom.up ?e ?h; (case h => assumption); (case e => walk_at "ex")))
local macro_rules | `(tactic| walk_at "opt") => `(tactic| first
  | assumption
  | (refine' Wm.OptAt.up ?e ?h; (case h => assumption); (case e => walk_at "ex")))
local macro_rules | `(tactic| walk_at "lst") => `(tactic| first
  | assumption
  | (refine' Wm.Lst.at_ ?h ?e; (case h => assumption); (case e => walk_at "ex"))
  | exact Wm.Hold.get (i := 0) (by assumption) rfl | exact Wm.Hold.get (i := 1) (by assumption) rfl | exact Wm.Hold.get (i := 2) (by assumption) rfl | exact Wm.Hold.get (i := 3) (by assumption) rfl | exact Wm.Hold.get (i := 4) (by assumption) rfl)
local macro_rules | `(tactic| walk_at "tup") => `(tactic| first
  | assumption
  | (refine' Wm.Tup.at_ ?h ?e; (case h => assumption); (case e => walk_at "ex")))
local macro_rules | `(tactic| walk_at "p1") => `(tactic| first
  | (with_reducible refine Wm.r_p18 ?_) | (with_reducible refine Wm.r_p12 ?_) | (with_reducible refine Wm.r_p17 ?_) | (with_reducible refine Wm.r_p15 ?_) | (with_reducible refine Wm.r_p11 ?_) | (with_reducible refine Wm.r_p6 ?_) | (with_reducible refine Wm.r_p5 ?_) | (with_reducible refine Wm.r_p4 ?_) | (with_reducible refine Wm.r_p9 ?_) | (with_reducible refine Wm.r_p13 ?_) | (with_reducible refine Wm.r_p20 ?_) | (with_reducible refine Wm.r_p30 ?_) | (with_reducible refine Wm.r_p16 ?_))
local macro_rules | `(tactic| walk_at "w2") => `(tactic| first
  | ((with_reducible refine' Wm.r_wp ?h ?_); (case h => rfl))
  | ((with_reducible refine' Wm.ap_mtd ?ir ?hl ?_); (case ir => walk_at "room"); (case hl => intros; rfl))
  | ((with_reducible refine' Wm.ap_prp ?ir ?_); (case ir => walk_at "room"))
  | ((with_reducible refine' Wm.ap_temp ?hh ?ir ?t0 ?t1 ?_); (case hh => assumption); (case ir => walk_at "room"); (case t0 => omega); (case t1 => omega); intro H1 hh1)
  | ((with_reducible refine' Wm.ap_on ?hh ?ir ?t0 ?t1 ?_); (case hh => assumption); (case ir => walk_at "room"); (case t0 => omega); (case t1 => omega); intro H1 hh1)
  | ((with_reducible refine' Wm.ap_heats ?hh ?ir ?t0 ?t1 ?_); (case hh => assumption); (case ir => walk_at "room"); (case t0 => omega); (case t1 => omega); intro H1 hh1)
  | ((with_reducible refine' Wm.ap_sws ?hh ?ir ?t0 ?t1 ?_); (case hh => assumption); (case ir => walk_at "room"); (case t0 => omega); (case t1 => omega); intro H1 hh1)
  | ((with_reducible refine' Wm.rix_ht ?a ?b ?_); (case a => walk_at "tup"); (case b => rfl))
  | ((with_reducible refine' Wm.rix_h ?a ?b ?_); (case a => walk_at "lst"); (case b => rfl))
  | ((with_reducible refine' Wm.len_ht ?a ?_); (case a => walk_at "tup"))
  | ((with_reducible refine' Wm.len_h ?a ?_); (case a => walk_at "lst"))
  | ((with_reducible refine' Wm.gtup_h ?a ?b ?_); (case a => walk_at "tup"); (case b => rfl))
  | ((with_reducible refine' Wm.r_I (Wm.cmulL ?h) ?_); (case h => omega))
  | ((with_reducible refine' Wm.r_I (Wm.cmulR ?h) ?_); (case h => omega))
  | ((with_reducible refine' Wm.r_I (Wm.cdiv ?h ?h2) ?_); (case h => omega); (case h2 => omega))
  | ((with_reducible refine' Wm.r_mod ?h ?_); (case h => omega))
  | ((with_reducible refine' Wm.tup_N ?hP ?hh ?_); (case hP => walk_at "sz"); (case hh => assumption); intro p G1 H1 ex1 tp hh1))
local macro_rules | `(tactic| walk_at "w1") => `(tactic| first | walk_at "p1" | walk_at "s1" | walk_at "w2")
local macro_rules | `(tactic| walk_at "w") => `(tactic| repeat (first | walk_at "w1" | (with_reducible refine Wm.r_ifS ?_)))
local macro_rules | `(tactic| walk_at "wl") => `(tactic| ((with_reducible refine' Wm.lst_N ?hP ?hh ?_); (case hP => walk_at "sz"); (case hh => assumption); intro p G1 H1 ex1 tp hh1))
local macro_rules | `(tactic| walk_at "wd") => `(tactic| repeat (first | walk_at "w1" | (with_reducible refine Wm.r_ifS ?_) | walk_at "d" | walk_at "wl"))
local macro_rules | `(tactic| walk_at "v") => `(tactic| repeat (walk_at "w1"))
namespace Wm
open PySem PySem.Spec PyProof.Rows L2 StX
/-! ## k03: plain law -/
def movesN (P : Par) (n : Nat) : List Nat := (List.range n).filter fun u : Nat => oAt P u != prevO P u
theorem movesN_succ (P : Par) (n : Nat) : movesN P (n + 1) = movesN P n ++ if (oAt P n != prevO P n) = true then [n] else [] := by
  unfold movesN
  rw [List.range_succ, List.filter_append]
  congr 1
  by_cases h : (oAt P n != prevO P n) = true
  · rw [if_pos h, List.filter_cons]; exact if_pos h
  · rw [if_neg h, List.filter_cons]; exact if_neg h
theorem movesN_sw (P : Par) : ∀ n : Nat, swAt P n = (movesN P n).length
  | 0 => by rw [show ((0 : Nat) : Int) = 0 from rfl, sw_zero]; rfl
  | n + 1 => by
    rw [show ((n + 1 : Nat) : Int) = (n : Int) + 1 by omega, sw_succ P (by omega), movesN_sw P n, movesN_succ, List.length_append]
    unfold swI
    split
    · rfl
    · rfl
theorem movesN_lt (P : Par) {m : Nat} : ∀ n : Nat, m ≤ n → (movesN P n).filter (fun u => decide (u < m)) = movesN P m
  | 0, h => by
    obtain rfl : m = 0 := by omega
    rfl
  | n + 1, h => by
    by_cases e : m = n + 1
    · subst e
      refine List.filter_eq_self.mpr fun u hu => ?_
      have := List.mem_range.mp (List.mem_filter.mp hu).1
      exact decide_eq_true this
    · rw [movesN_succ, List.filter_append, movesN_lt P n (by omega)]
      have : (List.filter (fun u => decide (u < m)) (if (oAt P n != prevO P n) = true then [n] else [])) = [] := by
        split
        · rw [List.filter_cons_of_neg (by simpa using (by omega : m ≤ n))]; rfl
        · rfl
      rw [this, List.append_nil]
theorem movesN_at (P : Par) {k w : Nat} : ∀ n : Nat, (movesN P n)[k]? = some w → w < n ∧ (movesN P w).length = k ∧ (movesN P (w + 1)).length = k + 1
  | 0, h => by cases h
  | n + 1, h => by
    rw [movesN_succ] at h
    by_cases hk : k < (movesN P n).length
    · rw [List.getElem?_append_left hk] at h
      obtain ⟨a, b⟩ := movesN_at P n h
      exact ⟨by omega, b⟩
    · rw [List.getElem?_append_right (by omega)] at h
      by_cases c : (oAt P n != prevO P n) = true
      · rw [if_pos c] at h
        have h0 : k - (movesN P n).length = 0 := by
          have := (List.getElem?_eq_some_iff.mp h).1
          simpa using this
        rw [h0] at h
        cases h
        refine ⟨by omega, by omega, ?_⟩
        rw [movesN_succ, if_pos c, List.length_append]
        show _ + 1 = _
        omega
      · rw [if_neg c] at h
        cases h
theorem nth_uniq {P : Par} {n : Int} {w : Int} {o : Option Int} (w0 : 0 ≤ w) (h1 : swAt P w = n - 1) (h2 : swAt P (w + 1) = n) (h : NthV P n o) : o = some w := by
  cases o with
  | none =>
    have := h (w + 1) (by omega)
    omega
  | some v =>
    obtain ⟨v0, v1, v2⟩ := h
    by_cases c : v < w
    · have := sw_mono P (a := v + 1) (b := w) (by omega) (by omega)
      omega
    · by_cases c2 : w < v
      · have := sw_mono P (a := w + 1) (b := v) (by omega) (by omega)
        omega
      · rw [show v = w by omega]
theorem heats_len (P : Par) : ∀ n : Nat, hAt P n = (((List.range n).filter fun u : Nat => oAt P u).length : Nat)
  | 0 => by rw [show ((0 : Nat) : Int) = 0 from rfl, h_zero]; rfl
  | n + 1 => by
    rw [show ((n + 1 : Nat) : Int) = (n : Int) + 1 by omega, h_succ P (by omega), heats_len P n, List.range_succ, List.filter_append, List.length_append]
    by_cases c : oAt P n = true
    · rw [if_pos c, List.filter_cons_of_pos (by exact c)]; rfl
    · rw [if_neg c, List.filter_cons_of_neg (by exact c)]; rfl
theorem bls_take (P : Par) {m n : Nat} (h : m ≤ n) : (bls P n).take m = bls P m := by
  unfold bls
  rw [← List.map_take, List.take_range, Nat.min_eq_left h]
theorem dgs_drop (P : Par) {m n : Nat} (h : m ≤ n) : (dgs P n).drop m = tempsOf P m (n - m) := by
  unfold dgs tempsOf
  rw [← List.map_drop, ← List.map_drop]
  congr 1
  apply List.ext_getElem?
  intro i
  rw [List.getElem?_map, List.getElem?_map, List.getElem?_drop]
  by_cases hi : i < n - m
  · rw [List.getElem?_range (by omega), List.getElem?_range hi]
    simp only [Option.map_some, Int.natCast_add]
  · rw [List.getElem?_eq_none (by simp; omega), List.getElem?_eq_none (by simp; omega)]
    rfl
theorem befores (P : Par) {n k : Nat} (h : k < n) : ([V.bl P.was] ++ bls P n)[k]? = some (.bl (prevO P k)) ∧ ([V.bl P.was] ++ bls P n)[k + 1]? = some (.bl (oAt P k)) := by
  have g : ∀ j : Nat, j < n → (bls P n)[j]? = some (.bl (oAt P j)) := fun j hj => by
    unfold bls
    rw [List.getElem?_map, List.getElem?_range hj]
    rfl
  refine ⟨?_, by rw [List.getElem?_append_right (Nat.le_add_left 1 k)]; exact g k h⟩
  cases k with
  | zero => unfold prevO; rw [if_pos (by omega)]; rfl
  | succ k =>
    rw [List.getElem?_append_right (Nat.le_add_left 1 k), show k + 1 - [V.bl P.was].length = k from rfl, g k (by omega)]
    unfold prevO
    rw [if_neg (by omega), show (((k + 1 : Nat) : Int) - 1) = k by omega]
/-! ## k03: the walk -/
def sp_law (K : PySem.W.Frag) (A : Ads) : Sp := fun vs H Q _ => ∃ (a : Addr) (ns : List Int), vs = [.ref a] ∧ RoomCs K A ∧ SqL K H a (ns.map V.int) ∧ ns.length ≤ 63 ∧ ∀ H', Q (.bl true) H'
def t_law_c1 (K : PySem.W.Frag) (A : Ads) : TS := tSeq (tAsg (tLst (tCons (tPrp A.cWeather (sp_Weather_changes K A) E0 (tPrp A.cRoom (sp_Room_weather K A) E0 (tVar 6))) (tCons (tPrp A.cHeater (sp_Heater_gain K A) E0 (tPrp A.cRoom (sp_Room_heater K A) E0 (tVar 6))) (tCons (tPrp A.cHeater (sp_Heater_low K A) E0 (tPrp A.cRoom (sp_Room_heater K A) E0 (tVar 6))) (tCons (tPrp A.cHeater (sp_Heater_high K A) E0 (tPrp A.cRoom (sp_Room_heater K A) E0 (tVar 6))) (tCons (tPrp A.cRoom (sp_Room_start K A) E0 (tVar 6)) (tNil))))))) (gName 17)) (tIfS (tNot (tB (tCal (sp_law_alike K A) E0 (tCons (tVar 17) (tCons (tLst (tCons (tVar 3) (tCons (tOp (rIx K) (tVar 4) (tC (.int 0))) (tCons (tOp (rIx K) (tVar 4) (tC (.int 1))) (tCons (tOp (rIx K) (tVar 4) (tC (.int 2))) (tCons (tOp (rIx K) (tVar 4) (tC (.int 3))) (tNil))))))) (tNil)))))) (tRet (tC (.bl false))) (tNext))
def t_law_c2 (K : PySem.W.Frag) (A : Ads) : TS := tSeq (tIfS (tTest (tOp (rNeD K) (tLc (iRng1 (tCons (tCB (rLen K) (tCons (tVar 12) (tNil))) (tNil))) (gName 16) (tTest (tOp rNe (tMtd A.cRoom "nth_switching" (sp_Room_nth_switching K A) E0 (tVar 6) (tCons (tOp (rI0 fun i j => .int (i + j)) (tVar 16) (tC (.int 1))) (tNil))) (tOp (rIx K) (tVar 12) (tVar 16)))) (tVar 16) [16]) (tLst (tNil)))) (tRet (tC (.bl false))) (tNext)) (t_law_c1 K A)
def t_law_c3 (K : PySem.W.Frag) (A : Ads) : TS := tSeq (tFor (iTup K (tTup (tCons (tC (.int 0)) (tCons (tC (.int 1)) (tCons (tOp (rI CDivW fun i j => .int (i / j)) (tVar 5) (tC (.int 2))) (tCons (tVar 5) (tNil))))))) (gName 13) (tSeq (tAsg (tLst (tCons (tCB (rLen K) (tCons (tLc (iList K (tSl (rSlL K) (tVar 8) (tNoPart) (tPart (tVar 13)))) (gName 15) (tB (tVar 15)) (tVar 15) [15]) (tNil))) (tCons (tCB (rLen K) (tCons (tLc (iList K (tVar 12)) (gName 9) (tTest (tOp (rI0 fun i j => .bl (decide (i < j))) (tVar 9) (tVar 13))) (tVar 9) [9]) (tNil))) (tNil)))) (gName 14)) (tIfS (tNot (tB (tCal (sp_law_alike K A) E0 (tCons (tLst (tCons (tMtd A.cRoom "heating_ticks" (sp_Room_heating_ticks K A) E0 (tVar 6) (tCons (tVar 13) (tNil))) (tCons (tMtd A.cRoom "switchings" (sp_Room_switchings K A) E0 (tVar 6) (tCons (tVar 13) (tNil))) (tNil)))) (tCons (tVar 14) (tNil)))))) (tRet (tC (.bl false))) (tNext)))) (t_law_c2 K A)
def t_law_c4 (K : PySem.W.Frag) (A : Ads) : TS := tSeq (tAsg (tOp rCat (tLst (tCons (tOp (rIx K) (tVar 4) (tC (.int 4))) (tNil))) (tVar 8)) (gName 11)) (tSeq (tAsg (tLc (iRng1 (tCons (tVar 5) (tNil))) (gName 9) (tTest (tOp rNe (tOp (rIx K) (tVar 11) (tVar 9)) (tOp (rIx K) (tVar 11) (tOp (rI0 fun i j => .int (i + j)) (tVar 9) (tC (.int 1)))))) (tVar 9) [9]) (gName 12)) (t_law_c3 K A))
def t_law_c5 (K : PySem.W.Frag) (A : Ads) : TS := tSeq (tIfS (tNot (tB (tCal (sp_law_alike K A) E0 (tCons (tListG (tMethG A.cRoom "temperatures" (sp_Room_temperatures K A) [] E0 (tVar 6) (tCons (tVar 10) (tCons (tOp (rI0 fun i j => .int (i - j)) (tVar 5) (tC (.int 1))) (tNil))))) (tCons (tSl (rSlL K) (tVar 7) (tPart (tVar 10)) (tNoPart)) (tNil)))))) (tRet (tC (.bl false))) (tNext)) (t_law_c4 K A)
def t_law (K : PySem.W.Frag) (A : Ads) : TS := tSeq (tAsg (tCal (sp_law_mix K A) E0 (tCons (tVar 0) (tCons (tC (.int 3)) (tNil)))) (gName 1)) (tSeq (tFor (iRng1 (tCons (tC (.int 2)) (tNil))) (gName 2) (tSeq (tPar3 3 4 5 (tCons (tCal (sp_law_changes K A) E0 (tCons (tVar 1) (tCons (tC (.int 6)) (tNil)))) (tCons (tCal (sp_law_setting K A) E0 (tCons (tVar 1) (tNil))) (tCons (tOp (rI0 fun i j => .int (i + j)) (tC (.int 1)) (tCal (sp_law_next K A) E0 (tCons (tVar 1) (tCons (tC (.int 150)) (tNil))))) (tNil))))) (tSeq (tAsg (tCal (sp_law_room K A) E0 (tCons (tVar 3) (tCons (tVar 4) (tNil)))) (gName 6)) (tSeq (tAsg (tCal (sp_law_told K A) E0 (tCons (tVar 3) (tCons (tVar 4) (tCons (tVar 5) (tNil))))) (gTup K 2 (gCons (gName 7) (gCons (gName 8) (gNil))))) (tSeq (tIfS (tNot (tB (tCal (sp_law_alike K A) E0 (tCons (tLc (iRng1 (tCons (tVar 5) (tNil))) (gName 9) (tYes) (tMtd A.cRoom "temperature" (sp_Room_temperature K A) E0 (tVar 6) (tCons (tVar 9) (tNil))) [9]) (tCons (tVar 7) (tNil)))))) (tRet (tC (.bl false))) (tNext)) (tSeq (tIfS (tNot (tB (tCal (sp_law_alike K A) E0 (tCons (tLc (iRng1 (tCons (tVar 5) (tNil))) (gName 9) (tYes) (tMtd A.cRoom "is_on" (sp_Room_is_on K A) E0 (tVar 6) (tCons (tVar 9) (tNil))) [9]) (tCons (tVar 8) (tNil)))))) (tRet (tC (.bl false))) (tNext)) (tSeq (tAsg (tCal (sp_law_next K A) E0 (tCons (tVar 1) (tCons (tVar 5) (tNil)))) (gName 10)) (t_law_c5 K A)))))))) (tRet (tC (.bl true))))
section
variable {K : PySem.W.Frag} {A : Ads}
/-- the loop's invariant -/
def Inv3 (s a c : Addr) : L2.St → Hp → Prop := fun σ H' => ∃ (v2 v3 v4 v5 v6 v7 v8 v9 v10 v11 v12 v13 v14 v15 v16 v17 : Option V) (d : DS) (G : Hp) (mu : Mu), σ = [some (.ref s), some (.ref a), v2, v3, v4, v5, v6, v7, v8, v9, v10, v11, v12, v13, v14, v15, v16, v17] ∧ d.Ok ∧ Hold G (dh a c d :: dc c d :: mu) H'
/-- what is at hand in a turn -/
structure At3 (K : PySem.W.Frag) (A : Ads) (G : Hp) (t se p l1 l2 : Addr) (R : RoomD) (n : Nat) : Prop where
  ir : IsRoom K A G p R
  ht : Tup G t (R.P.ch.map V.int)
  hse : Tup G se [.int R.P.gain, .int R.P.lo, .int R.P.hi, .int R.P.start, .bl R.P.was]
  h1 : Lst G l1 (dgs R.P n)
  h2 : Lst G l2 (bls R.P n)
  n0 : 0 < n
  n1 : n ≤ 150
theorem At3.up {G G' : Hp} {t se p l1 l2 : Addr} {R : RoomD} {n : Nat} (h : At3 K A G t se p l1 l2 R n) (e : Ex G G') : At3 K A G' t se p l1 l2 R n := ⟨h.ir.up e, h.ht.up e, h.hse.up e, h.h1.up e, h.h2.up e, h.n0, h.n1⟩
section
variable {G H : Hp} {mu : Mu} {a c s t se p l1 l2 : Addr} {R : RoomD} {n : Nat} {d : DS} {nx bk ct : L2.St → Hp → Prop} {rt : VK} {v2 v9 v10 v11 v12 v13 v14 v15 v16 v17 : Option V}
theorem k03_c1 (hh : Hold G (dh a c d :: dc c d :: mu) H) (dok : d.Ok) (z : At3 K A G t se p l1 l2 R n) (k : ∀ σ H', Inv3 s a c σ H' → nx σ H') :
    t_law_c1 K A ⟨nx, rt, bk, ct⟩ [some (.ref s), some (.ref a), v2, some (.ref t), some (.ref se), some (.int n), some (.ref p), some (.ref l1), some (.ref l2), v9, v10, v11, v12, v13, v14, v15, v16, v17] H := by
  have ir := z.ir
  have hse := z.hse
  have ht := z.ht
  obtain ⟨WC, _, dxw, hw1, hw2⟩ := id ir.w_
  unfold t_law_c1
  walk_at "w"
  refine ap_weather (ir.up (by walk_at "ex")) ?_
  refine ap_prpW (ir.w_.up (by walk_at "ex")) ?_
  refine ⟨_, _, _, rfl, ir.w_.up (by walk_at "ex"), ?_⟩
  walk_at "w"
  refine ap_heater (ir.up (by walk_at "ex")) ?_
  refine ap_prpH (ir.h_.up (by walk_at "ex")) ?_
  refine ⟨_, _, _, _, rfl, ir.h_.up (by walk_at "ex"), ?_⟩
  walk_at "w"
  refine ap_heater (ir.up (by walk_at "ex")) ?_
  refine ap_prpH (ir.h_.up (by walk_at "ex")) ?_
  refine ⟨_, _, _, _, rfl, ir.h_.up (by walk_at "ex"), ?_⟩
  walk_at "w"
  refine ap_heater (ir.up (by walk_at "ex")) ?_
  refine ap_prpH (ir.h_.up (by walk_at "ex")) ?_
  refine ⟨_, _, _, _, rfl, ir.h_.up (by walk_at "ex"), ?_⟩
  walk_at "w"
  refine ap_startR (ir.up (by walk_at "ex")) ?_
  walk_at "w"
  walk_at "wl"
  rename_i q1 G1 H1 ex1 hq1 hh1
  walk_at "w"
  walk_at "wl"
  rename_i q2 G2 H2 ex2 hq2 hh2
  refine ap_alike (K := K) (A := A) hh2 (ad_lst (hq1.at_ (ex2.trans hh2.ex)) (hq2.at_ hh2.ex) (show 5 ≤ 100000 by decide) (.cons (ad_tup (xs := R.P.ch.map V.int) (ys := R.P.ch.map V.int) (hh2.rd ((ex1.trans ex2) _ _ hw2)) ((ht.up (ex1.trans ex2)).at_ hh2.ex) ?_ (ads_ints _)) (.cons (ad_int _) (.cons (ad_int _) (.cons (ad_int _) (.cons (ad_int _) .nil)))))) fun H3 hh3 => ?_
  · rw [List.length_map]
    have := ir.pa_.2.2.1.v.par.len
    omega
  walk_at "w"
  exact k _ _ ⟨_, _, _, _, _, _, _, _, _, _, _, _, _, _, _, _, d, _, _, rfl, dok, hh3⟩
theorem k03_c2 {l12 : Addr} (hh : Hold G (dh a c d :: dc c d :: mu) H) (dok : d.Ok) (z : At3 K A G t se p l1 l2 R n) (hm : Lst G l12 ((movesN R.P n).map fun u : Nat => V.int u)) (k : ∀ σ H', Inv3 s a c σ H' → nx σ H') :
    t_law_c2 K A ⟨nx, rt, bk, ct⟩ [some (.ref s), some (.ref a), v2, some (.ref t), some (.ref se), some (.int n), some (.ref p), some (.ref l1), some (.ref l2), v9, v10, v11, some (.ref l12), v13, v14, v15, v16, v17] H := by
  have ir := z.ir
  have n150 := z.n1
  have lm : (movesN R.P n).length ≤ n := by
    unfold movesN
    have := List.length_filter_le (fun u : Nat => oAt R.P u != prevO R.P u) (List.range n)
    rw [List.length_range] at this
    exact this
  unfold t_law_c2
  walk_at "v"
  refine ifP (b := false) (fun H' => Hold G (dh a c d :: dc c d :: mu) H') (fun QT q => ?_) (fun z => by cases z) fun _ H14 hh14 => ?_
  · walk_at "v"
    rw [List.length_map]
    refine lcR1_fil (fun _ => false) V.int hh (by omega) (by omega) (fun z z0 z1 D acc G4 H4 LY LN ex4 hh4 hY hN => ?_) fun D4 G4 H4 ex4 hD4 hh4 => ?_
    · obtain ⟨j, rfl⟩ := Int.eq_ofNat_of_zero_le z0
      have hj : j < (movesN R.P n).length := by omega
      have hw := List.getElem?_eq_getElem hj
      generalize (movesN R.P n)[j] = w at hw
      obtain ⟨wn, w1, w2⟩ := movesN_at R.P n hw
      walk_at "w"
      refine ap_nth (by assumption) (ir.up (by walk_at "ex")) (by omega) (by omega) fun o H5 nv hh5 => ?_
      have e1 : swAt R.P (w : Int) = (j : Int) + 1 - 1 := by rw [movesN_sw, w1]; omega
      have e2 : swAt R.P ((w : Int) + 1) = (j : Int) + 1 := by rw [show (w : Int) + 1 = ((w + 1 : Nat) : Int) by omega, movesN_sw, w2]; omega
      obtain rfl := nth_uniq (by omega) e1 e2 nv
      show tOp (rIx K) (tVar 12) (tVar 16) _ _ _
      walk_at "w"
      refine rix_h ((hm.up ex4).at_ hh5.ex) (atI_of (v := V.int w) (by omega) (by rw [Int.toNat_natCast, List.getElem?_map, hw]; rfl)) ?_
      show rNe (.int w) (.int w) _ _
      walk_at "w"
      refine r_dN rfl ?_
      exact hN _ _ rfl (Ex.refl _) hh5
    rw [flt_none fun _ _ => rfl] at hD4
    walk_at "w"
    walk_at "wl"
    refine neI (xs := []) (ys := []) (SqL.of (by walk_at "lst")) (SqL.of (by walk_at "lst")) ?_
    walk_at "w"
    exact q _ (Hold.weak (by assumption) (by walk_at "ex"))
  exact k03_c1 hh14 dok z k
theorem k03_c3 {l12 : Addr} (hh : Hold G (dh a c d :: dc c d :: mu) H) (dok : d.Ok) (z : At3 K A G t se p l1 l2 R n) (hm : Lst G l12 ((movesN R.P n).map fun u : Nat => V.int u)) (k : ∀ σ H', Inv3 s a c σ H' → nx σ H') :
    t_law_c3 K A ⟨nx, rt, bk, ct⟩ [some (.ref s), some (.ref a), v2, some (.ref t), some (.ref se), some (.int n), some (.ref p), some (.ref l1), some (.ref l2), v9, v10, v11, some (.ref l12), v13, v14, v15, v16, v17] H := by
  have n150 := z.n1
  have n0 := z.n0
  have lm : (movesN R.P n).length ≤ n := by
    unfold movesN
    have := List.length_filter_le (fun u : Nat => oAt R.P u != prevO R.P u) (List.range n)
    rw [List.length_range] at this
    exact this
  unfold t_law_c3
  walk_at "w"
  rename_i q0 G0 H0 ex0 hq0 hh0
  refine forT_I (xs := [.int 0, .int 1, .int ((n : Int) / 2), .int n]) (fun σ H' => ∃ (v9 v13 v14 v15 : Option V) (G1 : Hp), σ = [some (.ref s), some (.ref a), v2, some (.ref t), some (.ref se), some (.int n), some (.ref p), some (.ref l1), some (.ref l2), v9, v10, v11, some (.ref l12), v13, v14, v15, v16, v17] ∧ Ex G0 G1 ∧ Hold G1 (dh a c d :: dc c d :: mu) H')
    (fun σ H' ⟨_, _, _, _, G1, _, e, h⟩ => hq0.at_ (e.trans h.ex)) ⟨_, _, _, _, G0, rfl, Ex.refl _, hh0⟩ ?_ ?_
  · rintro x σ H2 hx ⟨v9, v13, v14, v15, G1, rfl, ex1, hh1⟩
    obtain ⟨m, rfl, hmn⟩ : ∃ m : Nat, x = .int (m : Int) ∧ m ≤ n := by
      simp only [List.mem_cons, List.not_mem_nil, or_false] at hx
      rcases hx with rfl | rfl | rfl | rfl
      · exact ⟨0, rfl, by omega⟩
      · exact ⟨1, rfl, by omega⟩
      · exact ⟨n / 2, by rw [Int.natCast_ediv]; rfl, by omega⟩
      · exact ⟨n, rfl, Nat.le_refl _⟩
    have z1 := z.up (ex0.trans ex1)
    have ir := z1.ir
    walk_at "w"
    refine slL_N hh1 z1.h2 fun q2 G2 H2 ex2 hq2 hh2 => ?_
    rw [cut_to _ rfl (by unfold bls; rw [List.length_map, List.length_range]; exact hmn), bls_take R.P hmn] at hq2
    walk_at "w"
    refine lcL_fil (List.range m) (fun u : Nat => V.bl (oAt R.P u)) (fun u : Nat => oAt R.P u) (fun u : Nat => V.bl (oAt R.P u)) hh2 (by rw [List.length_range]; omega) hq2 (fun u hu D acc G3 H3 LY LN ex3 hh3 hY hN => ?_) fun D3 G3 H3 ex3 hD3 hh3 => ?_
    · walk_at "w"
      cases ho : oAt R.P u with
      | true => 
        walk_at "w"
        exact hY _ _ _ ho (congrArg V.bl ho.symm) (Ex.refl _) hh3
      | false =>
        walk_at "w"
        exact hN _ _ ho (Ex.refl _) hh3
    walk_at "w"
    refine lcL_fil (movesN R.P n) (fun u : Nat => V.int u) (fun u : Nat => decide (u < m)) (fun u : Nat => V.int u) hh3 (by omega) ((hm.up (ex0.trans ex1)).up (ex2.trans ex3)) (fun u hu D acc G4 H4 LY LN ex4 hh4 hY hN => ?_) fun D4 G4 H4 ex4 hD4 hh4 => ?_
    · walk_at "w"
      by_cases hum : u < m
      · rw [decide_eq_true (show (u : Int) < (m : Int) by omega)]
        walk_at "w"
        exact hY _ _ _ (decide_eq_true hum) rfl (Ex.refl _) hh4
      · rw [decide_eq_false (show ¬ (u : Int) < (m : Int) by omega)]
        walk_at "w"
        exact hN _ _ (decide_eq_false hum) (Ex.refl _) hh4
    rw [movesN_lt R.P n hmn] at hD4
    walk_at "w"
    rw [List.length_map, List.length_map]
    walk_at "wl"
    rename_i q5 G5 H5 ex5 hq5 hh5
    walk_at "w"
    walk_at "wl"
    rename_i q6 G6 H6 ex6 hq6 hh6
    rw [heats_len, movesN_sw] at hq6
    walk_at "w"
    refine ap_alike (K := K) (A := A) hh6 (ad_lst (hq6.at_ hh6.ex) (hq5.at_ (ex6.trans hh6.ex)) (by exact of_decide_eq_true rfl) (.cons (ad_int _) (.cons (ad_int _) .nil))) fun H7 hh7 => ?_
    walk_at "w"
    exact ⟨_, _, _, _, _, rfl, ex1.trans (ex2.trans (ex3.trans (ex4.trans (ex5.trans ex6)))), hh7⟩
  · rintro σ H2 ⟨v9, v13, v14, v15, G1, rfl, ex1, hh1⟩
    exact k03_c2 hh1 dok (z.up (ex0.trans ex1)) (hm.up (ex0.trans ex1)) k
theorem k03_c4 (hh : Hold G (dh a c d :: dc c d :: mu) H) (dok : d.Ok) (z : At3 K A G t se p l1 l2 R n) (k : ∀ σ H', Inv3 s a c σ H' → nx σ H') :
    t_law_c4 K A ⟨nx, rt, bk, ct⟩ [some (.ref s), some (.ref a), v2, some (.ref t), some (.ref se), some (.int n), some (.ref p), some (.ref l1), some (.ref l2), v9, v10, v11, v12, v13, v14, v15, v16, v17] H := by
  have hse := z.hse
  have n150 := z.n1
  unfold t_law_c4
  walk_at "w"
  walk_at "wl"
  rename_i q1 G1 H1 ex1 hq1 hh1
  walk_at "w"
  refine cat_N hh1 (by walk_at "lst") ((z.h2.up ex1).at_ hh1.ex) (by unfold bls; rw [List.length_map, List.length_range]; show 1 + n ≤ _; omega) fun q2 G2 H2 ex2 hq2 hh2 => ?_
  walk_at "w"
  refine lcR1_fil (fun u => oAt R.P u != prevO R.P u) V.int hh2 (by omega) (by omega) (fun u u0 u1 D acc G4 H4 LY LN ex4 hh4 hY hN => ?_) fun D4 G4 H4 ex4 hD4 hh4 => ?_
  · obtain ⟨j, rfl⟩ := Int.eq_ofNat_of_zero_le u0
    have hj : j < n := by omega
    obtain ⟨b1, b2⟩ := befores R.P hj
    have hq4 := hq2.up ex4
    walk_at "w"
    refine rix_h (hq4.at_ hh4.ex) (atI_of (by omega) (by rw [Int.toNat_natCast]; exact b1)) ?_
    walk_at "w"
    refine rix_h (hq4.at_ hh4.ex) (atI_of (by omega) (by rw [show ((j : Int) + 1).toNat = j + 1 by omega]; exact b2)) ?_
    walk_at "w"
    cases ho : (oAt R.P (j : Nat) != prevO R.P (j : Nat)) with
    | true =>
      rw [show (prevO R.P (j : Nat) != oAt R.P (j : Nat)) = true by rw [← ho]; exact bne_comm]
      walk_at "w"
      exact hY _ _ _ ho rfl (Ex.refl _) hh4
    | false =>
      rw [show (prevO R.P (j : Nat) != oAt R.P (j : Nat)) = false by rw [← ho]; exact bne_comm]
      walk_at "w"
      exact hN _ _ ho (Ex.refl _) hh4
  have e4 : ((rngI ((n : Nat) : Int).toNat).filter fun u => oAt R.P u != prevO R.P u).map V.int = (movesN R.P n).map fun u : Nat => V.int u := by
    unfold rngI movesN
    rw [Int.toNat_natCast, List.filter_map, List.map_map]
    rfl
  rw [e4] at hD4
  walk_at "w"
  exact k03_c3 hh4 dok (z.up (ex1.trans (ex2.trans ex4))) hD4 k
theorem k03_c5 {f : Int} (hh : Hold G (dh a c d :: dc c d :: mu) H) (dok : d.Ok) (z : At3 K A G t se p l1 l2 R n) (f0 : 0 ≤ f) (f1 : f < n) (k : ∀ σ H', Inv3 s a c σ H' → nx σ H') :
    t_law_c5 K A ⟨nx, rt, bk, ct⟩ [some (.ref s), some (.ref a), v2, some (.ref t), some (.ref se), some (.int n), some (.ref p), some (.ref l1), some (.ref l2), v9, some (.int f), v11, v12, v13, v14, v15, v16, v17] H := by
  have n150 := z.n1
  have ir := z.ir
  unfold t_law_c5
  walk_at "v"
  refine ifP (b := false) (fun H' => Hold G (dh a c d :: dc c d :: mu) H') (fun QT q => ?_) (fun z => by cases z) fun _ H9 hh9 => ?_
  · walk_at "v"
    refine r_lg ?_
    walk_at "v"
    refine ap_mtdG (ir.up hh.ex) (by intros; rfl) ?_
    walk_at "v"
    refine ap_temps hh ir f0 (by omega) (by omega) (by omega) fun q1 G1 H1 ex1 hq1 hh1 => ?_
    walk_at "v"
    refine slL_N hh1 (z.h1.up ex1) fun q2 G2 H2 ex2 hq2 hh2 => ?_
    have ef : f = (f.toNat : Nat) := by omega
    rw [cut_from _ ef (by unfold dgs; rw [List.length_map, List.length_map, List.length_range]; omega), dgs_drop R.P (by omega)] at hq2
    rw [show ((n : Int) - 1 - f + 1).toNat = n - f.toNat by omega, ef] at hq1
    rw [Int.toNat_natCast] at hq1
    walk_at "v"
    have e1 : ∃ xs : List Int, tempsOf R.P (f.toNat : Nat) (n - f.toNat) = xs.map V.int ∧ xs.length ≤ 100000 := ⟨_, rfl, by rw [List.length_map, List.length_range]; omega⟩
    obtain ⟨xs, e1, lx⟩ := e1
    rw [e1] at hq1 hq2
    refine ap_alike (K := K) (A := A) hh2 (ad_lst (hq1.at_ (ex2.trans hh2.ex)) (hq2.at_ hh2.ex) (by rw [List.length_map]; exact lx) (ads_ints xs)) fun H3 hh3 => ?_
    walk_at "v"
    exact q _ (Hold.weak hh3 (ex1.trans ex2))
  · exact k03_c4 hh9 dok z k
end
theorem pure_law (vs : List V) (H : Hp) (Q : VK) (E : XK) (h : sp_law K A vs H Q E) : t_law K A { nx := fun _ H' => Q .non H', rt := Q } (start ["_law_script", "_law_h", "_law_turn", "_law_changes_here", "_law_setting_here", "_law_count", "_law_room_here", "_law_degrees", "_law_states", "_law_tick", "_law_first", "_law_before", "_law_moves", "_law_some", "_law_due", "_law_state", "_law_k", "_law_told_here"] vs) H := by
  obtain ⟨s, ns, rfl, T, hs, hl, k⟩ := h
  show t_law K A _ [some (.ref s), none, none, none, none, none, none, none, none, none, none, none, none, none, none, none, none, none] H
  unfold t_law
  walk_at "w"
  refine ⟨s, 3, ns, rfl, hs, hl, fun a c d H1 dok hh1 => ?_⟩
  walk_at "w"
  refine forR1_I (by decide) (by decide) (Inv3 s a c) ⟨_, _, _, _, _, _, _, _, _, _, _, _, _, _, _, _, d, H, _, rfl, dok, hh1⟩ ?_ ?_
  · rintro i0 σ H2 _ _ ⟨v2, v3, v4, v5, v6, v7, v8, v9, v10, v11, v12, v13, v14, v15, v16, v17, d, G, mu, rfl, dok, hh2⟩
    walk_at "w"
    refine ap_changes hh2 dok (by decide) (by decide) fun t ch d3 G3 H3 ex3 ht wok hcl dok3 hh3 => ?_
    walk_at "w"
    refine ap_setting hh3 dok3 fun se g lo hi st on d4 G4 H4 ex4 hse sok dok4 hh4 => ?_
    walk_at "w"
    refine ap_next hh4 dok4 (by decide) (by decide) fun m d5 H5 m0 m1 dok5 hh5 => ?_
    walk_at "w"
    refine ap_room T hh5 (ht.up ex4) hse wok (by omega) sok fun p R G6 H6 ex6 ir hP hh6 => ?_
    have ok := ir.pa_.2.2.1.v.par
    have ht6 : Tup G6 t (R.P.ch.map V.int) := by rw [hP]; exact (ht.up ex4).up ex6
    have hse6 : Tup G6 se [.int R.P.gain, .int R.P.lo, .int R.P.hi, .int R.P.start, .bl R.P.was] := by rw [hP]; exact hse.up ex6
    obtain ⟨n, hn⟩ := Int.eq_ofNat_of_zero_le (show 0 ≤ 1 + m by omega)
    rw [hn]
    walk_at "w"
    refine ap_told (P := R.P) hh6 ht6 hse6 ok (by omega) (by omega) fun q l1 l2 G7 H7 ex7 hq h1 h2 hh7 => ?_
    rw [Int.toNat_natCast] at h1 h2
    walk_at "v"
    have z : At3 K A G7 t se p l1 l2 R n := ⟨ir.up ex7, ht6.up ex7, hse6.up ex7, h1, h2, by omega, by omega⟩
    have irz := z.ir
    walk_at "v"
    refine ifP (b := false) (fun H' => Hold G7 (dh a c d5 :: dc c d5 :: mu) H') (fun QT q => ?_) (fun z => by cases z) fun _ H9 hh9 => ?_
    · walk_at "v"
      refine lcR1_fil (fun _ => true) (fun u => .int (dAt R.P u)) hh7 (by omega) (by omega) (fun u u0 u1 D acc G4 H4 LY LN ex4 hh4 hY hN => ?_) fun D8 G8 H8 ex8 hD8 hh8 => ?_
      · walk_at "w"
        exact hY _ _ _ rfl rfl (Ex.refl _) (by assumption)
      have e8 : ((rngI ((n : Nat) : Int).toNat).filter fun _ => true).map (fun u => V.int (dAt R.P u)) = ((List.range n).map fun u : Nat => dAt R.P u).map V.int := by
        rw [flt_all]
        unfold rngI
        rw [Int.toNat_natCast, List.map_map, List.map_map]
        rfl
      rw [e8] at hD8
      walk_at "v"
      refine ap_alike (K := K) (A := A) hh8 (ad_lst (hD8.at_ hh8.ex) ((h1.up ex8).at_ hh8.ex) (by rw [List.length_map, List.length_map, List.length_range]; omega) (ads_ints _)) fun H3 hh3 => ?_
      walk_at "v"
      exact q _ (Hold.weak hh3 ex8)
    walk_at "v"
    refine ifP (b := false) (fun H' => Hold G7 (dh a c d5 :: dc c d5 :: mu) H') (fun QT q => ?_) (fun z => by cases z) fun _ H10 hh10 => ?_
    · walk_at "v"
      refine lcR1_fil (fun _ => true) (fun u => .bl (oAt R.P u)) hh9 (by omega) (by omega) (fun u u0 u1 D acc G4 H4 LY LN ex4 hh4 hY hN => ?_) fun D8 G8 H8 ex8 hD8 hh8 => ?_
      · walk_at "w"
        exact hY _ _ _ rfl rfl (Ex.refl _) (by assumption)
      have e8 : ((rngI ((n : Nat) : Int).toNat).filter fun _ => true).map (fun u => V.bl (oAt R.P u)) = bls R.P n := by
        rw [flt_all]
        unfold rngI bls
        rw [Int.toNat_natCast, List.map_map]
        rfl
      rw [e8] at hD8
      walk_at "v"
      refine ap_alike (K := K) (A := A) hh8 (ad_lst (hD8.at_ hh8.ex) ((h2.up ex8).at_ hh8.ex) (by unfold bls; rw [List.length_map, List.length_range]; omega) (ads_refl fun x hx => ?_)) fun H3 hh3 => ?_
      · unfold bls at hx
        obtain ⟨u, _, rfl⟩ := List.mem_map.mp hx
        exact .inr ⟨_, rfl⟩
      walk_at "v"
      exact q _ (Hold.weak hh3 ex8)
    walk_at "w"
    refine ap_next hh10 dok5 (by omega) (by omega) fun f d11 H11 f0 f1 dok11 hh11 => ?_
    walk_at "w"
    exact k03_c5 hh11 dok11 z f0 f1 fun σ H' i => i
  · rintro σ H2 ⟨v2, v3, v4, v5, v6, v7, v8, v9, v10, v11, v12, v13, v14, v15, v16, v17, d, G, mu, rfl, dok, hh2⟩
    walk_at "w"
    exact k H2
end
end Wm
end

section
local macro_rules | `(tactic| walk_at "cls") => `(tactic| first | (with_reducible exact Wm.WeatherC.cl (by assumption)) | (with_reducible exact Wm.HeaterC.cl (by assumption)) | (with_reducible exact Wm.RoomC.cl (by assumption)) | (with_reducible exact Wm.RunC.cl (by assumption)) | (with_reducible exact Wm.HistoryC.cl (by assumption)) | (with_reducible exact Wm.ThresholdObserverC.cl (by assumption)) | (with_reducible exact Wm.SettingC.cl (by assumption)) | (with_reducible exact Wm.HourSettingC.cl (by assumption)) | (with_reducible exact Wm.RestSettingC.cl (by assumption)) | (with_reducible exact Wm.PricesC.cl (by assumption)) | (with_reducible exact Wm.MomentC.cl (by assumption)) | (with_reducible exact Wm.LiveRoomC.cl (by assumption)) | (with_reducible exact Wm.AttemptC.cl (by assumption)))
local macro_rules | `(tactic| walk_at "noattr") => `(tactic| first | (with_reducible exact Wm.WeatherC.n_pattern (by assumption)) | (with_reducible exact Wm.HeaterC.n_power (by assumption)) | (with_reducible exact Wm.HeaterC.n_below (by assumption)) | (with_reducible exact Wm.HeaterC.n_above (by assumption)) | (with_reducible exact Wm.RoomC.n_outside (by assumption)) | (with_reducible exact Wm.RoomC.n_inside (by assumption)) | (with_reducible exact Wm.RoomC.n_begin_degrees (by assumption)) | (with_reducible exact Wm.RoomC.n_past (by assumption)) | (with_reducible exact Wm.RoomC.n_repeated (by assumption)) | (with_reducible exact Wm.RoomC.n_share (by assumption)) | (with_reducible exact Wm.RoomC.n_coldest (by assumption)) | (with_reducible exact Wm.RoomC.n_warmest (by assumption)) | (with_reducible exact Wm.RunC.n_begin (by assumption)) | (with_reducible exact Wm.RunC.n_end (by assumption)) | (with_reducible exact Wm.RunC.n_degrees (by assumption)) | (with_reducible exact Wm.RunC.n_is_heating (by assumption)) | (with_reducible exact Wm.RunC.n_sums (by assumption)) | (with_reducible exact Wm.RunC.n_size (by assumption)) | (with_reducible exact Wm.RunC.n_drift (by assumption)) | (with_reducible exact Wm.HistoryC.n_shifts (by assumption)) | (with_reducible exact Wm.HistoryC.n_added (by assumption)) | (with_reducible exact Wm.HistoryC.n_floor (by assumption)) | (with_reducible exact Wm.HistoryC.n_ceiling (by assumption)) | (with_reducible exact Wm.HistoryC.n_was_heating (by assumption)) | (with_reducible exact Wm.HistoryC.n_runs (by assumption)) | (with_reducible exact Wm.HistoryC.n_loop (by assumption)) | (with_reducible exact Wm.ThresholdObserverC.n_outside (by assumption)) | (with_reducible exact Wm.ThresholdObserverC.n_power (by assumption)) | (with_reducible exact Wm.ThresholdObserverC.n_tick (by assumption)) | (with_reducible exact Wm.ThresholdObserverC.n_degrees (by assumption)) | (with_reducible exact Wm.ThresholdObserverC.n_is_heating (by assumption)) | (with_reducible exact Wm.ThresholdObserverC.n_lows (by assumption)) | (with_reducible exact Wm.ThresholdObserverC.n_highs (by assumption)) | (with_reducible exact Wm.ThresholdObserverC.n_noted (by assumption)) | (with_reducible exact Wm.SettingC.n_least (by assumption)) | (with_reducible exact Wm.SettingC.n_most (by assumption)) | (with_reducible exact Wm.HourSettingC.n_least (by assumption)) | (with_reducible exact Wm.HourSettingC.n_most (by assumption)) | (with_reducible exact Wm.HourSettingC.n_length (by assumption)) | (with_reducible exact Wm.HourSettingC.n_hours (by assumption)) | (with_reducible exact Wm.RestSettingC.n_least (by assumption)) | (with_reducible exact Wm.RestSettingC.n_most (by assumption)) | (with_reducible exact Wm.RestSettingC.n_rest (by assumption)) | (with_reducible exact Wm.PricesC.n_table (by assumption)) | (with_reducible exact Wm.MomentC.n_tick (by assumption)) | (with_reducible exact Wm.MomentC.n_heat (by assumption)) | (with_reducible exact Wm.MomentC.n_on (by assumption)) | (with_reducible exact Wm.MomentC.n_burnt (by assumption)) | (with_reducible exact Wm.MomentC.n_sky (by assumption)) | (with_reducible exact Wm.MomentC.n_stove (by assumption)) | (with_reducible exact Wm.LiveRoomC.n_moment (by assumption)) | (with_reducible exact Wm.LiveRoomC.n_earlier (by assumption)) | (with_reducible exact Wm.LiveRoomC.n_done (by assumption)) | (with_reducible exact Wm.AttemptC.n_live (by assumption)) | (with_reducible exact Wm.AttemptC.n_kept (by assumption)) | (with_reducible exact Wm.AttemptC.n_stack (by assumption)) | (with_reducible exact Wm.AttemptC.n_steps (by assumption)))
local macro_rules | `(tactic| walk_at "at") => `(tactic| first | assumption | exact Wm.Hold.rd (by assumption) (by assumption) | exact Wm.Hold.get (i := 0) (by assumption) rfl | exact Wm.Hold.get (i := 1) (by assumption) rfl | exact Wm.Hold.get (i := 2) (by assumption) rfl | exact Wm.Hold.get (i := 3) (by assumption) rfl | exact Wm.Hold.get (i := 4) (by assumption) rfl)
local macro_rules | `(tactic| walk_at "s1") => `(tactic| first
  | (with_reducible refine Wm.r_seq ?_)
  | (with_reducible refine Wm.r_op ?_)
  | ((with_reducible refine' Wm.r_var ?h ?_); (case h => rfl))
  | (with_reducible refine Wm.r_c ?_)
  | (with_reducible refine Wm.r_I0 ?_)
  | (with_reducible refine Wm.r_cons ?_)
  | (with_reducible refine Wm.r_nil ?_)
  | (with_reducible refine Wm.r_asg ?_)
  | (with_reducible refine Wm.r_gname ?_; try simp only [List.set_cons_zero, List.set_cons_succ])
  | (with_reducible refine Wm.r_nx ?_)
  | (with_reducible refine Wm.r_rt ?_)
  | (with_reducible refine Wm.r_ret ?_)
  | (with_reducible refine Wm.r_test ?_)
  | (with_reducible refine Wm.r_bl ?_)
  | (with_reducible refine Wm.r_B ?_)
  | (with_reducible refine Wm.r_eqI ?_)
  | (with_reducible refine Wm.r_neI ?_)
  | (with_reducible refine Wm.r_eqB ?_)
  | (with_reducible refine Wm.r_neB ?_)
  | (with_reducible refine Wm.r_fld ?_)
  | (with_reducible refine Wm.r_call ?_)
  | (with_reducible refine Wm.r_mtd ?_)
  | (with_reducible refine Wm.r_prp ?_)
  | (with_reducible refine Wm.r_mak ?_)
  | (with_reducible refine Wm.r_makKw ?_)
  | (with_reducible refine Wm.r_cb ?_)
  | (with_reducible refine Wm.r_tup ?_)
  | (with_reducible refine Wm.r_lst ?_)
  | (with_reducible refine Wm.r_chain ?_)
  | (with_reducible refine Wm.r_and ?_)
  | (with_reducible refine Wm.r_or ?_)
  | (with_reducible refine Wm.r_not ?_)
  | (with_reducible refine Wm.r_andV ?_)
  | (with_reducible refine Wm.r_orV ?_)
  | (with_reducible refine Wm.r_notV ?_)
  | (with_reducible refine Wm.r_if ?_)
  | (with_reducible refine Wm.r_un ?_)
  | (with_reducible refine Wm.r_U ?_)
  | (with_reducible refine Wm.r_iteT ?_)
  | (with_reducible refine Wm.r_iteF ?_)
  | (with_reducible refine Wm.r_next ?_)
  | (with_reducible refine Wm.r_drop ?_)
  | (with_reducible refine Wm.r_retN ?_)
  | ((with_reducible refine' Wm.r_aug ?h ?_); (case h => rfl))
  | (with_reducible refine Wm.r_ipI ?_)
  | (with_reducible refine Wm.r_par2 ?_)
  | (with_reducible refine Wm.r_two ?_; try simp only [List.set_cons_zero, List.set_cons_succ])
  | (with_reducible refine Wm.r_yes ?_)
  | (with_reducible refine Wm.r_forET ?_)
  | (with_reducible refine Wm.r_chain3 ?_)
  | (with_reducible refine Wm.r_nT ?_)
  | (with_reducible refine Wm.r_nF ?_)
  | (with_reducible refine Wm.r_par3 ?_)
  | (with_reducible refine Wm.r_seenPut ?_)
  | (with_reducible refine Wm.r_seenGet ?_)
  | (with_reducible refine Wm.r_three ?_; try simp only [List.set_cons_zero, List.set_cons_succ])
  | (with_reducible refine Wm.r_sl ?_)
  | (with_reducible refine Wm.r_nopart ?_)
  | (with_reducible refine Wm.r_part ?_)
  | (with_reducible refine Wm.r_xi ?_)
  | (with_reducible refine Wm.r_gcons ?_)
  | (with_reducible refine Wm.r_gnil ?_)
  | (with_reducible refine Wm.r_sub ?_)
  | (with_reducible refine Wm.r_setF ?_)
  | (with_reducible refine Wm.r_app ?_)
  | (with_reducible refine Wm.int_i ?_)
  | (with_reducible refine Wm.int_b ?_)
  | (with_reducible refine Wm.min2 ?_)
  | (with_reducible refine Wm.max2 ?_)
  | (with_reducible refine Wm.abs1 ?_)
  | (with_reducible refine Wm.isN ?_)
  | (with_reducible refine Wm.notN ?_)
  | ((with_reducible refine' Wm.r_ty ?e ?_); (case e => walk_at "at"))
  | ((with_reducible refine' Wm.setF_m ?h 0 ?e ?c ?a ?l ?_); (case h => assumption); (case e => rfl); (case c => walk_at "cls"); (case a => walk_at "noattr"); (case l => exact of_decide_eq_true rfl); intro H1 hh1; simp only [List.set_cons_zero, List.set_cons_succ] at hh1)
  | ((with_reducible refine' Wm.setF_m ?h 1 ?e ?c ?a ?l ?_); (case h => assumption); (case e => rfl); (case c => walk_at "cls"); (case a => walk_at "noattr"); (case l => exact of_decide_eq_true rfl); intro H1 hh1; simp only [List.set_cons_zero, List.set_cons_succ] at hh1)
  | ((with_reducible refine' Wm.setF_m ?h 2 ?e ?c ?a ?l ?_); (case h => assumption); (case e => rfl); (case c => walk_at "cls"); (case a => walk_at "noattr"); (case l => exact of_decide_eq_true rfl); intro H1 hh1; simp only [List.set_cons_zero, List.set_cons_succ] at hh1)
  | ((with_reducible refine' Wm.setF_m ?h 3 ?e ?c ?a ?l ?_); (case h => assumption); (case e => rfl); (case c => walk_at "cls"); (case a => walk_at "noattr"); (case l => exact of_decide_eq_true rfl); intro H1 hh1; simp only [List.set_cons_zero, List.set_cons_succ] at hh1)
  | (with_reducible refine Wm.r_forL ?_)
  | (with_reducible refine Wm.r_forT ?_)
  | (with_reducible refine Wm.r_forR1 ?_)
  | (with_reducible refine Wm.r_forR2 ?_)
  | (with_reducible refine Wm.r_forR3 ?_)
  | (with_reducible refine Wm.r_lcL ?_)
  | (with_reducible refine Wm.r_lcT ?_)
  | (with_reducible refine Wm.r_lcR1 ?_)
  | (with_reducible refine Wm.r_lcR2 ?_)
  | ((with_reducible refine' Wm.fld_h ?e ?c ?n ?l ?_); (case e => walk_at "at"); (case c => walk_at "cls"); (case n => walk_at "noattr"); (case l => rfl))
  | ((with_reducible refine' Wm.mtd_h ?e ?l ?_); (case e => walk_at "at"); (case l => rfl))
  | ((with_reducible refine' Wm.prp_h ?e ?_); (case e => walk_at "at"))
  | ((with_reducible refine' Wm.rix_ht ?a ?b ?_); (case a => walk_at "at"); (case b => rfl))
  | ((with_reducible refine' Wm.rix_h ?a ?b ?_); (case a => walk_at "at"); (case b => rfl))
  | ((with_reducible refine' Wm.len_ht ?a ?_); (case a => walk_at "at"))
  | ((with_reducible refine' Wm.len_h ?a ?_); (case a => walk_at "at"))
  | ((with_reducible refine' Wm.len_l ?a ?b ?_); (case a => assumption); (case b => assumption))
  | ((with_reducible refine' Wm.len_t ?a ?b ?_); (case a => assumption); (case b => assumption))
  | ((with_reducible refine' Wm.gtup_h ?a ?b ?_); (case a => walk_at "at"); (case b => rfl))
  | (with_reducible refine Wm.r_I (Wm.cmulR (by decide)) ?_)
  | (with_reducible refine Wm.r_I (Wm.cmulL (by decide)) ?_)
  | (with_reducible refine Wm.r_I (Wm.cdiv (by decide) (by decide)) ?_)
  | (with_reducible refine Wm.r_I Wm.cpow18 ?_)
  | (with_reducible refine Wm.r_I Wm.cpow12 ?_)
  | (with_reducible refine Wm.r_I (by show (0 : Int) < _; decide) ?_))
local macro_rules | `(tactic| walk_at "s") => `(tactic| repeat (first | walk_at "s1" | (with_reducible refine Wm.r_ifS ?_)))
local macro_rules | `(tactic| walk_at "t") => `(tactic| repeat (walk_at "s1"))
local macro_rules | `(tactic| walk_at "sz") => `(tactic| exact of_decide_eq_true rfl)
local macro_rules | `(tactic| walk_at "d") => `(tactic| first | (with_reducible refine Wm.r_dT (by omega) ?_) | (with_reducible refine Wm.r_dF (by omega) ?_) | (with_reducible refine Wm.r_dN (by omega) ?_) | (with_reducible refine Wm.r_dM (by omega) ?_))
local macro_rules | `(tactic| walk_at "sd") => `(tactic| repeat (first | walk_at "s1" | (with_reducible refine Wm.r_ifS ?_) | walk_at "d"))
namespace Wm
open PySem PySem.Spec PyProof.Rows L2 StX

def top (i : Nat) : Stmt := PySem.Challenge.pw_warmswitch_k03_whole_rooms_tick_by_tick.main.body.getD i (.Pass ⟨0, 0, 0, 0⟩)
section
variable {K : PySem.W.Frag} {mg : Str → Option Value} {base : Heap} {CX : CXT} {A : Ads}
abbrev s__law_mix : Stmt := top 24
theorem sc__law_mix : FnScope ["_law_script", "_law_seed", "_law_mixed", "_law_cell"] ["_law_script", "_law_seed"] (defScope s__law_mix) := ⟨rfl, rfl, rfl, by decide +kernel, rfl, by decide +kernel, by decide +kernel⟩
theorem len_law_mix {vs : List V} {H : Hp} {Q : VK} {E : XK} (h : sp_law_mix K A vs H Q E) : vs.length = 2 := by
  unfold sp_law_mix at h
  repeat (first | (obtain ⟨rfl, _⟩ := h; rfl) | obtain ⟨_, h⟩ := h)
theorem ok_law_mix {f : Addr} {fd : FuncData} (F : FunD K "_law_mix" "_law_mix" (defArgs s__law_mix) (defBody s__law_mix) (defScope s__law_mix) [] [] f fd) (hcx : NoE CX) (b : Blt mg)  : FnOk A.P A.w K mg base CX 1 f fd ["_law_script", "_law_seed"] (sp_law_mix K A) := by
  refine okD F sc__law_mix (fun vs H Q E h => len_law_mix h) (fun cdv A' outer s H vs Q E hr h => ⟨t_law_mix K A, ?_, pure_law_mix vs H Q E h⟩)
  exact pss_cons (ps_set (i := 2) sc__law_mix.nd rfl (by first | exact Or.inl rfl | exact Or.inr rfl) (pv 1)) (pss_cons (ps_for PassesOwn.never rfl (pi_list (pv 0)) (pg_name (i := 3) sc__law_mix.nd rfl (by first | exact Or.inl rfl | exact Or.inr rfl)) (pss_one (ps_set (i := 2) sc__law_mix.nd rfl (by first | exact Or.inl rfl | exact Or.inr rfl) (pe_op op_mod (pe_op op_add (pe_op op_add (pe_op op_mul (pv 2) (pe_int)) (pe_op op_mod (pv 3) (pe_int))) (pe_int)) (pe_int))))) (pss_one (ps_ret (pe_lst (pa_cons (pv 2) (pa_cons ((pe_callTy call_list_of (by rfl) b.n_list (by decide +kernel) (pa_cons (pv 0) (pa_nil)))) (pa_cons (pe_int) (pa_nil))))))))
abbrev s__law_next : Stmt := top 25
theorem sc__law_next : FnScope ["_law_h", "_law_limit", "_law_cell"] ["_law_h", "_law_limit"] (defScope s__law_next) := ⟨rfl, rfl, rfl, by decide +kernel, rfl, by decide +kernel, by decide +kernel⟩
theorem len_law_next {vs : List V} {H : Hp} {Q : VK} {E : XK} (h : sp_law_next K A vs H Q E) : vs.length = 2 := by
  unfold sp_law_next at h
  repeat (first | (obtain ⟨rfl, _⟩ := h; rfl) | obtain ⟨_, h⟩ := h)
theorem ok_law_next {f : Addr} {fd : FuncData} (F : FunD K "_law_next" "_law_next" (defArgs s__law_next) (defBody s__law_next) (defScope s__law_next) [] [] f fd) (hcx : NoE CX) (b : Blt mg)  : FnOk A.P A.w K mg base CX 1 f fd ["_law_h", "_law_limit"] (sp_law_next K A) := by
  refine okD F sc__law_next (fun vs H Q E h => len_law_next h) (fun cdv A' outer s H vs Q E hr h => ⟨t_law_next K A, ?_, pure_law_next vs H Q E h⟩)
  exact pss_cons (ps_set (i := 2) sc__law_next.nd rfl (by first | exact Or.inl rfl | exact Or.inr rfl) (pe_ix ix_seq (pe_op op_cat (pe_ix ix_seq (pv 0) (pe_int) (fun _ _ => rfl)) (pe_lst (pa_cons (pe_int) (pa_nil)))) (pe_op op_mod (pe_ix ix_seq (pv 0) (pe_int) (fun _ _ => rfl)) ((pe_callB (call_max2 rfl) (by rfl) b.n_max (by decide +kernel) (pa_cons (pe_int) (pa_cons ((pe_callB call_len (by rfl) b.n_len boot_len (pa_cons (pe_ix ix_seq (pv 0) (pe_int) (fun _ _ => rfl)) (pa_nil)))) (pa_nil)))))) (fun _ _ => rfl))) (pss_cons (ps_if (pt_cmpR op_ge (pv 2) (pe_op op_pow (pe_int) (pe_int)) (nomark _)) (pss_cons (ps_asg (pe_op op_fdivW (pv 2) (pv 1)) (pg_sub (pe_ix ix_seq (pv 0) (pe_int) (fun _ _ => rfl)) (pe_op op_mod (pe_ix ix_seq (pv 0) (pe_int) (fun _ _ => rfl)) ((pe_callB call_len (by rfl) b.n_len boot_len (pa_cons (pe_ix ix_seq (pv 0) (pe_int) (fun _ _ => rfl)) (pa_nil))))) set_list)) (pss_one (ps_ret (pe_op op_mod (pv 2) (pv 1))))) (pss_nil)) (pss_cons (ps_asg (pe_op op_mod (pe_op op_add (pe_op op_add (pe_op op_mul (pe_ix ix_seq (pv 0) (pe_int) (fun _ _ => rfl)) (pe_int)) (pe_op op_mul (pv 2) (pe_int))) (pe_int)) (pe_int)) (pg_sub (pv 0) (pe_int) set_list)) (pss_cons (ps_asg (pe_op op_add (pe_ix ix_seq (pv 0) (pe_int) (fun _ _ => rfl)) (pe_int)) (pg_sub (pv 0) (pe_int) set_list)) (pss_one (ps_ret (pe_op op_mod (pe_op op_fdivW (pe_ix ix_seq (pv 0) (pe_int) (fun _ _ => rfl)) (pe_int)) (pv 1)))))))
abbrev s__law_changes : Stmt := top 27
theorem sc__law_changes : FnScope ["_law_h", "_law_most", "_law_wide", "_law_found", "_law_low", "_law_k"] ["_law_h", "_law_most"] (defScope s__law_changes) := ⟨rfl, rfl, rfl, by decide +kernel, rfl, by decide +kernel, by decide +kernel⟩
theorem len_law_changes {vs : List V} {H : Hp} {Q : VK} {E : XK} (h : sp_law_changes K A vs H Q E) : vs.length = 2 := by
  unfold sp_law_changes at h
  repeat (first | (obtain ⟨rfl, _⟩ := h; rfl) | obtain ⟨_, h⟩ := h)
theorem ok_law_changes {f : Addr} {fd : FuncData} (F : FunD K "_law_changes" "_law_changes" (defArgs s__law_changes) (defBody s__law_changes) (defScope s__law_changes) [] [] f fd) (hcx : NoE CX) (b : Blt mg) (c_law_next : CalR A.P A.w K mg base CX 1 "_law_next" (sp_law_next K A)) : FnOk A.P A.w K mg base CX 2 f fd ["_law_h", "_law_most"] (sp_law_changes K A) := by
  refine okD F sc__law_changes (fun vs H Q E h => len_law_changes h) (fun cdv A' outer s H vs Q E hr h => ⟨t_law_changes K A, ?_, pure_law_changes vs H Q E h⟩)
  exact pss_cons (ps_par (i := 2) (j := 3) rfl sc__law_changes.nd rfl rfl (by decide) rfl rfl (pa_cons (pe_ix ix_seq (pe_lst (pa_cons (pe_int) (pa_cons (pe_int) (pa_cons (pe_int) (pa_nil))))) ((pe_cR c_law_next hr (by decide) (hcx _) (by rfl) (pa_cons (pv 0) (pa_cons (pe_int) (pa_nil))))) (fun _ _ => rfl)) (pa_cons (pe_lst (pa_nil)) (pa_nil))) (by rfl)) (pss_cons (ps_set (i := 4) sc__law_changes.nd rfl (by first | exact Or.inl rfl | exact Or.inr rfl) (pe_op op_sub (pe_op op_sub ((pe_cR c_law_next hr (by decide) (hcx _) (by rfl) (pa_cons (pv 0) (pa_cons (pe_op op_add (pe_op op_mul (pe_int) (pv 2)) (pe_int)) (pa_nil))))) (pv 2)) (pe_op op_fdivW (pv 2) (pe_int)))) (pss_cons (ps_for PassesOwn.never rfl (pi_range1 (by rfl) b.n_range (pa_cons (pe_op op_add (pe_int) ((pe_cR c_law_next hr (by decide) (hcx _) (by rfl) (pa_cons (pv 0) (pa_cons (pv 1) (pa_nil)))))) (pa_nil))) (pg_name (i := 5) sc__law_changes.nd rfl (by first | exact Or.inl rfl | exact Or.inr rfl)) (pss_one (ps_expr ((pe_bm PySem.F.plainAttrs_list PySem.F.slot_list_append PySem.F.type_list_append mt_append (pv 3) (pa_cons (pe_op op_mul ((pe_callB (call_max2 rfl) (by rfl) b.n_max (by decide +kernel) (pa_cons (pe_un un_neg (pe_int)) (pa_cons ((pe_callB (call_min2 rfl) (by rfl) b.n_min (by decide +kernel) (pa_cons (pe_int) (pa_cons (pe_op op_add (pv 4) ((pe_cR c_law_next hr (by decide) (hcx _) (by rfl) (pa_cons (pv 0) (pa_cons (pe_op op_add (pv 2) (pe_int)) (pa_nil)))))) (pa_nil))))) (pa_nil))))) ((pe_callTy call_int1 (by rfl) b.n_int (by decide +kernel) (pa_cons (pe_cmpR op_gt ((pe_cR c_law_next hr (by decide) (hcx _) (by rfl) (pa_cons (pv 0) (pa_cons (pe_int) (pa_nil))))) (pe_int) (nomark _)) (pa_nil))))) (pa_nil))))))) (pss_one (ps_ret ((pe_callTy call_tuple_of (by rfl) b.n_tuple (by decide +kernel) (pa_cons (pv 3) (pa_nil))))))))
abbrev s__law_setting : Stmt := top 29
theorem sc__law_setting : FnScope ["_law_h", "_law_wide", "_law_low", "_law_high", "_law_start"] ["_law_h"] (defScope s__law_setting) := ⟨rfl, rfl, rfl, by decide +kernel, rfl, by decide +kernel, by decide +kernel⟩
theorem len_law_setting {vs : List V} {H : Hp} {Q : VK} {E : XK} (h : sp_law_setting K A vs H Q E) : vs.length = 1 := by
  unfold sp_law_setting at h
  repeat (first | (obtain ⟨rfl, _⟩ := h; rfl) | obtain ⟨_, h⟩ := h)
theorem ok_law_setting {f : Addr} {fd : FuncData} (F : FunD K "_law_setting" "_law_setting" (defArgs s__law_setting) (defBody s__law_setting) (defScope s__law_setting) [] [] f fd) (hcx : NoE CX) (b : Blt mg) (c_law_next : CalR A.P A.w K mg base CX 1 "_law_next" (sp_law_next K A)) : FnOk A.P A.w K mg base CX 2 f fd ["_law_h"] (sp_law_setting K A) := by
  refine okD F sc__law_setting (fun vs H Q E h => len_law_setting h) (fun cdv A' outer s H vs Q E hr h => ⟨t_law_setting K A, ?_, pure_law_setting vs H Q E h⟩)
  exact pss_cons (ps_set (i := 1) sc__law_setting.nd rfl (by first | exact Or.inl rfl | exact Or.inr rfl) (pe_ix ix_seq (pe_lst (pa_cons (pe_int) (pa_cons (pe_int) (pa_cons (pe_op op_pow (pe_int) (pe_int)) (pa_nil))))) ((pe_cR c_law_next hr (by decide) (hcx _) (by rfl) (pa_cons (pv 0) (pa_cons (pe_int) (pa_nil))))) (fun _ _ => rfl))) (pss_cons (ps_set (i := 2) sc__law_setting.nd rfl (by first | exact Or.inl rfl | exact Or.inr rfl) (pe_op op_sub ((pe_cR c_law_next hr (by decide) (hcx _) (by rfl) (pa_cons (pv 0) (pa_cons (pv 1) (pa_nil))))) (pe_op op_fdivW (pv 1) (pe_int)))) (pss_cons (ps_set (i := 3) sc__law_setting.nd rfl (by first | exact Or.inl rfl | exact Or.inr rfl) (pe_op op_add (pv 2) ((pe_cR c_law_next hr (by decide) (hcx _) (by rfl) (pa_cons (pv 0) (pa_cons (pe_ix ix_seq (pe_lst (pa_cons (pe_int) (pa_cons (pv 1) (pa_nil)))) ((pe_cR c_law_next hr (by decide) (hcx _) (by rfl) (pa_cons (pv 0) (pa_cons (pe_int) (pa_nil))))) (fun _ _ => rfl)) (pa_nil))))))) (pss_cons (ps_set (i := 4) sc__law_setting.nd rfl (by first | exact Or.inl rfl | exact Or.inr rfl) (pe_op op_sub (pe_op op_add (pv 2) ((pe_cR c_law_next hr (by decide) (hcx _) (by rfl) (pa_cons (pv 0) (pa_cons (pe_op op_mul (pe_int) (pv 1)) (pa_nil)))))) (pe_op op_fdivW (pv 1) (pe_int)))) (pss_cons (ps_set (i := 4) sc__law_setting.nd rfl (by first | exact Or.inl rfl | exact Or.inr rfl) (pe_ix ix_seq (pe_lst (pa_cons (pv 4) (pa_cons (pv 2) (pa_cons (pv 3) (pa_cons (pe_op op_sub (pv 2) (pe_int)) (pa_cons (pe_op op_add (pv 3) (pe_int)) (pa_nil))))))) ((pe_callB (call_max2 rfl) (by rfl) b.n_max (by decide +kernel) (pa_cons (pe_int) (pa_cons (pe_op op_sub ((pe_cR c_law_next hr (by decide) (hcx _) (by rfl) (pa_cons (pv 0) (pa_cons (pe_int) (pa_nil))))) (pe_int)) (pa_nil))))) (fun _ _ => rfl))) (pss_one (ps_ret (pe_tup (pa_cons (pe_op op_add (pe_int) ((pe_cR c_law_next hr (by decide) (hcx _) (by rfl) (pa_cons (pv 0) (pa_cons (pe_ix ix_seq (pe_lst (pa_cons (pe_int) (pa_cons (pe_int) (pa_nil)))) ((pe_cR c_law_next hr (by decide) (hcx _) (by rfl) (pa_cons (pv 0) (pa_cons (pe_int) (pa_nil))))) (fun _ _ => rfl)) (pa_nil)))))) (pa_cons (pv 2) (pa_cons (pv 3) (pa_cons (pv 4) (pa_cons (pe_cmpR op_eq ((pe_cR c_law_next hr (by decide) (hcx _) (by rfl) (pa_cons (pv 0) (pa_cons (pe_int) (pa_nil))))) (pe_int) (nomark _)) (pa_nil)))))))))))))
abbrev s_validate_number : Stmt := top 11
theorem sc_validate_number : FnScope ["number", "smallest", "largest"] ["number", "smallest", "largest"] (defScope s_validate_number) := ⟨rfl, rfl, rfl, by decide +kernel, rfl, by decide +kernel, by decide +kernel⟩
theorem len_validate_number {vs : List V} {H : Hp} {Q : VK} {E : XK} (h : sp_validate_number K A vs H Q E) : vs.length = 3 := by
  unfold sp_validate_number at h
  repeat (first | (obtain ⟨rfl, _⟩ := h; rfl) | obtain ⟨_, h⟩ := h)
theorem ok_validate_number {f : Addr} {fd : FuncData} (F : FunD K "validate_number" "validate_number" (defArgs s_validate_number) (defBody s_validate_number) (defScope s_validate_number) [] [] f fd) (hcx : NoE CX) (b : Blt mg)  : FnOk A.P A.w K mg base CX 1 f fd ["number", "smallest", "largest"] (sp_validate_number K A) := by
  refine okD F sc_validate_number (fun vs H Q E h => len_validate_number h) (fun cdv A' outer s H vs Q E hr h => ⟨t_validate_number K A, ?_, pure_validate_number vs H Q E h⟩)
  exact pss_one (ps_if (pt_not (pt_chain op_le op_le (pv 1) (pv 0) (pv 2))) (pss_one (ps_never)) (pss_nil))
abbrev s_History_decide : Stmt := inClass (top 8) 1
theorem sc_History_decide : FnScope ["self", "degrees", "is_heating"] ["self", "degrees", "is_heating"] (defScope s_History_decide) := ⟨rfl, rfl, rfl, by decide +kernel, rfl, by decide +kernel, by decide +kernel⟩
theorem len_History_decide {vs : List V} {H : Hp} {Q : VK} {E : XK} (h : sp_History_decide K A vs H Q E) : vs.length = 3 := by
  unfold sp_History_decide at h
  repeat (first | (obtain ⟨rfl, _⟩ := h; rfl) | obtain ⟨_, h⟩ := h)
theorem ok_History_decide {f : Addr} {fd : FuncData} (F : FunD K "decide" "History.decide" (defArgs s_History_decide) (defBody s_History_decide) (defScope s_History_decide) [] [] f fd) (hcx : NoE CX) (b : Blt mg)  : FnOk A.P A.w K mg base CX 1 f fd ["self", "degrees", "is_heating"] (sp_History_decide K A) := by
  refine okD F sc_History_decide (fun vs H Q E h => len_History_decide h) (fun cdv A' outer s H vs Q E hr h => ⟨t_History_decide K A, ?_, pure_History_decide vs H Q E h⟩)
  exact pss_cons (ps_if (pt_cmpR op_lt (pv 1) (pe_fld (pv 0) rfl) (nomark _)) (pss_one (ps_ret (pe_bl))) (pss_nil)) (pss_one (ps_ret (pe_and (pv 2) (pe_one (pe_cmpR op_le (pv 1) (pe_fld (pv 0) rfl) (nomark _))))))
abbrev s_Run___init__ : Stmt := inClass (top 7) 0
theorem sc_Run___init__ : FnScope ["self", "begin", "degrees", "is_heating", "steps", "step"] ["self", "begin", "degrees", "is_heating", "steps"] (defScope s_Run___init__) := ⟨rfl, rfl, rfl, by decide +kernel, rfl, by decide +kernel, by decide +kernel⟩
theorem len_Run_init {vs : List V} {H : Hp} {Q : VK} {E : XK} (h : sp_Run_init K A vs H Q E) : vs.length = 5 := by
  unfold sp_Run_init at h
  repeat (first | (obtain ⟨rfl, _⟩ := h; rfl) | obtain ⟨_, h⟩ := h)
theorem ok_Run_init {f : Addr} {fd : FuncData} (F : FunD K "__init__" "Run.__init__" (defArgs s_Run___init__) (defBody s_Run___init__) (defScope s_Run___init__) [] [] f fd) (hcx : NoE CX) (b : Blt mg)  : FnOk A.P A.w K mg base CX 1 f fd ["self", "begin", "degrees", "is_heating", "steps"] (sp_Run_init K A) := by
  refine okD F sc_Run___init__ (fun vs H Q E h => len_Run_init h) (fun cdv A' outer s H vs Q E hr h => ⟨t_Run_init K A, ?_, pure_Run_init vs H Q E h⟩)
  exact pss_cons (ps_fld (pv 0) (pv 1) rfl) (pss_cons (ps_fld (pv 0) (pe_non) rfl) (pss_cons (ps_fld (pv 0) (pv 2) rfl) (pss_cons (ps_fld (pv 0) (pv 3) rfl) (pss_cons (ps_fld (pv 0) (pe_lst (pa_cons (pe_int) (pa_nil))) rfl) (pss_cons (ps_for PassesOwn.never rfl (pi_list (pv 4)) (pg_name (i := 5) sc_Run___init__.nd rfl (by first | exact Or.inl rfl | exact Or.inr rfl)) (pss_one (ps_expr ((pe_bm PySem.F.plainAttrs_list PySem.F.slot_list_append PySem.F.type_list_append mt_append (pe_fld (pv 0) rfl) (pa_cons (pe_op op_add (pe_ix ix_seq (pe_fld (pv 0) rfl) (pe_un un_neg (pe_int)) (fun _ _ => rfl)) (pv 5)) (pa_nil))))))) (pss_cons (ps_fld (pv 0) ((pe_callB call_len (by rfl) b.n_len boot_len (pa_cons (pv 4) (pa_nil)))) rfl) (pss_one (ps_fld (pv 0) (pe_ix ix_seq (pe_fld (pv 0) rfl) (pe_un un_neg (pe_int)) (fun _ _ => rfl)) rfl))))))))
abbrev s_Run_first_beyond : Stmt := inClass (top 7) 2
theorem sc_Run_first_beyond : FnScope ["self", "bound", "sign", "found", "place", "gap"] ["self", "bound", "sign"] (defScope s_Run_first_beyond) := ⟨rfl, rfl, rfl, by decide +kernel, rfl, by decide +kernel, by decide +kernel⟩
theorem len_Run_first_beyond {vs : List V} {H : Hp} {Q : VK} {E : XK} (h : sp_Run_first_beyond K A vs H Q E) : vs.length = 3 := by
  unfold sp_Run_first_beyond at h
  repeat (first | (obtain ⟨rfl, _⟩ := h; rfl) | obtain ⟨_, h⟩ := h)
theorem ok_Run_first_beyond {f : Addr} {fd : FuncData} (F : FunD K "first_beyond" "Run.first_beyond" (defArgs s_Run_first_beyond) (defBody s_Run_first_beyond) (defScope s_Run_first_beyond) [] [] f fd) (hcx : NoE CX) (b : Blt mg)  : FnOk A.P A.w K mg base CX 1 f fd ["self", "bound", "sign"] (sp_Run_first_beyond K A) := by
  refine okD F sc_Run_first_beyond (fun vs H Q E h => len_Run_first_beyond h) (fun cdv A' outer s H vs Q E hr h => ⟨t_Run_first_beyond K A, ?_, pure_Run_first_beyond vs H Q E h⟩)
  exact pss_cons (ps_set (i := 3) sc_Run_first_beyond.nd rfl (by first | exact Or.inl rfl | exact Or.inr rfl) (pe_lst (pa_nil))) (pss_cons (ps_for PassesOwn.never rfl (pi_range1 (by rfl) b.n_range (pa_cons (pe_fld (pv 0) rfl) (pa_nil))) (pg_name (i := 4) sc_Run_first_beyond.nd rfl (by first | exact Or.inl rfl | exact Or.inr rfl)) (pss_cons (ps_set (i := 5) sc_Run_first_beyond.nd rfl (by first | exact Or.inl rfl | exact Or.inr rfl) (pe_op op_mul (pe_op op_sub (pe_op op_sub (pv 1) (pe_fld (pv 0) rfl)) (pe_ix ix_seq (pe_fld (pv 0) rfl) (pv 4) (fun _ _ => rfl))) (pv 2))) (pss_one (ps_if (pt_cmpR op_lt (pv 5) (pe_int) (nomark _)) (pss_one (ps_expr ((pe_bm PySem.F.plainAttrs_list PySem.F.slot_list_append PySem.F.type_list_append mt_append (pv 3) (pa_cons (pe_op op_add (pe_fld (pv 0) rfl) (pv 4)) (pa_nil)))))) (pss_one (ps_if (pt_cmpR op_gt (pe_op op_mul (pe_fld (pv 0) rfl) (pv 2)) (pe_int) (nomark _)) (pss_one (ps_expr ((pe_bm PySem.F.plainAttrs_list PySem.F.slot_list_append PySem.F.type_list_append mt_append (pv 3) (pa_cons (pe_op op_add (pe_op op_add (pe_fld (pv 0) rfl) (pv 4)) (pe_op op_mul (pe_op op_add (pe_op op_fdivW (pv 5) (pe_op op_mul (pe_fld (pv 0) rfl) (pv 2))) (pe_int)) (pe_fld (pv 0) rfl))) (pa_nil)))))) (pss_nil))))))) (pss_one (ps_ret (pe_ifExp (pt_cmpR (op_neD hr.units) (pv 3) (pe_lst (pa_nil)) (nomark _)) ((pe_callB (cr_min rfl) (by rfl) b.n_min (by decide +kernel) (pa_cons (pv 3) (pa_nil)))) (pe_non)))))
abbrev s_Run_at : Stmt := inClass (top 7) 1
theorem sc_Run_at : FnScope ["self", "tick", "place"] ["self", "tick"] (defScope s_Run_at) := ⟨rfl, rfl, rfl, by decide +kernel, rfl, by decide +kernel, by decide +kernel⟩
theorem len_Run_at {vs : List V} {H : Hp} {Q : VK} {E : XK} (h : sp_Run_at K A vs H Q E) : vs.length = 2 := by
  unfold sp_Run_at at h
  repeat (first | (obtain ⟨rfl, _⟩ := h; rfl) | obtain ⟨_, h⟩ := h)
theorem ok_Run_at {f : Addr} {fd : FuncData} (F : FunD K "at" "Run.at" (defArgs s_Run_at) (defBody s_Run_at) (defScope s_Run_at) [] [] f fd) (hcx : NoE CX) (b : Blt mg)  : FnOk A.P A.w K mg base CX 1 f fd ["self", "tick"] (sp_Run_at K A) := by
  refine okD F sc_Run_at (fun vs H Q E h => len_Run_at h) (fun cdv A' outer s H vs Q E hr h => ⟨t_Run_at K A, ?_, pure_Run_at vs H Q E h⟩)
  exact pss_cons (ps_set (i := 2) sc_Run_at.nd rfl (by first | exact Or.inl rfl | exact Or.inr rfl) (pe_op op_sub (pv 1) (pe_fld (pv 0) rfl))) (pss_one (ps_ret (pe_op op_add (pe_op op_add (pe_fld (pv 0) rfl) (pe_op op_mul (pe_op op_fdivW (pv 2) (pe_fld (pv 0) rfl)) (pe_fld (pv 0) rfl))) (pe_ix ix_seq (pe_fld (pv 0) rfl) (pe_op op_mod ((pe_callTy call_int1 (by rfl) b.n_int (by decide +kernel) (pa_cons (pv 2) (pa_nil)))) (pe_fld (pv 0) rfl)) (fun _ _ => rfl)))))
abbrev s_History_find_runs : Stmt := inClass (top 8) 2
theorem sc_History_find_runs : FnScope ["self", "degrees", "is_heating", "tick", "seen", "is_open", "phase", "key", "added", "shifts", "run", "shift"] ["self", "degrees", "is_heating"] (defScope s_History_find_runs) := ⟨rfl, rfl, rfl, by decide +kernel, rfl, by decide +kernel, by decide +kernel⟩
theorem len_History_find_runs {vs : List V} {H : Hp} {Q : VK} {E : XK} (h : sp_History_find_runs K A vs H Q E) : vs.length = 3 := by
  unfold sp_History_find_runs at h
  repeat (first | (obtain ⟨rfl, _⟩ := h; rfl) | obtain ⟨_, h⟩ := h)
theorem ok_History_find_runs {f : Addr} {fd : FuncData} (F : FunD K "find_runs" "History.find_runs" (defArgs s_History_find_runs) (defBody s_History_find_runs) (defScope s_History_find_runs) [] [] f fd) (hcx : NoE CX) (b : Blt mg) (m_History_decide : MetR A.P A.w K mg base CX 1 A.cHistory "decide" (sp_History_decide K A)) (n_Run : MakR A.P A.w K mg base CX 1 "Run" A.cRun (sp_Run_init K A)) (m_Run_first_beyond : MetR A.P A.w K mg base CX 1 A.cRun "first_beyond" (sp_Run_first_beyond K A)) (m_Run_at : MetR A.P A.w K mg base CX 1 A.cRun "at" (sp_Run_at K A)) : FnOk A.P A.w K mg base CX 3 f fd ["self", "degrees", "is_heating"] (sp_History_find_runs K A) := by
  refine okD F sc_History_find_runs (fun vs H Q E h => len_History_find_runs h) (fun cdv A' outer s H vs Q E hr h => ⟨t_History_find_runs K A, ?_, pure_History_find_runs vs H Q E h⟩)
  exact pss_cons (ps_par3 (i := 3) (j := 4) (l := 5) rfl sc_History_find_runs.nd rfl rfl rfl (by decide) (by decide) (by decide) rfl rfl rfl (pa_cons (pe_int) (pa_cons (pe_seenNew) (pa_cons (pe_bl) (pa_nil)))) (by rfl)) (pss_cons (ps_set (i := 2) sc_History_find_runs.nd rfl (by first | exact Or.inl rfl | exact Or.inr rfl) ((pe_mtR m_History_decide hr (by decide) (hcx _) (pv 0) (pa_cons (pv 1) (pa_cons (pv 2) (pa_nil)))))) (pss_one (ps_while PassesOwn.never (pt_val (pv 5)) (pss_cons (ps_set (i := 6) sc_History_find_runs.nd rfl (by first | exact Or.inl rfl | exact Or.inr rfl) (pe_op op_mod ((pe_callTy call_int1 (by rfl) b.n_int (by decide +kernel) (pa_cons (pv 3) (pa_nil)))) ((pe_callB call_len (by rfl) b.n_len boot_len (pa_cons (pe_fld (pv 0) rfl) (pa_nil)))))) (pss_cons (ps_set (i := 7) sc_History_find_runs.nd rfl (by first | exact Or.inl rfl | exact Or.inr rfl) (pe_tup (pa_cons (pv 6) (pa_cons (pv 1) (pa_cons (pv 2) (pa_nil)))))) (pss_one (ps_if (pt_cmpR (op_seenIn (hu_of hr)) (pv 7) (pv 4) (by rfl)) (pss_cons (ps_fld (pv 0) (pe_seenGet (hu_of hr) (pv 4) (pv 7)) rfl) (pss_one (ps_set (i := 5) sc_History_find_runs.nd rfl (by first | exact Or.inl rfl | exact Or.inr rfl) (pe_bl)))) (pss_cons (ps_seenPut (hu_of hr) (pv 4) (pv 7) ((pe_callB call_len (by rfl) b.n_len boot_len (pa_cons (pe_fld (pv 0) rfl) (pa_nil)))) rfl) (pss_cons (ps_set (i := 8) sc_History_find_runs.nd rfl (by first | exact Or.inl rfl | exact Or.inr rfl) (pe_ifExp (pt_val (pv 2)) (pe_fld (pv 0) rfl) (pe_int))) (pss_cons (ps_set (i := 9) sc_History_find_runs.nd rfl (by first | exact Or.inl rfl | exact Or.inr rfl) (pe_op op_catA (pe_slice sl_tupA (pe_fld (pv 0) rfl) (po_some (pv 6)) (po_none)) (pe_slice sl_tupA (pe_fld (pv 0) rfl) (po_none) (po_some (pv 6))))) (pss_cons (ps_set (i := 10) sc_History_find_runs.nd rfl (by first | exact Or.inl rfl | exact Or.inr rfl) ((pe_mkR n_Run hr (by decide) (hcx _) (by rfl) (pa_cons (pv 3) (pa_cons (pv 1) (pa_cons (pv 2) (pa_cons (pe_lc (own := [("shift", 11)]) (g := gName 11) (tt := tYes) (te := tOp (rI0 fun i j => .int (i + j)) (tVar 11) (tVar 8)) rfl sc_History_find_runs.nd (pi_tup (pv 9)) (blkOk_by (N := ["self", "degrees", "is_heating", "tick", "seen", "is_open", "phase", "key", "added", "shifts", "run", "shift"]) (sc := defScope s_History_find_runs) (by decide +kernel)) (fun _ _ _ _ _ => pg_name (i := 11) sc_History_find_runs.nd rfl (by first | exact Or.inl rfl | exact Or.inr rfl)) (fun _ _ _ _ _ => pts_nil) (fun _ _ _ _ _ => pe_op op_add (pv 11) (pv 8))) (pa_nil)))))))) (pss_cons (ps_fld (pv 10) (pe_ifExp (pt_val (pv 2)) ((pe_mtR m_Run_first_beyond hr (by decide) (hcx _) (pv 10) (pa_cons (pe_fld (pv 0) rfl) (pa_cons (pe_int) (pa_nil))))) ((pe_mtR m_Run_first_beyond hr (by decide) (hcx _) (pv 10) (pa_cons (pe_fld (pv 0) rfl) (pa_cons (pe_un un_neg (pe_int)) (pa_nil)))))) rfl) (pss_cons (ps_expr ((pe_bm PySem.F.plainAttrs_list PySem.F.slot_list_append PySem.F.type_list_append mt_append (pe_fld (pv 0) rfl) (pa_cons (pv 10) (pa_nil))))) (pss_one (ps_if (pt_cmpR op_isN1 (pe_fld (pv 10) rfl) (pe_non) (nomark _)) (pss_one (ps_set (i := 5) sc_History_find_runs.nd rfl (by first | exact Or.inl rfl | exact Or.inr rfl) (pe_bl))) (pss_one (ps_par3 (i := 3) (j := 1) (l := 2) rfl sc_History_find_runs.nd rfl rfl rfl (by decide) (by decide) (by decide) rfl rfl rfl (pa_cons (pe_fld (pv 10) rfl) (pa_cons ((pe_mtR m_Run_at hr (by decide) (hcx _) (pv 10) (pa_cons (pe_fld (pv 10) rfl) (pa_nil)))) (pa_cons (pe_not (pv 2)) (pa_nil)))) (by rfl))))))))))))))))))
abbrev s_History___init__ : Stmt := inClass (top 8) 0
theorem sc_History___init__ : FnScope ["self", "changes", "gain", "low", "high", "start", "is_heating"] ["self", "changes", "gain", "low", "high", "start", "is_heating"] (defScope s_History___init__) := ⟨rfl, rfl, rfl, by decide +kernel, rfl, by decide +kernel, by decide +kernel⟩
theorem len_History_init {vs : List V} {H : Hp} {Q : VK} {E : XK} (h : sp_History_init K A vs H Q E) : vs.length = 7 := by
  unfold sp_History_init at h
  repeat (first | (obtain ⟨rfl, _⟩ := h; rfl) | obtain ⟨_, h⟩ := h)
theorem ok_History_init {f : Addr} {fd : FuncData} (F : FunD K "__init__" "History.__init__" (defArgs s_History___init__) (defBody s_History___init__) (defScope s_History___init__) [] [] f fd) (hcx : NoE CX) (b : Blt mg) (m_History_find_runs : MetR A.P A.w K mg base CX 3 A.cHistory "find_runs" (sp_History_find_runs K A)) : FnOk A.P A.w K mg base CX 4 f fd ["self", "changes", "gain", "low", "high", "start", "is_heating"] (sp_History_init K A) := by
  refine okD F sc_History___init__ (fun vs H Q E h => len_History_init h) (fun cdv A' outer s H vs Q E hr h => ⟨t_History_init K A, ?_, pure_History_init vs H Q E h⟩)
  exact pss_cons (ps_fld (pv 0) (pv 1) rfl) (pss_cons (ps_fld (pv 0) (pv 2) rfl) (pss_cons (ps_fld (pv 0) (pv 3) rfl) (pss_cons (ps_fld (pv 0) (pv 4) rfl) (pss_cons (ps_fld (pv 0) (pv 6) rfl) (pss_cons (ps_fld (pv 0) (pe_lst (pa_nil)) rfl) (pss_cons (ps_fld (pv 0) (pe_non) rfl) (pss_one (ps_expr ((pe_mtR m_History_find_runs hr (by decide) (hcx _) (pv 0) (pa_cons (pv 5) (pa_cons (pv 6) (pa_nil)))))))))))))
abbrev s_Weather_changes : Stmt := inClass (top 13) 4
theorem sc_Weather_changes : FnScope ["self"] ["self"] (defScope s_Weather_changes) := ⟨rfl, rfl, rfl, by decide +kernel, rfl, by decide +kernel, by decide +kernel⟩
theorem len_Weather_changes {vs : List V} {H : Hp} {Q : VK} {E : XK} (h : sp_Weather_changes K A vs H Q E) : vs.length = 1 := by
  unfold sp_Weather_changes at h
  repeat (first | (obtain ⟨rfl, _⟩ := h; rfl) | obtain ⟨_, h⟩ := h)
theorem ok_Weather_changes {f : Addr} {fd : FuncData} (F : FunD K "changes" "Weather.changes" (defArgs s_Weather_changes) (defBody s_Weather_changes) (defScope s_Weather_changes) [] [] f fd) (hcx : NoE CX) (b : Blt mg)  : FnOk A.P A.w K mg base CX 1 f fd ["self"] (sp_Weather_changes K A) := by
  refine okD F sc_Weather_changes (fun vs H Q E h => len_Weather_changes h) (fun cdv A' outer s H vs Q E hr h => ⟨t_Weather_changes K A, ?_, pure_Weather_changes vs H Q E h⟩)
  exact pss_one (ps_ret (pe_fld (pv 0) rfl))
abbrev s_Heater_gain : Stmt := inClass (top 18) 1
theorem sc_Heater_gain : FnScope ["self"] ["self"] (defScope s_Heater_gain) := ⟨rfl, rfl, rfl, by decide +kernel, rfl, by decide +kernel, by decide +kernel⟩
theorem len_Heater_gain {vs : List V} {H : Hp} {Q : VK} {E : XK} (h : sp_Heater_gain K A vs H Q E) : vs.length = 1 := by
  unfold sp_Heater_gain at h
  repeat (first | (obtain ⟨rfl, _⟩ := h; rfl) | obtain ⟨_, h⟩ := h)
theorem ok_Heater_gain {f : Addr} {fd : FuncData} (F : FunD K "gain" "Heater.gain" (defArgs s_Heater_gain) (defBody s_Heater_gain) (defScope s_Heater_gain) [] [] f fd) (hcx : NoE CX) (b : Blt mg)  : FnOk A.P A.w K mg base CX 1 f fd ["self"] (sp_Heater_gain K A) := by
  refine okD F sc_Heater_gain (fun vs H Q E h => len_Heater_gain h) (fun cdv A' outer s H vs Q E hr h => ⟨t_Heater_gain K A, ?_, pure_Heater_gain vs H Q E h⟩)
  exact pss_one (ps_ret (pe_fld (pv 0) rfl))
abbrev s_Heater_low : Stmt := inClass (top 18) 2
theorem sc_Heater_low : FnScope ["self"] ["self"] (defScope s_Heater_low) := ⟨rfl, rfl, rfl, by decide +kernel, rfl, by decide +kernel, by decide +kernel⟩
theorem len_Heater_low {vs : List V} {H : Hp} {Q : VK} {E : XK} (h : sp_Heater_low K A vs H Q E) : vs.length = 1 := by
  unfold sp_Heater_low at h
  repeat (first | (obtain ⟨rfl, _⟩ := h; rfl) | obtain ⟨_, h⟩ := h)
theorem ok_Heater_low {f : Addr} {fd : FuncData} (F : FunD K "low" "Heater.low" (defArgs s_Heater_low) (defBody s_Heater_low) (defScope s_Heater_low) [] [] f fd) (hcx : NoE CX) (b : Blt mg)  : FnOk A.P A.w K mg base CX 1 f fd ["self"] (sp_Heater_low K A) := by
  refine okD F sc_Heater_low (fun vs H Q E h => len_Heater_low h) (fun cdv A' outer s H vs Q E hr h => ⟨t_Heater_low K A, ?_, pure_Heater_low vs H Q E h⟩)
  exact pss_one (ps_ret (pe_fld (pv 0) rfl))
abbrev s_Heater_high : Stmt := inClass (top 18) 3
theorem sc_Heater_high : FnScope ["self"] ["self"] (defScope s_Heater_high) := ⟨rfl, rfl, rfl, by decide +kernel, rfl, by decide +kernel, by decide +kernel⟩
theorem len_Heater_high {vs : List V} {H : Hp} {Q : VK} {E : XK} (h : sp_Heater_high K A vs H Q E) : vs.length = 1 := by
  unfold sp_Heater_high at h
  repeat (first | (obtain ⟨rfl, _⟩ := h; rfl) | obtain ⟨_, h⟩ := h)
theorem ok_Heater_high {f : Addr} {fd : FuncData} (F : FunD K "high" "Heater.high" (defArgs s_Heater_high) (defBody s_Heater_high) (defScope s_Heater_high) [] [] f fd) (hcx : NoE CX) (b : Blt mg)  : FnOk A.P A.w K mg base CX 1 f fd ["self"] (sp_Heater_high K A) := by
  refine okD F sc_Heater_high (fun vs H Q E h => len_Heater_high h) (fun cdv A' outer s H vs Q E hr h => ⟨t_Heater_high K A, ?_, pure_Heater_high vs H Q E h⟩)
  exact pss_one (ps_ret (pe_fld (pv 0) rfl))
abbrev s_History_circle : Stmt := inClass (top 8) 3
theorem sc_History_circle : FnScope ["self"] ["self"] (defScope s_History_circle) := ⟨rfl, rfl, rfl, by decide +kernel, rfl, by decide +kernel, by decide +kernel⟩
theorem len_History_circle {vs : List V} {H : Hp} {Q : VK} {E : XK} (h : sp_History_circle K A vs H Q E) : vs.length = 1 := by
  unfold sp_History_circle at h
  repeat (first | (obtain ⟨rfl, _⟩ := h; rfl) | obtain ⟨_, h⟩ := h)
theorem ok_History_circle {f : Addr} {fd : FuncData} (F : FunD K "circle" "History.circle" (defArgs s_History_circle) (defBody s_History_circle) (defScope s_History_circle) [] [] f fd) (hcx : NoE CX) (b : Blt mg)  : FnOk A.P A.w K mg base CX 1 f fd ["self"] (sp_History_circle K A) := by
  refine okD F sc_History_circle (fun vs H Q E h => len_History_circle h) (fun cdv A' outer s H vs Q E hr h => ⟨t_History_circle K A, ?_, pure_History_circle vs H Q E h⟩)
  exact pss_one (ps_ret (pe_op op_sub (pe_fld (pe_ix ix_seq (pe_fld (pv 0) rfl) (pe_un un_neg (pe_int)) (fun _ _ => rfl)) rfl) (pe_fld (pe_ix ix_seq (pe_fld (pv 0) rfl) (pe_fld (pv 0) rfl) (fun _ _ => rfl)) rfl)))
abbrev s_repetition_of : Stmt := top 20
theorem sc_repetition_of : FnScope ["past", "runs", "loop", "first"] ["past"] (defScope s_repetition_of) := ⟨rfl, rfl, rfl, by decide +kernel, rfl, by decide +kernel, by decide +kernel⟩
theorem len_repetition_of {vs : List V} {H : Hp} {Q : VK} {E : XK} (h : sp_repetition_of K A vs H Q E) : vs.length = 1 := by
  unfold sp_repetition_of at h
  repeat (first | (obtain ⟨rfl, _⟩ := h; rfl) | obtain ⟨_, h⟩ := h)
theorem ok_repetition_of {f : Addr} {fd : FuncData} (F : FunD K "repetition_of" "repetition_of" (defArgs s_repetition_of) (defBody s_repetition_of) (defScope s_repetition_of) [] [] f fd) (hcx : NoE CX) (b : Blt mg) (m_History_circle : MetR A.P A.w K mg base CX 1 A.cHistory "circle" (sp_History_circle K A)) : FnOk A.P A.w K mg base CX 2 f fd ["past"] (sp_repetition_of K A) := by
  refine okD F sc_repetition_of (fun vs H Q E h => len_repetition_of h) (fun cdv A' outer s H vs Q E hr h => ⟨t_repetition_of K A, ?_, pure_repetition_of vs H Q E h⟩)
  exact pss_cons (ps_par (i := 1) (j := 2) rfl sc_repetition_of.nd rfl rfl (by decide) rfl rfl (pa_cons (pe_fld (pv 0) rfl) (pa_cons (pe_fld (pv 0) rfl) (pa_nil))) (by rfl)) (pss_cons (ps_if (pt_cmpR op_isN1 (pv 2) (pe_non) (nomark _)) (pss_one (ps_ret (pe_ifExp (pt_cmpR op_eq (pe_fld (pe_ix ix_seq (pv 1) (pe_un un_neg (pe_int)) (fun _ _ => rfl)) rfl) (pe_int) (nomark _)) (pe_tup (pa_cons (pe_fld (pe_ix ix_seq (pv 1) (pe_un un_neg (pe_int)) (fun _ _ => rfl)) rfl) (pa_cons (pe_fld (pe_ix ix_seq (pv 1) (pe_un un_neg (pe_int)) (fun _ _ => rfl)) rfl) (pa_nil)))) (pe_non)))) (pss_nil)) (pss_cons (ps_set (i := 3) sc_repetition_of.nd rfl (by first | exact Or.inl rfl | exact Or.inr rfl) (pe_fld (pe_ix ix_seq (pv 1) (pv 2) (fun _ _ => rfl)) rfl)) (pss_cons (ps_if (pt_cmpR op_gt (pv 2) (pe_int) (nomark _)) (pss_one (ps_aug (i := 3) sc_repetition_of.nd rfl (by first | exact Or.inl rfl | exact Or.inr rfl) ((pe_callB (call_min2 rfl) (by rfl) b.n_min (by decide +kernel) (pa_cons (pe_op op_sub (pe_fld (pe_ix ix_seq (pv 1) (pe_op op_sub (pv 2) (pe_int)) (fun _ _ => rfl)) rfl) (pe_fld (pe_ix ix_seq (pv 1) (pe_op op_sub (pv 2) (pe_int)) (fun _ _ => rfl)) rfl)) (pa_cons (pe_op op_sub (pe_fld (pe_ix ix_seq (pv 1) (pe_un un_neg (pe_int)) (fun _ _ => rfl)) rfl) (pe_fld (pe_ix ix_seq (pv 1) (pe_un un_neg (pe_int)) (fun _ _ => rfl)) rfl)) (pa_nil))))) ip_sub)) (pss_nil)) (pss_one (ps_ret (pe_tup (pa_cons (pv 3) (pa_cons ((pe_mt0R m_History_circle hr (by decide) (hcx _) (pv 0))) (pa_nil)))))))))
abbrev s_common_divisor : Stmt := top 12
theorem sc_common_divisor : FnScope ["one", "other"] ["one", "other"] (defScope s_common_divisor) := ⟨rfl, rfl, rfl, by decide +kernel, rfl, by decide +kernel, by decide +kernel⟩
theorem len_common_divisor {vs : List V} {H : Hp} {Q : VK} {E : XK} (h : sp_common_divisor K A vs H Q E) : vs.length = 2 := by
  unfold sp_common_divisor at h
  repeat (first | (obtain ⟨rfl, _⟩ := h; rfl) | obtain ⟨_, h⟩ := h)
theorem ok_common_divisor {f : Addr} {fd : FuncData} (F : FunD K "common_divisor" "common_divisor" (defArgs s_common_divisor) (defBody s_common_divisor) (defScope s_common_divisor) [] [] f fd) (hcx : NoE CX) (b : Blt mg)  : FnOk A.P A.w K mg base CX 1 f fd ["one", "other"] (sp_common_divisor K A) := by
  refine okD F sc_common_divisor (fun vs H Q E h => len_common_divisor h) (fun cdv A' outer s H vs Q E hr h => ⟨t_common_divisor K A, ?_, pure_common_divisor vs H Q E h⟩)
  exact pss_cons (ps_while PassesOwn.never (pt_cmpR op_ne (pv 1) (pe_int) (nomark _)) (pss_one (ps_par (i := 0) (j := 1) rfl sc_common_divisor.nd rfl rfl (by decide) rfl rfl (pa_cons (pv 1) (pa_cons (pe_op op_mod ((pe_callTy call_int1 (by rfl) b.n_int (by decide +kernel) (pa_cons (pv 0) (pa_nil)))) ((pe_callTy call_int1 (by rfl) b.n_int (by decide +kernel) (pa_cons (pv 1) (pa_nil))))) (pa_nil))) (by rfl)))) (pss_one (ps_ret (pv 0)))
abbrev s_share_of : Stmt := top 21
theorem sc_share_of : FnScope ["past", "heated", "run", "divisor"] ["past"] (defScope s_share_of) := ⟨rfl, rfl, rfl, by decide +kernel, rfl, by decide +kernel, by decide +kernel⟩
theorem len_share_of {vs : List V} {H : Hp} {Q : VK} {E : XK} (h : sp_share_of K A vs H Q E) : vs.length = 1 := by
  unfold sp_share_of at h
  repeat (first | (obtain ⟨rfl, _⟩ := h; rfl) | obtain ⟨_, h⟩ := h)
theorem ok_share_of {f : Addr} {fd : FuncData} (F : FunD K "share_of" "share_of" (defArgs s_share_of) (defBody s_share_of) (defScope s_share_of) [] [] f fd) (hcx : NoE CX) (b : Blt mg) (c_common_divisor : CalR A.P A.w K mg base CX 1 "common_divisor" (sp_common_divisor K A)) (m_History_circle : MetR A.P A.w K mg base CX 1 A.cHistory "circle" (sp_History_circle K A)) : FnOk A.P A.w K mg base CX 2 f fd ["past"] (sp_share_of K A) := by
  refine okD F sc_share_of (fun vs H Q E h => len_share_of h) (fun cdv A' outer s H vs Q E hr h => ⟨t_share_of K A, ?_, pure_share_of vs H Q E h⟩)
  exact pss_cons (ps_if (pt_cmpR op_isN1 (pe_fld (pv 0) rfl) (pe_non) (nomark _)) (pss_one (ps_ret (pe_ifExp (pt_val (pe_fld (pe_ix ix_seq (pe_fld (pv 0) rfl) (pe_un un_neg (pe_int)) (fun _ _ => rfl)) rfl)) (pe_tup (pa_cons (pe_int) (pa_cons (pe_int) (pa_nil)))) (pe_tup (pa_cons (pe_int) (pa_cons (pe_int) (pa_nil))))))) (pss_nil)) (pss_cons (ps_set (i := 1) sc_share_of.nd rfl (by first | exact Or.inl rfl | exact Or.inr rfl) ((pe_callB (cr_sum rfl) (by rfl) b.n_sum (by decide +kernel) (pa_cons (pe_lc (own := [("run", 2)]) (g := gName 2) (tt := tB (tFld K (tVar 2) "is_heating")) (te := tOp (rI0 fun i j => .int (i - j)) (tFld K (tVar 2) "end") (tFld K (tVar 2) "begin")) rfl sc_share_of.nd (pi_list (pe_slice sl_list (pe_fld (pv 0) rfl) (po_some (pe_fld (pv 0) rfl)) (po_none))) (blkOk_by (N := ["past", "heated", "run", "divisor"]) (sc := defScope s_share_of) (by decide +kernel)) (fun _ _ _ _ _ => pg_name (i := 2) sc_share_of.nd rfl (by first | exact Or.inl rfl | exact Or.inr rfl)) (fun _ _ _ _ _ => pts_one (pt_val (pe_fld (pv 2) rfl))) (fun _ _ _ _ _ => pe_op op_sub (pe_fld (pv 2) rfl) (pe_fld (pv 2) rfl))) (pa_nil))))) (pss_cons (ps_set (i := 3) sc_share_of.nd rfl (by first | exact Or.inl rfl | exact Or.inr rfl) ((pe_cR c_common_divisor hr (by decide) (hcx _) (by rfl) (pa_cons (pv 1) (pa_cons ((pe_mt0R m_History_circle hr (by decide) (hcx _) (pv 0))) (pa_nil)))))) (pss_one (ps_ret (pe_tup (pa_cons (pe_op op_fdivW (pv 1) (pv 3)) (pa_cons (pe_op op_fdivW ((pe_mt0R m_History_circle hr (by decide) (hcx _) (pv 0))) (pv 3)) (pa_nil))))))))
abbrev s_Run_extreme : Stmt := inClass (top 7) 3
theorem sc_Run_extreme : FnScope ["self", "last", "sign", "best", "place", "tick", "degrees"] ["self", "last", "sign"] (defScope s_Run_extreme) := ⟨rfl, rfl, rfl, by decide +kernel, rfl, by decide +kernel, by decide +kernel⟩
theorem len_Run_extreme {vs : List V} {H : Hp} {Q : VK} {E : XK} (h : sp_Run_extreme K A vs H Q E) : vs.length = 3 := by
  unfold sp_Run_extreme at h
  repeat (first | (obtain ⟨rfl, _⟩ := h; rfl) | obtain ⟨_, h⟩ := h)
theorem ok_Run_extreme {f : Addr} {fd : FuncData} (F : FunD K "extreme" "Run.extreme" (defArgs s_Run_extreme) (defBody s_Run_extreme) (defScope s_Run_extreme) [] [] f fd) (hcx : NoE CX) (b : Blt mg) (m_Run_at : MetR A.P A.w K mg base CX 1 A.cRun "at" (sp_Run_at K A)) : FnOk A.P A.w K mg base CX 2 f fd ["self", "last", "sign"] (sp_Run_extreme K A) := by
  refine okD F sc_Run_extreme (fun vs H Q E h => len_Run_extreme h) (fun cdv A' outer s H vs Q E hr h => ⟨t_Run_extreme K A, ?_, pure_Run_extreme vs H Q E h⟩)
  exact pss_cons (ps_if (PW.pt (pw_and (pt_cmpR op_isN1 (pv 1) (pe_non) (nomark _)) (pw_and1 (pt_cmpR op_gt (pe_op op_mul (pe_fld (pv 0) rfl) (pv 2)) (pe_int) (nomark _))))) (pss_one (ps_ret (pe_non))) (pss_nil)) (pss_cons (ps_set (i := 3) sc_Run_extreme.nd rfl (by first | exact Or.inl rfl | exact Or.inr rfl) (pe_tup (pa_cons (pe_fld (pv 0) rfl) (pa_cons (pe_fld (pv 0) rfl) (pa_nil))))) (pss_cons (ps_for PassesOwn.never rfl (pi_range1 (by rfl) b.n_range (pa_cons (pe_fld (pv 0) rfl) (pa_nil))) (pg_name (i := 4) sc_Run_extreme.nd rfl (by first | exact Or.inl rfl | exact Or.inr rfl)) (pss_cons (ps_set (i := 5) sc_Run_extreme.nd rfl (by first | exact Or.inl rfl | exact Or.inr rfl) (pe_op op_add (pe_fld (pv 0) rfl) (pv 4))) (pss_cons (ps_if (PW.pt (pw_and (pt_cmpR op_notN1 (pv 1) (pe_non) (nomark _)) (pw_and1 (pt_cmpR op_gt (pv 5) (pv 1) (nomark _))))) (pss_one (ps_ret (pv 3))) (pss_nil)) (pss_cons (ps_if (pt_cmpR op_gt (pe_op op_mul (pe_fld (pv 0) rfl) (pv 2)) (pe_int) (nomark _)) (pss_one (ps_aug (i := 5) sc_Run_extreme.nd rfl (by first | exact Or.inl rfl | exact Or.inr rfl) (pe_op op_mul (pe_op op_fdivW (pe_op op_sub (pv 1) (pv 5)) (pe_fld (pv 0) rfl)) (pe_fld (pv 0) rfl)) ip_add)) (pss_nil)) (pss_cons (ps_set (i := 6) sc_Run_extreme.nd rfl (by first | exact Or.inl rfl | exact Or.inr rfl) ((pe_mtR m_Run_at hr (by decide) (hcx _) (pv 0) (pa_cons (pv 5) (pa_nil))))) (pss_one (ps_if (PW.pt (pw_or (pt_cmpR op_gt (pe_op op_mul (pv 6) (pv 2)) (pe_op op_mul (pe_ix ix_seq (pv 3) (pe_int) (fun _ _ => rfl)) (pv 2)) (nomark _)) (pw_or1 (PW.pt (pw_and (pt_cmpR op_eq (pv 6) (pe_ix ix_seq (pv 3) (pe_int) (fun _ _ => rfl)) (nomark _)) (pw_and1 (pt_cmpR op_lt (pv 5) (pe_ix ix_seq (pv 3) (pe_int) (fun _ _ => rfl)) (nomark _)))))))) (pss_one (ps_set (i := 3) sc_Run_extreme.nd rfl (by first | exact Or.inl rfl | exact Or.inr rfl) (pe_tup (pa_cons (pv 6) (pa_cons (pv 5) (pa_nil)))))) (pss_nil)))))))) (pss_one (ps_ret (pv 3)))))
abbrev s_extreme_of : Stmt := top 22
theorem sc_extreme_of : FnScope ["past", "sign", "found", "run", "best", "degrees", "tick"] ["past", "sign"] (defScope s_extreme_of) := ⟨rfl, rfl, rfl, by decide +kernel, rfl, by decide +kernel, by decide +kernel⟩
theorem len_extreme_of {vs : List V} {H : Hp} {Q : VK} {E : XK} (h : sp_extreme_of K A vs H Q E) : vs.length = 2 := by
  unfold sp_extreme_of at h
  repeat (first | (obtain ⟨rfl, _⟩ := h; rfl) | obtain ⟨_, h⟩ := h)
theorem ok_extreme_of {f : Addr} {fd : FuncData} (F : FunD K "extreme_of" "extreme_of" (defArgs s_extreme_of) (defBody s_extreme_of) (defScope s_extreme_of) [] [] f fd) (hcx : NoE CX) (b : Blt mg) (m_Run_extreme : MetR A.P A.w K mg base CX 2 A.cRun "extreme" (sp_Run_extreme K A)) : FnOk A.P A.w K mg base CX 3 f fd ["past", "sign"] (sp_extreme_of K A) := by
  refine okD F sc_extreme_of (fun vs H Q E h => len_extreme_of h) (fun cdv A' outer s H vs Q E hr h => ⟨t_extreme_of K A, ?_, pure_extreme_of vs H Q E h⟩)
  exact pss_cons (ps_setLc (i := 2) rfl sc_extreme_of.nd rfl rfl (sw_true rfl rfl rfl (by decide +kernel)) (own := [("run", 3)]) (g := gName 3) (tt := tYes) (te := tMtd A.cRun "extreme" (sp_Run_extreme K A) E0 (tVar 3) (tCons (tFld K (tVar 3) "end") (tCons (tVar 1) (tNil)))) (pi_list (pe_fld (pv 0) rfl)) (blkOk_by (N := ["past", "sign", "found", "run", "best", "degrees", "tick"]) (sc := defScope s_extreme_of) (by decide +kernel)) (fun _ _ _ _ _ => pg_name (i := 3) sc_extreme_of.nd rfl (by first | exact Or.inl rfl | exact Or.inr rfl)) (fun _ _ _ _ _ => pts_nil) (fun _ _ _ _ _ => (pe_mtR m_Run_extreme hr (by decide) (hcx _) (pv 3) (pa_cons (pe_fld (pv 3) rfl) (pa_cons (pv 1) (pa_nil)))))) (pss_cons (ps_if (pt_cmpR (op_inD (hu65_of hr)) (pe_non) (pv 2) (by rfl)) (pss_one (ps_ret (pe_non))) (pss_nil)) (pss_cons (ps_set (i := 4) sc_extreme_of.nd rfl (by first | exact Or.inl rfl | exact Or.inr rfl) (pe_ix ix_seq (pv 2) (pe_int) (fun _ _ => rfl))) (pss_cons (ps_for PassesOwn.never rfl (pi_list (pe_slice sl_list (pv 2) (po_some (pe_int)) (po_none))) (pg_tup rfl (pgs_cons (pg_name (i := 5) sc_extreme_of.nd rfl (by first | exact Or.inl rfl | exact Or.inr rfl)) (pgs_cons (pg_name (i := 6) sc_extreme_of.nd rfl (by first | exact Or.inl rfl | exact Or.inr rfl)) (pgs_nil)))) (pss_one (ps_if (pt_cmpR op_gt (pe_op op_mul (pv 5) (pv 1)) (pe_op op_mul (pe_ix ix_seq (pv 4) (pe_int) (fun _ _ => rfl)) (pv 1)) (nomark _)) (pss_one (ps_set (i := 4) sc_extreme_of.nd rfl (by first | exact Or.inl rfl | exact Or.inr rfl) (pe_tup (pa_cons (pv 5) (pa_cons (pv 6) (pa_nil)))))) (pss_nil)))) (pss_one (ps_ret (pv 4))))))
abbrev s_Room___init__ : Stmt := inClass (top 19) 0
theorem sc_Room___init__ : FnScope ["self", "weather", "heater", "start", "on"] ["self", "weather", "heater", "start", "on"] (defScope s_Room___init__) := ⟨rfl, rfl, rfl, by decide +kernel, rfl, by decide +kernel, by decide +kernel⟩
theorem len_Room_init {vs : List V} {H : Hp} {Q : VK} {E : XK} (h : sp_Room_init K A vs H Q E) : vs.length = 5 := by
  unfold sp_Room_init at h
  repeat (first | (obtain ⟨rfl, _⟩ := h; rfl) | obtain ⟨_, h⟩ := h)
theorem ok_Room_init {f : Addr} {fd : FuncData} (F : FunD K "__init__" "Room.__init__" (defArgs s_Room___init__) (defBody s_Room___init__) (defScope s_Room___init__) [] [("on", .bl false)] f fd) (hcx : NoE CX) (b : Blt mg) (c_validate_number : CalR A.P A.w K mg base CX 1 "validate_number" (sp_validate_number K A)) (k_MAX_DEGREES : ∃ u, mg "MAX_DEGREES" = some u ∧ RelV (.int 1000000000000) u) (n_History : MakR A.P A.w K mg base CX 4 "History" A.cHistory (sp_History_init K A)) (p_Weather_changes : PrpR A.P A.w K mg base CX 1 A.cWeather "changes" (sp_Weather_changes K A)) (p_Heater_gain : PrpR A.P A.w K mg base CX 1 A.cHeater "gain" (sp_Heater_gain K A)) (p_Heater_low : PrpR A.P A.w K mg base CX 1 A.cHeater "low" (sp_Heater_low K A)) (p_Heater_high : PrpR A.P A.w K mg base CX 1 A.cHeater "high" (sp_Heater_high K A)) (c_repetition_of : CalR A.P A.w K mg base CX 2 "repetition_of" (sp_repetition_of K A)) (c_share_of : CalR A.P A.w K mg base CX 2 "share_of" (sp_share_of K A)) (c_extreme_of : CalR A.P A.w K mg base CX 3 "extreme_of" (sp_extreme_of K A)) : FnOk A.P A.w K mg base CX 6 f fd ["self", "weather", "heater", "start", "on"] (sp_Room_init K A) := by
  refine okD F sc_Room___init__ (fun vs H Q E h => len_Room_init h) (fun cdv A' outer s H vs Q E hr h => ⟨t_Room_init K A, ?_, pure_Room_init vs H Q E h⟩)
  exact pss_cons (ps_expr ((pe_cR c_validate_number hr (by decide) (hcx _) (by rfl) (pa_cons (pv 3) (pa_cons (pe_op op_sub (pe_int) ((C8.pe_gc (by rfl) k_MAX_DEGREES))) (pa_cons ((C8.pe_gc (by rfl) k_MAX_DEGREES)) (pa_nil))))))) (pss_cons (ps_fld (pv 0) (pv 1) rfl) (pss_cons (ps_fld (pv 0) (pv 2) rfl) (pss_cons (ps_fld (pv 0) (pv 3) rfl) (pss_cons (ps_fld (pv 0) ((pe_mkR n_History hr (by decide) (hcx _) (by rfl) (pa_cons ((pe_prR p_Weather_changes hr (by decide) (hcx _) (pv 1))) (pa_cons ((pe_prR p_Heater_gain hr (by decide) (hcx _) (pv 2))) (pa_cons ((pe_prR p_Heater_low hr (by decide) (hcx _) (pv 2))) (pa_cons ((pe_prR p_Heater_high hr (by decide) (hcx _) (pv 2))) (pa_cons (pv 3) (pa_cons (pv 4) (pa_nil))))))))) rfl) (pss_cons (ps_fld (pv 0) ((pe_cR c_repetition_of hr (by decide) (hcx _) (by rfl) (pa_cons (pe_fld (pv 0) rfl) (pa_nil)))) rfl) (pss_cons (ps_fld (pv 0) ((pe_cR c_share_of hr (by decide) (hcx _) (by rfl) (pa_cons (pe_fld (pv 0) rfl) (pa_nil)))) rfl) (pss_cons (ps_fld (pv 0) ((pe_cR c_extreme_of hr (by decide) (hcx _) (by rfl) (pa_cons (pe_fld (pv 0) rfl) (pa_cons (pe_un un_neg (pe_int)) (pa_nil))))) rfl) (pss_one (ps_fld (pv 0) ((pe_cR c_extreme_of hr (by decide) (hcx _) (by rfl) (pa_cons (pe_fld (pv 0) rfl) (pa_cons (pe_int) (pa_nil))))) rfl)))))))))
abbrev s_Weather___init__ : Stmt := inClass (top 13) 2
theorem sc_Weather___init__ : FnScope ["self", "changes", "index", "change"] ((["self"] : List Str) ++ (["changes"] : List Str)) (defScope s_Weather___init__) := ⟨rfl, rfl, rfl, by decide +kernel, rfl, by decide +kernel, by decide +kernel⟩
theorem ok_Weather_init {f : Addr} {fd : FuncData} (F : FunD K "__init__" "Weather.__init__" (defArgs s_Weather___init__) (defBody s_Weather___init__) (defScope s_Weather___init__) [] [] f fd) (hcx : NoE CX) (b : Blt mg) (a_Weather : ∃ u, mg "Weather" = some u ∧ RelV (.ref A.cWeather) u) (cv_Weather_MAX_TICKS : CVC K A.cWeather "MAX_TICKS" (.int 24)) (cv_Weather_MAX_CHANGE : CVC K A.cWeather "MAX_CHANGE" (.int 100)) (hup : StX.CXUp CX) : FnR A.P A.w K mg base CX 1 f (sp_Weather_init K A) := by
  refine okStar (p1 := "self") (pv := "changes") (sp := sp_Weather_body K A) F sc_Weather___init__ hup (fun kV doc pm an cdv ct => StX.bind_star1 (B := fun l => bindArgs (PySem.W.fnOf "__init__" "Weather.__init__" (defArgs s_Weather___init__) (defBody s_Weather___init__) (defScope s_Weather___init__) .none kV doc pm an cdv ct) ⟨l, []⟩) (fun a => rfl) (fun a r rs => rfl)) (fun cdv A' outer s H vs Q E hr h => ⟨t_Weather_init K A, ?_, pure_Weather_init vs H Q E h⟩)
  exact pss_cons (ps_if (pt_cmpR (op_eqD hr.units) (pv 1) (pe_tup (pa_nil)) (nomark _)) (pss_one (ps_never)) (pss_nil)) (pss_cons (ps_for PassesOwn.never rfl (pi_enumT (by rfl) b.n_enumerate (pa_cons (pv 1) (pa_nil))) (pg_tup rfl (pgs_cons (pg_name (i := 2) sc_Weather___init__.nd rfl (by first | exact Or.inl rfl | exact Or.inr rfl)) (pgs_cons (pg_name (i := 3) sc_Weather___init__.nd rfl (by first | exact Or.inl rfl | exact Or.inr rfl)) (pgs_nil)))) (pss_one (ps_if (PW.pt (pw_or (pt_cmpR op_eq (pv 2) ((pe_cvC ((C8.pe_gc (by rfl) a_Weather)) cv_Weather_MAX_TICKS)) (nomark _)) (pw_or1 (pt_not (pt_chain op_le op_le (pe_op op_sub (pe_int) ((pe_cvC ((C8.pe_gc (by rfl) a_Weather)) cv_Weather_MAX_CHANGE))) (pv 3) ((pe_cvC ((C8.pe_gc (by rfl) a_Weather)) cv_Weather_MAX_CHANGE))))))) (pss_one (ps_never)) (pss_nil)))) (pss_one (ps_fld (pv 0) (pv 1) rfl)))
abbrev s__law_weather : Stmt := top 28
theorem sc__law_weather : FnScope ["_law_changes_here", "_law_a"] ["_law_changes_here"] (defScope s__law_weather) := ⟨rfl, rfl, rfl, by decide +kernel, rfl, by decide +kernel, by decide +kernel⟩
theorem len_law_weather {vs : List V} {H : Hp} {Q : VK} {E : XK} (h : sp_law_weather K A vs H Q E) : vs.length = 1 := by
  unfold sp_law_weather at h
  repeat (first | (obtain ⟨rfl, _⟩ := h; rfl) | obtain ⟨_, h⟩ := h)
theorem ok_law_weather {f : Addr} {fd : FuncData} (F : FunD K "_law_weather" "_law_weather" (defArgs s__law_weather) (defBody s__law_weather) (defScope s__law_weather) [] [] f fd) (hcx : NoE CX) (b : Blt mg) (n_Weather : MakR A.P A.w K mg base CX 1 "Weather" A.cWeather (sp_Weather_init K A)) : FnOk A.P A.w K mg base CX 3 f fd ["_law_changes_here"] (sp_law_weather K A) := by
  refine okD F sc__law_weather (fun vs H Q E h => len_law_weather h) (fun cdv A' outer s H vs Q E hr h => ⟨t_law_weather K A, ?_, pure_law_weather vs H Q E h⟩)
  exact pss_cons (ps_set (i := 1) sc__law_weather.nd rfl (by first | exact Or.inl rfl | exact Or.inr rfl) (pe_op op_cat ((pe_callTy call_list_of (by rfl) b.n_list (by decide +kernel) (pa_cons (pv 0) (pa_nil)))) (pe_op op_rep (pe_lst (pa_cons (pe_int) (pa_nil))) (pe_int)))) (pss_cons (ps_if (pt_cmpR op_lt ((pe_callB call_len (by rfl) b.n_len boot_len (pa_cons (pv 0) (pa_nil)))) (pe_int) (nomark _)) (pss_one (ps_ret (pe_ifExp (pt_cmpR op_eq ((pe_callB call_len (by rfl) b.n_len boot_len (pa_cons (pv 0) (pa_nil)))) (pe_int) (nomark _)) ((pe_mkR n_Weather hr (by decide) (hcx _) (by rfl) (pa_cons (pe_ix ix_seq (pv 1) (pe_int) (fun _ _ => rfl)) (pa_nil)))) ((pe_mkR n_Weather hr (by decide) (hcx _) (by rfl) (pa_cons (pe_ix ix_seq (pv 1) (pe_int) (fun _ _ => rfl)) (pa_cons (pe_ix ix_seq (pv 1) (pe_int) (fun _ _ => rfl)) (pa_nil)))))))) (pss_nil)) (pss_cons (ps_if (pt_cmpR op_lt ((pe_callB call_len (by rfl) b.n_len boot_len (pa_cons (pv 0) (pa_nil)))) (pe_int) (nomark _)) (pss_one (ps_ret (pe_ifExp (pt_cmpR op_eq ((pe_callB call_len (by rfl) b.n_len boot_len (pa_cons (pv 0) (pa_nil)))) (pe_int) (nomark _)) ((pe_mkR n_Weather hr (by decide) (hcx _) (by rfl) (pa_cons (pe_ix ix_seq (pv 1) (pe_int) (fun _ _ => rfl)) (pa_cons (pe_ix ix_seq (pv 1) (pe_int) (fun _ _ => rfl)) (pa_cons (pe_ix ix_seq (pv 1) (pe_int) (fun _ _ => rfl)) (pa_nil)))))) ((pe_mkR n_Weather hr (by decide) (hcx _) (by rfl) (pa_cons (pe_ix ix_seq (pv 1) (pe_int) (fun _ _ => rfl)) (pa_cons (pe_ix ix_seq (pv 1) (pe_int) (fun _ _ => rfl)) (pa_cons (pe_ix ix_seq (pv 1) (pe_int) (fun _ _ => rfl)) (pa_cons (pe_ix ix_seq (pv 1) (pe_int) (fun _ _ => rfl)) (pa_nil)))))))))) (pss_nil)) (pss_cons (ps_if (pt_cmpR op_eq ((pe_callB call_len (by rfl) b.n_len boot_len (pa_cons (pv 0) (pa_nil)))) (pe_int) (nomark _)) (pss_one (ps_ret ((pe_mkR n_Weather hr (by decide) (hcx _) (by rfl) (pa_cons (pe_ix ix_seq (pv 1) (pe_int) (fun _ _ => rfl)) (pa_cons (pe_ix ix_seq (pv 1) (pe_int) (fun _ _ => rfl)) (pa_cons (pe_ix ix_seq (pv 1) (pe_int) (fun _ _ => rfl)) (pa_cons (pe_ix ix_seq (pv 1) (pe_int) (fun _ _ => rfl)) (pa_cons (pe_ix ix_seq (pv 1) (pe_int) (fun _ _ => rfl)) (pa_nil)))))))))) (pss_nil)) (pss_one (ps_ret ((pe_mkR n_Weather hr (by decide) (hcx _) (by rfl) (pa_cons (pe_ix ix_seq (pv 1) (pe_int) (fun _ _ => rfl)) (pa_cons (pe_ix ix_seq (pv 1) (pe_int) (fun _ _ => rfl)) (pa_cons (pe_ix ix_seq (pv 1) (pe_int) (fun _ _ => rfl)) (pa_cons (pe_ix ix_seq (pv 1) (pe_int) (fun _ _ => rfl)) (pa_cons (pe_ix ix_seq (pv 1) (pe_int) (fun _ _ => rfl)) (pa_cons (pe_ix ix_seq (pv 1) (pe_int) (fun _ _ => rfl)) (pa_nil))))))))))))))
abbrev s_Heater___init__ : Stmt := inClass (top 18) 0
theorem sc_Heater___init__ : FnScope ["self", "gain", "low", "high"] ["self", "gain", "low", "high"] (defScope s_Heater___init__) := ⟨rfl, rfl, rfl, by decide +kernel, rfl, by decide +kernel, by decide +kernel⟩
theorem len_Heater_init {vs : List V} {H : Hp} {Q : VK} {E : XK} (h : sp_Heater_init K A vs H Q E) : vs.length = 4 := by
  unfold sp_Heater_init at h
  repeat (first | (obtain ⟨rfl, _⟩ := h; rfl) | obtain ⟨_, h⟩ := h)
theorem ok_Heater_init {f : Addr} {fd : FuncData} (F : FunD K "__init__" "Heater.__init__" (defArgs s_Heater___init__) (defBody s_Heater___init__) (defScope s_Heater___init__) [] [] f fd) (hcx : NoE CX) (b : Blt mg) (k_MAX_GAIN : ∃ u, mg "MAX_GAIN" = some u ∧ RelV (.int 200) u) (k_MAX_DEGREES : ∃ u, mg "MAX_DEGREES" = some u ∧ RelV (.int 1000000000000) u) : FnOk A.P A.w K mg base CX 1 f fd ["self", "gain", "low", "high"] (sp_Heater_init K A) := by
  refine okD F sc_Heater___init__ (fun vs H Q E h => len_Heater_init h) (fun cdv A' outer s H vs Q E hr h => ⟨t_Heater_init K A, ?_, pure_Heater_init vs H Q E h⟩)
  exact pss_cons (ps_if (PW.pt (pw_or (pt_not (pt_chain op_le op_le (pe_int) (pv 1) ((C8.pe_gc (by rfl) k_MAX_GAIN)))) (pw_or1 (pt_not (pt_chain3 op_le op_le op_le (pe_op op_sub (pe_int) ((C8.pe_gc (by rfl) k_MAX_DEGREES))) (pv 2) (pv 3) ((C8.pe_gc (by rfl) k_MAX_DEGREES))))))) (pss_one (ps_never)) (pss_nil)) (pss_cons (ps_fld (pv 0) (pv 1) rfl) (pss_cons (ps_fld (pv 0) (pv 2) rfl) (pss_one (ps_fld (pv 0) (pv 3) rfl))))
abbrev s__law_room : Stmt := top 31
theorem sc__law_room : FnScope ["_law_changes_here", "_law_setting_here", "_law_gain", "_law_low", "_law_high", "_law_degrees", "_law_heating"] ["_law_changes_here", "_law_setting_here"] (defScope s__law_room) := ⟨rfl, rfl, rfl, by decide +kernel, rfl, by decide +kernel, by decide +kernel⟩
theorem len_law_room {vs : List V} {H : Hp} {Q : VK} {E : XK} (h : sp_law_room K A vs H Q E) : vs.length = 2 := by
  unfold sp_law_room at h
  repeat (first | (obtain ⟨rfl, _⟩ := h; rfl) | obtain ⟨_, h⟩ := h)
theorem ok_law_room {f : Addr} {fd : FuncData} (F : FunD K "_law_room" "_law_room" (defArgs s__law_room) (defBody s__law_room) (defScope s__law_room) [] [] f fd) (hcx : NoE CX) (b : Blt mg) (n_Room_kw : MakKR A.P A.w K mg base CX 6 "Room" A.cRoom 3 ["on"] (sp_Room_init K A)) (c_law_weather : CalR A.P A.w K mg base CX 3 "_law_weather" (sp_law_weather K A)) (n_Heater : MakR A.P A.w K mg base CX 1 "Heater" A.cHeater (sp_Heater_init K A)) : FnOk A.P A.w K mg base CX 8 f fd ["_law_changes_here", "_law_setting_here"] (sp_law_room K A) := by
  refine okD F sc__law_room (fun vs H Q E h => len_law_room h) (fun cdv A' outer s H vs Q E hr h => ⟨t_law_room K A, ?_, pure_law_room vs H Q E h⟩)
  exact pss_cons (ps_asg (pv 1) (pg_tup rfl (pgs_cons (pg_name (i := 2) sc__law_room.nd rfl (by first | exact Or.inl rfl | exact Or.inr rfl)) (pgs_cons (pg_name (i := 3) sc__law_room.nd rfl (by first | exact Or.inl rfl | exact Or.inr rfl)) (pgs_cons (pg_name (i := 4) sc__law_room.nd rfl (by first | exact Or.inl rfl | exact Or.inr rfl)) (pgs_cons (pg_name (i := 5) sc__law_room.nd rfl (by first | exact Or.inl rfl | exact Or.inr rfl)) (pgs_cons (pg_name (i := 6) sc__law_room.nd rfl (by first | exact Or.inl rfl | exact Or.inr rfl)) (pgs_nil)))))))) (pss_one (ps_ret ((pe_mkKwR (ks := ["on"]) n_Room_kw hr (by decide) (hcx _) (by rfl) (pa_cons ((pe_cR c_law_weather hr (by decide) (hcx _) (by rfl) (pa_cons (pv 0) (pa_nil)))) (pa_cons ((pe_mkR n_Heater hr (by decide) (hcx _) (by rfl) (pa_cons (pv 2) (pa_cons (pv 3) (pa_cons (pv 4) (pa_nil)))))) (pa_cons (pv 5) (pa_nil)))) (pk_cons (pv 6) (pk_nil))))))
abbrev s__law_told : Stmt := top 30
theorem sc__law_told : FnScope ["_law_changes_here", "_law_setting_here", "_law_count", "_law_gain", "_law_low", "_law_high", "_law_degrees", "_law_heating", "_law_found", "_law_states", "_law_tick", "_law_change"] ["_law_changes_here", "_law_setting_here", "_law_count"] (defScope s__law_told) := ⟨rfl, rfl, rfl, by decide +kernel, rfl, by decide +kernel, by decide +kernel⟩
theorem len_law_told {vs : List V} {H : Hp} {Q : VK} {E : XK} (h : sp_law_told K A vs H Q E) : vs.length = 3 := by
  unfold sp_law_told at h
  repeat (first | (obtain ⟨rfl, _⟩ := h; rfl) | obtain ⟨_, h⟩ := h)
theorem ok_law_told {f : Addr} {fd : FuncData} (F : FunD K "_law_told" "_law_told" (defArgs s__law_told) (defBody s__law_told) (defScope s__law_told) [] [] f fd) (hcx : NoE CX) (b : Blt mg)  : FnOk A.P A.w K mg base CX 1 f fd ["_law_changes_here", "_law_setting_here", "_law_count"] (sp_law_told K A) := by
  refine okD F sc__law_told (fun vs H Q E h => len_law_told h) (fun cdv A' outer s H vs Q E hr h => ⟨t_law_told K A, ?_, pure_law_told vs H Q E h⟩)
  exact pss_cons (ps_asg (pv 1) (pg_tup rfl (pgs_cons (pg_name (i := 3) sc__law_told.nd rfl (by first | exact Or.inl rfl | exact Or.inr rfl)) (pgs_cons (pg_name (i := 4) sc__law_told.nd rfl (by first | exact Or.inl rfl | exact Or.inr rfl)) (pgs_cons (pg_name (i := 5) sc__law_told.nd rfl (by first | exact Or.inl rfl | exact Or.inr rfl)) (pgs_cons (pg_name (i := 6) sc__law_told.nd rfl (by first | exact Or.inl rfl | exact Or.inr rfl)) (pgs_cons (pg_name (i := 7) sc__law_told.nd rfl (by first | exact Or.inl rfl | exact Or.inr rfl)) (pgs_nil)))))))) (pss_cons (ps_par (i := 8) (j := 9) rfl sc__law_told.nd rfl rfl (by decide) rfl rfl (pa_cons (pe_lst (pa_nil)) (pa_cons (pe_lst (pa_nil)) (pa_nil))) (by rfl)) (pss_cons (ps_for PassesOwn.never rfl (pi_range1 (by rfl) b.n_range (pa_cons (pv 2) (pa_nil))) (pg_name (i := 10) sc__law_told.nd rfl (by first | exact Or.inl rfl | exact Or.inr rfl)) (pss_cons (ps_if (pt_cmpR op_lt (pv 6) (pv 4) (nomark _)) (pss_one (ps_set (i := 7) sc__law_told.nd rfl (by first | exact Or.inl rfl | exact Or.inr rfl) (pe_bl))) (pss_one (ps_if (pt_cmpR op_gt (pv 6) (pv 5) (nomark _)) (pss_one (ps_set (i := 7) sc__law_told.nd rfl (by first | exact Or.inl rfl | exact Or.inr rfl) (pe_bl))) (pss_nil)))) (pss_cons (ps_expr ((pe_bm PySem.F.plainAttrs_list PySem.F.slot_list_append PySem.F.type_list_append mt_append (pv 8) (pa_cons (pv 6) (pa_nil))))) (pss_cons (ps_expr ((pe_bm PySem.F.plainAttrs_list PySem.F.slot_list_append PySem.F.type_list_append mt_append (pv 9) (pa_cons (pv 7) (pa_nil))))) (pss_cons (ps_set (i := 11) sc__law_told.nd rfl (by first | exact Or.inl rfl | exact Or.inr rfl) (pe_ix ix_seq (pv 0) (pe_op op_mod (pv 10) ((pe_callB call_len (by rfl) b.n_len boot_len (pa_cons (pv 0) (pa_nil))))) (fun _ _ => rfl))) (pss_one (ps_set (i := 6) sc__law_told.nd rfl (by first | exact Or.inl rfl | exact Or.inr rfl) (pe_op op_add (pe_op op_add (pv 6) (pv 11)) (pe_op op_mul (pv 3) ((pe_callTy call_int1 (by rfl) b.n_int (by decide +kernel) (pa_cons (pv 7) (pa_nil))))))))))))) (pss_one (ps_ret (pe_tup (pa_cons (pv 8) (pa_cons (pv 9) (pa_nil))))))))
abbrev s__law_alike : Stmt := top 26
theorem sc__law_alike : FnScope ["_law_found", "_law_due", "_law_k"] ["_law_found", "_law_due"] (defScope s__law_alike) := ⟨rfl, rfl, rfl, by decide +kernel, rfl, by decide +kernel, by decide +kernel⟩
theorem ok_law_alikeN {f : Addr} {fd : FuncData} (F : FunD K "_law_alike" "_law_alike" (defArgs s__law_alike) (defBody s__law_alike) (defScope s__law_alike) [] [] f fd) (hcx : NoE CX) (b : Blt mg)  (bd : Binds K fd ["_law_found", "_law_due"] []) (hm : mg "_law_alike" = some (.ref f)) (kp : PySem.W.keepIn K (.ref f) = true) : ∀ n : Nat, FnOk A.P A.w K mg base CX (n + 1) f fd ["_law_found", "_law_due"] (sp_alikeN n)
  | n => by
    have c_law_alike : CalR A.P A.w K mg base CX n "_law_alike" (spPrev n) := by
      cases n with
      | zero => exact ⟨f, fun _ _ _ _ _ _ _ _ _ _ _ z => z.elim, hm, kp⟩
      | succ n => exact ⟨f, Wm.FnOk.R (ok_law_alikeN F hcx b bd hm kp n) bd, hm, kp⟩
    refine okD F sc__law_alike (fun vs H Q E h => ?_) (fun cdv A' outer s H vs Q E hr h => ⟨t_alikeN (spPrev n) K A, ?_, pure_alikeN n vs H Q E h⟩)
    · unfold sp_alikeN at h
      obtain ⟨_, _, rfl, _⟩ := h
      rfl
    · exact pss_cons (ps_if (pt_val ((pe_callB call_isi (by rfl) b.n_isinstance (by decide +kernel) (pa_cons (pv 1) (pa_cons ((pe_bltn (by rfl) b.n_dict (by decide +kernel) rfl)) (pa_nil)))))) (pss_one (ps_never)) (pss_nil)) (pss_cons (ps_if (pt_val ((pe_callB call_isiT (by rfl) b.n_isinstance (by decide +kernel) (pa_cons (pv 1) (pa_cons (pe_tup (pa_cons ((pe_bltn (by rfl) b.n_tuple (by decide +kernel) rfl)) (pa_cons ((pe_bltn (by rfl) b.n_list (by decide +kernel) rfl)) (pa_nil)))) (pa_nil)))))) (pss_cons (ps_if (PW.pt (pw_or (pt_not (pt_val ((pe_callB call_isiT (by rfl) b.n_isinstance (by decide +kernel) (pa_cons (pv 0) (pa_cons (pe_tup (pa_cons ((pe_bltn (by rfl) b.n_tuple (by decide +kernel) rfl)) (pa_cons ((pe_bltn (by rfl) b.n_list (by decide +kernel) rfl)) (pa_nil)))) (pa_nil))))))) (pw_or1 (pt_cmpR op_ne ((pe_callB call_isi (by rfl) b.n_isinstance (by decide +kernel) (pa_cons (pv 0) (pa_cons ((pe_bltn (by rfl) b.n_list (by decide +kernel) rfl)) (pa_nil))))) ((pe_callB call_isi (by rfl) b.n_isinstance (by decide +kernel) (pa_cons (pv 1) (pa_cons ((pe_bltn (by rfl) b.n_list (by decide +kernel) rfl)) (pa_nil))))) (nomark _))))) (pss_one (ps_ret (pe_bl))) (pss_nil)) (pss_cons (ps_if (pt_cmpR op_ne ((pe_callB call_len (by rfl) b.n_len boot_len (pa_cons (pv 0) (pa_nil)))) ((pe_callB call_len (by rfl) b.n_len boot_len (pa_cons (pv 1) (pa_nil)))) (nomark _)) (pss_one (ps_ret (pe_bl))) (pss_nil)) (pss_one (ps_ret (pe_cmpR (op_eqD hr.units) (pe_lc (own := [("_law_k", 2)]) (g := gName 2) (tt := tNot (tB (tCal (spPrev n) E0 (tCons (tOp (rIx K) (tVar 0) (tVar 2)) (tCons (tOp (rIx K) (tVar 1) (tVar 2)) (tNil)))))) (te := tVar 2) rfl sc__law_alike.nd (pi_range1 (by rfl) b.n_range (pa_cons ((pe_callB call_len (by rfl) b.n_len boot_len (pa_cons (pv 1) (pa_nil)))) (pa_nil))) (blkOk_by (N := ["_law_found", "_law_due", "_law_k"]) (sc := defScope s__law_alike) (by decide +kernel)) (fun _ _ _ _ _ => pg_name (i := 2) sc__law_alike.nd rfl (by first | exact Or.inl rfl | exact Or.inr rfl)) (fun _ _ _ _ _ => pts_one (pt_not (pt_val ((pe_cR c_law_alike hr (Nat.le_refl _) (hcx _) (by rfl) (pa_cons (pe_ix ix_seq (pv 0) (pv 2) (fun _ _ => rfl)) (pa_cons (pe_ix ix_seq (pv 1) (pv 2) (fun _ _ => rfl)) (pa_nil)))))))) (fun _ _ _ _ _ => pv 2)) (pe_lst (pa_nil)) (nomark _)))))) (pss_nil)) (pss_cons (ps_if (PW.pt (pw_or (pt_cmpR op_isN1 (pv 1) (pe_non) (nomark _)) (pw_or1 (pt_val ((pe_callB call_isi (by rfl) b.n_isinstance (by decide +kernel) (pa_cons (pv 1) (pa_cons ((pe_bltn (by rfl) b.n_str (by decide +kernel) rfl)) (pa_nil))))))))) (pss_one (ps_ret (pe_and (pe_cmpR op_eq (pv 0) (pv 1) (nomark _)) (pe_one (pe_cmpR op_eq ((pe_callB call_isi (by rfl) b.n_isinstance (by decide +kernel) (pa_cons (pv 0) (pa_cons ((pe_bltn (by rfl) b.n_str (by decide +kernel) rfl)) (pa_nil))))) ((pe_callB call_isi (by rfl) b.n_isinstance (by decide +kernel) (pa_cons (pv 1) (pa_cons ((pe_bltn (by rfl) b.n_str (by decide +kernel) rfl)) (pa_nil))))) (nomark _)))))) (pss_nil)) (pss_one (ps_ret (pe_and ((pe_callB call_isi (by rfl) b.n_isinstance (by decide +kernel) (pa_cons (pv 0) (pa_cons ((pe_bltn (by rfl) b.n_int (by decide +kernel) rfl)) (pa_nil))))) (pe_and (pe_cmpR op_eq ((pe_callB call_isi (by rfl) b.n_isinstance (by decide +kernel) (pa_cons (pv 0) (pa_cons ((pe_bltn (by rfl) b.n_bool (by decide +kernel) rfl)) (pa_nil))))) ((pe_callB call_isi (by rfl) b.n_isinstance (by decide +kernel) (pa_cons (pv 1) (pa_cons ((pe_bltn (by rfl) b.n_bool (by decide +kernel) rfl)) (pa_nil))))) (nomark _)) (pe_one (pe_cmpR op_eq (pv 0) (pv 1) (nomark _)))))))))
abbrev s_History_wrapped : Stmt := inClass (top 8) 4
theorem sc_History_wrapped : FnScope ["self", "tick", "turns"] ["self", "tick"] (defScope s_History_wrapped) := ⟨rfl, rfl, rfl, by decide +kernel, rfl, by decide +kernel, by decide +kernel⟩
theorem len_History_wrapped {vs : List V} {H : Hp} {Q : VK} {E : XK} (h : sp_History_wrapped K A vs H Q E) : vs.length = 2 := by
  unfold sp_History_wrapped at h
  repeat (first | (obtain ⟨rfl, _⟩ := h; rfl) | obtain ⟨_, h⟩ := h)
theorem ok_History_wrapped {f : Addr} {fd : FuncData} (F : FunD K "wrapped" "History.wrapped" (defArgs s_History_wrapped) (defBody s_History_wrapped) (defScope s_History_wrapped) [] [] f fd) (hcx : NoE CX) (b : Blt mg) (m_History_circle : MetR A.P A.w K mg base CX 1 A.cHistory "circle" (sp_History_circle K A)) : FnOk A.P A.w K mg base CX 2 f fd ["self", "tick"] (sp_History_wrapped K A) := by
  refine okD F sc_History_wrapped (fun vs H Q E h => len_History_wrapped h) (fun cdv A' outer s H vs Q E hr h => ⟨t_History_wrapped K A, ?_, pure_History_wrapped vs H Q E h⟩)
  exact pss_cons (ps_if (PW.pt (pw_or (pt_cmpR op_isN1 (pe_fld (pv 0) rfl) (pe_non) (nomark _)) (pw_or1 (pt_cmpR op_lt (pv 1) (pe_fld (pe_ix ix_seq (pe_fld (pv 0) rfl) (pe_un un_neg (pe_int)) (fun _ _ => rfl)) rfl) (nomark _))))) (pss_one (ps_ret (pe_tup (pa_cons (pe_int) (pa_cons (pv 1) (pa_nil)))))) (pss_nil)) (pss_cons (ps_set (i := 2) sc_History_wrapped.nd rfl (by first | exact Or.inl rfl | exact Or.inr rfl) (pe_op op_fdivW (pe_op op_sub (pv 1) (pe_fld (pe_ix ix_seq (pe_fld (pv 0) rfl) (pe_fld (pv 0) rfl) (fun _ _ => rfl)) rfl)) ((pe_mt0R m_History_circle hr (by decide) (hcx _) (pv 0))))) (pss_one (ps_ret (pe_tup (pa_cons (pv 2) (pa_cons (pe_op op_sub (pv 1) (pe_op op_mul (pv 2) ((pe_mt0R m_History_circle hr (by decide) (hcx _) (pv 0))))) (pa_nil)))))))
abbrev s_History_run_at : Stmt := inClass (top 8) 5
theorem sc_History_run_at : FnScope ["self", "tick", "low", "high", "middle"] ["self", "tick"] (defScope s_History_run_at) := ⟨rfl, rfl, rfl, by decide +kernel, rfl, by decide +kernel, by decide +kernel⟩
theorem len_History_run_at {vs : List V} {H : Hp} {Q : VK} {E : XK} (h : sp_History_run_at K A vs H Q E) : vs.length = 2 := by
  unfold sp_History_run_at at h
  repeat (first | (obtain ⟨rfl, _⟩ := h; rfl) | obtain ⟨_, h⟩ := h)
theorem ok_History_run_at {f : Addr} {fd : FuncData} (F : FunD K "run_at" "History.run_at" (defArgs s_History_run_at) (defBody s_History_run_at) (defScope s_History_run_at) [] [] f fd) (hcx : NoE CX) (b : Blt mg)  : FnOk A.P A.w K mg base CX 1 f fd ["self", "tick"] (sp_History_run_at K A) := by
  refine okD F sc_History_run_at (fun vs H Q E h => len_History_run_at h) (fun cdv A' outer s H vs Q E hr h => ⟨t_History_run_at K A, ?_, pure_History_run_at vs H Q E h⟩)
  exact pss_cons (ps_par (i := 2) (j := 3) rfl sc_History_run_at.nd rfl rfl (by decide) rfl rfl (pa_cons (pe_int) (pa_cons ((pe_callB call_len (by rfl) b.n_len boot_len (pa_cons (pe_fld (pv 0) rfl) (pa_nil)))) (pa_nil))) (by rfl)) (pss_cons (ps_while PassesOwn.never (pt_cmpR op_gt (pe_op op_sub (pv 3) (pv 2)) (pe_int) (nomark _)) (pss_cons (ps_set (i := 4) sc_History_run_at.nd rfl (by first | exact Or.inl rfl | exact Or.inr rfl) (pe_op op_fdivW (pe_op op_add (pv 2) (pv 3)) (pe_int))) (pss_one (ps_if (pt_cmpR op_le (pe_fld (pe_ix ix_seq (pe_fld (pv 0) rfl) (pv 4) (fun _ _ => rfl)) rfl) (pv 1) (nomark _)) (pss_one (ps_set (i := 2) sc_History_run_at.nd rfl (by first | exact Or.inl rfl | exact Or.inr rfl) (pv 4))) (pss_one (ps_set (i := 3) sc_History_run_at.nd rfl (by first | exact Or.inl rfl | exact Or.inr rfl) (pv 4))))))) (pss_one (ps_ret (pe_ix ix_seq (pe_fld (pv 0) rfl) (pv 2) (fun _ _ => rfl)))))
abbrev s_Room_temperature : Stmt := inClass (top 19) 4
theorem sc_Room_temperature : FnScope ["self", "tick", "place"] ["self", "tick"] (defScope s_Room_temperature) := ⟨rfl, rfl, rfl, by decide +kernel, rfl, by decide +kernel, by decide +kernel⟩
theorem len_Room_temperature {vs : List V} {H : Hp} {Q : VK} {E : XK} (h : sp_Room_temperature K A vs H Q E) : vs.length = 2 := by
  unfold sp_Room_temperature at h
  repeat (first | (obtain ⟨rfl, _⟩ := h; rfl) | obtain ⟨_, h⟩ := h)
theorem ok_Room_temperature {f : Addr} {fd : FuncData} (F : FunD K "temperature" "Room.temperature" (defArgs s_Room_temperature) (defBody s_Room_temperature) (defScope s_Room_temperature) [] [] f fd) (hcx : NoE CX) (b : Blt mg) (c_validate_number : CalR A.P A.w K mg base CX 1 "validate_number" (sp_validate_number K A)) (k_MAX_TICK : ∃ u, mg "MAX_TICK" = some u ∧ RelV (.int 1000000000000000000) u) (m_History_wrapped : MetR A.P A.w K mg base CX 2 A.cHistory "wrapped" (sp_History_wrapped K A)) (m_Run_at : MetR A.P A.w K mg base CX 1 A.cRun "at" (sp_Run_at K A)) (m_History_run_at : MetR A.P A.w K mg base CX 1 A.cHistory "run_at" (sp_History_run_at K A)) : FnOk A.P A.w K mg base CX 3 f fd ["self", "tick"] (sp_Room_temperature K A) := by
  refine okD F sc_Room_temperature (fun vs H Q E h => len_Room_temperature h) (fun cdv A' outer s H vs Q E hr h => ⟨t_Room_temperature K A, ?_, pure_Room_temperature vs H Q E h⟩)
  exact pss_cons (ps_expr ((pe_cR c_validate_number hr (by decide) (hcx _) (by rfl) (pa_cons (pv 1) (pa_cons (pe_int) (pa_cons ((C8.pe_gc (by rfl) k_MAX_TICK)) (pa_nil))))))) (pss_cons (ps_set (i := 2) sc_Room_temperature.nd rfl (by first | exact Or.inl rfl | exact Or.inr rfl) (pe_ix ix_seq ((pe_mtR m_History_wrapped hr (by decide) (hcx _) (pe_fld (pv 0) rfl) (pa_cons (pv 1) (pa_nil)))) (pe_int) (fun _ _ => rfl))) (pss_one (ps_ret ((pe_mtR m_Run_at hr (by decide) (hcx _) ((pe_mtR m_History_run_at hr (by decide) (hcx _) (pe_fld (pv 0) rfl) (pa_cons (pv 2) (pa_nil)))) (pa_cons (pv 2) (pa_nil)))))))
abbrev s_Room_is_on : Stmt := inClass (top 19) 5
theorem sc_Room_is_on : FnScope ["self", "tick"] ["self", "tick"] (defScope s_Room_is_on) := ⟨rfl, rfl, rfl, by decide +kernel, rfl, by decide +kernel, by decide +kernel⟩
theorem len_Room_is_on {vs : List V} {H : Hp} {Q : VK} {E : XK} (h : sp_Room_is_on K A vs H Q E) : vs.length = 2 := by
  unfold sp_Room_is_on at h
  repeat (first | (obtain ⟨rfl, _⟩ := h; rfl) | obtain ⟨_, h⟩ := h)
theorem ok_Room_is_on {f : Addr} {fd : FuncData} (F : FunD K "is_on" "Room.is_on" (defArgs s_Room_is_on) (defBody s_Room_is_on) (defScope s_Room_is_on) [] [] f fd) (hcx : NoE CX) (b : Blt mg) (c_validate_number : CalR A.P A.w K mg base CX 1 "validate_number" (sp_validate_number K A)) (k_MAX_TICK : ∃ u, mg "MAX_TICK" = some u ∧ RelV (.int 1000000000000000000) u) (m_History_run_at : MetR A.P A.w K mg base CX 1 A.cHistory "run_at" (sp_History_run_at K A)) (m_History_wrapped : MetR A.P A.w K mg base CX 2 A.cHistory "wrapped" (sp_History_wrapped K A)) : FnOk A.P A.w K mg base CX 3 f fd ["self", "tick"] (sp_Room_is_on K A) := by
  refine okD F sc_Room_is_on (fun vs H Q E h => len_Room_is_on h) (fun cdv A' outer s H vs Q E hr h => ⟨t_Room_is_on K A, ?_, pure_Room_is_on vs H Q E h⟩)
  exact pss_cons (ps_expr ((pe_cR c_validate_number hr (by decide) (hcx _) (by rfl) (pa_cons (pv 1) (pa_cons (pe_int) (pa_cons ((C8.pe_gc (by rfl) k_MAX_TICK)) (pa_nil))))))) (pss_one (ps_ret (pe_fld ((pe_mtR m_History_run_at hr (by decide) (hcx _) (pe_fld (pv 0) rfl) (pa_cons (pe_ix ix_seq ((pe_mtR m_History_wrapped hr (by decide) (hcx _) (pe_fld (pv 0) rfl) (pa_cons (pv 1) (pa_nil)))) (pe_int) (fun _ _ => rfl)) (pa_nil)))) rfl)))
abbrev s_Room_temperatures : Stmt := inClass (top 19) 6
theorem sc_Room_temperatures : GScope ["self", "first", "last", "tick"] ["self", "first", "last"] (defScope s_Room_temperatures) := ⟨rfl, rfl, rfl, by decide +kernel, rfl, by decide +kernel, by decide +kernel⟩
theorem len_Room_temperatures {vs : List V} {H : Hp} {Q : List V → Hp → Prop} {E : XK} (h : sp_Room_temperatures K A vs H Q E) : vs.length = 3 := by
  unfold sp_Room_temperatures at h
  repeat (first | (obtain ⟨rfl, _⟩ := h; rfl) | obtain ⟨_, h⟩ := h)
theorem ok_Room_temperatures {f : Addr} {fd : FuncData} (F : FunD K "temperatures" "Room.temperatures" (defArgs s_Room_temperatures) (defBody s_Room_temperatures) (defScope s_Room_temperatures) [] [] f fd) (hcx : NoE (L2.CX A.P A.w)) (b : Blt mg) (c_validate_number : CalR A.P A.w K mg base (L2.CX A.P A.w) 1 "validate_number" (sp_validate_number K A)) (k_MAX_TICK : ∃ u, mg "MAX_TICK" = some u ∧ RelV (.int 1000000000000000000) u) (k_MAX_LISTED : ∃ u, mg "MAX_LISTED" = some u ∧ RelV (.int 10000) u) (m_Room_temperature : MetR A.P A.w K mg base (L2.CX A.P A.w) 3 A.cRoom "temperature" (sp_Room_temperature K A)) : GFn A.P A.w K mg base 4 f fd ["self", "first", "last"] (sp_Room_temperatures K A) := by
  refine okG F sc_Room_temperatures (fun vs H Q E h => len_Room_temperatures h) (fun cdv A' outer s H vs Q E pn hr h => ⟨t_Room_temperatures K A, ?_, pure_Room_temperatures vs H Q E h⟩)
  exact gss_cons (gs_ps (ps_expr ((pe_cR c_validate_number hr (by decide) (hcx _) (by rfl) (pa_cons (pv 1) (pa_cons (pe_int) (pa_cons ((C8.pe_gc (by rfl) k_MAX_TICK)) (pa_nil)))))))) (gss_cons (gs_ps (ps_expr ((pe_cR c_validate_number hr (by decide) (hcx _) (by rfl) (pa_cons (pv 2) (pa_cons (pv 1) (pa_cons ((pe_callB (call_min2 rfl) (by rfl) b.n_min (by decide +kernel) (pa_cons ((C8.pe_gc (by rfl) k_MAX_TICK)) (pa_cons (pe_op op_sub (pe_op op_add (pv 1) ((C8.pe_gc (by rfl) k_MAX_LISTED))) (pe_int)) (pa_nil))))) (pa_nil)))))))) (gss_cons (gs_for owns_gcx rfl (pi_range2 (by rfl) b.n_range (pa_cons (pv 1) (pa_cons (pe_op op_add (pv 2) (pe_int)) (pa_nil)))) (pg_name (i := 3) sc_Room_temperatures.nd rfl (by first | exact Or.inl rfl | exact Or.inr rfl)) (gss_cons (gs_yield ((pe_mtR m_Room_temperature hr (by decide) (hcx _) (pv 0) (pa_cons (pv 3) (pa_nil))))) (gss_nil))) (gss_nil)))
abbrev s_Room_heated_before : Stmt := inClass (top 19) 7
theorem sc_Room_heated_before : FnScope ["self", "tick", "total", "run"] ["self", "tick"] (defScope s_Room_heated_before) := ⟨rfl, rfl, rfl, by decide +kernel, rfl, by decide +kernel, by decide +kernel⟩
theorem len_Room_heated_before {vs : List V} {H : Hp} {Q : VK} {E : XK} (h : sp_Room_heated_before K A vs H Q E) : vs.length = 2 := by
  unfold sp_Room_heated_before at h
  repeat (first | (obtain ⟨rfl, _⟩ := h; rfl) | obtain ⟨_, h⟩ := h)
theorem ok_Room_heated_before {f : Addr} {fd : FuncData} (F : FunD K "heated_before" "Room.heated_before" (defArgs s_Room_heated_before) (defBody s_Room_heated_before) (defScope s_Room_heated_before) [] [] f fd) (hcx : NoE CX) (b : Blt mg)  : FnOk A.P A.w K mg base CX 1 f fd ["self", "tick"] (sp_Room_heated_before K A) := by
  refine okD F sc_Room_heated_before (fun vs H Q E h => len_Room_heated_before h) (fun cdv A' outer s H vs Q E hr h => ⟨t_Room_heated_before K A, ?_, pure_Room_heated_before vs H Q E h⟩)
  exact pss_cons (ps_set (i := 2) sc_Room_heated_before.nd rfl (by first | exact Or.inl rfl | exact Or.inr rfl) (pe_int)) (pss_cons (ps_for PassesOwn.never rfl (pi_list (pe_fld (pe_fld (pv 0) rfl) rfl)) (pg_name (i := 3) sc_Room_heated_before.nd rfl (by first | exact Or.inl rfl | exact Or.inr rfl)) (pss_one (ps_if (PW.pt (pw_and (pt_val (pe_fld (pv 3) rfl)) (pw_and1 (pt_cmpR op_lt (pe_fld (pv 3) rfl) (pv 1) (nomark _))))) (pss_one (ps_aug (i := 2) sc_Room_heated_before.nd rfl (by first | exact Or.inl rfl | exact Or.inr rfl) (pe_op op_sub (pe_ifExp (pt_cmpR op_isN1 (pe_fld (pv 3) rfl) (pe_non) (nomark _)) (pv 1) ((pe_callB (call_min2 rfl) (by rfl) b.n_min (by decide +kernel) (pa_cons (pe_fld (pv 3) rfl) (pa_cons (pv 1) (pa_nil)))))) (pe_fld (pv 3) rfl)) ip_add)) (pss_nil)))) (pss_one (ps_ret (pv 2))))
abbrev s_Room_loop_begin : Stmt := inClass (top 19) 9
theorem sc_Room_loop_begin : FnScope ["self"] ["self"] (defScope s_Room_loop_begin) := ⟨rfl, rfl, rfl, by decide +kernel, rfl, by decide +kernel, by decide +kernel⟩
theorem len_Room_loop_begin {vs : List V} {H : Hp} {Q : VK} {E : XK} (h : sp_Room_loop_begin K A vs H Q E) : vs.length = 1 := by
  unfold sp_Room_loop_begin at h
  repeat (first | (obtain ⟨rfl, _⟩ := h; rfl) | obtain ⟨_, h⟩ := h)
theorem ok_Room_loop_begin {f : Addr} {fd : FuncData} (F : FunD K "loop_begin" "Room.loop_begin" (defArgs s_Room_loop_begin) (defBody s_Room_loop_begin) (defScope s_Room_loop_begin) [] [] f fd) (hcx : NoE CX) (b : Blt mg)  : FnOk A.P A.w K mg base CX 1 f fd ["self"] (sp_Room_loop_begin K A) := by
  refine okD F sc_Room_loop_begin (fun vs H Q E h => len_Room_loop_begin h) (fun cdv A' outer s H vs Q E hr h => ⟨t_Room_loop_begin K A, ?_, pure_Room_loop_begin vs H Q E h⟩)
  exact pss_one (ps_ret (pe_fld (pe_ix ix_seq (pe_fld (pe_fld (pv 0) rfl) rfl) (pe_fld (pe_fld (pv 0) rfl) rfl) (fun _ _ => rfl)) rfl))
abbrev s_Room_heating_ticks : Stmt := inClass (top 19) 8
theorem sc_Room_heating_ticks : FnScope ["self", "count", "turns", "tick", "total"] ["self", "count"] (defScope s_Room_heating_ticks) := ⟨rfl, rfl, rfl, by decide +kernel, rfl, by decide +kernel, by decide +kernel⟩
theorem len_Room_heating_ticks {vs : List V} {H : Hp} {Q : VK} {E : XK} (h : sp_Room_heating_ticks K A vs H Q E) : vs.length = 2 := by
  unfold sp_Room_heating_ticks at h
  repeat (first | (obtain ⟨rfl, _⟩ := h; rfl) | obtain ⟨_, h⟩ := h)
theorem ok_Room_heating_ticks {f : Addr} {fd : FuncData} (F : FunD K "heating_ticks" "Room.heating_ticks" (defArgs s_Room_heating_ticks) (defBody s_Room_heating_ticks) (defScope s_Room_heating_ticks) [] [] f fd) (hcx : NoE CX) (b : Blt mg) (c_validate_number : CalR A.P A.w K mg base CX 1 "validate_number" (sp_validate_number K A)) (k_MAX_TICK : ∃ u, mg "MAX_TICK" = some u ∧ RelV (.int 1000000000000000000) u) (m_History_wrapped : MetR A.P A.w K mg base CX 2 A.cHistory "wrapped" (sp_History_wrapped K A)) (m_Room_heated_before : MetR A.P A.w K mg base CX 1 A.cRoom "heated_before" (sp_Room_heated_before K A)) (m_Room_loop_begin : MetR A.P A.w K mg base CX 1 A.cRoom "loop_begin" (sp_Room_loop_begin K A)) : FnOk A.P A.w K mg base CX 3 f fd ["self", "count"] (sp_Room_heating_ticks K A) := by
  refine okD F sc_Room_heating_ticks (fun vs H Q E h => len_Room_heating_ticks h) (fun cdv A' outer s H vs Q E hr h => ⟨t_Room_heating_ticks K A, ?_, pure_Room_heating_ticks vs H Q E h⟩)
  exact pss_cons (ps_expr ((pe_cR c_validate_number hr (by decide) (hcx _) (by rfl) (pa_cons (pv 1) (pa_cons (pe_int) (pa_cons ((C8.pe_gc (by rfl) k_MAX_TICK)) (pa_nil))))))) (pss_cons (ps_asg ((pe_mtR m_History_wrapped hr (by decide) (hcx _) (pe_fld (pv 0) rfl) (pa_cons (pv 1) (pa_nil)))) (pg_tup rfl (pgs_cons (pg_name (i := 2) sc_Room_heating_ticks.nd rfl (by first | exact Or.inl rfl | exact Or.inr rfl)) (pgs_cons (pg_name (i := 3) sc_Room_heating_ticks.nd rfl (by first | exact Or.inl rfl | exact Or.inr rfl)) (pgs_nil))))) (pss_cons (ps_set (i := 4) sc_Room_heating_ticks.nd rfl (by first | exact Or.inl rfl | exact Or.inr rfl) ((pe_mtR m_Room_heated_before hr (by decide) (hcx _) (pv 0) (pa_cons (pv 3) (pa_nil))))) (pss_cons (ps_if (pt_cmpR op_gt (pv 2) (pe_int) (nomark _)) (pss_one (ps_aug (i := 4) sc_Room_heating_ticks.nd rfl (by first | exact Or.inl rfl | exact Or.inr rfl) (pe_op op_mul (pv 2) (pe_op op_sub ((pe_mtR m_Room_heated_before hr (by decide) (hcx _) (pv 0) (pa_cons (pe_fld (pe_ix ix_seq (pe_fld (pe_fld (pv 0) rfl) rfl) (pe_un un_neg (pe_int)) (fun _ _ => rfl)) rfl) (pa_nil)))) ((pe_mtR m_Room_heated_before hr (by decide) (hcx _) (pv 0) (pa_cons ((pe_mt0R m_Room_loop_begin hr (by decide) (hcx _) (pv 0))) (pa_nil)))))) ip_add)) (pss_nil)) (pss_one (ps_ret (pv 4))))))
abbrev s_Room_switched_before : Stmt := inClass (top 19) 10
theorem sc_Room_switched_before : FnScope ["self", "tick", "begins", "run", "same"] ["self", "tick"] (defScope s_Room_switched_before) := ⟨rfl, rfl, rfl, by decide +kernel, rfl, by decide +kernel, by decide +kernel⟩
theorem len_Room_switched_before {vs : List V} {H : Hp} {Q : VK} {E : XK} (h : sp_Room_switched_before K A vs H Q E) : vs.length = 2 := by
  unfold sp_Room_switched_before at h
  repeat (first | (obtain ⟨rfl, _⟩ := h; rfl) | obtain ⟨_, h⟩ := h)
theorem ok_Room_switched_before {f : Addr} {fd : FuncData} (F : FunD K "switched_before" "Room.switched_before" (defArgs s_Room_switched_before) (defBody s_Room_switched_before) (defScope s_Room_switched_before) [] [] f fd) (hcx : NoE CX) (b : Blt mg)  : FnOk A.P A.w K mg base CX 1 f fd ["self", "tick"] (sp_Room_switched_before K A) := by
  refine okD F sc_Room_switched_before (fun vs H Q E h => len_Room_switched_before h) (fun cdv A' outer s H vs Q E hr h => ⟨t_Room_switched_before K A, ?_, pure_Room_switched_before vs H Q E h⟩)
  exact pss_cons (ps_setLc (i := 2) rfl sc_Room_switched_before.nd rfl rfl (sw_true rfl rfl rfl (by decide +kernel)) (own := [("run", 3)]) (g := gName 3) (tt := tTest (tOp (rI0 fun i j => .bl (decide (i < j))) (tFld K (tVar 3) "begin") (tVar 1))) (te := tFld K (tVar 3) "begin") (pi_list (pe_fld (pe_fld (pv 0) rfl) rfl)) (blkOk_by (N := ["self", "tick", "begins", "run", "same"]) (sc := defScope s_Room_switched_before) (by decide +kernel)) (fun _ _ _ _ _ => pg_name (i := 3) sc_Room_switched_before.nd rfl (by first | exact Or.inl rfl | exact Or.inr rfl)) (fun _ _ _ _ _ => pts_one (pt_cmpR op_lt (pe_fld (pv 3) rfl) (pv 1) (nomark _))) (fun _ _ _ _ _ => pe_fld (pv 3) rfl)) (pss_cons (ps_set (i := 4) sc_Room_switched_before.nd rfl (by first | exact Or.inl rfl | exact Or.inr rfl) (pe_cmpR op_eq (pe_fld (pe_ix ix_seq (pe_fld (pe_fld (pv 0) rfl) rfl) (pe_int) (fun _ _ => rfl)) rfl) (pe_fld (pe_fld (pv 0) rfl) rfl) (nomark _))) (pss_one (ps_ret (pe_op op_sub ((pe_callB call_len (by rfl) b.n_len boot_len (pa_cons (pv 2) (pa_nil)))) ((pe_callTy call_int1 (by rfl) b.n_int (by decide +kernel) (pa_cons (pv 4) (pa_nil))))))))
abbrev s_Room_switchings : Stmt := inClass (top 19) 11
theorem sc_Room_switchings : FnScope ["self", "count", "turns", "tick", "total"] ["self", "count"] (defScope s_Room_switchings) := ⟨rfl, rfl, rfl, by decide +kernel, rfl, by decide +kernel, by decide +kernel⟩
theorem len_Room_switchings {vs : List V} {H : Hp} {Q : VK} {E : XK} (h : sp_Room_switchings K A vs H Q E) : vs.length = 2 := by
  unfold sp_Room_switchings at h
  repeat (first | (obtain ⟨rfl, _⟩ := h; rfl) | obtain ⟨_, h⟩ := h)
theorem ok_Room_switchings {f : Addr} {fd : FuncData} (F : FunD K "switchings" "Room.switchings" (defArgs s_Room_switchings) (defBody s_Room_switchings) (defScope s_Room_switchings) [] [] f fd) (hcx : NoE CX) (b : Blt mg) (c_validate_number : CalR A.P A.w K mg base CX 1 "validate_number" (sp_validate_number K A)) (k_MAX_TICK : ∃ u, mg "MAX_TICK" = some u ∧ RelV (.int 1000000000000000000) u) (m_History_wrapped : MetR A.P A.w K mg base CX 2 A.cHistory "wrapped" (sp_History_wrapped K A)) (m_Room_switched_before : MetR A.P A.w K mg base CX 1 A.cRoom "switched_before" (sp_Room_switched_before K A)) : FnOk A.P A.w K mg base CX 3 f fd ["self", "count"] (sp_Room_switchings K A) := by
  refine okD F sc_Room_switchings (fun vs H Q E h => len_Room_switchings h) (fun cdv A' outer s H vs Q E hr h => ⟨t_Room_switchings K A, ?_, pure_Room_switchings vs H Q E h⟩)
  exact pss_cons (ps_expr ((pe_cR c_validate_number hr (by decide) (hcx _) (by rfl) (pa_cons (pv 1) (pa_cons (pe_int) (pa_cons ((C8.pe_gc (by rfl) k_MAX_TICK)) (pa_nil))))))) (pss_cons (ps_asg ((pe_mtR m_History_wrapped hr (by decide) (hcx _) (pe_fld (pv 0) rfl) (pa_cons (pv 1) (pa_nil)))) (pg_tup rfl (pgs_cons (pg_name (i := 2) sc_Room_switchings.nd rfl (by first | exact Or.inl rfl | exact Or.inr rfl)) (pgs_cons (pg_name (i := 3) sc_Room_switchings.nd rfl (by first | exact Or.inl rfl | exact Or.inr rfl)) (pgs_nil))))) (pss_cons (ps_set (i := 4) sc_Room_switchings.nd rfl (by first | exact Or.inl rfl | exact Or.inr rfl) ((pe_mtR m_Room_switched_before hr (by decide) (hcx _) (pv 0) (pa_cons (pv 3) (pa_nil))))) (pss_one (ps_ret (pe_ifExp (pt_cmpR op_gt (pv 2) (pe_int) (nomark _)) (pe_op op_add (pv 4) (pe_op op_mul (pv 2) (pe_op op_sub ((pe_callB call_len (by rfl) b.n_len boot_len (pa_cons (pe_fld (pe_fld (pv 0) rfl) rfl) (pa_nil)))) (pe_fld (pe_fld (pv 0) rfl) rfl)))) ((pe_callB (call_max2 rfl) (by rfl) b.n_max (by decide +kernel) (pa_cons (pe_int) (pa_cons (pv 4) (pa_nil))))))))))
abbrev s_Room_nth_switching : Stmt := inClass (top 19) 12
theorem sc_Room_nth_switching : FnScope ["self", "number", "same", "index", "size", "turns", "place"] ["self", "number"] (defScope s_Room_nth_switching) := ⟨rfl, rfl, rfl, by decide +kernel, rfl, by decide +kernel, by decide +kernel⟩
theorem len_Room_nth_switching {vs : List V} {H : Hp} {Q : VK} {E : XK} (h : sp_Room_nth_switching K A vs H Q E) : vs.length = 2 := by
  unfold sp_Room_nth_switching at h
  repeat (first | (obtain ⟨rfl, _⟩ := h; rfl) | obtain ⟨_, h⟩ := h)
theorem ok_Room_nth_switching {f : Addr} {fd : FuncData} (F : FunD K "nth_switching" "Room.nth_switching" (defArgs s_Room_nth_switching) (defBody s_Room_nth_switching) (defScope s_Room_nth_switching) [] [] f fd) (hcx : NoE CX) (b : Blt mg) (c_validate_number : CalR A.P A.w K mg base CX 1 "validate_number" (sp_validate_number K A)) (k_MAX_TICK : ∃ u, mg "MAX_TICK" = some u ∧ RelV (.int 1000000000000000000) u) (m_History_circle : MetR A.P A.w K mg base CX 1 A.cHistory "circle" (sp_History_circle K A)) : FnOk A.P A.w K mg base CX 2 f fd ["self", "number"] (sp_Room_nth_switching K A) := by
  refine okD F sc_Room_nth_switching (fun vs H Q E h => len_Room_nth_switching h) (fun cdv A' outer s H vs Q E hr h => ⟨t_Room_nth_switching K A, ?_, pure_Room_nth_switching vs H Q E h⟩)
  exact pss_cons (ps_expr ((pe_cR c_validate_number hr (by decide) (hcx _) (by rfl) (pa_cons (pv 1) (pa_cons (pe_int) (pa_cons ((C8.pe_gc (by rfl) k_MAX_TICK)) (pa_nil))))))) (pss_cons (ps_set (i := 2) sc_Room_nth_switching.nd rfl (by first | exact Or.inl rfl | exact Or.inr rfl) (pe_cmpR op_eq (pe_fld (pe_ix ix_seq (pe_fld (pe_fld (pv 0) rfl) rfl) (pe_int) (fun _ _ => rfl)) rfl) (pe_fld (pe_fld (pv 0) rfl) rfl) (nomark _))) (pss_cons (ps_set (i := 3) sc_Room_nth_switching.nd rfl (by first | exact Or.inl rfl | exact Or.inr rfl) (pe_op op_add (pe_op op_sub (pv 1) (pe_int)) ((pe_callTy call_int1 (by rfl) b.n_int (by decide +kernel) (pa_cons (pv 2) (pa_nil)))))) (pss_cons (ps_if (pt_cmpR op_lt (pv 3) ((pe_callB call_len (by rfl) b.n_len boot_len (pa_cons (pe_fld (pe_fld (pv 0) rfl) rfl) (pa_nil)))) (nomark _)) (pss_one (ps_ret (pe_fld (pe_ix ix_seq (pe_fld (pe_fld (pv 0) rfl) rfl) (pv 3) (fun _ _ => rfl)) rfl))) (pss_nil)) (pss_cons (ps_if (pt_cmpR op_isN1 (pe_fld (pe_fld (pv 0) rfl) rfl) (pe_non) (nomark _)) (pss_one (ps_ret (pe_non))) (pss_nil)) (pss_cons (ps_set (i := 4) sc_Room_nth_switching.nd rfl (by first | exact Or.inl rfl | exact Or.inr rfl) (pe_op op_sub ((pe_callB call_len (by rfl) b.n_len boot_len (pa_cons (pe_fld (pe_fld (pv 0) rfl) rfl) (pa_nil)))) (pe_fld (pe_fld (pv 0) rfl) rfl))) (pss_cons (ps_par (i := 5) (j := 6) rfl sc_Room_nth_switching.nd rfl rfl (by decide) rfl rfl (pa_cons (pe_op op_fdivW (pe_op op_sub (pv 3) (pe_fld (pe_fld (pv 0) rfl) rfl)) (pv 4)) (pa_cons (pe_op op_mod ((pe_callTy call_int1 (by rfl) b.n_int (by decide +kernel) (pa_cons (pe_op op_sub (pv 3) (pe_fld (pe_fld (pv 0) rfl) rfl)) (pa_nil)))) (pv 4)) (pa_nil))) (by rfl)) (pss_one (ps_ret (pe_op op_add (pe_fld (pe_ix ix_seq (pe_fld (pe_fld (pv 0) rfl) rfl) (pe_op op_add (pe_fld (pe_fld (pv 0) rfl) rfl) (pv 6)) (fun _ _ => rfl)) rfl) (pe_op op_mul (pv 5) ((pe_mt0R m_History_circle hr (by decide) (hcx _) (pe_fld (pv 0) rfl)))))))))))))
abbrev s_Room_weather : Stmt := inClass (top 19) 1
theorem sc_Room_weather : FnScope ["self"] ["self"] (defScope s_Room_weather) := ⟨rfl, rfl, rfl, by decide +kernel, rfl, by decide +kernel, by decide +kernel⟩
theorem len_Room_weather {vs : List V} {H : Hp} {Q : VK} {E : XK} (h : sp_Room_weather K A vs H Q E) : vs.length = 1 := by
  unfold sp_Room_weather at h
  repeat (first | (obtain ⟨rfl, _⟩ := h; rfl) | obtain ⟨_, h⟩ := h)
theorem ok_Room_weather {f : Addr} {fd : FuncData} (F : FunD K "weather" "Room.weather" (defArgs s_Room_weather) (defBody s_Room_weather) (defScope s_Room_weather) [] [] f fd) (hcx : NoE CX) (b : Blt mg)  : FnOk A.P A.w K mg base CX 1 f fd ["self"] (sp_Room_weather K A) := by
  refine okD F sc_Room_weather (fun vs H Q E h => len_Room_weather h) (fun cdv A' outer s H vs Q E hr h => ⟨t_Room_weather K A, ?_, pure_Room_weather vs H Q E h⟩)
  exact pss_one (ps_ret (pe_fld (pv 0) rfl))
abbrev s_Room_heater : Stmt := inClass (top 19) 2
theorem sc_Room_heater : FnScope ["self"] ["self"] (defScope s_Room_heater) := ⟨rfl, rfl, rfl, by decide +kernel, rfl, by decide +kernel, by decide +kernel⟩
theorem len_Room_heater {vs : List V} {H : Hp} {Q : VK} {E : XK} (h : sp_Room_heater K A vs H Q E) : vs.length = 1 := by
  unfold sp_Room_heater at h
  repeat (first | (obtain ⟨rfl, _⟩ := h; rfl) | obtain ⟨_, h⟩ := h)
theorem ok_Room_heater {f : Addr} {fd : FuncData} (F : FunD K "heater" "Room.heater" (defArgs s_Room_heater) (defBody s_Room_heater) (defScope s_Room_heater) [] [] f fd) (hcx : NoE CX) (b : Blt mg)  : FnOk A.P A.w K mg base CX 1 f fd ["self"] (sp_Room_heater K A) := by
  refine okD F sc_Room_heater (fun vs H Q E h => len_Room_heater h) (fun cdv A' outer s H vs Q E hr h => ⟨t_Room_heater K A, ?_, pure_Room_heater vs H Q E h⟩)
  exact pss_one (ps_ret (pe_fld (pv 0) rfl))
abbrev s_Room_start : Stmt := inClass (top 19) 3
theorem sc_Room_start : FnScope ["self"] ["self"] (defScope s_Room_start) := ⟨rfl, rfl, rfl, by decide +kernel, rfl, by decide +kernel, by decide +kernel⟩
theorem len_Room_start {vs : List V} {H : Hp} {Q : VK} {E : XK} (h : sp_Room_start K A vs H Q E) : vs.length = 1 := by
  unfold sp_Room_start at h
  repeat (first | (obtain ⟨rfl, _⟩ := h; rfl) | obtain ⟨_, h⟩ := h)
theorem ok_Room_start {f : Addr} {fd : FuncData} (F : FunD K "start" "Room.start" (defArgs s_Room_start) (defBody s_Room_start) (defScope s_Room_start) [] [] f fd) (hcx : NoE CX) (b : Blt mg)  : FnOk A.P A.w K mg base CX 1 f fd ["self"] (sp_Room_start K A) := by
  refine okD F sc_Room_start (fun vs H Q E h => len_Room_start h) (fun cdv A' outer s H vs Q E hr h => ⟨t_Room_start K A, ?_, pure_Room_start vs H Q E h⟩)
  exact pss_one (ps_ret (pe_fld (pv 0) rfl))
abbrev s_law : Stmt := top 32
theorem sc_law : FnScope ["_law_script", "_law_h", "_law_turn", "_law_changes_here", "_law_setting_here", "_law_count", "_law_room_here", "_law_degrees", "_law_states", "_law_tick", "_law_first", "_law_before", "_law_moves", "_law_some", "_law_due", "_law_state", "_law_k", "_law_told_here"] ["_law_script"] (defScope s_law) := ⟨rfl, rfl, rfl, by decide +kernel, rfl, by decide +kernel, by decide +kernel⟩
theorem len_law {vs : List V} {H : Hp} {Q : VK} {E : XK} (h : sp_law K A vs H Q E) : vs.length = 1 := by
  unfold sp_law at h
  repeat (first | (obtain ⟨rfl, _⟩ := h; rfl) | obtain ⟨_, h⟩ := h)
theorem ok_law {f : Addr} {fd : FuncData} (F : FunD K "law" "law" (defArgs s_law) (defBody s_law) (defScope s_law) [] [] f fd) (hcx : NoE CX) (b : Blt mg) (c_law_mix : CalR A.P A.w K mg base CX 1 "_law_mix" (sp_law_mix K A)) (c_law_changes : CalR A.P A.w K mg base CX 2 "_law_changes" (sp_law_changes K A)) (c_law_setting : CalR A.P A.w K mg base CX 2 "_law_setting" (sp_law_setting K A)) (c_law_next : CalR A.P A.w K mg base CX 1 "_law_next" (sp_law_next K A)) (c_law_room : CalR A.P A.w K mg base CX 8 "_law_room" (sp_law_room K A)) (c_law_told : CalR A.P A.w K mg base CX 1 "_law_told" (sp_law_told K A)) (c_law_alike : CalR A.P A.w K mg base CX 5 "_law_alike" (sp_law_alike K A)) (m_Room_temperature : MetR A.P A.w K mg base CX 3 A.cRoom "temperature" (sp_Room_temperature K A)) (m_Room_is_on : MetR A.P A.w K mg base CX 3 A.cRoom "is_on" (sp_Room_is_on K A)) (mg_Room_temperatures : MetG A.P A.w K mg base 4 A.cRoom "temperatures" (sp_Room_temperatures K A)) (m_Room_heating_ticks : MetR A.P A.w K mg base CX 3 A.cRoom "heating_ticks" (sp_Room_heating_ticks K A)) (m_Room_switchings : MetR A.P A.w K mg base CX 3 A.cRoom "switchings" (sp_Room_switchings K A)) (m_Room_nth_switching : MetR A.P A.w K mg base CX 2 A.cRoom "nth_switching" (sp_Room_nth_switching K A)) (p_Weather_changes : PrpR A.P A.w K mg base CX 1 A.cWeather "changes" (sp_Weather_changes K A)) (p_Room_weather : PrpR A.P A.w K mg base CX 1 A.cRoom "weather" (sp_Room_weather K A)) (p_Heater_gain : PrpR A.P A.w K mg base CX 1 A.cHeater "gain" (sp_Heater_gain K A)) (p_Room_heater : PrpR A.P A.w K mg base CX 1 A.cRoom "heater" (sp_Room_heater K A)) (p_Heater_low : PrpR A.P A.w K mg base CX 1 A.cHeater "low" (sp_Heater_low K A)) (p_Heater_high : PrpR A.P A.w K mg base CX 1 A.cHeater "high" (sp_Heater_high K A)) (p_Room_start : PrpR A.P A.w K mg base CX 1 A.cRoom "start" (sp_Room_start K A)) : FnOk A.P A.w K mg base CX 9 f fd ["_law_script"] (sp_law K A) := by
  refine okD F sc_law (fun vs H Q E h => len_law h) (fun cdv A' outer s H vs Q E hr h => ⟨t_law K A, ?_, pure_law vs H Q E h⟩)
  exact pss_cons (ps_set (i := 1) sc_law.nd rfl (by first | exact Or.inl rfl | exact Or.inr rfl) ((pe_cR c_law_mix hr (by decide) (hcx _) (by rfl) (pa_cons (pv 0) (pa_cons (pe_int) (pa_nil)))))) (pss_cons (ps_for PassesOwn.never rfl (pi_range1 (by rfl) b.n_range (pa_cons (pe_int) (pa_nil))) (pg_name (i := 2) sc_law.nd rfl (by first | exact Or.inl rfl | exact Or.inr rfl)) (pss_cons (ps_par3 (i := 3) (j := 4) (l := 5) rfl sc_law.nd rfl rfl rfl (by decide) (by decide) (by decide) rfl rfl rfl (pa_cons ((pe_cR c_law_changes hr (by decide) (hcx _) (by rfl) (pa_cons (pv 1) (pa_cons (pe_int) (pa_nil))))) (pa_cons ((pe_cR c_law_setting hr (by decide) (hcx _) (by rfl) (pa_cons (pv 1) (pa_nil)))) (pa_cons (pe_op op_add (pe_int) ((pe_cR c_law_next hr (by decide) (hcx _) (by rfl) (pa_cons (pv 1) (pa_cons (pe_int) (pa_nil)))))) (pa_nil)))) (by rfl)) (pss_cons (ps_set (i := 6) sc_law.nd rfl (by first | exact Or.inl rfl | exact Or.inr rfl) ((pe_cR c_law_room hr (by decide) (hcx _) (by rfl) (pa_cons (pv 3) (pa_cons (pv 4) (pa_nil)))))) (pss_cons (ps_asg ((pe_cR c_law_told hr (by decide) (hcx _) (by rfl) (pa_cons (pv 3) (pa_cons (pv 4) (pa_cons (pv 5) (pa_nil)))))) (pg_tup rfl (pgs_cons (pg_name (i := 7) sc_law.nd rfl (by first | exact Or.inl rfl | exact Or.inr rfl)) (pgs_cons (pg_name (i := 8) sc_law.nd rfl (by first | exact Or.inl rfl | exact Or.inr rfl)) (pgs_nil))))) (pss_cons (ps_if (pt_not (pt_val ((pe_cR c_law_alike hr (by decide) (hcx _) (by rfl) (pa_cons (pe_lc (own := [("_law_tick", 9)]) (g := gName 9) (tt := tYes) (te := tMtd A.cRoom "temperature" (sp_Room_temperature K A) E0 (tVar 6) (tCons (tVar 9) (tNil))) rfl sc_law.nd (pi_range1 (by rfl) b.n_range (pa_cons (pv 5) (pa_nil))) (blkOk_by (N := ["_law_script", "_law_h", "_law_turn", "_law_changes_here", "_law_setting_here", "_law_count", "_law_room_here", "_law_degrees", "_law_states", "_law_tick", "_law_first", "_law_before", "_law_moves", "_law_some", "_law_due", "_law_state", "_law_k", "_law_told_here"]) (sc := defScope s_law) (by decide +kernel)) (fun _ _ _ _ _ => pg_name (i := 9) sc_law.nd rfl (by first | exact Or.inl rfl | exact Or.inr rfl)) (fun _ _ _ _ _ => pts_nil) (fun _ _ _ _ _ => (pe_mtR m_Room_temperature hr (by decide) (hcx _) (pv 6) (pa_cons (pv 9) (pa_nil))))) (pa_cons (pv 7) (pa_nil))))))) (pss_one (ps_ret (pe_bl))) (pss_nil)) (pss_cons (ps_if (pt_not (pt_val ((pe_cR c_law_alike hr (by decide) (hcx _) (by rfl) (pa_cons (pe_lc (own := [("_law_tick", 9)]) (g := gName 9) (tt := tYes) (te := tMtd A.cRoom "is_on" (sp_Room_is_on K A) E0 (tVar 6) (tCons (tVar 9) (tNil))) rfl sc_law.nd (pi_range1 (by rfl) b.n_range (pa_cons (pv 5) (pa_nil))) (blkOk_by (N := ["_law_script", "_law_h", "_law_turn", "_law_changes_here", "_law_setting_here", "_law_count", "_law_room_here", "_law_degrees", "_law_states", "_law_tick", "_law_first", "_law_before", "_law_moves", "_law_some", "_law_due", "_law_state", "_law_k", "_law_told_here"]) (sc := defScope s_law) (by decide +kernel)) (fun _ _ _ _ _ => pg_name (i := 9) sc_law.nd rfl (by first | exact Or.inl rfl | exact Or.inr rfl)) (fun _ _ _ _ _ => pts_nil) (fun _ _ _ _ _ => (pe_mtR m_Room_is_on hr (by decide) (hcx _) (pv 6) (pa_cons (pv 9) (pa_nil))))) (pa_cons (pv 8) (pa_nil))))))) (pss_one (ps_ret (pe_bl))) (pss_nil)) (pss_cons (ps_set (i := 10) sc_law.nd rfl (by first | exact Or.inl rfl | exact Or.inr rfl) ((pe_cR c_law_next hr (by decide) (hcx _) (by rfl) (pa_cons (pv 1) (pa_cons (pv 5) (pa_nil)))))) (pss_cons (ps_if (pt_not (pt_val ((pe_cR c_law_alike hr (by decide) (hcx _) (by rfl) (pa_cons ((pe_lgR mg_Room_temperatures hr (by decide) b (by rfl) (pv 6) (pa_cons (pv 10) (pa_cons (pe_op op_sub (pv 5) (pe_int)) (pa_nil))))) (pa_cons (pe_slice sl_list (pv 7) (po_some (pv 10)) (po_none)) (pa_nil))))))) (pss_one (ps_ret (pe_bl))) (pss_nil)) (pss_cons (ps_set (i := 11) sc_law.nd rfl (by first | exact Or.inl rfl | exact Or.inr rfl) (pe_op op_cat (pe_lst (pa_cons (pe_ix ix_seq (pv 4) (pe_int) (fun _ _ => rfl)) (pa_nil))) (pv 8))) (pss_cons (ps_set (i := 12) sc_law.nd rfl (by first | exact Or.inl rfl | exact Or.inr rfl) (pe_lc (own := [("_law_tick", 9)]) (g := gName 9) (tt := tTest (tOp rNe (tOp (rIx K) (tVar 11) (tVar 9)) (tOp (rIx K) (tVar 11) (tOp (rI0 fun i j => .int (i + j)) (tVar 9) (tC (.int 1)))))) (te := tVar 9) rfl sc_law.nd (pi_range1 (by rfl) b.n_range (pa_cons (pv 5) (pa_nil))) (blkOk_by (N := ["_law_script", "_law_h", "_law_turn", "_law_changes_here", "_law_setting_here", "_law_count", "_law_room_here", "_law_degrees", "_law_states", "_law_tick", "_law_first", "_law_before", "_law_moves", "_law_some", "_law_due", "_law_state", "_law_k", "_law_told_here"]) (sc := defScope s_law) (by decide +kernel)) (fun _ _ _ _ _ => pg_name (i := 9) sc_law.nd rfl (by first | exact Or.inl rfl | exact Or.inr rfl)) (fun _ _ _ _ _ => pts_one (pt_cmpR op_ne (pe_ix ix_seq (pv 11) (pv 9) (fun _ _ => rfl)) (pe_ix ix_seq (pv 11) (pe_op op_add (pv 9) (pe_int)) (fun _ _ => rfl)) (nomark _))) (fun _ _ _ _ _ => pv 9))) (pss_cons (ps_for PassesOwn.never rfl (pi_tup (pe_tup (pa_cons (pe_int) (pa_cons (pe_int) (pa_cons (pe_op op_fdivW (pv 5) (pe_int)) (pa_cons (pv 5) (pa_nil))))))) (pg_name (i := 13) sc_law.nd rfl (by first | exact Or.inl rfl | exact Or.inr rfl)) (pss_cons (ps_set (i := 14) sc_law.nd rfl (by first | exact Or.inl rfl | exact Or.inr rfl) (pe_lst (pa_cons ((pe_callB call_len (by rfl) b.n_len boot_len (pa_cons (pe_lc (own := [("_law_state", 15)]) (g := gName 15) (tt := tB (tVar 15)) (te := tVar 15) rfl sc_law.nd (pi_list (pe_slice sl_list (pv 8) (po_none) (po_some (pv 13)))) (blkOk_by (N := ["_law_script", "_law_h", "_law_turn", "_law_changes_here", "_law_setting_here", "_law_count", "_law_room_here", "_law_degrees", "_law_states", "_law_tick", "_law_first", "_law_before", "_law_moves", "_law_some", "_law_due", "_law_state", "_law_k", "_law_told_here"]) (sc := defScope s_law) (by decide +kernel)) (fun _ _ _ _ _ => pg_name (i := 15) sc_law.nd rfl (by first | exact Or.inl rfl | exact Or.inr rfl)) (fun _ _ _ _ _ => pts_one (pt_val (pv 15))) (fun _ _ _ _ _ => pv 15)) (pa_nil)))) (pa_cons ((pe_callB call_len (by rfl) b.n_len boot_len (pa_cons (pe_lc (own := [("_law_tick", 9)]) (g := gName 9) (tt := tTest (tOp (rI0 fun i j => .bl (decide (i < j))) (tVar 9) (tVar 13))) (te := tVar 9) rfl sc_law.nd (pi_list (pv 12)) (blkOk_by (N := ["_law_script", "_law_h", "_law_turn", "_law_changes_here", "_law_setting_here", "_law_count", "_law_room_here", "_law_degrees", "_law_states", "_law_tick", "_law_first", "_law_before", "_law_moves", "_law_some", "_law_due", "_law_state", "_law_k", "_law_told_here"]) (sc := defScope s_law) (by decide +kernel)) (fun _ _ _ _ _ => pg_name (i := 9) sc_law.nd rfl (by first | exact Or.inl rfl | exact Or.inr rfl)) (fun _ _ _ _ _ => pts_one (pt_cmpR op_lt (pv 9) (pv 13) (nomark _))) (fun _ _ _ _ _ => pv 9)) (pa_nil)))) (pa_nil))))) (pss_one (ps_if (pt_not (pt_val ((pe_cR c_law_alike hr (by decide) (hcx _) (by rfl) (pa_cons (pe_lst (pa_cons ((pe_mtR m_Room_heating_ticks hr (by decide) (hcx _) (pv 6) (pa_cons (pv 13) (pa_nil)))) (pa_cons ((pe_mtR m_Room_switchings hr (by decide) (hcx _) (pv 6) (pa_cons (pv 13) (pa_nil)))) (pa_nil)))) (pa_cons (pv 14) (pa_nil))))))) (pss_one (ps_ret (pe_bl))) (pss_nil))))) (pss_cons (ps_if (pt_cmpR (op_neD hr.units) (pe_lc (own := [("_law_k", 16)]) (g := gName 16) (tt := tTest (tOp rNe (tMtd A.cRoom "nth_switching" (sp_Room_nth_switching K A) E0 (tVar 6) (tCons (tOp (rI0 fun i j => .int (i + j)) (tVar 16) (tC (.int 1))) (tNil))) (tOp (rIx K) (tVar 12) (tVar 16)))) (te := tVar 16) rfl sc_law.nd (pi_range1 (by rfl) b.n_range (pa_cons ((pe_callB call_len (by rfl) b.n_len boot_len (pa_cons (pv 12) (pa_nil)))) (pa_nil))) (blkOk_by (N := ["_law_script", "_law_h", "_law_turn", "_law_changes_here", "_law_setting_here", "_law_count", "_law_room_here", "_law_degrees", "_law_states", "_law_tick", "_law_first", "_law_before", "_law_moves", "_law_some", "_law_due", "_law_state", "_law_k", "_law_told_here"]) (sc := defScope s_law) (by decide +kernel)) (fun _ _ _ _ _ => pg_name (i := 16) sc_law.nd rfl (by first | exact Or.inl rfl | exact Or.inr rfl)) (fun _ _ _ _ _ => pts_one (pt_cmpR op_ne ((pe_mtR m_Room_nth_switching hr (by decide) (hcx _) (pv 6) (pa_cons (pe_op op_add (pv 16) (pe_int)) (pa_nil)))) (pe_ix ix_seq (pv 12) (pv 16) (fun _ _ => rfl)) (nomark _))) (fun _ _ _ _ _ => pv 16)) (pe_lst (pa_nil)) (nomark _)) (pss_one (ps_ret (pe_bl))) (pss_nil)) (pss_cons (ps_set (i := 17) sc_law.nd rfl (by first | exact Or.inl rfl | exact Or.inr rfl) (pe_lst (pa_cons ((pe_prR p_Weather_changes hr (by decide) (hcx _) ((pe_prR p_Room_weather hr (by decide) (hcx _) (pv 6))))) (pa_cons ((pe_prR p_Heater_gain hr (by decide) (hcx _) ((pe_prR p_Room_heater hr (by decide) (hcx _) (pv 6))))) (pa_cons ((pe_prR p_Heater_low hr (by decide) (hcx _) ((pe_prR p_Room_heater hr (by decide) (hcx _) (pv 6))))) (pa_cons ((pe_prR p_Heater_high hr (by decide) (hcx _) ((pe_prR p_Room_heater hr (by decide) (hcx _) (pv 6))))) (pa_cons ((pe_prR p_Room_start hr (by decide) (hcx _) (pv 6))) (pa_nil)))))))) (pss_one (ps_if (pt_not (pt_val ((pe_cR c_law_alike hr (by decide) (hcx _) (by rfl) (pa_cons (pv 17) (pa_cons (pe_lst (pa_cons (pv 3) (pa_cons (pe_ix ix_seq (pv 4) (pe_int) (fun _ _ => rfl)) (pa_cons (pe_ix ix_seq (pv 4) (pe_int) (fun _ _ => rfl)) (pa_cons (pe_ix ix_seq (pv 4) (pe_int) (fun _ _ => rfl)) (pa_cons (pe_ix ix_seq (pv 4) (pe_int) (fun _ _ => rfl)) (pa_nil))))))) (pa_nil))))))) (pss_one (ps_ret (pe_bl))) (pss_nil)))))))))))))))) (pss_one (ps_ret (pe_bl))))
end
def d_law_mix : He.DefD := ⟨("_law_mix", none), "_law_mix", "_law_mix", defArgs s__law_mix, defBody s__law_mix, defScope s__law_mix, [], []⟩
def d_law_next : He.DefD := ⟨("_law_next", none), "_law_next", "_law_next", defArgs s__law_next, defBody s__law_next, defScope s__law_next, [], []⟩
def d_law_changes : He.DefD := ⟨("_law_changes", none), "_law_changes", "_law_changes", defArgs s__law_changes, defBody s__law_changes, defScope s__law_changes, [], []⟩
def d_law_setting : He.DefD := ⟨("_law_setting", none), "_law_setting", "_law_setting", defArgs s__law_setting, defBody s__law_setting, defScope s__law_setting, [], []⟩
def d_validate_number : He.DefD := ⟨("validate_number", none), "validate_number", "validate_number", defArgs s_validate_number, defBody s_validate_number, defScope s_validate_number, [], []⟩
def d_History_decide : He.DefD := ⟨("History", some "decide"), "decide", "History.decide", defArgs s_History_decide, defBody s_History_decide, defScope s_History_decide, [], []⟩
def d_Run_init : He.DefD := ⟨("Run", some "__init__"), "__init__", "Run.__init__", defArgs s_Run___init__, defBody s_Run___init__, defScope s_Run___init__, [], []⟩
def d_Run_first_beyond : He.DefD := ⟨("Run", some "first_beyond"), "first_beyond", "Run.first_beyond", defArgs s_Run_first_beyond, defBody s_Run_first_beyond, defScope s_Run_first_beyond, [], []⟩
def d_Run_at : He.DefD := ⟨("Run", some "at"), "at", "Run.at", defArgs s_Run_at, defBody s_Run_at, defScope s_Run_at, [], []⟩
def d_History_find_runs : He.DefD := ⟨("History", some "find_runs"), "find_runs", "History.find_runs", defArgs s_History_find_runs, defBody s_History_find_runs, defScope s_History_find_runs, [], []⟩
def d_History_init : He.DefD := ⟨("History", some "__init__"), "__init__", "History.__init__", defArgs s_History___init__, defBody s_History___init__, defScope s_History___init__, [], []⟩
def d_History_circle : He.DefD := ⟨("History", some "circle"), "circle", "History.circle", defArgs s_History_circle, defBody s_History_circle, defScope s_History_circle, [], []⟩
def d_repetition_of : He.DefD := ⟨("repetition_of", none), "repetition_of", "repetition_of", defArgs s_repetition_of, defBody s_repetition_of, defScope s_repetition_of, [], []⟩
def d_common_divisor : He.DefD := ⟨("common_divisor", none), "common_divisor", "common_divisor", defArgs s_common_divisor, defBody s_common_divisor, defScope s_common_divisor, [], []⟩
def d_share_of : He.DefD := ⟨("share_of", none), "share_of", "share_of", defArgs s_share_of, defBody s_share_of, defScope s_share_of, [], []⟩
def d_Run_extreme : He.DefD := ⟨("Run", some "extreme"), "extreme", "Run.extreme", defArgs s_Run_extreme, defBody s_Run_extreme, defScope s_Run_extreme, [], []⟩
def d_extreme_of : He.DefD := ⟨("extreme_of", none), "extreme_of", "extreme_of", defArgs s_extreme_of, defBody s_extreme_of, defScope s_extreme_of, [], []⟩
def d_Room_init : He.DefD := ⟨("Room", some "__init__"), "__init__", "Room.__init__", defArgs s_Room___init__, defBody s_Room___init__, defScope s_Room___init__, [], [("on", .bl false)]⟩
def d_Weather_init : He.DefD := ⟨("Weather", some "__init__"), "__init__", "Weather.__init__", defArgs s_Weather___init__, defBody s_Weather___init__, defScope s_Weather___init__, [], []⟩
def d_law_weather : He.DefD := ⟨("_law_weather", none), "_law_weather", "_law_weather", defArgs s__law_weather, defBody s__law_weather, defScope s__law_weather, [], []⟩
def d_Heater_init : He.DefD := ⟨("Heater", some "__init__"), "__init__", "Heater.__init__", defArgs s_Heater___init__, defBody s_Heater___init__, defScope s_Heater___init__, [], []⟩
def d_law_room : He.DefD := ⟨("_law_room", none), "_law_room", "_law_room", defArgs s__law_room, defBody s__law_room, defScope s__law_room, [], []⟩
def d_law_told : He.DefD := ⟨("_law_told", none), "_law_told", "_law_told", defArgs s__law_told, defBody s__law_told, defScope s__law_told, [], []⟩
def d_law_alike : He.DefD := ⟨("_law_alike", none), "_law_alike", "_law_alike", defArgs s__law_alike, defBody s__law_alike, defScope s__law_alike, [], []⟩
def d_History_wrapped : He.DefD := ⟨("History", some "wrapped"), "wrapped", "History.wrapped", defArgs s_History_wrapped, defBody s_History_wrapped, defScope s_History_wrapped, [], []⟩
def d_History_run_at : He.DefD := ⟨("History", some "run_at"), "run_at", "History.run_at", defArgs s_History_run_at, defBody s_History_run_at, defScope s_History_run_at, [], []⟩
def d_Room_temperature : He.DefD := ⟨("Room", some "temperature"), "temperature", "Room.temperature", defArgs s_Room_temperature, defBody s_Room_temperature, defScope s_Room_temperature, [], []⟩
def d_Room_is_on : He.DefD := ⟨("Room", some "is_on"), "is_on", "Room.is_on", defArgs s_Room_is_on, defBody s_Room_is_on, defScope s_Room_is_on, [], []⟩
def d_Room_temperatures : He.DefD := ⟨("Room", some "temperatures"), "temperatures", "Room.temperatures", defArgs s_Room_temperatures, defBody s_Room_temperatures, defScope s_Room_temperatures, [], []⟩
def d_Room_heated_before : He.DefD := ⟨("Room", some "heated_before"), "heated_before", "Room.heated_before", defArgs s_Room_heated_before, defBody s_Room_heated_before, defScope s_Room_heated_before, [], []⟩
def d_Room_loop_begin : He.DefD := ⟨("Room", some "loop_begin"), "loop_begin", "Room.loop_begin", defArgs s_Room_loop_begin, defBody s_Room_loop_begin, defScope s_Room_loop_begin, [], []⟩
def d_Room_heating_ticks : He.DefD := ⟨("Room", some "heating_ticks"), "heating_ticks", "Room.heating_ticks", defArgs s_Room_heating_ticks, defBody s_Room_heating_ticks, defScope s_Room_heating_ticks, [], []⟩
def d_Room_switched_before : He.DefD := ⟨("Room", some "switched_before"), "switched_before", "Room.switched_before", defArgs s_Room_switched_before, defBody s_Room_switched_before, defScope s_Room_switched_before, [], []⟩
def d_Room_switchings : He.DefD := ⟨("Room", some "switchings"), "switchings", "Room.switchings", defArgs s_Room_switchings, defBody s_Room_switchings, defScope s_Room_switchings, [], []⟩
def d_Room_nth_switching : He.DefD := ⟨("Room", some "nth_switching"), "nth_switching", "Room.nth_switching", defArgs s_Room_nth_switching, defBody s_Room_nth_switching, defScope s_Room_nth_switching, [], []⟩
def d_law : He.DefD := ⟨("law", none), "law", "law", defArgs s_law, defBody s_law, defScope s_law, [], []⟩
def d_Weather_changes : PrpD := ⟨"Weather", "changes", "Weather.changes", defArgs s_Weather_changes, defBody s_Weather_changes, defScope s_Weather_changes⟩
def d_Heater_gain : PrpD := ⟨"Heater", "gain", "Heater.gain", defArgs s_Heater_gain, defBody s_Heater_gain, defScope s_Heater_gain⟩
def d_Heater_low : PrpD := ⟨"Heater", "low", "Heater.low", defArgs s_Heater_low, defBody s_Heater_low, defScope s_Heater_low⟩
def d_Heater_high : PrpD := ⟨"Heater", "high", "Heater.high", defArgs s_Heater_high, defBody s_Heater_high, defScope s_Heater_high⟩
def d_Room_weather : PrpD := ⟨"Room", "weather", "Room.weather", defArgs s_Room_weather, defBody s_Room_weather, defScope s_Room_weather⟩
def d_Room_heater : PrpD := ⟨"Room", "heater", "Room.heater", defArgs s_Room_heater, defBody s_Room_heater, defScope s_Room_heater⟩
def d_Room_start : PrpD := ⟨"Room", "start", "Room.start", defArgs s_Room_start, defBody s_Room_start, defScope s_Room_start⟩
def fn : List He.DefD := [d_law_mix, d_law_next, d_law_changes, d_law_setting, d_validate_number, d_History_decide, d_Run_init, d_Run_first_beyond, d_Run_at, d_History_find_runs, d_History_init, d_History_circle, d_repetition_of, d_common_divisor, d_share_of, d_Run_extreme, d_extreme_of, d_Room_init, d_Weather_init, d_law_weather, d_Heater_init, d_law_room, d_law_told, d_law_alike, d_History_wrapped, d_History_run_at, d_Room_temperature, d_Room_is_on, d_Room_temperatures, d_Room_heated_before, d_Room_loop_begin, d_Room_heating_ticks, d_Room_switched_before, d_Room_switchings, d_Room_nth_switching, d_law]
def fa : List He.Fa := [.free "len", .free "int", .free "min", .free "max", .free "sum", .free "range", .free "enumerate", .free "isinstance", .free "list", .free "tuple", .free "sorted", .free "abs", .free "str", .free "dict", .free "bool", .free "ValueError", .glo "_law_mix", .glo "_law_next", .glo "_law_changes", .glo "_law_setting", .glo "validate_number", .glo "repetition_of", .glo "common_divisor", .glo "share_of", .glo "extreme_of", .glo "_law_weather", .glo "_law_room", .glo "_law_told", .glo "_law_alike", .glo "law", .int "MAX_DEGREES" 1000000000000, .int "MAX_GAIN" 200, .int "MAX_LISTED" 10000, .int "MAX_TICK" 1000000000000000000, .glo "History", .cls "History", .noat "History" "shifts", .noat "History" "added", .noat "History" "floor", .noat "History" "ceiling", .noat "History" "was_heating", .noat "History" "runs", .noat "History" "loop", .mkr "History", .glo "Run", .cls "Run", .noat "Run" "begin", .noat "Run" "end", .noat "Run" "degrees", .noat "Run" "is_heating", .noat "Run" "sums", .noat "Run" "size", .noat "Run" "drift", .mkr "Run", .glo "Weather", .cls "Weather", .noat "Weather" "pattern", .mkr "Weather", .glo "Heater", .cls "Heater", .noat "Heater" "power", .noat "Heater" "below", .noat "Heater" "above", .mkr "Heater", .glo "Room", .cls "Room", .noat "Room" "outside", .noat "Room" "inside", .noat "Room" "begin_degrees", .noat "Room" "past", .noat "Room" "repeated", .noat "Room" "share", .noat "Room" "coldest", .noat "Room" "warmest", .mkr "Room", .glo "WarmthError", .glo "InvalidWeather", .glo "InvalidHeater", .glo "InvalidNumber", .meth "History" "decide", .meth "Run" "first_beyond", .meth "Run" "at", .meth "History" "find_runs", .meth "History" "circle", .meth "Run" "extreme", .meth "History" "wrapped", .meth "History" "run_at", .meth "Room" "temperature", .meth "Room" "is_on", .meth "Room" "temperatures", .meth "Room" "heated_before", .meth "Room" "loop_begin", .meth "Room" "heating_ticks", .meth "Room" "switched_before", .meth "Room" "switchings", .meth "Room" "nth_switching"]
def prs : List PrpD := [d_Weather_changes, d_Heater_gain, d_Heater_low, d_Heater_high, d_Room_weather, d_Room_heater, d_Room_start]
def cms : List PrpD := []
def cvs (K : PySem.W.Frag) : Bool := cvB K "Weather" "MAX_CHANGE" (.int 100) && cvB K "Weather" "MAX_TICKS" (.int 24)
def adsOf (P : Program) (w : World) (K : PySem.W.Frag) : Ads := { P := P, w := w, cHistory := He.ga K "History", cRun := He.ga K "Run", cWeather := He.ga K "Weather", cHeater := He.ga K "Heater", cRoom := He.ga K "Room", cWarmthError := He.ga K "WarmthError", cInvalidWeather := He.ga K "InvalidWeather", cInvalidHeater := He.ga K "InvalidHeater", cInvalidNumber := He.ga K "InvalidNumber" }
theorem cls_History {P : Program} {w : World} {K : PySem.W.Frag} (c : He.SaysD fa fn K) : HistoryC K (adsOf P w K).cHistory := ⟨He.cls_ok (c.fact 35 (f := .cls "History") rfl), He.noat_ok (c.fact 36 (f := .noat "History" "shifts") rfl), He.noat_ok (c.fact 37 (f := .noat "History" "added") rfl), He.noat_ok (c.fact 38 (f := .noat "History" "floor") rfl), He.noat_ok (c.fact 39 (f := .noat "History" "ceiling") rfl), He.noat_ok (c.fact 40 (f := .noat "History" "was_heating") rfl), He.noat_ok (c.fact 41 (f := .noat "History" "runs") rfl), He.noat_ok (c.fact 42 (f := .noat "History" "loop") rfl)⟩
theorem cls_Run {P : Program} {w : World} {K : PySem.W.Frag} (c : He.SaysD fa fn K) : RunC K (adsOf P w K).cRun := ⟨He.cls_ok (c.fact 45 (f := .cls "Run") rfl), He.noat_ok (c.fact 46 (f := .noat "Run" "begin") rfl), He.noat_ok (c.fact 47 (f := .noat "Run" "end") rfl), He.noat_ok (c.fact 48 (f := .noat "Run" "degrees") rfl), He.noat_ok (c.fact 49 (f := .noat "Run" "is_heating") rfl), He.noat_ok (c.fact 50 (f := .noat "Run" "sums") rfl), He.noat_ok (c.fact 51 (f := .noat "Run" "size") rfl), He.noat_ok (c.fact 52 (f := .noat "Run" "drift") rfl)⟩
theorem cls_Weather {P : Program} {w : World} {K : PySem.W.Frag} (c : He.SaysD fa fn K) : WeatherC K (adsOf P w K).cWeather := ⟨He.cls_ok (c.fact 55 (f := .cls "Weather") rfl), He.noat_ok (c.fact 56 (f := .noat "Weather" "pattern") rfl)⟩
theorem cls_Heater {P : Program} {w : World} {K : PySem.W.Frag} (c : He.SaysD fa fn K) : HeaterC K (adsOf P w K).cHeater := ⟨He.cls_ok (c.fact 59 (f := .cls "Heater") rfl), He.noat_ok (c.fact 60 (f := .noat "Heater" "power") rfl), He.noat_ok (c.fact 61 (f := .noat "Heater" "below") rfl), He.noat_ok (c.fact 62 (f := .noat "Heater" "above") rfl)⟩
theorem cls_Room {P : Program} {w : World} {K : PySem.W.Frag} (c : He.SaysD fa fn K) : RoomC K (adsOf P w K).cRoom := ⟨He.cls_ok (c.fact 65 (f := .cls "Room") rfl), He.noat_ok (c.fact 66 (f := .noat "Room" "outside") rfl), He.noat_ok (c.fact 67 (f := .noat "Room" "inside") rfl), He.noat_ok (c.fact 68 (f := .noat "Room" "begin_degrees") rfl), He.noat_ok (c.fact 69 (f := .noat "Room" "past") rfl), He.noat_ok (c.fact 70 (f := .noat "Room" "repeated") rfl), He.noat_ok (c.fact 71 (f := .noat "Room" "share") rfl), He.noat_ok (c.fact 72 (f := .noat "Room" "coldest") rfl), He.noat_ok (c.fact 73 (f := .noat "Room" "warmest") rfl)⟩
theorem facts {P : Program} {w : World} {K : PySem.W.Frag} {h : Heap} {mg : Str → Option Value} {f : Addr} (X : K.In h) (G : h.Ns mainGlobals mg) (hfa : mg ("law" : Str) = some (.ref f)) (c : He.SaysD fa fn K) (cp : SaysP prs K) (cc : cvs K = true) :
    ∃ fd : FuncData, (∀ (s : Shared) (v : Value), BindsTo s fd ⟨[v], []⟩ [("_law_script", v)]) ∧ RoomCs K (adsOf P w K) ∧ ∀ base : Heap, K.In base → base.Ns mainGlobals mg → FnOk P w K mg base CX0 9 f fd ["_law_script"] (sp_law K (adsOf P w K)) := by
  obtain ⟨fd_law_mix, F_law_mix⟩ := c.def_ 0 (d := d_law_mix) rfl
  obtain ⟨fd_law_next, F_law_next⟩ := c.def_ 1 (d := d_law_next) rfl
  obtain ⟨fd_law_changes, F_law_changes⟩ := c.def_ 2 (d := d_law_changes) rfl
  obtain ⟨fd_law_setting, F_law_setting⟩ := c.def_ 3 (d := d_law_setting) rfl
  obtain ⟨fd_validate_number, F_validate_number⟩ := c.def_ 4 (d := d_validate_number) rfl
  obtain ⟨fd_History_decide, F_History_decide⟩ := c.def_ 5 (d := d_History_decide) rfl
  obtain ⟨fd_Run_init, F_Run_init⟩ := c.def_ 6 (d := d_Run_init) rfl
  obtain ⟨fd_Run_first_beyond, F_Run_first_beyond⟩ := c.def_ 7 (d := d_Run_first_beyond) rfl
  obtain ⟨fd_Run_at, F_Run_at⟩ := c.def_ 8 (d := d_Run_at) rfl
  obtain ⟨fd_History_find_runs, F_History_find_runs⟩ := c.def_ 9 (d := d_History_find_runs) rfl
  obtain ⟨fd_History_init, F_History_init⟩ := c.def_ 10 (d := d_History_init) rfl
  obtain ⟨fd_History_circle, F_History_circle⟩ := c.def_ 11 (d := d_History_circle) rfl
  obtain ⟨fd_repetition_of, F_repetition_of⟩ := c.def_ 12 (d := d_repetition_of) rfl
  obtain ⟨fd_common_divisor, F_common_divisor⟩ := c.def_ 13 (d := d_common_divisor) rfl
  obtain ⟨fd_share_of, F_share_of⟩ := c.def_ 14 (d := d_share_of) rfl
  obtain ⟨fd_Run_extreme, F_Run_extreme⟩ := c.def_ 15 (d := d_Run_extreme) rfl
  obtain ⟨fd_extreme_of, F_extreme_of⟩ := c.def_ 16 (d := d_extreme_of) rfl
  obtain ⟨fd_Room_init, F_Room_init⟩ := c.def_ 17 (d := d_Room_init) rfl
  obtain ⟨fd_Weather_init, F_Weather_init⟩ := c.def_ 18 (d := d_Weather_init) rfl
  obtain ⟨fd_law_weather, F_law_weather⟩ := c.def_ 19 (d := d_law_weather) rfl
  obtain ⟨fd_Heater_init, F_Heater_init⟩ := c.def_ 20 (d := d_Heater_init) rfl
  obtain ⟨fd_law_room, F_law_room⟩ := c.def_ 21 (d := d_law_room) rfl
  obtain ⟨fd_law_told, F_law_told⟩ := c.def_ 22 (d := d_law_told) rfl
  obtain ⟨fd_law_alike, F_law_alike⟩ := c.def_ 23 (d := d_law_alike) rfl
  obtain ⟨fd_History_wrapped, F_History_wrapped⟩ := c.def_ 24 (d := d_History_wrapped) rfl
  obtain ⟨fd_History_run_at, F_History_run_at⟩ := c.def_ 25 (d := d_History_run_at) rfl
  obtain ⟨fd_Room_temperature, F_Room_temperature⟩ := c.def_ 26 (d := d_Room_temperature) rfl
  obtain ⟨fd_Room_is_on, F_Room_is_on⟩ := c.def_ 27 (d := d_Room_is_on) rfl
  obtain ⟨fd_Room_temperatures, F_Room_temperatures⟩ := c.def_ 28 (d := d_Room_temperatures) rfl
  obtain ⟨fd_Room_heated_before, F_Room_heated_before⟩ := c.def_ 29 (d := d_Room_heated_before) rfl
  obtain ⟨fd_Room_loop_begin, F_Room_loop_begin⟩ := c.def_ 30 (d := d_Room_loop_begin) rfl
  obtain ⟨fd_Room_heating_ticks, F_Room_heating_ticks⟩ := c.def_ 31 (d := d_Room_heating_ticks) rfl
  obtain ⟨fd_Room_switched_before, F_Room_switched_before⟩ := c.def_ 32 (d := d_Room_switched_before) rfl
  obtain ⟨fd_Room_switchings, F_Room_switchings⟩ := c.def_ 33 (d := d_Room_switchings) rfl
  obtain ⟨fd_Room_nth_switching, F_Room_nth_switching⟩ := c.def_ 34 (d := d_Room_nth_switching) rfl
  obtain ⟨fd_law, F_law⟩ := c.def_ 35 (d := d_law) rfl
  obtain ⟨P_Weather_changes, fd_Weather_changes, F_Weather_changes⟩ := cp.get 0 (d := d_Weather_changes) rfl
  obtain ⟨P_Heater_gain, fd_Heater_gain, F_Heater_gain⟩ := cp.get 1 (d := d_Heater_gain) rfl
  obtain ⟨P_Heater_low, fd_Heater_low, F_Heater_low⟩ := cp.get 2 (d := d_Heater_low) rfl
  obtain ⟨P_Heater_high, fd_Heater_high, F_Heater_high⟩ := cp.get 3 (d := d_Heater_high) rfl
  obtain ⟨P_Room_weather, fd_Room_weather, F_Room_weather⟩ := cp.get 4 (d := d_Room_weather) rfl
  obtain ⟨P_Room_heater, fd_Room_heater, F_Room_heater⟩ := cp.get 5 (d := d_Room_heater) rfl
  obtain ⟨P_Room_start, fd_Room_start, F_Room_start⟩ := cp.get 6 (d := d_Room_start) rfl
  have e := hfa.symm.trans (He.glo_ok X G (c.fact 29 (f := .glo "law") rfl))
  cases e
  have bl := FunD.bindsA (ps := ["_law_script"]) F_law fun _ _ _ _ _ _ us hl => match us, hl with | [_], _ => rfl
  refine ⟨fd_law, fun s v => bl s [v] rfl, ⟨cls_Weather c, cls_Heater c, cls_Room c, cls_History c, cls_Run c⟩, fun base _ _ => ?_⟩
  have b : Blt mg := ⟨He.free_ok X G (c.fact 0 (f := .free "len") rfl), He.free_ok X G (c.fact 1 (f := .free "int") rfl), He.free_ok X G (c.fact 2 (f := .free "min") rfl), He.free_ok X G (c.fact 3 (f := .free "max") rfl), He.free_ok X G (c.fact 4 (f := .free "sum") rfl), He.free_ok X G (c.fact 5 (f := .free "range") rfl), He.free_ok X G (c.fact 6 (f := .free "enumerate") rfl), He.free_ok X G (c.fact 7 (f := .free "isinstance") rfl), He.free_ok X G (c.fact 8 (f := .free "list") rfl), He.free_ok X G (c.fact 9 (f := .free "tuple") rfl), He.free_ok X G (c.fact 10 (f := .free "sorted") rfl), He.free_ok X G (c.fact 11 (f := .free "abs") rfl), He.free_ok X G (c.fact 12 (f := .free "str") rfl), He.free_ok X G (c.fact 13 (f := .free "dict") rfl), He.free_ok X G (c.fact 14 (f := .free "bool") rfl), He.free_ok X G (c.fact 15 (f := .free "ValueError") rfl)⟩
  have k_MAX_DEGREES : ∃ u, mg "MAX_DEGREES" = some u ∧ RelV (.int 1000000000000) u := by
    obtain ⟨t, e⟩ := He.int_ok X G (c.fact 30 (f := .int "MAX_DEGREES" 1000000000000) rfl)
    exact ⟨_, e, t, rfl⟩
  have k_MAX_GAIN : ∃ u, mg "MAX_GAIN" = some u ∧ RelV (.int 200) u := by
    obtain ⟨t, e⟩ := He.int_ok X G (c.fact 31 (f := .int "MAX_GAIN" 200) rfl)
    exact ⟨_, e, t, rfl⟩
  have k_MAX_LISTED : ∃ u, mg "MAX_LISTED" = some u ∧ RelV (.int 10000) u := by
    obtain ⟨t, e⟩ := He.int_ok X G (c.fact 32 (f := .int "MAX_LISTED" 10000) rfl)
    exact ⟨_, e, t, rfl⟩
  have k_MAX_TICK : ∃ u, mg "MAX_TICK" = some u ∧ RelV (.int 1000000000000000000) u := by
    obtain ⟨t, e⟩ := He.int_ok X G (c.fact 33 (f := .int "MAX_TICK" 1000000000000000000) rfl)
    exact ⟨_, e, t, rfl⟩
  have a_Weather : ∃ u, mg "Weather" = some u ∧ RelV (.ref (adsOf P w K).cWeather) u := ⟨_, He.glo_ok X G (c.fact 54 (f := .glo "Weather") rfl), rfl⟩
  have cv_Weather_MAX_CHANGE : CVC K (adsOf P w K).cWeather "MAX_CHANGE" (.int 100) := cvB_ok (K := K) (x := "Weather") (f := "MAX_CHANGE") (by have := cc; unfold cvs at this; simp only [Bool.and_eq_true] at this; exact this.1)
  have cv_Weather_MAX_TICKS : CVC K (adsOf P w K).cWeather "MAX_TICKS" (.int 24) := cvB_ok (K := K) (x := "Weather") (f := "MAX_TICKS") (by have := cc; unfold cvs at this; simp only [Bool.and_eq_true] at this; exact this.2)
  have b_law_mix : Binds K fd_law_mix ["_law_script", "_law_seed"] [] := FunD.bindsN (ps := ["_law_script", "_law_seed"]) F_law_mix fun _ _ _ _ _ _ us hl => match us, hl with | [_, _], _ => rfl
  have c_law_mix :  CalR P w K mg base (L2.CX P w) 1 "_law_mix" (sp_law_mix K (adsOf P w K)) := ⟨_, Wm.FnOk.R (ok_law_mix (A := adsOf P w K) F_law_mix noEX b ) b_law_mix, He.glo_ok X G (c.fact 16 (f := .glo "_law_mix") rfl), F_law_mix.kp⟩
  have b_law_next : Binds K fd_law_next ["_law_h", "_law_limit"] [] := FunD.bindsN (ps := ["_law_h", "_law_limit"]) F_law_next fun _ _ _ _ _ _ us hl => match us, hl with | [_, _], _ => rfl
  have c_law_next :  CalR P w K mg base (L2.CX P w) 1 "_law_next" (sp_law_next K (adsOf P w K)) := ⟨_, Wm.FnOk.R (ok_law_next (A := adsOf P w K) F_law_next noEX b ) b_law_next, He.glo_ok X G (c.fact 17 (f := .glo "_law_next") rfl), F_law_next.kp⟩
  have b_law_changes : Binds K fd_law_changes ["_law_h", "_law_most"] [] := FunD.bindsN (ps := ["_law_h", "_law_most"]) F_law_changes fun _ _ _ _ _ _ us hl => match us, hl with | [_, _], _ => rfl
  have c_law_changes :  CalR P w K mg base (L2.CX P w) 2 "_law_changes" (sp_law_changes K (adsOf P w K)) := ⟨_, Wm.FnOk.R (ok_law_changes (A := adsOf P w K) F_law_changes noEX b c_law_next) b_law_changes, He.glo_ok X G (c.fact 18 (f := .glo "_law_changes") rfl), F_law_changes.kp⟩
  have b_law_setting : Binds K fd_law_setting ["_law_h"] [] := FunD.bindsN (ps := ["_law_h"]) F_law_setting fun _ _ _ _ _ _ us hl => match us, hl with | [_], _ => rfl
  have c_law_setting :  CalR P w K mg base (L2.CX P w) 2 "_law_setting" (sp_law_setting K (adsOf P w K)) := ⟨_, Wm.FnOk.R (ok_law_setting (A := adsOf P w K) F_law_setting noEX b c_law_next) b_law_setting, He.glo_ok X G (c.fact 19 (f := .glo "_law_setting") rfl), F_law_setting.kp⟩
  have b_validate_number : Binds K fd_validate_number ["number", "smallest", "largest"] [] := FunD.bindsN (ps := ["number", "smallest", "largest"]) F_validate_number fun _ _ _ _ _ _ us hl => match us, hl with | [_, _, _], _ => rfl
  have c_validate_number :  CalR P w K mg base (L2.CX P w) 1 "validate_number" (sp_validate_number K (adsOf P w K)) := ⟨_, Wm.FnOk.R (ok_validate_number (A := adsOf P w K) F_validate_number noEX b ) b_validate_number, He.glo_ok X G (c.fact 20 (f := .glo "validate_number") rfl), F_validate_number.kp⟩
  have b_History_decide : Binds K fd_History_decide ["self", "degrees", "is_heating"] [] := FunD.bindsN (ps := ["self", "degrees", "is_heating"]) F_History_decide fun _ _ _ _ _ _ us hl => match us, hl with | [_, _, _], _ => rfl
  have m_History_decide :  MetR P w K mg base (L2.CX P w) 1 (adsOf P w K).cHistory "decide" (sp_History_decide K (adsOf P w K)) := ⟨_, Wm.FnOk.R (ok_History_decide (A := adsOf P w K) F_History_decide noEX b ) b_History_decide, He.cls_ok (c.fact 35 (f := .cls "History") rfl), He.meth_ok (c.fact 79 (f := .meth "History" "decide") rfl)⟩
  have b_Run_init : Binds K fd_Run_init ["self", "begin", "degrees", "is_heating", "steps"] [] := FunD.bindsN (ps := ["self", "begin", "degrees", "is_heating", "steps"]) F_Run_init fun _ _ _ _ _ _ us hl => match us, hl with | [_, _, _, _, _], _ => rfl
  have n_Run :  MakR P w K mg base (L2.CX P w) 1 "Run" (adsOf P w K).cRun (sp_Run_init K (adsOf P w K)) := ⟨_, Wm.FnOk.R (ok_Run_init (A := adsOf P w K) F_Run_init noEX b ) b_Run_init, He.mkr_ok (c.fact 53 (f := .mkr "Run") rfl), He.glo_ok X G (c.fact 44 (f := .glo "Run") rfl)⟩
  have b_Run_first_beyond : Binds K fd_Run_first_beyond ["self", "bound", "sign"] [] := FunD.bindsN (ps := ["self", "bound", "sign"]) F_Run_first_beyond fun _ _ _ _ _ _ us hl => match us, hl with | [_, _, _], _ => rfl
  have m_Run_first_beyond :  MetR P w K mg base (L2.CX P w) 1 (adsOf P w K).cRun "first_beyond" (sp_Run_first_beyond K (adsOf P w K)) := ⟨_, Wm.FnOk.R (ok_Run_first_beyond (A := adsOf P w K) F_Run_first_beyond noEX b ) b_Run_first_beyond, He.cls_ok (c.fact 45 (f := .cls "Run") rfl), He.meth_ok (c.fact 80 (f := .meth "Run" "first_beyond") rfl)⟩
  have b_Run_at : Binds K fd_Run_at ["self", "tick"] [] := FunD.bindsN (ps := ["self", "tick"]) F_Run_at fun _ _ _ _ _ _ us hl => match us, hl with | [_, _], _ => rfl
  have m_Run_at :  MetR P w K mg base (L2.CX P w) 1 (adsOf P w K).cRun "at" (sp_Run_at K (adsOf P w K)) := ⟨_, Wm.FnOk.R (ok_Run_at (A := adsOf P w K) F_Run_at noEX b ) b_Run_at, He.cls_ok (c.fact 45 (f := .cls "Run") rfl), He.meth_ok (c.fact 81 (f := .meth "Run" "at") rfl)⟩
  have b_History_find_runs : Binds K fd_History_find_runs ["self", "degrees", "is_heating"] [] := FunD.bindsN (ps := ["self", "degrees", "is_heating"]) F_History_find_runs fun _ _ _ _ _ _ us hl => match us, hl with | [_, _, _], _ => rfl
  have m_History_find_runs :  MetR P w K mg base (L2.CX P w) 3 (adsOf P w K).cHistory "find_runs" (sp_History_find_runs K (adsOf P w K)) := ⟨_, Wm.FnOk.R (ok_History_find_runs (A := adsOf P w K) F_History_find_runs noEX b m_History_decide n_Run m_Run_first_beyond m_Run_at) b_History_find_runs, He.cls_ok (c.fact 35 (f := .cls "History") rfl), He.meth_ok (c.fact 82 (f := .meth "History" "find_runs") rfl)⟩
  have b_History_init : Binds K fd_History_init ["self", "changes", "gain", "low", "high", "start", "is_heating"] [] := FunD.bindsN (ps := ["self", "changes", "gain", "low", "high", "start", "is_heating"]) F_History_init fun _ _ _ _ _ _ us hl => match us, hl with | [_, _, _, _, _, _, _], _ => rfl
  have n_History :  MakR P w K mg base (L2.CX P w) 4 "History" (adsOf P w K).cHistory (sp_History_init K (adsOf P w K)) := ⟨_, Wm.FnOk.R (ok_History_init (A := adsOf P w K) F_History_init noEX b m_History_find_runs) b_History_init, He.mkr_ok (c.fact 43 (f := .mkr "History") rfl), He.glo_ok X G (c.fact 34 (f := .glo "History") rfl)⟩
  have b_Weather_changes : Binds K fd_Weather_changes ["self"] [] := FunD.bindsN (ps := ["self"]) F_Weather_changes fun _ _ _ _ _ _ us hl => match us, hl with | [_], _ => rfl
  have p_Weather_changes :  PrpR P w K mg base (L2.CX P w) 1 (adsOf P w K).cWeather "changes" (sp_Weather_changes K (adsOf P w K)) := ⟨_, _, _, _, ok_Weather_changes (A := adsOf P w K) F_Weather_changes noEX b , He.cls_ok (c.fact 55 (f := .cls "Weather") rfl), P_Weather_changes, b_Weather_changes⟩
  have b_Heater_gain : Binds K fd_Heater_gain ["self"] [] := FunD.bindsN (ps := ["self"]) F_Heater_gain fun _ _ _ _ _ _ us hl => match us, hl with | [_], _ => rfl
  have p_Heater_gain :  PrpR P w K mg base (L2.CX P w) 1 (adsOf P w K).cHeater "gain" (sp_Heater_gain K (adsOf P w K)) := ⟨_, _, _, _, ok_Heater_gain (A := adsOf P w K) F_Heater_gain noEX b , He.cls_ok (c.fact 59 (f := .cls "Heater") rfl), P_Heater_gain, b_Heater_gain⟩
  have b_Heater_low : Binds K fd_Heater_low ["self"] [] := FunD.bindsN (ps := ["self"]) F_Heater_low fun _ _ _ _ _ _ us hl => match us, hl with | [_], _ => rfl
  have p_Heater_low :  PrpR P w K mg base (L2.CX P w) 1 (adsOf P w K).cHeater "low" (sp_Heater_low K (adsOf P w K)) := ⟨_, _, _, _, ok_Heater_low (A := adsOf P w K) F_Heater_low noEX b , He.cls_ok (c.fact 59 (f := .cls "Heater") rfl), P_Heater_low, b_Heater_low⟩
  have b_Heater_high : Binds K fd_Heater_high ["self"] [] := FunD.bindsN (ps := ["self"]) F_Heater_high fun _ _ _ _ _ _ us hl => match us, hl with | [_], _ => rfl
  have p_Heater_high :  PrpR P w K mg base (L2.CX P w) 1 (adsOf P w K).cHeater "high" (sp_Heater_high K (adsOf P w K)) := ⟨_, _, _, _, ok_Heater_high (A := adsOf P w K) F_Heater_high noEX b , He.cls_ok (c.fact 59 (f := .cls "Heater") rfl), P_Heater_high, b_Heater_high⟩
  have b_History_circle : Binds K fd_History_circle ["self"] [] := FunD.bindsN (ps := ["self"]) F_History_circle fun _ _ _ _ _ _ us hl => match us, hl with | [_], _ => rfl
  have m_History_circle :  MetR P w K mg base (L2.CX P w) 1 (adsOf P w K).cHistory "circle" (sp_History_circle K (adsOf P w K)) := ⟨_, Wm.FnOk.R (ok_History_circle (A := adsOf P w K) F_History_circle noEX b ) b_History_circle, He.cls_ok (c.fact 35 (f := .cls "History") rfl), He.meth_ok (c.fact 83 (f := .meth "History" "circle") rfl)⟩
  have b_repetition_of : Binds K fd_repetition_of ["past"] [] := FunD.bindsN (ps := ["past"]) F_repetition_of fun _ _ _ _ _ _ us hl => match us, hl with | [_], _ => rfl
  have c_repetition_of :  CalR P w K mg base (L2.CX P w) 2 "repetition_of" (sp_repetition_of K (adsOf P w K)) := ⟨_, Wm.FnOk.R (ok_repetition_of (A := adsOf P w K) F_repetition_of noEX b m_History_circle) b_repetition_of, He.glo_ok X G (c.fact 21 (f := .glo "repetition_of") rfl), F_repetition_of.kp⟩
  have b_common_divisor : Binds K fd_common_divisor ["one", "other"] [] := FunD.bindsN (ps := ["one", "other"]) F_common_divisor fun _ _ _ _ _ _ us hl => match us, hl with | [_, _], _ => rfl
  have c_common_divisor :  CalR P w K mg base (L2.CX P w) 1 "common_divisor" (sp_common_divisor K (adsOf P w K)) := ⟨_, Wm.FnOk.R (ok_common_divisor (A := adsOf P w K) F_common_divisor noEX b ) b_common_divisor, He.glo_ok X G (c.fact 22 (f := .glo "common_divisor") rfl), F_common_divisor.kp⟩
  have b_share_of : Binds K fd_share_of ["past"] [] := FunD.bindsN (ps := ["past"]) F_share_of fun _ _ _ _ _ _ us hl => match us, hl with | [_], _ => rfl
  have c_share_of :  CalR P w K mg base (L2.CX P w) 2 "share_of" (sp_share_of K (adsOf P w K)) := ⟨_, Wm.FnOk.R (ok_share_of (A := adsOf P w K) F_share_of noEX b c_common_divisor m_History_circle) b_share_of, He.glo_ok X G (c.fact 23 (f := .glo "share_of") rfl), F_share_of.kp⟩
  have b_Run_extreme : Binds K fd_Run_extreme ["self", "last", "sign"] [] := FunD.bindsN (ps := ["self", "last", "sign"]) F_Run_extreme fun _ _ _ _ _ _ us hl => match us, hl with | [_, _, _], _ => rfl
  have m_Run_extreme :  MetR P w K mg base (L2.CX P w) 2 (adsOf P w K).cRun "extreme" (sp_Run_extreme K (adsOf P w K)) := ⟨_, Wm.FnOk.R (ok_Run_extreme (A := adsOf P w K) F_Run_extreme noEX b m_Run_at) b_Run_extreme, He.cls_ok (c.fact 45 (f := .cls "Run") rfl), He.meth_ok (c.fact 84 (f := .meth "Run" "extreme") rfl)⟩
  have b_extreme_of : Binds K fd_extreme_of ["past", "sign"] [] := FunD.bindsN (ps := ["past", "sign"]) F_extreme_of fun _ _ _ _ _ _ us hl => match us, hl with | [_, _], _ => rfl
  have c_extreme_of :  CalR P w K mg base (L2.CX P w) 3 "extreme_of" (sp_extreme_of K (adsOf P w K)) := ⟨_, Wm.FnOk.R (ok_extreme_of (A := adsOf P w K) F_extreme_of noEX b m_Run_extreme) b_extreme_of, He.glo_ok X G (c.fact 24 (f := .glo "extreme_of") rfl), F_extreme_of.kp⟩
  obtain ⟨mv_Room_kw, kb_Room_kw⟩ := FunD.kbinds0 (ps := ["self", "weather", "heater", "start", "on"]) F_Room_init 4 ["on"] [] (fun us mv ws => us ++ ws) (List.cons_ne_nil _ _) (fun q h => nomatch h) (fun r1 _ r3 => r1.append r3) (fun D doc pm an cdv ct us mv ws h1 h2 h3 => match us, mv, ws, h1, h2, h3 with | [_, _, _, _], [], [_], _, _, _ => rfl)
  have n_Room_kw :  MakKR P w K mg base (L2.CX P w) 6 "Room" (adsOf P w K).cRoom 3 ["on"] (sp_Room_init K (adsOf P w K)) := ⟨_, _, _, _, ok_Room_init (A := adsOf P w K) F_Room_init noEX b c_validate_number k_MAX_DEGREES n_History p_Weather_changes p_Heater_gain p_Heater_low p_Heater_high c_repetition_of c_share_of c_extreme_of, He.mkr_ok (c.fact 74 (f := .mkr "Room") rfl), He.glo_ok X G (c.fact 64 (f := .glo "Room") rfl), kb_Room_kw⟩
  have n_Weather :  MakR P w K mg base (L2.CX P w) 1 "Weather" (adsOf P w K).cWeather (sp_Weather_init K (adsOf P w K)) := ⟨_, ok_Weather_init (A := adsOf P w K) F_Weather_init noEX b a_Weather cv_Weather_MAX_TICKS cv_Weather_MAX_CHANGE StX.cxUp, He.mkr_ok (c.fact 57 (f := .mkr "Weather") rfl), He.glo_ok X G (c.fact 54 (f := .glo "Weather") rfl)⟩
  have b_law_weather : Binds K fd_law_weather ["_law_changes_here"] [] := FunD.bindsN (ps := ["_law_changes_here"]) F_law_weather fun _ _ _ _ _ _ us hl => match us, hl with | [_], _ => rfl
  have c_law_weather :  CalR P w K mg base (L2.CX P w) 3 "_law_weather" (sp_law_weather K (adsOf P w K)) := ⟨_, Wm.FnOk.R (ok_law_weather (A := adsOf P w K) F_law_weather noEX b n_Weather) b_law_weather, He.glo_ok X G (c.fact 25 (f := .glo "_law_weather") rfl), F_law_weather.kp⟩
  have b_Heater_init : Binds K fd_Heater_init ["self", "gain", "low", "high"] [] := FunD.bindsN (ps := ["self", "gain", "low", "high"]) F_Heater_init fun _ _ _ _ _ _ us hl => match us, hl with | [_, _, _, _], _ => rfl
  have n_Heater :  MakR P w K mg base (L2.CX P w) 1 "Heater" (adsOf P w K).cHeater (sp_Heater_init K (adsOf P w K)) := ⟨_, Wm.FnOk.R (ok_Heater_init (A := adsOf P w K) F_Heater_init noEX b k_MAX_GAIN k_MAX_DEGREES) b_Heater_init, He.mkr_ok (c.fact 63 (f := .mkr "Heater") rfl), He.glo_ok X G (c.fact 58 (f := .glo "Heater") rfl)⟩
  have b_law_room : Binds K fd_law_room ["_law_changes_here", "_law_setting_here"] [] := FunD.bindsN (ps := ["_law_changes_here", "_law_setting_here"]) F_law_room fun _ _ _ _ _ _ us hl => match us, hl with | [_, _], _ => rfl
  have c_law_room :  CalR P w K mg base (L2.CX P w) 8 "_law_room" (sp_law_room K (adsOf P w K)) := ⟨_, Wm.FnOk.R (ok_law_room (A := adsOf P w K) F_law_room noEX b n_Room_kw c_law_weather n_Heater) b_law_room, He.glo_ok X G (c.fact 26 (f := .glo "_law_room") rfl), F_law_room.kp⟩
  have b_law_told : Binds K fd_law_told ["_law_changes_here", "_law_setting_here", "_law_count"] [] := FunD.bindsN (ps := ["_law_changes_here", "_law_setting_here", "_law_count"]) F_law_told fun _ _ _ _ _ _ us hl => match us, hl with | [_, _, _], _ => rfl
  have c_law_told :  CalR P w K mg base (L2.CX P w) 1 "_law_told" (sp_law_told K (adsOf P w K)) := ⟨_, Wm.FnOk.R (ok_law_told (A := adsOf P w K) F_law_told noEX b ) b_law_told, He.glo_ok X G (c.fact 27 (f := .glo "_law_told") rfl), F_law_told.kp⟩
  have b_law_alike : Binds K fd_law_alike ["_law_found", "_law_due"] [] := FunD.bindsN (ps := ["_law_found", "_law_due"]) F_law_alike fun _ _ _ _ _ _ us hl => match us, hl with | [_, _], _ => rfl
  have c_law_alike :  CalR P w K mg base (L2.CX P w) 5 "_law_alike" (sp_law_alike K (adsOf P w K)) := ⟨_, Wm.FnOk.R (ok_law_alikeN (A := adsOf P w K) F_law_alike noEX b  b_law_alike (He.glo_ok X G (c.fact 28 (f := .glo "_law_alike") rfl)) F_law_alike.kp 4) b_law_alike, He.glo_ok X G (c.fact 28 (f := .glo "_law_alike") rfl), F_law_alike.kp⟩
  have b_History_wrapped : Binds K fd_History_wrapped ["self", "tick"] [] := FunD.bindsN (ps := ["self", "tick"]) F_History_wrapped fun _ _ _ _ _ _ us hl => match us, hl with | [_, _], _ => rfl
  have m_History_wrapped :  MetR P w K mg base (L2.CX P w) 2 (adsOf P w K).cHistory "wrapped" (sp_History_wrapped K (adsOf P w K)) := ⟨_, Wm.FnOk.R (ok_History_wrapped (A := adsOf P w K) F_History_wrapped noEX b m_History_circle) b_History_wrapped, He.cls_ok (c.fact 35 (f := .cls "History") rfl), He.meth_ok (c.fact 85 (f := .meth "History" "wrapped") rfl)⟩
  have b_History_run_at : Binds K fd_History_run_at ["self", "tick"] [] := FunD.bindsN (ps := ["self", "tick"]) F_History_run_at fun _ _ _ _ _ _ us hl => match us, hl with | [_, _], _ => rfl
  have m_History_run_at :  MetR P w K mg base (L2.CX P w) 1 (adsOf P w K).cHistory "run_at" (sp_History_run_at K (adsOf P w K)) := ⟨_, Wm.FnOk.R (ok_History_run_at (A := adsOf P w K) F_History_run_at noEX b ) b_History_run_at, He.cls_ok (c.fact 35 (f := .cls "History") rfl), He.meth_ok (c.fact 86 (f := .meth "History" "run_at") rfl)⟩
  have b_Room_temperature : Binds K fd_Room_temperature ["self", "tick"] [] := FunD.bindsN (ps := ["self", "tick"]) F_Room_temperature fun _ _ _ _ _ _ us hl => match us, hl with | [_, _], _ => rfl
  have m_Room_temperature :  MetR P w K mg base (L2.CX P w) 3 (adsOf P w K).cRoom "temperature" (sp_Room_temperature K (adsOf P w K)) := ⟨_, Wm.FnOk.R (ok_Room_temperature (A := adsOf P w K) F_Room_temperature noEX b c_validate_number k_MAX_TICK m_History_wrapped m_Run_at m_History_run_at) b_Room_temperature, He.cls_ok (c.fact 65 (f := .cls "Room") rfl), He.meth_ok (c.fact 87 (f := .meth "Room" "temperature") rfl)⟩
  have b_Room_is_on : Binds K fd_Room_is_on ["self", "tick"] [] := FunD.bindsN (ps := ["self", "tick"]) F_Room_is_on fun _ _ _ _ _ _ us hl => match us, hl with | [_, _], _ => rfl
  have m_Room_is_on :  MetR P w K mg base (L2.CX P w) 3 (adsOf P w K).cRoom "is_on" (sp_Room_is_on K (adsOf P w K)) := ⟨_, Wm.FnOk.R (ok_Room_is_on (A := adsOf P w K) F_Room_is_on noEX b c_validate_number k_MAX_TICK m_History_run_at m_History_wrapped) b_Room_is_on, He.cls_ok (c.fact 65 (f := .cls "Room") rfl), He.meth_ok (c.fact 88 (f := .meth "Room" "is_on") rfl)⟩
  have b_Room_temperatures : Binds K fd_Room_temperatures ["self", "first", "last"] [] := FunD.bindsN (ps := ["self", "first", "last"]) F_Room_temperatures fun _ _ _ _ _ _ us hl => match us, hl with | [_, _, _], _ => rfl
  have mg_Room_temperatures :  MetG P w K mg base 4 (adsOf P w K).cRoom "temperatures" (sp_Room_temperatures K (adsOf P w K)) := ⟨_, _, _, ok_Room_temperatures (A := adsOf P w K) F_Room_temperatures noEX b c_validate_number k_MAX_TICK k_MAX_LISTED m_Room_temperature, He.cls_ok (c.fact 65 (f := .cls "Room") rfl), He.meth_ok (c.fact 89 (f := .meth "Room" "temperatures") rfl), b_Room_temperatures⟩
  have b_Room_heated_before : Binds K fd_Room_heated_before ["self", "tick"] [] := FunD.bindsN (ps := ["self", "tick"]) F_Room_heated_before fun _ _ _ _ _ _ us hl => match us, hl with | [_, _], _ => rfl
  have m_Room_heated_before :  MetR P w K mg base (L2.CX P w) 1 (adsOf P w K).cRoom "heated_before" (sp_Room_heated_before K (adsOf P w K)) := ⟨_, Wm.FnOk.R (ok_Room_heated_before (A := adsOf P w K) F_Room_heated_before noEX b ) b_Room_heated_before, He.cls_ok (c.fact 65 (f := .cls "Room") rfl), He.meth_ok (c.fact 90 (f := .meth "Room" "heated_before") rfl)⟩
  have b_Room_loop_begin : Binds K fd_Room_loop_begin ["self"] [] := FunD.bindsN (ps := ["self"]) F_Room_loop_begin fun _ _ _ _ _ _ us hl => match us, hl with | [_], _ => rfl
  have m_Room_loop_begin :  MetR P w K mg base (L2.CX P w) 1 (adsOf P w K).cRoom "loop_begin" (sp_Room_loop_begin K (adsOf P w K)) := ⟨_, Wm.FnOk.R (ok_Room_loop_begin (A := adsOf P w K) F_Room_loop_begin noEX b ) b_Room_loop_begin, He.cls_ok (c.fact 65 (f := .cls "Room") rfl), He.meth_ok (c.fact 91 (f := .meth "Room" "loop_begin") rfl)⟩
  have b_Room_heating_ticks : Binds K fd_Room_heating_ticks ["self", "count"] [] := FunD.bindsN (ps := ["self", "count"]) F_Room_heating_ticks fun _ _ _ _ _ _ us hl => match us, hl with | [_, _], _ => rfl
  have m_Room_heating_ticks :  MetR P w K mg base (L2.CX P w) 3 (adsOf P w K).cRoom "heating_ticks" (sp_Room_heating_ticks K (adsOf P w K)) := ⟨_, Wm.FnOk.R (ok_Room_heating_ticks (A := adsOf P w K) F_Room_heating_ticks noEX b c_validate_number k_MAX_TICK m_History_wrapped m_Room_heated_before m_Room_loop_begin) b_Room_heating_ticks, He.cls_ok (c.fact 65 (f := .cls "Room") rfl), He.meth_ok (c.fact 92 (f := .meth "Room" "heating_ticks") rfl)⟩
  have b_Room_switched_before : Binds K fd_Room_switched_before ["self", "tick"] [] := FunD.bindsN (ps := ["self", "tick"]) F_Room_switched_before fun _ _ _ _ _ _ us hl => match us, hl with | [_, _], _ => rfl
  have m_Room_switched_before :  MetR P w K mg base (L2.CX P w) 1 (adsOf P w K).cRoom "switched_before" (sp_Room_switched_before K (adsOf P w K)) := ⟨_, Wm.FnOk.R (ok_Room_switched_before (A := adsOf P w K) F_Room_switched_before noEX b ) b_Room_switched_before, He.cls_ok (c.fact 65 (f := .cls "Room") rfl), He.meth_ok (c.fact 93 (f := .meth "Room" "switched_before") rfl)⟩
  have b_Room_switchings : Binds K fd_Room_switchings ["self", "count"] [] := FunD.bindsN (ps := ["self", "count"]) F_Room_switchings fun _ _ _ _ _ _ us hl => match us, hl with | [_, _], _ => rfl
  have m_Room_switchings :  MetR P w K mg base (L2.CX P w) 3 (adsOf P w K).cRoom "switchings" (sp_Room_switchings K (adsOf P w K)) := ⟨_, Wm.FnOk.R (ok_Room_switchings (A := adsOf P w K) F_Room_switchings noEX b c_validate_number k_MAX_TICK m_History_wrapped m_Room_switched_before) b_Room_switchings, He.cls_ok (c.fact 65 (f := .cls "Room") rfl), He.meth_ok (c.fact 94 (f := .meth "Room" "switchings") rfl)⟩
  have b_Room_nth_switching : Binds K fd_Room_nth_switching ["self", "number"] [] := FunD.bindsN (ps := ["self", "number"]) F_Room_nth_switching fun _ _ _ _ _ _ us hl => match us, hl with | [_, _], _ => rfl
  have m_Room_nth_switching :  MetR P w K mg base (L2.CX P w) 2 (adsOf P w K).cRoom "nth_switching" (sp_Room_nth_switching K (adsOf P w K)) := ⟨_, Wm.FnOk.R (ok_Room_nth_switching (A := adsOf P w K) F_Room_nth_switching noEX b c_validate_number k_MAX_TICK m_History_circle) b_Room_nth_switching, He.cls_ok (c.fact 65 (f := .cls "Room") rfl), He.meth_ok (c.fact 95 (f := .meth "Room" "nth_switching") rfl)⟩
  have b_Room_weather : Binds K fd_Room_weather ["self"] [] := FunD.bindsN (ps := ["self"]) F_Room_weather fun _ _ _ _ _ _ us hl => match us, hl with | [_], _ => rfl
  have p_Room_weather :  PrpR P w K mg base (L2.CX P w) 1 (adsOf P w K).cRoom "weather" (sp_Room_weather K (adsOf P w K)) := ⟨_, _, _, _, ok_Room_weather (A := adsOf P w K) F_Room_weather noEX b , He.cls_ok (c.fact 65 (f := .cls "Room") rfl), P_Room_weather, b_Room_weather⟩
  have b_Room_heater : Binds K fd_Room_heater ["self"] [] := FunD.bindsN (ps := ["self"]) F_Room_heater fun _ _ _ _ _ _ us hl => match us, hl with | [_], _ => rfl
  have p_Room_heater :  PrpR P w K mg base (L2.CX P w) 1 (adsOf P w K).cRoom "heater" (sp_Room_heater K (adsOf P w K)) := ⟨_, _, _, _, ok_Room_heater (A := adsOf P w K) F_Room_heater noEX b , He.cls_ok (c.fact 65 (f := .cls "Room") rfl), P_Room_heater, b_Room_heater⟩
  have b_Room_start : Binds K fd_Room_start ["self"] [] := FunD.bindsN (ps := ["self"]) F_Room_start fun _ _ _ _ _ _ us hl => match us, hl with | [_], _ => rfl
  have p_Room_start :  PrpR P w K mg base (L2.CX P w) 1 (adsOf P w K).cRoom "start" (sp_Room_start K (adsOf P w K)) := ⟨_, _, _, _, ok_Room_start (A := adsOf P w K) F_Room_start noEX b , He.cls_ok (c.fact 65 (f := .cls "Room") rfl), P_Room_start, b_Room_start⟩
  refine FnOk.toCX0 (k := 9) ?_ (fun _ _ _ _ h => h)
  exact ok_law (A := adsOf P w K) F_law noEX b c_law_mix c_law_changes c_law_setting c_law_next c_law_room c_law_told c_law_alike m_Room_temperature m_Room_is_on mg_Room_temperatures m_Room_heating_ticks m_Room_switchings m_Room_nth_switching p_Weather_changes p_Room_weather p_Heater_gain p_Room_heater p_Heater_low p_Heater_high p_Room_start
end Wm
end

section
open PySem PySem.W PyProof.Rows
set_option maxRecDepth 100000 in
set_option maxHeartbeats 0 in
theorem PySem.Challenge.cw_warmswitch_k03_whole_rooms_tick_by_tick_holds : PySem.Challenge.rw_warmswitch_k03_whole_rooms_tick_by_tick.Holds := by
  w_on; o_law; k_head; (case hw => w_witness2)
  k_fill
  refine L2.walk_ofE (l := PySem.Challenge.rw_warmswitch_k03_whole_rooms_tick_by_tick) (n := 63) (k := 9) (x := "_law_script") (CX := L2.CX0) rfl (by decide) rfl ⟨rfl, by decide, by decide⟩ ?F (fun _ _ _ _ z => z)
  intro w mg fa h Y G hmg
  have KX := PySem.W.kIn_of Y
  obtain ⟨fd, hb, T, hF⟩ := Wm.facts (P := (PySem.Challenge.rw_warmswitch_k03_whole_rooms_tick_by_tick).prog) (w := w) KX G hmg (show _ = _ by kernel_rfl) (And.intro (by kernel_rfl) (by kernel_rfl)) (by kernel_rfl)
  exact ⟨_, fd, _, KX, hb, fun H a ns hl _ hS => ⟨a, ns, rfl, T, hS, hl, fun _ => rfl⟩, hF⟩
end

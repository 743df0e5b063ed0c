import PyProof.Rows.All
import Wide.All
import OpenK.AllK
import Wide.FinOn
import HandS.ForMost
import HandS.Flow
import HandS.Conv
import HandS.Style
import HandS.IsInst
import HandS.Zip
import HandS.StrMore
import HandS.RaiseOp
import HandS.Defaults
import HandS.DictComp
import HandS.More
import HandS.Exc
import HandS.ExcInit
import HandS.ExcField
import HandS.ExcIs
import HandS.TryMany
import HandS.WordsExc
import PyProof.StrOps2
import HandS.Walk
import PySem.Challenge.RW_cutsure_k01_free_names_far_along
set_option Elab.async false
set_option linter.all false
set_option maxRecDepth 100000
set_option maxHeartbeats 4000000
namespace My
open PySem L2

/-! ### promises by the number of arguments -/
def Sp1 (P : V → Hp → VK → XK → Prop) : Sp := fun vs H Q E => ∃ a, vs = [a] ∧ P a H Q E
def Sp2 (P : V → V → Hp → VK → XK → Prop) : Sp := fun vs H Q E => ∃ a b, vs = [a, b] ∧ P a b H Q E
def Sp3 (P : V → V → V → Hp → VK → XK → Prop) : Sp := fun vs H Q E => ∃ a b c, vs = [a, b, c] ∧ P a b c H Q E
def Sp4 (P : V → V → V → V → Hp → VK → XK → Prop) : Sp := fun vs H Q E => ∃ a b c d, vs = [a, b, c, d] ∧ P a b c d H Q E
def Sp0 (P : Hp → VK → XK → Prop) : Sp := fun vs H Q E => vs = [] ∧ P H Q E
theorem Sp0.len {P} : ∀ vs H Q E, Sp0 P vs H Q E → vs.length = 0 := by rintro _ _ _ _ ⟨rfl, _⟩; rfl
theorem Sp1.len {P} : ∀ vs H Q E, Sp1 P vs H Q E → vs.length = 1 := by rintro _ _ _ _ ⟨_, rfl, _⟩; rfl
theorem Sp2.len {P} : ∀ vs H Q E, Sp2 P vs H Q E → vs.length = 2 := by rintro _ _ _ _ ⟨_, _, rfl, _⟩; rfl
theorem Sp3.len {P} : ∀ vs H Q E, Sp3 P vs H Q E → vs.length = 3 := by rintro _ _ _ _ ⟨_, _, _, rfl, _⟩; rfl
theorem Sp4.len {P} : ∀ vs H Q E, Sp4 P vs H Q E → vs.length = 4 := by rintro _ _ _ _ ⟨_, _, _, _, rfl, _⟩; rfl

/-! ### heaps -/
/-- all but b is as it was -/
def But (b : Addr) (H H' : Hp) : Prop := ∀ a o, a ≠ b → H a = some o → H' a = some o
theorem But.refl {b : Addr} (H : Hp) : But b H H := fun _ _ _ h => h
theorem But.trans {b : Addr} {H H1 H2 : Hp} (x : But b H H1) (y : But b H1 H2) : But b H H2 := fun c o n h => y c o n (x c o n h)
theorem _root_.L2.Same.but {b : Addr} {H H' : Hp} (x : Same H H') : But b H H' := fun c o _ h => x c o h
theorem But.upd {b : Addr} {H H' : Hp} {o : HO} (x : But b H H') : But b H (upd H' b o) := fun c u n h => by rw [upd_ne n]; exact x c u n h
theorem same_new {H : Hp} {p : Addr} (h : H p = none) (o : HO) : Same H (upd H p o) := fun b u q => by rw [upd_ne (ne_of_none q h)]; exact q
theorem same_upd {H H' : Hp} {p : Addr} (s : Same H H') (h : H p = none) (o : HO) : Same H (upd H' p o) := fun b u q => by rw [upd_ne (ne_of_none q h)]; exact s b u q
theorem _root_.L2.Same.tup {K : PySem.W.Frag} {H H' : Hp} {a : Addr} {xs : List V} (e : Same H H') (h : SqT K H a xs) : SqT K H' a xs := by
  rcases h with (h | ⟨o, h⟩) | h
  · exact .inl (.inl (e _ _ h))
  · exact .inl (.inr ⟨o, e _ _ h⟩)
  · exact .inr h

/-! ### one step of a reading -/
section
variable {σ : L2.St} {H : Hp} {Q : VK} {v x y : V} {te ta tb : TE} {D : Ends} {t u : TS} {K : PySem.W.Frag} {T : String}
theorem rd_seq (h : t { D with nx := u D } σ H) : tSeq t u D σ H := h
theorem rd_next (h : D.nx σ H) : tNext D σ H := h
theorem rd_set {i : Nat} (h : te σ H fun x H1 => D.nx (σ.set i (some x)) H1) : tAsg te (gName i) D σ H := h
theorem rd_asg {g : TG} (h : te σ H fun x H1 => g x σ H1 D.nx) : tAsg te g D σ H := h
theorem rd_ret (h : te σ H D.rt) : tRet te D σ H := h
theorem rd_retN (h : D.rt .non H) : tRetN D σ H := h
theorem rd_drop (h : te σ H fun _ H1 => D.nx σ H1) : tDrop te D σ H := h
theorem rd_ifS {c : TT} (h : c σ H fun b H1 => if b = true then t D σ H1 else u D σ H1) : tIfS c t u D σ H := h
theorem rd_var {i : Nat} (h : σ[i]? = some (some v)) (q : Q v H) : tVar i σ H Q := ⟨v, h, q⟩
theorem rd_c (q : Q v H) : tC v σ H Q := q
theorem rd_op {r : R2} (h : ta σ H fun x H1 => tb σ H1 fun y H2 => r x y H2 Q) : tOp r ta tb σ H Q := h
theorem rd_un {r : V → Hp → VK → Prop} (h : ta σ H fun x H1 => r x H1 Q) : tUn r ta σ H Q := h
theorem rd_I0 {g : Int → Int → V} {i j : Int} (q : Q (g i j) H) : rI0 g (.int i) (.int j) H Q := ⟨i, j, rfl, rfl, q⟩
theorem rd_I {C : Int → Int → Prop} {g : Int → Int → V} {i j : Int} (c : C i j) (q : Q (g i j) H) : rI C g (.int i) (.int j) H Q := ⟨i, j, rfl, rfl, c, q⟩
theorem rd_U {g : Int → V} {i : Int} (q : Q (g i) H) : rU g (.int i) H Q := ⟨i, rfl, q⟩
theorem rd_eq (h : scal x y = true) (q : Q (.bl (decide (x = y))) H) : rEq x y H Q := ⟨h, q⟩
theorem rd_ne (h : scal x y = true) (q : Q (.bl (!decide (x = y))) H) : rNe x y H Q := ⟨h, q⟩
theorem rd_test {R : Bool → Hp → Prop} (h : te σ H fun x H' => ∃ k, x = .bl k ∧ R k H') : tTest te σ H R := h
theorem rd_B {R : Bool → Hp → Prop} (h : te σ H fun x H' => ∃ k, x = .bl k ∧ R k H') : tB te σ H R := h
theorem rd_bl {R : Bool → Prop} {b : Bool} (h : R b) : ∃ k, (V.bl b) = .bl k ∧ R k := ⟨b, rfl, h⟩
theorem rd_and {p q : TT} {R : Bool → Hp → Prop} (h : p σ H fun c H1 => if c = true then q σ H1 R else R false H1) : tAnd p q σ H R := h
theorem rd_or {p q : TT} {R : Bool → Hp → Prop} (h : p σ H fun c H1 => if c = true then R true H1 else q σ H1 R) : tOr p q σ H R := h
theorem rd_not {p : TT} {R : Bool → Hp → Prop} (h : p σ H fun c H1 => R (!c) H1) : tNot p σ H R := h
theorem rd_if {p : TT} (h : p σ H fun c H1 => if c = true then ta σ H1 Q else tb σ H1 Q) : tIf p ta tb σ H Q := h
theorem rd_andV (h : ta σ H fun x H1 => ∃ c, x = .bl c ∧ if c = true then tb σ H1 Q else Q (.bl false) H1) : tAndV ta tb σ H Q := h
theorem rd_orV (h : ta σ H fun x H1 => ∃ c, x = .bl c ∧ if c = true then Q (.bl true) H1 else tb σ H1 Q) : tOrV ta tb σ H Q := h
theorem rd_blV {b : Bool} {R : Bool → Prop} (h : R b) : ∃ c, (V.bl b) = .bl c ∧ R c := ⟨b, rfl, h⟩
theorem rd_notV (h : ta σ H fun x H1 => ∃ c, x = .bl c ∧ Q (.bl (!c)) H1) : tNotV ta σ H Q := h
theorem rd_nil {R : List V → Hp → Prop} (h : R [] H) : tNil σ H R := h
theorem rd_cons {tr : TA} {R : List V → Hp → Prop} (h : ta σ H fun x H1 => tr σ H1 fun xs H2 => R (x :: xs) H2) : tCons ta tr σ H R := h
theorem rd_call {sp : Sp} {dvs : List V} {E : XK} {tr : TA} (h : tr σ H fun vs H1 => sp (vs ++ dvs) H1 Q E) : tCall sp dvs E tr σ H Q := h
theorem rd_CB {r : List V → Hp → VK → Prop} {tr : TA} (h : tr σ H fun vs H1 => r vs H1 Q) : tCB r tr σ H Q := h
theorem rd_lst {tr : TA} (h : tr σ H fun xs H1 => xs.length ≤ sizeLine ∧ ∀ p, H1 p = none → Q (.ref p) (upd H1 p (.lst xs))) : tLst tr σ H Q := h
theorem rd_tup {tr : TA} (h : tr σ H fun xs H1 => xs.length ≤ sizeLine ∧ ∀ p, H1 p = none → Q (.ref p) (upd H1 p (.tup xs))) : tTup tr σ H Q := h
theorem rd_ixL {p : Addr} {xs : List V} {i : Int} (h : SqL K H p xs) (a : atI xs i = some v) (q : Q v H) : rIxL K (.ref p) (.int i) H Q := ⟨p, xs, i, v, rfl, rfl, h, a, q⟩
theorem rd_ixT {p : Addr} {xs : List V} {i : Int} (h : SqT K H p xs) (a : atI xs i = some v) (q : Q v H) : rIxT K (.ref p) (.int i) H Q := ⟨p, xs, i, v, rfl, rfl, h, a, q⟩
theorem rd_ixS {z : Str} {i : Int} {c : Nat} (h : z.length ≤ sizeLine) (a : atI z.cps.toList i = some c) (q : Q (.str ⟨#[c]⟩) H) : rIxS (.str z) (.int i) H Q := ⟨z, i, c, rfl, rfl, h, a, q⟩
theorem rd_sl {r : V → Option Int → Option Int → Hp → VK → Prop} {tl th : TO} (h : te σ H fun x H1 => tl σ H1 fun l H2 => th σ H2 fun u H3 => r x l u H3 Q) : tSl r te tl th σ H Q := h
theorem rd_noP {R : Option Int → Hp → Prop} (h : R none H) : tNoPart σ H R := h
theorem rd_P {R : Option Int → Hp → Prop} (h : te σ H fun x H1 => ∃ i, x = .int i ∧ R (some i) H1) : tPart te σ H R := h
theorem rd_Pi {R : Int → Prop} {i : Int} (h : R i) : ∃ j, (V.int i) = .int j ∧ R j := ⟨i, rfl, h⟩
theorem rd_slL {p : Addr} {xs : List V} {lo hi : Option Int} (h : SqL K H p xs) (q : ∀ l, H l = none → Q (.ref l) (upd H l (.lst (cutV xs lo hi)))) : rSlL K (.ref p) lo hi H Q := ⟨p, xs, rfl, h, q⟩
theorem rd_slS {z : Str} {lo hi : Option Int} (h : z.length ≤ sizeLine) (q : Q (.str (cutS z lo hi)) H) : rSlS (.str z) lo hi H Q := ⟨z, rfl, h, q⟩
theorem rd_BM {r : V → List V → Hp → VK → Prop} {tr : TA} (h : te σ H fun x H1 => tyV K T x H1 ∧ tr σ H1 fun xs H2 => r x xs H2 Q) : tBM K T r te tr σ H Q := h
theorem rd_par {i j : Nat} {tr : TA} (h : tr σ H fun vs H1 => ∃ v w, vs = [v, w] ∧ D.nx ((σ.set i (some v)).set j (some w)) H1) : tPar i j tr D σ H := h
theorem rd_par2 {R : V → V → Prop} (h : R x y) : ∃ v w, ([x, y] : List V) = [v, w] ∧ R v w := ⟨x, y, rfl, h⟩
theorem rd_ite_t {A B : Prop} (h : A) : if true = true then A else B := by rw [if_pos rfl]; exact h
theorem rd_ite_f {A B : Prop} (h : B) : if false = true then A else B := by rw [if_neg (by decide)]; exact h
theorem rd_chain {r r' : R2} {tc : TE} (h : ta σ H fun x H1 => tb σ H1 fun y H2 => r x y H2 fun z H3 => ∃ k, z = .bl k ∧ (if k = true then tc σ H3 fun w' H4 => r' y w' H4 Q else Q (.bl false) H3)) : tChain r r' ta tb tc σ H Q := h
/-- a test whose answer is known -/
theorem rd_dec {p : Prop} [Decidable p] {R : Bool → Prop} (h1 : p → R true) (h2 : ¬ p → R false) : R (decide p) := by
  by_cases h : p
  · rw [decide_eq_true h]; exact h1 h
  · rw [decide_eq_false h]; exact h2 h
theorem rd_decT {p : Prop} [Decidable p] {R : Bool → Prop} (h : p) (h1 : R true) : R (decide p) := by rw [decide_eq_true h]; exact h1
theorem rd_decF {p : Prop} [Decidable p] {R : Bool → Prop} (h : ¬ p) (h1 : R false) : R (decide p) := by rw [decide_eq_false h]; exact h1
end

section
variable {σ σ' : L2.St} {H : Hp} {Q : VK} {v x y : V} {te ta tb : TE} {D : Ends} {K : PySem.W.Frag}
theorem rd_setN {i : Nat} (h : te σ H fun x H1 => D.nx (σ.set i (some x)) H1) : tAsg te (gName i) D σ H := h
theorem rd_nx {τ : L2.St} {F : L2.St → Hp → Prop} (e : τ = σ) (h : F σ H) : F τ H := by rw [e]; exact h
theorem rd_truB {R : Bool → Prop} {f : Bool} (h : R f) : ∃ k, TruV K (.bl f) H k ∧ R k := ⟨f, rfl, h⟩
theorem rd_truI {R : Bool → Prop} {i : Int} (h : R (i != 0)) : ∃ k, TruV K (.int i) H k ∧ R k := ⟨_, rfl, h⟩
theorem rd_int1 {R : Int → Prop} {S : Prop} {i : Int} (h : R i) : (∃ j, ([V.int i] : List V) = [V.int j] ∧ R j) ∨ S := .inl ⟨i, rfl, h⟩
theorem rd_int1b {R : Int → Prop} {R2 : Bool → Prop} {b : Bool} (h : R2 b) : (∃ j, ([V.bl b] : List V) = [V.int j] ∧ R j) ∨ ∃ k, ([V.bl b] : List V) = [V.bl k] ∧ R2 k := .inr ⟨b, rfl, h⟩
theorem rd_e1 {R : Int → Prop} {i : Int} (h : R i) : ∃ j, ([V.int i] : List V) = [V.int j] ∧ R j := ⟨i, rfl, h⟩
theorem rd_e2 {R : Int → Int → Prop} {i j : Int} (h : R i j) : ∃ k l, ([V.int i, V.int j] : List V) = [V.int k, V.int l] ∧ R k l := ⟨i, j, rfl, h⟩
theorem rd_lenL {R : List V → Prop} {p : Addr} {xs : List V} (h : SqL K H p xs) (q : R xs) : ∃ (a : Addr) (ys : List V), ([V.ref p] : List V) = [V.ref a] ∧ (SqL K H a ys ∨ SqT K H a ys) ∧ R ys := ⟨p, xs, rfl, .inl h, q⟩
theorem rd_lenT {R : List V → Prop} {p : Addr} {xs : List V} (h : SqT K H p xs) (q : R xs) : ∃ (a : Addr) (ys : List V), ([V.ref p] : List V) = [V.ref a] ∧ (SqL K H a ys ∨ SqT K H a ys) ∧ R ys := ⟨p, xs, rfl, .inr h, q⟩
theorem rd_lenS {R : Str → Prop} {z : Str} (h : z.length ≤ sizeLine) (q : R z) : ∃ y : Str, ([V.str z] : List V) = [V.str y] ∧ y.length ≤ sizeLine ∧ R y := ⟨z, rfl, h, q⟩
theorem rd_gSub {to ti : TE} {t : TSet} {S : L2.St → Hp → Prop} (h : to σ H fun o H1 => ti σ H1 fun i H2 => t o i v H2 fun H3 => S σ H3) : gSub to ti t v σ H S := h
theorem rd_setL {R : Hp → Prop} {p : Addr} {xs ys : List V} {k : Int} {j : Nat} (h : H p = some (.lst xs)) (a : ixN xs.length k = some j) (e : xs.set j v = ys) (q : R (upd H p (.lst ys))) : rSetL (.ref p) (.int k) v H R := ⟨p, xs, k, j, rfl, rfl, h, a, by rw [e]; exact q⟩
theorem rd_asgS {to ti : TE} {t : TSet} (h : te σ H fun x H1 => gSub to ti t x σ H1 D.nx) : tAsg te (gSub to ti t) D σ H := h
theorem rd_newL {R : List V → Hp → Prop} {xs : List V} (h : xs.length ≤ sizeLine) (q : ∀ p, H p = none → Q (.ref p) (upd H p (.lst xs))) : xs.length ≤ sizeLine ∧ ∀ p, H p = none → Q (.ref p) (upd H p (.lst xs)) := ⟨h, q⟩
theorem rd_str {R : Str → Str → Prop} {a b : Str} (h : R a b) : ∃ i j, (V.str a) = .str i ∧ (V.str b) = .str j ∧ R i j := ⟨a, b, rfl, rfl, h⟩
theorem rd_tyL {T : String} {p : Addr} {xs : List V} (h : SqL K H p xs) (e : T = "list" := by rfl) : tyV K T (.ref p) H := .inl ⟨e, xs, h⟩
theorem rd_append {p : Addr} {xs : List V} (h : H p = some (.lst xs)) (l : xs.length < sizeLine) (q : Q .non (upd H p (.lst (xs ++ [v])))) : rAppend (.ref p) [v] H Q := ⟨p, xs, v, rfl, rfl, h, l, q⟩
theorem rd_popAt {p : Addr} {xs : List V} {i : Int} {k : Nat} (h : H p = some (.lst xs)) (l1 : -(2 ^ 63) ≤ i) (l2 : i < 2 ^ 63) (hk : seqIndex? i xs.length = some k) (hy : xs[k]? = some y) (q : Q y (upd H p (.lst (xs.eraseIdx k)))) : rPopAt (.ref p) [.int i] H Q := ⟨p, xs, i, k, y, rfl, rfl, h, l1, l2, hk, hy, q⟩
theorem rd_sum {p : Addr} {ns : List Int} (h : SqL K H p (ns.map V.int)) (q : Q (.int ns.sum) H) : rSum K [.ref p] H Q := ⟨p, ns, rfl, h, q⟩
theorem sq_upd {p : Addr} {xs : List V} : SqL K (upd H p (.lst xs)) p xs := SqL.of upd_same
theorem st_upd {p : Addr} {xs : List V} : SqT K (upd H p (.tup xs)) p xs := SqT.of upd_same
end
theorem rd_tie {c : Bool} {A B : Prop} (h1 : c = true → A) (h2 : c = false → B) : if c = true then A else B := by
  cases c with
  | true => rw [if_pos rfl]; exact h1 rfl
  | false => rw [if_neg (by decide)]; exact h2 rfl
theorem rd_tid {p : Prop} [Decidable p] {A B : Prop} (h1 : p → A) (h2 : ¬ p → B) : if decide p = true then A else B := by
  by_cases h : p
  · rw [decide_eq_true h, if_pos rfl]; exact h1 h
  · rw [decide_eq_false h, if_neg (by decide)]; exact h2 h
theorem rd_tin {p : Prop} [Decidable p] {A B : Prop} (h1 : ¬ p → A) (h2 : p → B) : if (!decide p) = true then A else B := by
  by_cases h : p
  · rw [decide_eq_true h]; exact rd_ite_f (h2 h)
  · rw [decide_eq_false h]; exact rd_ite_t (h1 h)
theorem rd_tien {c : Bool} {A B : Prop} (h1 : c = false → A) (h2 : c = true → B) : if (!c) = true then A else B := by
  cases c with
  | true => exact rd_ite_f (h2 rfl)
  | false => exact rd_ite_t (h1 rfl)
theorem But.seq {b a : Addr} {xs : List V} {H H' : Hp} (e : But b H H') (n : a ≠ b) (h : SqL K H a xs) : SqL K H' a xs := by
  rcases h with (h | ⟨o, h⟩) | h
  · exact .inl (.inl (e _ _ n h))
  · exact .inl (.inr ⟨o, e _ _ n h⟩)
  · exact .inr h
theorem But.tup {b a : Addr} {xs : List V} {H H' : Hp} (e : But b H H') (n : a ≠ b) (h : SqT K H a xs) : SqT K H' a xs := by
  rcases h with (h | ⟨o, h⟩) | h
  · exact .inl (.inl (e _ _ n h))
  · exact .inl (.inr ⟨o, e _ _ n h⟩)
  · exact .inr h
theorem But.same {b : Addr} {H H' H2 : Hp} (e : But b H H') (s : Same H' H2) : But b H H2 := fun a o n h => s _ _ (e a o n h)
theorem _root_.L2.Same.but' {b : Addr} {H H' H2 : Hp} (s : Same H H') (e : But b H' H2) : But b H H2 := fun a o n h => e a o n (s _ _ h)
/-- what was new, or is at b, may change -/
theorem But.mut {b p : Addr} {H H' : Hp} {o : HO} (e : But b H H') (h : H p = none) : But b H (L2.upd H' p o) := fun a u n q => by rw [upd_ne (ne_of_none q h)]; exact e a u n q
theorem _root_.L2.Same.mut {p : Addr} {H H' : Hp} {o : HO} (e : Same H H') (h : H p = none) : Same H (upd H' p o) := fun a u q => by rw [upd_ne (ne_of_none q h)]; exact e a u q
section
variable {g : TG} {tb : TS} {wi : TI} {R : It → Hp → Prop} {ta : TA} {tl : TE}
theorem rd_for (h : wi σ H fun J H1 => ∃ W : Nat → Nat → L2.St → Hp → Prop, (∃ m, W 0 m σ H1) ∧ ∀ i m σ H, W i m σ H →
  (J.stop i H ∧ D.nx σ H) ∨ (J.go i H ∧ ∃ N : L2.St → Hp → Prop, (∀ σ' H', N σ' H' → ∃ m', m' < m ∧ W (i + 1) m' σ' H') ∧ ∀ x H', J.yld i H x H' → g x σ H' fun σ2 H2 => tb { D with nx := N, ct := N, bk := D.nx } σ2 H2)) : tFor wi g tb D σ H := h
theorem rd_iR1 (h : ta σ H fun vs H1 => ∃ j : Int, vs = [.int j] ∧ -(2 ^ 62) ≤ j ∧ j < 2 ^ 62 ∧ R (Itr 0 j.toNat) H1) : iRng1 ta σ H R := h
theorem rd_iR2 (h : ta σ H fun vs H1 => ∃ i j : Int, vs = [.int i, .int j] ∧ (-(2 ^ 62) ≤ i ∧ i < 2 ^ 62 ∧ -(2 ^ 62) ≤ j ∧ j < 2 ^ 62) ∧ R (Itr i (j - i).toNat) H1) : iRng2 ta σ H R := h
theorem rd_iL (h : tl σ H fun x H1 => ∃ a, x = .ref a ∧ (∃ xs, SqL K H1 a xs) ∧ R (Itl K a) H1) : iList K tl σ H R := h
theorem rd_iT (h : tl σ H fun x H1 => ∃ a, x = .ref a ∧ (∃ xs, SqT K H1 a xs) ∧ R (Itt K a) H1) : iTup K tl σ H R := h
theorem rd_gName {i : Nat} {S : L2.St → Hp → Prop} (h : S (σ.set i (some v)) H) : gName i v σ H S := h
end
section
variable {σ : L2.St} {H : Hp} {g : TG} {tb : TS} {F : L2.St → Hp → Prop} {Rt : VK}
theorem forR {n : Nat} {j : Int} (hj : j = (n : Int)) (Pv : Nat → L2.St → Hp → Prop) (h0 : Pv 0 σ H)
    (hs : ∀ i σ H, i < n → Pv i σ H → g (.int (i : Nat)) σ H fun σ2 H2 => tb { nx := Pv (i + 1), rt := Rt, bk := F, ct := Pv (i + 1) } σ2 H2) (hd : ∀ σ H, Pv n σ H → F σ H) :
    ∃ W : Nat → Nat → L2.St → Hp → Prop, (∃ m, W 0 m σ H) ∧ ∀ i m σ H, W i m σ H →
      ((Itr 0 j.toNat).stop i H ∧ F σ H) ∨ ((Itr 0 j.toNat).go i H ∧ ∃ N : L2.St → Hp → Prop, (∀ σ' H', N σ' H' → ∃ m', m' < m ∧ W (i + 1) m' σ' H') ∧ ∀ x H', (Itr 0 j.toNat).yld i H x H' → g x σ H' fun σ2 H2 => tb { nx := N, rt := Rt, bk := F, ct := N } σ2 H2) := by
  subst hj
  have := for_range (lo := 0) (n := n) (g := g) (tb := tb) (D := { nx := F, rt := Rt }) (σ := σ) (H := H) Pv h0 (fun i σ H hi p => by
    rw [Int.zero_add]
    exact hs i σ H hi p) hd
  exact this
theorem forL {K : PySem.W.Frag} {a : Addr} {xs : List V} (Pv : Nat → L2.St → Hp → Prop) (h0 : Pv 0 σ H) (hl : ∀ i σ H, i ≤ xs.length → Pv i σ H → SqL K H a xs)
    (hs : ∀ i x σ H, xs[i]? = some x → Pv i σ H → g x σ H fun σ2 H2 => tb { nx := Pv (i + 1), rt := Rt, bk := F, ct := Pv (i + 1) } σ2 H2) (hd : ∀ σ H, Pv xs.length σ H → F σ H) :
    ∃ W : Nat → Nat → L2.St → Hp → Prop, (∃ m, W 0 m σ H) ∧ ∀ i m σ H, W i m σ H →
      ((Itl K a).stop i H ∧ F σ H) ∨ ((Itl K a).go i H ∧ ∃ N : L2.St → Hp → Prop, (∀ σ' H', N σ' H' → ∃ m', m' < m ∧ W (i + 1) m' σ' H') ∧ ∀ x H', (Itl K a).yld i H x H' → g x σ H' fun σ2 H2 => tb { nx := N, rt := Rt, bk := F, ct := N } σ2 H2) :=
  for_list (g := g) (tb := tb) (D := { nx := F, rt := Rt }) Pv h0 hl hs hd
theorem forT {K : PySem.W.Frag} {a : Addr} {xs : List V} (Pv : Nat → L2.St → Hp → Prop) (h0 : Pv 0 σ H) (hl : ∀ i σ H, i ≤ xs.length → Pv i σ H → SqT K H a xs)
    (hs : ∀ i x σ H, xs[i]? = some x → Pv i σ H → g x σ H fun σ2 H2 => tb { nx := Pv (i + 1), rt := Rt, bk := F, ct := Pv (i + 1) } σ2 H2) (hd : ∀ σ H, Pv xs.length σ H → F σ H) :
    ∃ W : Nat → Nat → L2.St → Hp → Prop, (∃ m, W 0 m σ H) ∧ ∀ i m σ H, W i m σ H →
      ((Itt K a).stop i H ∧ F σ H) ∨ ((Itt K a).go i H ∧ ∃ N : L2.St → Hp → Prop, (∀ σ' H', N σ' H' → ∃ m', m' < m ∧ W (i + 1) m' σ' H') ∧ ∀ x H', (Itt K a).yld i H x H' → g x σ H' fun σ2 H2 => tb { nx := N, rt := Rt, bk := F, ct := N } σ2 H2) :=
  for_tup (g := g) (tb := tb) (D := { nx := F, rt := Rt }) Pv h0 hl hs hd
end
theorem cxK {CX : CXT} {P : Program} {w : World} {K : PySem.W.Frag} {mg : Str → Option Value} {base : Heap} {N : List Str} {qual : Str} {scope : Scope} {f : Addr} {cd : Value} {A : Around} {outer : List Env} {s : Shared} {H : Hp} {E : XK} : (cxOf CX P w K mg base N qual scope f cd A outer s H E).nox.K = K := rfl
theorem cxK' {CX : CXT} {P : Program} {w : World} {K : PySem.W.Frag} {mg : Str → Option Value} {base : Heap} {N : List Str} {qual : Str} {scope : Scope} {f : Addr} {cd : Value} {A : Around} {outer : List Env} {s : Shared} {H : Hp} {E : XK} : (cxOf CX P w K mg base N qual scope f cd A outer s H E).K = K := rfl
/-- a built-in type's name as a value -/
theorem pe_ty {X : Cx} {x : Str} {pos : Pos} (n : String) (hm : X.mg x = none) (hv : bootBuiltins x = some (.type n) := by decide +kernel) (hg : Gl X x := by rfl) (hn : x ≠ "__name__" := by decide) (hd : (x == ("__debug__" : Str)) = false := by decide) : PE X (.Name x pos) (tC (.ty n)) :=
  pe_bltn hg hm hv rfl hn hd
end My
set_option Elab.async false
set_option linter.all false
set_option maxRecDepth 100000
set_option maxHeartbeats 4000000
namespace PySem.W
open PySem PySem.Spec PySem.Calls PyProof.Rows
section
variable {prog : Program} {w : World} {A : Around} {E : Value → Shared → Prop} {s : Shared} {K : Frag} {x D : Addr} {ox : Obj}
/-- what is known of an error's class D, so that its instances tell their class -/
structure ErrTells (K : Frag) (D : Addr) : Prop where
  g0 : findIn K (.ref D) "__getattribute__" = some (some (.builtin "BaseException.__getattribute__"))
  g1 : findIn K (.ref D) "__getattr__" = some none
  base : subIn K (.ref D) (.type "BaseException") = some true
  dict : hasDictIn K D = true
  cl : findIn K (.ref D) "__class__" = some (some (.builtin "object.__class__"))
  get : specialIn K (.builtin "object.__class__") "__get__" = some (some (.builtin "getset_descriptor.__get__"))
  take : takesIn K (.builtin "object.__class__") = some true
  obj : mroIn K D (.type "object") = some true
theorem ErrTells.there {D : Addr} (T : ErrTells K D) : ∃ cd, clsIn K D = some cd := by
  obtain ⟨cd, h, _⟩ := any_some T.dict
  exact ⟨cd, h⟩
theorem ErrTells.found {od : Option Obj} (T : ErrTells K D) : findObj K D od "__class__" = some (.bind (.builtin "getset_descriptor.__get__") (.builtin "object.__class__")) := by
  obtain ⟨cd, h⟩ := T.there
  unfold findObj
  simp [h, T.cl, T.get, T.take]
/-- e.__class__ is D -/
theorem ErrTells.class {od : Option Obj} {R : Option Value → Shared → Prop} (T : ErrTells K D) (KX : K.In s.heap) (J : InstAt s.heap x ox D od) (q : R (some (.ref D)) { s with toks := s.toks + 1 }) :
    wpAny (model prog w) A (getAttr? (.ref x) "__class__") R E s := by
  obtain ⟨hp, gs, dr, tk, os⟩ := s
  let M := model prog w
  have la := J.type (M := M)
  have lb := looks_findIn (M := M) KX T.g0
  have lc := looks_findIn (M := M) KX T.g1
  have ld := looks_find (M := M) KX J T.found
  have le : Looks M hp (isInstance (.ref x) (.type "BaseException")) true := la.andThen (looks_subIn KX T.base)
  have other : (Value.builtin "BaseException.__getattribute__" == Value.builtin "object.__getattribute__") = false := by decide +kernel
  have plain : (onTheHeap (Value.ref D) && Value.builtin "BaseException.__getattribute__" == Value.builtin "object.__getattribute__") = false := by rw [other]; rfl
  unfold getAttr? getAttrBy? getAttrBy
  refine wpAny_bind (wpAny_mkText (wpAny_bind (wpAny_attempt (wpAny_holding (wpAny_bind (la.at (wpAny_bind (lb.at ?_))))))))
  show wpAny _ _ (if (onTheHeap (Value.ref D) && Value.builtin "BaseException.__getattribute__" == Value.builtin "object.__getattribute__") = true then _ else _) _ _ _
  rw [plain, if_neg Bool.false_ne_true]
  unfold getAttrByItsOwn hookBefore
  refine wpAny_bind ?_
  have there : onTheHeap (Value.ref D) = true := rfl
  rw [if_pos there]
  refine lc.at (wpAny_bind (wpAny_attempt (wpAny_holding ?_)))
  unfold callGetattribute
  have off : (false && onTheHeap (Value.builtin "BaseException.__getattribute__")) = false := rfl
  rw [off, if_neg Bool.false_ne_true]
  unfold boundAndCalled
  rw [PySem.F.excAttr_ValueError.ga.bind (.ref x)]
  refine wpAny_bind (wpAny_pure ?_)
  show wpAny _ _ (call (.builtin "BaseException.__getattribute__") [.ref x, .str "__class__" tk]) _ _ _
  have kind := PySem.F.args_bexc_ga (.ref x) (.str "__class__" tk)
  refine wpAny_call (codeAny_call_builtin PySem.F.excAttr_ValueError.ga.plain PySem.F.entry_bexc_ga ?_)
  refine @check_slot M _ _ ⟨hp, gs, dr, tk + 1, os⟩ "BaseException.__getattribute__" "BaseException" "__getattribute__" (.ref x) [.str "__class__" tk] [] _ (by decide +kernel) (by decide +kernel) le kind ?_
  unfold Builtin.«object.__getattribute__»
  refine wpAny_bind (wpAny_of_eq (a := ((Value.ref x : Value), [Value.str "__class__" tk])) (by first | rfl | (simp only [slotArgs]; rfl)) ?_)
  refine wpAny_bind (wpAny_pure (wpAny_bind (la.at (wpAny_bind (ld.at ?_)))))
  show wpAny _ _ (holding [Value.builtin "object.__class__"] (call (.builtin "getset_descriptor.__get__") [.builtin "object.__class__", .ref x, .ref D]) >>= ret) _ _ _
  refine wpAny_bind (wpAny_holding (wpAny_call (class_get (s := ⟨hp, gs, dr, tk + 1, os⟩) (ox := ox) (od := od) KX J T.obj (wpAny_pure ?_))))
  show wpAny _ _ (handedOut (.ref D)) _ _ _
  rw [handedOut_of (v := .ref D) rfl]
  first
    | exact wpAny_pure q
    | exact wpAny_pure (wpAny_pure q)
    | exact wpAny_pure (wpAny_bind (wpAny_pure (wpAny_pure q)))
theorem ErrTells.notTup {D tp : Addr} {dd : Option Addr} {its : Array Value} {n : Nat} {sl : Array (Option Value)} {h : Heap} (T : ErrTells K D) (KX : K.In h) (ht : h.get? tp = some ⟨.type "tuple", dd, .seq its n, sl⟩) : D ≠ tp := by
  rintro rfl
  obtain ⟨cd, hc⟩ := T.there
  unfold clsIn at hc
  split at hc
  · rename_i ho
    cases (KX _ _ ho).symm.trans ht
  · cases hc
theorem ErrTells.kit {od : Option Obj} (T : ErrTells K D) : KitX K (.ref x) (.ref D) (fun h => InstAt h x ox D od) where
  ca := fun KX J q => T.class KX J q
  ty := fun _ _ _ J => J.type
  ne := fun h tp dd its n sl KX ht => by
    have d := T.notTup KX ht
    simpa using d
  it := fun _ _ KX _ => by
    obtain ⟨cd, hc⟩ := T.there
    unfold clsIn at hc
    split at hc
    · rename_i ho
      intro A' Q' E' s' k q
      unfold isType loadHead
      exact wpAny_bind (wpAny_loadPart (k _ _ (KX _ _ ho)) (wpAny_pure q))
    · cases hc
end
end PySem.W
namespace My
open PySem L2 PySem.Spec PyProof.Rows
/-! ### a for over a list or a tuple, whichever it is -/
def iSeq (K : PySem.W.Frag) (tl : TE) : TI := fun σ H R => tl σ H fun x H1 => ∃ a, x = .ref a ∧ (((∃ xs, SqL K H1 a xs) ∧ R (Itl K a) H1) ∨ ((∃ xs, SqT K H1 a xs) ∧ R (Itt K a) H1))
theorem pi_seq {X : Cx} {tg : Expr} {l : Expr} {tl : TE} (hl : PE X l tl) : PI X tg l (iSeq X.K tl) := by
  refine ⟨fun pins s σ H R I h => ?_⟩
  refine thn (hl.run pins s σ H _ I h) fun v s1 ⟨x, H1, I1, r1, q1⟩ => ?_
  obtain ⟨a, e, q⟩ := q1
  subst e
  cases r1
  rcases q with ⟨⟨xs, hq⟩, q⟩ | ⟨⟨xs, hq⟩, q⟩
  · obtain ⟨its, rv, p, hz⟩ := I1.list hq
    refine wpAny_pyIter_list p.isList ?_
    refine ⟨s1.heap.objs.size, [s1.heap.objs.size], _, _, H1, rfl, I1.kept (t' := s1.toks) fun b o e => Heap.get?_push_of_some _ e, turn_list a _, ⟨_, Heap.get?_push_size _ rfl, rfl, rfl⟩, fun b hb => ?_, q⟩
    have e : b = s1.heap.objs.size := by simpa using hb
    subst e
    exact I1.fpOk (Nat.le_refl _) (I1.hok.fresh (Nat.le_refl _))
  · obtain ⟨its, rv, p, hz⟩ := I1.tuple hq
    refine wpAny_pyIter_tuple (show s1.heap.IsTuple a its.toArray from p) ?_
    refine ⟨s1.heap.objs.size, [s1.heap.objs.size], _, _, H1, rfl, I1.kept (t' := s1.toks) fun b o e => Heap.get?_push_of_some _ e, turn_tuple a _, ⟨_, Heap.get?_push_size _ rfl, rfl, rfl⟩, fun b hb => ?_, q⟩
    have e : b = s1.heap.objs.size := by simpa using hb
    subst e
    exact I1.fpOk (Nat.le_refl _) (I1.hok.fresh (Nat.le_refl _))
theorem rd_iS {σ : L2.St} {H : Hp} {K : PySem.W.Frag} {tl : TE} {R : It → Hp → Prop} (h : tl σ H fun x H1 => ∃ a, x = .ref a ∧ (((∃ xs, SqL K H1 a xs) ∧ R (Itl K a) H1) ∨ ((∃ xs, SqT K H1 a xs) ∧ R (Itt K a) H1))) : iSeq K tl σ H R := h

/-! ### a call by keywords alone -/
section
variable {X : Cx} {CX : CXT} {k n : Nat} {f : Addr} {fd : FuncData} {ps ks : List Str} {sp : Sp} {E : XK} {x : Str} {p pos : Pos} {kws : List Keyword} {tk : TA} {g : List Value → List Value → List Value} {gV : List V → List V → List V}
theorem run_fnNS {pins : List (Addr × Obj)} {σ : L2.St} {H : Hp} {s : Shared} {Q : VK} {us ws : List Value} {vs zs : List V} {E : L2.St → XK} (F : FnOk X.prog X.w X.K X.mg X.base CX k f fd ps sp) (hr : Room k X.A) (hb : KBn X.K fd ps n ks g gV) (hx : PassesAt CX X σ (E σ))
    (I : Inv X pins σ H s) (r : Vals vs us) (rz : Vals zs ws) (l1 : vs.length = n) (l2 : zs.length = ks.length) (h : sp (gV vs zs) H Q (E σ)) : wpAny (model X.prog X.w) X.A (call (.ref f) us (ks.zip ws)) (EP X pins σ Q) X.xe s := by
  have r2 := hb.rel r rz
  refine wpAny_call (codeAny_mono (F.run X.A X.stack s H ⟨us, ks.zip ws⟩ (g us ws) (gV vs zs) Q (E σ) hr I.env0 (hb.to s us ws I.kIn (r.length.symm.trans l1) (rz.length.symm.trans l2)) r2 h) fun r s' hq => ?_)
  cases r with
  | error e => exact hx pins H s e s' I hq
  | ok fl =>
    cases fl with
    | ret u => exact I.after hq
    | next => exact False.elim hq
    | brk => exact False.elim hq
    | cont => exact False.elim hq
def tCallN0 (m : Nat) (sp : Sp) (gV : List V → List V → List V) (E : XK) (tk : TA) : TE := fun σ H Q => tk σ H fun zs H2 => zs.length = m ∧ sp (gV [] zs) H2 Q E
theorem pe_callN0 (F : FnOk X.prog X.w X.K X.mg X.base CX k f fd ps sp) (hr : Room k X.A) (hg : Gl X x) (hm : X.mg x = some (.ref f)) (hk : PySem.W.keepIn X.K (.ref f) = true) (hb : KBn X.K fd ps 0 ks g gV) (hx : Passes CX X E)
    (hkw : PK X kws tk) (hall : (backToKw pos (keywordEach kws X.env)).all (·.1.isSome) = true := by rfl) (hks : (backToKw pos (keywordEach kws X.env)).filterMap (·.1) = ks := by rfl)
    (hdb : (x == ("__debug__" : Str)) = false := by decide)
    (hpl : ((backTo pos (starEach [] X.env)).any (·.1) || (backToKw pos (keywordEach kws X.env)).any (·.1.isNone)) = false := by rfl) :
    PE X (.Call (.Name x p) [] kws pos) (tCallN0 ks.length sp gV E tk) := by
  refine ⟨fun pins s σ H Q I h => ?_⟩
  refine wpAny_Call_Name_kw (ld_glob I hg hm ?_ hdb)
  refine PySem.W.callWith_KW0 (h₀ := X.base) I.ok.mod.kin hk hall (thn (hkw.run pos pins s σ H _ I h) fun ws s2 ⟨zs, H2, I2, rz, l2, q2⟩ => ⟨I2.kIn, ?_⟩) hpl
  rw [hks]
  exact run_fnN (us := []) (vs := []) F hr hb hx I2 .nil rz rfl l2 q2
/-- the same, what is raised is wished for by W (in a try's body) -/
def tCallN0S (m : Nat) (sp : Sp) (gV : List V → List V → List V) (E : L2.St → XK) (tk : TA) : TE := fun σ H Q => tk σ H fun zs H2 => zs.length = m ∧ sp (gV [] zs) H2 Q (E σ)
theorem pe_callN0S {E : L2.St → XK} (F : FnOk X.prog X.w X.K X.mg X.base CX k f fd ps sp) (hr : Room k X.A) (hg : Gl X x) (hm : X.mg x = some (.ref f)) (hk : PySem.W.keepIn X.K (.ref f) = true) (hb : KBn X.K fd ps 0 ks g gV) (hx : ∀ σ, PassesAt CX X σ (E σ))
    (hkw : PK X kws tk) (hall : (backToKw pos (keywordEach kws X.env)).all (·.1.isSome) = true := by rfl) (hks : (backToKw pos (keywordEach kws X.env)).filterMap (·.1) = ks := by rfl)
    (hdb : (x == ("__debug__" : Str)) = false := by decide)
    (hpl : ((backTo pos (starEach [] X.env)).any (·.1) || (backToKw pos (keywordEach kws X.env)).any (·.1.isNone)) = false := by rfl) :
    PE X (.Call (.Name x p) [] kws pos) (tCallN0S ks.length sp gV E tk) := by
  refine ⟨fun pins s σ H Q I h => ?_⟩
  refine wpAny_Call_Name_kw (ld_glob I hg hm ?_ hdb)
  refine PySem.W.callWith_KW0 (h₀ := X.base) I.ok.mod.kin hk hall (thn (hkw.run pos pins s σ H _ I h) fun ws s2 ⟨zs, H2, I2, rz, l2, q2⟩ => ⟨I2.kIn, ?_⟩) hpl
  rw [hks]
  exact run_fnNS (us := []) (vs := []) F hr hb (hx σ) I2 .nil rz rfl l2 q2
end
/-- how a def without defaults binds its keywords -/
theorem kb_mk {K : PySem.W.Frag} {x qual : Str} {st : Stmt} {f : Addr} {fd : FuncData} {ps ks : List Str} {n : Nat} (F : Fun K x qual st f fd) (g : {α : Type} → List α → List α → List α)
    (hrel : ∀ {vs : List V} {us : List Value} {zs : List V} {ws : List Value}, Vals vs us → Vals zs ws → Vals (g vs zs) (g us ws))
    (h : ∀ (kV doc pm : Value) (an : Option Addr) (cdv ct : Value) (us ws : List Value), us.length = n → ws.length = ks.length → bindArgs (PySem.W.fnOf x qual (defArgs st) (defBody st) (defScope st) .none kV doc pm an cdv ct) ⟨us, ks.zip ws⟩ = pure (ps.zip (g us ws))) :
    KBn K fd ps n ks (fun us ws => g us ws) (fun vs zs => g vs zs) := by
  obtain ⟨oc, od, kV, doc, pm, an, cdv, ct, osl, rfl, lk, hcd⟩ := F.ex
  exact ⟨fun s us ws _ l1 l2 => .of_eq (h kV doc pm an cdv ct us ws l1 l2), fun r1 r2 => hrel r1 r2⟩
theorem takes_no {X : Cx} : Takes X (fun _ _ _ _ => False) := takes0

/-! ### several except clauses, each with or without a name -/
/-- a clause: its class, the slot of its name, what its suite is read as -/
abbrev Clause := Value × Option Nat × (Addr → Value → Option Addr → TS)
def outOf (D : Ends) : Option Nat → Ends
  | none => D
  | some i => ⟨fun τ G => D.nx (τ.set i none) G, D.rt, fun τ G => D.bk (τ.set i none) G, fun τ G => D.ct (τ.set i none) G⟩
def inTo (σ : L2.St) (e : Addr) : Option Nat → L2.St
  | none => σ
  | some i => σ.set i (some (.ref e))
def wClauses (K : PySem.W.Frag) (Wout : WX) (D : Ends) : List Clause → WX
  | [] => Wout
  | (c, oi, ts) :: more => fun kls dd σ H => ∃ y, PySem.W.exmOne K kls c = some y ∧ (y = true → ∀ e, H e = none → ts e kls dd (outOf D oi) (inTo σ e oi) H) ∧ (y = false → wClauses K Wout D more kls dd σ H)
inductive Clauses (X : Cx) : List ExceptHandler → List Clause → Prop
  | none : Clauses X [] []
  | some {x : Str} {as : Option Str} {oi : Option Nat} {c : Value} {ts : Addr → Value → Option Addr → TS} {st : Stmt} {sts : List Stmt} {p q : Pos} {hs : List ExceptHandler} {more : List Clause} (nm : Names X x c)
      (sl : (as = Option.none ∧ oi = Option.none) ∨ ∃ i n, as = Option.some n ∧ oi = Option.some i ∧ X.N[i]? = Option.some n ∧ X.env.kindOf n = Option.some .local)
      (su : ∀ (e : Addr) (o : Obj) (kls : Value) (dd : Option Addr) (l : List (Addr × Obj)), Zc kls dd o → (∃ fs, o.data = .fields fs) → PSs (X.suite e ((e, o) :: l)) (st :: sts) (ts e kls dd)) (r : Clauses X hs more) :
      Clauses X (.ExceptHandler (Option.some (.Name x p)) as (st :: sts) q :: hs) ((c, oi, ts) :: more)
section
variable {X : Cx} {body : List Stmt} {hd : ExceptHandler} {hs : List ExceptHandler} {l : List Clause} {pos : Pos} {tb : WX → TS} {Wout : WX}
/-- behind a suite without a name: back in the def -/
theorem back_plain {pins : List (Addr × Obj)} {D : Ends} {e : Addr} {o : Obj} {f : Flow} {s : Shared} (ok : X.Ok) (h : SP (X.suite e ((e, o) :: (X.pn ++ pins))) [] D f s) : SP X pins D f s := by
  cases f with
  | ret u => obtain ⟨v, τ, G, J, r, q⟩ := h; exact ⟨v, τ, G, J.unsuite ok, r, q⟩
  | next => obtain ⟨τ, G, J, q⟩ := h; exact ⟨τ, G, J.unsuite ok, q⟩
  | brk => obtain ⟨τ, G, J, q⟩ := h; exact ⟨τ, G, J.unsuite ok, q⟩
  | cont => obtain ⟨τ, G, J, q⟩ := h; exact ⟨τ, G, J.unsuite ok, q⟩
/-- behind the try's own body: back in the def -/
theorem back_try {pins : List (Addr × Obj)} {D : Ends} {f : Flow} {s : Shared} {l : List (Addr × Obj)} {xe : Value → Shared → Prop} (ok : X.Ok) (h : SP (X.tr l xe) [] D f s) (un : ∀ τ G, Inv (X.tr l xe) [] τ G s → Inv X pins τ G s) : SP X pins D f s := by
  cases f with
  | ret u => obtain ⟨v, τ, G, J, r, q⟩ := h; exact ⟨v, τ, G, un _ _ J, r, q⟩
  | next => obtain ⟨τ, G, J, q⟩ := h; exact ⟨τ, G, un _ _ J, q⟩
  | brk => obtain ⟨τ, G, J, q⟩ := h; exact ⟨τ, G, un _ _ J, q⟩
  | cont => obtain ⟨τ, G, J, q⟩ := h; exact ⟨τ, G, un _ _ J, q⟩
theorem ps_tryC (hst : X.stack = X.env :: X.outer) (hfr : X.env.frame = some X.env.locals) (nd : X.N.Nodup) (tk : Takes X Wout)
    (hb : ∀ (W : WX) (pn : List (Addr × Obj)) (xe : Value → Shared → Prop), Takes (X.tr pn xe) W → PassesOwn (model X.prog X.w) X.A X.env xe → PSs (X.tr pn xe) body (tb W))
    (cl : Clauses X (hd :: hs) l) : PS X (.Try body (hd :: hs) [] [] pos) (fun D σ H => tb (wClauses X.K Wout D l) D σ H) := by
  refine ⟨fun pins s σ H D I rd => wpAny_Try_except ?_⟩
  have ok := I.ok
  have fra : X.A.frames = some (X.env :: X.outer) := ok.frames.trans (by rw [hst])
  let after : Value → Shared → Prop := fun e a => wpAny (model X.prog X.w) X.A (noteFrame e X.env) (fun _ b => wpAny (model X.prog X.w) X.A (setFlight e none) (fun _ c => wpAny (model X.prog X.w) X.A (handleBy e X.env (hd :: hs)) (SP X pins D) X.xe c) X.xe b) X.xe a
  have main := (hb (wClauses X.K Wout D l) (X.pn ++ pins) after ?caught PassesOwn.looking).run [] s σ H D (I.toTry _) rd
  · refine wpAny_mono main (fun f a sp => ?_) (fun e a z => z)
    have sp' : SP X pins D f a := back_try ok sp fun τ G J => J.ofTry ok
    cases f with
    | next => exact wpAny_execs_nil sp'
    | ret u => exact sp'
    | brk => exact sp'
    | cont => exact sp'
  case caught =>
    rintro _ a ⟨e, B, sI, pins', τ, G, kls, dd, rfl, J0, nb, up, sky, free, os, ag, wish⟩
    have J : Inv X pins τ G sI := J0.ofTry ok
    rw [hst] at sky
    show wpAny (model X.prog X.w) X.A (noteFrame (.ref e) X.env) _ _ _
    refine Sky.land Zc.steady fra hfr sky fun hp fl up1 => ?_
    have J1 : Inv X pins τ G { a with heap := hp } := J.landed nb fl.1 (up.trans up1) os ag
    obtain ⟨o1, fs1, at1, z1, d1⟩ := fl.there
    have nfr : e ∉ frs (X.env :: X.outer) := fun m => by
      obtain ⟨_, o', at', nf⟩ := fl.2.2.1.mem m
      cases at1.symm.trans at'
      exact nf _ d1
    have nL : e ≠ X.env.locals := fun z => nfr (by rw [z]; exact List.mem_filterMap.mpr ⟨X.env, List.mem_cons_self, hfr⟩)
    have nF : e ∉ X.fs := fun m => nfr (by obtain ⟨en, k1, k2⟩ := List.mem_filterMap.mp m; exact List.mem_filterMap.mpr ⟨en, List.mem_cons_of_mem _ k1, k2⟩)
    have S1 := J1.suite at1 d1 free nL nF
    have go : ∀ {hs' : List ExceptHandler} {l' : List Clause}, Clauses X hs' l' → wClauses X.K Wout D l' kls dd τ G → wpAny (model X.prog X.w) X.A (handleBy (.ref e) X.env hs') (SP X pins D) X.xe { a with heap := hp } := by
      intro hs' l' c
      induction c with
      | none =>
        intro wish
        obtain ⟨k1, k2, k3, oe, vs, T, oT, ts', he, hz, hd', h1, hr⟩ := id fl
        have notNone : ¬ ((Value.ref T == Value.none) = true) := by simp
        have out : wpAny (model X.prog X.w) X.A (setFlight (.ref e) X.env.frame) (fun _ c => wpAny (model X.prog X.w) X.A (throw (.ref e) : Sem Flow) (SP X pins D) X.xe c) X.xe { a with heap := hp } := by
          rw [hfr]
          exact HandSPX.setFlight_upZ fl fun h4 held up4 => wpAny_throw (tk _ _ ⟨e, B, sI, pins, τ, G, kls, dd, rfl, J, nb, (up.trans up1).trans up4, .inr (.inr (by rw [hst]; exact held)), free, os, ag, wish⟩)
        refine wpAny_handleBy_nil ?_
        unfold PySem.passOn
        refine wpAny_bind (wpAny_field he hd' h1 ?_)
        rw [if_neg notNone]
        first
          | exact wpAny_bind out
          | exact wpAny_bind (wpAny_pure (wpAny_bind out))
      | @some x as oi c ts st sts p q hs2 more nm sl su r ih =>
        rintro ⟨y, ey, yes, no⟩
        have LT : PySem.W.Looks (model X.prog X.w) hp (typeOf (.ref e)) kls := fun _ _ _ _ k z => wpAny_typeOf_ref (k _ _ at1) (by rw [z1.1]; exact z)
        have LM := PySem.W.exm_one (M := model X.prog X.w) J1.kIn LT ey
        have asked : ∀ {Q : Value → Shared → Prop} {E : Value → Shared → Prop}, Q c { a with heap := hp } → wpAny (model X.prog X.w) (X.A.mark (some (.ref e))) (eval (.Name x p) X.env) Q E { a with heap := hp } := by
          intro Q E z
          obtain ⟨g1, g2, g3⟩ := nm
          rcases g3 with m | ⟨m, v, nn⟩
          · exact ld_glob (X := X.suite e ((e, o1) :: (X.pn ++ pins))) S1 g1 m z g2
          · exact ld_blt (X := X.suite e ((e, o1) :: (X.pn ++ pins))) S1 g1 m v z nn g2
        refine wpAny_handleBy_cons (codeAny_handlers_test (asked (LM.here ?_))) (by intro q; cases q)
        cases y with
        | false => exact ih (no rfl)
        | true =>
          have w1 := yes rfl e free
          rcases sl with ⟨rfl, rfl⟩ | ⟨i, n, rfl, rfl, hN, hk⟩
          · refine codeAny_handlers_suite (HandSPX.lands_againZ fl fun h4 fl4 up4 => ?_)
            obtain ⟨o4, fs4, at4, z4, d4⟩ := fl4.there
            have J4 : Inv X pins τ G { a with heap := h4 } := J.landed nb fl4.1 ((up.trans up1).trans up4) os ag
            exact wpAny_mono ((su e o4 kls dd (X.pn ++ pins) z4 ⟨_, d4⟩).run [] _ τ G D (J4.suite at4 d4 free nL nF) w1) (fun f b sp => back_plain ok sp) (fun _ _ z => False.elim z)
          · refine codeAny_handlers_suite_as (HandSPX.lands_againZ fl fun h4 fl4 up4 => ?_)
            obtain ⟨o4, fs4, at4, z4, d4⟩ := fl4.there
            have J4 : Inv X pins τ G { a with heap := h4 } := J.landed nb fl4.1 ((up.trans up1).trans up4) os ag
            refine store_ok (X := X.suite e ((e, o4) :: (X.pn ++ pins))) (v := .ref e) (J4.suite at4 d4 free nL nF) nd hN (.inl hk) rfl (fun s5 S5 => ?_) (.inr hk)
            refine wpAny_mono ((su e o4 kls dd (X.pn ++ pins) z4 ⟨_, d4⟩).run [] s5 _ G _ S5 w1) (fun f b sp => ?_) (fun _ _ z => False.elim z)
            have gone : ∀ {τ6 : L2.St} {G6 : Hp} {P : Shared → Prop}, Inv (X.suite e ((e, o4) :: (X.pn ++ pins))) [] τ6 G6 b → (∀ s7, Inv X pins (τ6.set i none) G6 s7 → P s7) →
                wpAny (model X.prog X.w) X.A (do bindName X.env n .none; unbindBehindTheSuite X.env n q) (fun _ s7 => P s7) X.xe b := fun S6 z => gone_ok (S6.unsuite ok) nd hN hk z
            cases f with
            | ret u => obtain ⟨v, τ6, G6, S6, r6, q6⟩ := sp; exact gone S6 fun s7 J7 => ⟨v, _, _, J7, r6, q6⟩
            | next => obtain ⟨τ6, G6, S6, q6⟩ := sp; exact gone S6 fun s7 J7 => ⟨_, _, J7, q6⟩
            | brk => obtain ⟨τ6, G6, S6, q6⟩ := sp; exact gone S6 fun s7 J7 => ⟨_, _, J7, q6⟩
            | cont => obtain ⟨τ6, G6, S6, q6⟩ := sp; exact gone S6 fun s7 J7 => ⟨_, _, J7, q6⟩
    exact go cl wish
end
/-! ### isinstance(e, C), e the exception that the suite holds, which has a field -/
def rIsED (K : PySem.W.Frag) (D a : Addr) (cls : Value) (d : Option Addr) : List V → Hp → VK → Prop := fun xs H Q => cls = .ref D ∧ ∃ (dd : Addr) (fs : List (Str × V)), d = some dd ∧ H dd = some (.xd fs) ∧ ∃ (c : V) (cv : Value) (b : Bool), xs = [.ref a, c] ∧ (∀ u, RelV c u → u = cv) ∧ PySem.W.kitOne K (.ref D) cv = some b ∧ Q (.bl b) H
theorem call_isED {X : Cx} {a D : Addr} {oe : Obj} {cls : Value} {d : Option Addr} {pn : List (Addr × Obj)} (C : PySem.W.ErrTells X.K D) (hz : Zc cls d oe) (hf : ∃ vs, oe.data = .fields vs) : CallR (X.suite a ((a, oe) :: pn)) (.builtin "isinstance") (rIsED X.K D a cls d) := by
  intro pins s σ H xs us Q I r h
  obtain ⟨ec0, dd, fs, ed, hdd, c, cv, b, rfl, hcv, e, q⟩ := h
  subst ec0
  subst ed
  cases r with
  | cons rx rr =>
    cases rr with
    | cons rt rr =>
      cases rr
      cases rx
      have ec := hcv _ rt
      subst ec
      obtain ⟨hget, _⟩ := I.pin (a, oe) (List.mem_append.mpr (.inl List.mem_cons_self))
      obtain ⟨vs, hv⟩ := hf
      have hx : ObjOk X.prog X.w H s.heap dd (.xd fs) := I.hok dd _ hdd
      obtain ⟨mA, hns, hr⟩ := hx
      obtain ⟨od, ho, hl⟩ := lookIn_ns hns
      have J : PySem.W.InstAt s.heap a oe D (some od) := ⟨hget, hz.1, by unfold PySem.W.notCls; rw [hv] <;> rfl, by rw [hz.2]; exact ho⟩
      exact PySem.W.kia_one C.kit I.kIn J e (fun z => nomatch z) fun tk => ⟨.bl b, H, I.kept (t' := tk) fun _ _ z => z, rfl, q⟩
end My
set_option Elab.async false
set_option linter.all false
set_option maxRecDepth 100000
set_option maxHeartbeats 4000000
namespace My
open PySem L2 PySem.Spec PyProof.Rows
/-! ### errors of own classes, each with one field «given» -/
structure ErrOk (K : PySem.W.Frag) (mg : Str → Option Value) (x qual : Str) (st : Stmt) (C fI : Addr) (fd : FuncData) : Prop where
  m : mg x = some (.ref C)
  F : Fun K "__init__" qual st fI fd
  b : Binds K fd ["self", "given"] []
  O : OexC K C
  iC : PySem.W.findIn K (.ref C) "__init__" = some (some (.ref fI))
  tI : PySem.W.typeIn K (.ref fI) = some (.type "function")
  no : PySem.W.findIn K (.ref C) "given" = some none
  et : PySem.W.ErrTells K C
theorem ErrOk.xf {K : PySem.W.Frag} {mg : Str → Option Value} {x qual : Str} {st : Stmt} {C fI : Addr} {fd : FuncData} (E : ErrOk K mg x qual st C fI fd) : XfC K C := ⟨E.et.g0, E.et.g1, E.et.base, E.et.dict⟩
def sp_given (C : Addr) : Sp := Sp2 fun x y H Q _ => ∃ a : Addr, x = .ref a ∧ H a = some (exo a C none) ∧ ∀ dx, H dx = none → dx ≠ a → Q .non (upd (upd H dx (exd dx [(("given" : Str), y)])) a (exo a C (some dx)))
section
variable {P : Program} {w : World} {K : PySem.W.Frag} {mg : Str → Option Value} {base : Heap}
theorem ok_given {x qual : Str} {st : Stmt} {C fI : Addr} {fd : FuncData} (E : ErrOk K mg x qual st C fI fd) (sc : FnScope (["self", "given"] : List Str) (["self", "given"] : List Str) (defScope st))
    (body : ∀ (cdv : Value) (A : Around) (outer : List Env) (s : Shared) (H : Hp) (E' : XK), PSs (cxOf CX0 P w K mg base ["self", "given"] qual (defScope st) fI cdv A outer s H E').nox (defBody st) (tOst K "given" (tVar 0) (tVar 1))) : FnOk P w K mg base CX0 1 fI fd ["self", "given"] (sp_given C) := by
  refine E.F.ok sc Sp2.len (fun cdv A outer s H vs Q E' hr h => ?_)
  obtain ⟨_, y, rfl, a, rfl, ha, k⟩ := h
  refine ⟨_, body cdv A outer s H E', ?_⟩
  exact ⟨y, rfl, .ref a, rfl, a, C, rfl, E.O, E.no, .inl ⟨ha, fun dx h1 h2 => k dx h1 h2⟩⟩
end
theorem del_back {H : Hp} {a dx : Addr} {o u w2 z : HO} (h : H a = none) (hd : dx ≠ a) : upd (L2.del (upd (upd (upd H a o) dx u) a w2) a) dx z = upd H dx z := by
  funext b
  by_cases e : b = dx
  · subst e; rw [upd_same, upd_same]
  · rw [upd_ne e, upd_ne e]
    by_cases e2 : b = a
    · subst e2; rw [del_same, h]
    · rw [del_ne e2, upd_ne e2, upd_ne e, upd_ne e2]
/-- raise C(e): what is left to be shown -/
theorem rd_raise {C : Addr} {te : TE} {σ : L2.St} {H : Hp} {R : XK} (h : te σ H fun y H1 => (1 : Nat) ≤ 1000 ∧ ∀ a, H1 a = none → sp_given C [.ref a, y] (upd H1 a (exo a C none))
    (fun v H2 => v = .non ∧ ∃ (d : Addr) (fs : List (Str × V)), H2 a = some (exo a C (some d)) ∧ H2 d = some (exd d fs) ∧ H1 d = none ∧ R (.ref C) (some d) (upd (L2.del H2 a) d (.xd fs))) (fun _ _ _ => False)) : tMkO C (sp_given C) [] (tCons te tNil) σ H R := h
theorem raise_end {C : Addr} {y : V} {H1 : Hp} {R : XK} (q : ∀ d, H1 d = none → R (.ref C) (some d) (upd H1 d (.xd [(("given" : Str), y)]))) : (1 : Nat) ≤ 1000 ∧ ∀ a, H1 a = none → sp_given C [.ref a, y] (upd H1 a (exo a C none))
    (fun v H2 => v = .non ∧ ∃ (d : Addr) (fs : List (Str × V)), H2 a = some (exo a C (some d)) ∧ H2 d = some (exd d fs) ∧ H1 d = none ∧ R (.ref C) (some d) (upd (L2.del H2 a) d (.xd fs))) (fun _ _ _ => False) := by
  refine ⟨by decide, fun a ha => ⟨_, y, rfl, a, rfl, upd_same, fun dx h1 h2 => ⟨rfl, dx, _, upd_same, by rw [upd_ne h2, upd_same], ?_, ?_⟩⟩⟩
  · rw [upd_ne h2] at h1; exact h1
  · rw [del_back ha h2]
    refine q dx ?_
    rw [upd_ne h2] at h1; exact h1
section
variable {X : Cx}
/-- raise C(e), C such a class -/
theorem ps_raiseG {W : WX} {x qual : Str} {st : Stmt} {C fI : Addr} {fd : FuncData} {e : Expr} {te : TE} {p pos pos2 : Pos} (E : ErrOk X.K X.mg x qual st C fI fd) (F1 : FnOk X.prog X.w X.K X.mg X.base CX0 1 fI fd ["self", "given"] (sp_given C)) (hr : Room 2 X.A) (tk : Takes X W) (he : PE X e te)
    (hc : X.calm = true := by rfl) (hg : Gl X x := by rfl) (hdb : (x == ("__debug__" : Str)) = false := by decide) (h1 : starEach (e :: []) X.env = (false, eval e X.env) :: starEach [] X.env := by rfl) (h2 : (backTo pos (starEach [] X.env)).any (·.1) = false := by rfl) :
    PS X (.Raise (some (.Call (.Name x p) [e] [] pos)) none pos2) (fun _ σ H => tMkO C (sp_given C) [] (tCons te tNil) σ H fun cls d H' => W cls d σ H') :=
  ps_raise hc tk (pmk_oex E.O E.iC E.tI F1 hr E.b .nil pass0 hg E.m (pa_cons he pa_nil h1) hdb h1 h2)
end
/-! ### the slots at a def's entry -/
def nones : Nat → L2.St
  | 0 => []
  | n + 1 => none :: nones n
def st0 : List V → Nat → L2.St
  | [], n => nones n
  | v :: vs, n => some v :: st0 vs n
theorem start_eq (N : List Str) (vs : List V) : L2.start N vs = st0 vs (N.length - vs.length) := by
  have h1 : ∀ n, List.replicate n (none : Option V) = nones n := fun n => by
    induction n with
    | zero => rfl
    | succ n ih => rw [List.replicate_succ, ih]; rfl
  have h2 : ∀ (l : List V) (n : Nat), l.map some ++ nones n = st0 l n := fun l n => by
    induction l with
    | nil => rfl
    | cons a r ih => rw [List.map_cons, List.cons_append, ih]; rfl
  unfold L2.start
  rw [h1, h2]
section
variable {σ : L2.St} {H : Hp} {D : Ends}
theorem rd_break (h : D.bk σ H) : tBreak D σ H := h
theorem rd_cont (h : D.ct σ H) : tCont D σ H := h
end
/-- what a def that raises may let out: by X.xe -/
theorem mono_sp {sp sp' : Sp} {P : Program} {w : World} {K : PySem.W.Frag} {mg : Str → Option Value} {base : Heap} {CX : CXT} {k : Nat} {f : Addr} {fd : FuncData} {ps : List Str} (F : FnOk P w K mg base CX k f fd ps sp) (h : ∀ vs H Q E, sp' vs H Q E → sp vs H Q E) : FnOk P w K mg base CX k f fd ps sp' :=
  ⟨fun vs H Q E z => F.len vs H Q E (h _ _ _ _ z), fun A outer s H args us vs Q E a b c d z => F.run A outer s H args us vs Q E a b c d (h _ _ _ _ z)⟩
end My
set_option maxRecDepth 100000
set_option linter.all false
namespace K01
/-! ### letters behind a name, plain -/
def ltr (n : Nat) : List Nat := if h : n = 0 then [] else ltr ((n - 1) / 26) ++ [97 + (n - 1) % 26]
termination_by n
decreasing_by omega
theorem ltr0 : ltr 0 = [] := by rw [ltr]; simp
theorem ltrS {n : Nat} (h : 0 < n) : ltr n = ltr ((n - 1) / 26) ++ [97 + (n - 1) % 26] := by rw [ltr, dif_neg (by omega)]
def low (c : Nat) : Prop := 97 ≤ c ∧ c ≤ 122
theorem ltr_low : ∀ (n : Nat), ∀ c ∈ ltr n, low c := by
  intro n
  induction n using Nat.strongRecOn with
  | ind n ih =>
    by_cases h : n = 0
    · subst h; rw [ltr0]; intro c hc; cases hc
    · rw [ltrS (by omega)]
      intro c hc
      rcases List.mem_append.mp hc with hc | hc
      · exact ih _ (by omega) c hc
      · rw [List.mem_singleton.mp hc]; exact ⟨by omega, by omega⟩
/-- the number that the letters stand for -/
def num (s : List Nat) : Nat := s.foldl (fun a c => 26 * a + (c - 97) + 1) 0
theorem num_app (s : List Nat) (c : Nat) : num (s ++ [c]) = 26 * num s + (c - 97) + 1 := by
  unfold num; rw [List.foldl_append]; rfl
theorem num_ltr : ∀ n : Nat, num (ltr n) = n := by
  intro n
  induction n using Nat.strongRecOn with
  | ind n ih =>
    by_cases h : n = 0
    · subst h; rw [ltr0]; rfl
    · rw [ltrS (by omega), num_app, ih _ (by omega)]; omega
theorem ltr_inj {m n : Nat} (h : ltr m = ltr n) : m = n := by rw [← num_ltr m, h, num_ltr]
/-- letters, read as a number, written again -/
theorem ltr_num : ∀ (k : Nat) (s : List Nat), s.length = k → (∀ c ∈ s, low c) → ltr (num s) = s := by
  intro k
  induction k with
  | zero => intro s hs _; rw [List.eq_nil_of_length_eq_zero hs]; show ltr 0 = []; exact ltr0
  | succ k ih =>
    intro s hs hl
    have hne : s ≠ [] := by intro e; rw [e] at hs; cases hs
    have e := List.dropLast_concat_getLast hne
    have hc := hl _ (List.getLast_mem hne)
    have hd : ∀ c ∈ s.dropLast, low c := fun c h => hl c (List.dropLast_subset _ h)
    rw [← e, num_app, ltrS (by omega)]
    have h1 : (26 * num s.dropLast + (s.getLast hne - 97) + 1 - 1) / 26 = num s.dropLast := by
      have := hc.1; have := hc.2; omega
    have h2 : 97 + (26 * num s.dropLast + (s.getLast hne - 97) + 1 - 1) % 26 = s.getLast hne := by
      have := hc.1; have := hc.2; omega
    rw [h1, h2, ih _ (by rw [List.length_dropLast, hs]; rfl) hd]
theorem ltr_len_mono : ∀ (b m : Nat), m ≤ b → (ltr m).length ≤ (ltr b).length := by
  intro b
  induction b using Nat.strongRecOn with
  | ind b ih =>
    intro m hm
    by_cases h : m = 0
    · subst h; rw [ltr0]; exact Nat.zero_le _
    · rw [ltrS (n := m) (by omega), ltrS (n := b) (by omega), List.length_append, List.length_append]
      have := ih ((b - 1) / 26) (by omega) ((m - 1) / 26) (by omega)
      simp only [List.length_singleton]; omega
theorem ltr_len4 {n : Nat} (h : n ≤ 400000) : (ltr n).length ≤ 4 := by
  refine Nat.le_trans (ltr_len_mono 400000 n h) ?_
  rw [ltrS (by decide), ltrS (by decide), ltrS (by decide), ltrS (by decide), ltr]
  simp
theorem ltr_len3 {n : Nat} (h : 703 ≤ n) (h2 : n ≤ 18278) : (ltr n).length = 3 := by
  have a := ltr_len_mono n 703 h
  have b := ltr_len_mono 18278 n h2
  have e1 : (ltr 703).length = 3 := by
    rw [ltrS (by decide), ltrS (by decide), ltrS (by decide), ltr]; simp
  have e2 : (ltr 18278).length = 3 := by
    rw [ltrS (by decide), ltrS (by decide), ltrS (by decide), ltr]; simp
  omega
/-- the name with letters behind -/
def wl (name : List Nat) (n : Nat) : List Nat := name.take (8 - (ltr n).length) ++ ltr n
theorem wl0 {name : List Nat} (h : name.length ≤ 8) : wl name 0 = name := by
  unfold wl; rw [ltr0, List.append_nil]; exact List.take_of_length_le h
theorem wl_len {name : List Nat} {n : Nat} (h : (ltr n).length ≤ 8) : (wl name n).length ≤ 8 := by
  unfold wl; rw [List.length_append, List.length_take]; omega
theorem wl_ne {name : List Nat} {n : Nat} (h0 : name ≠ []) (h : (ltr n).length ≤ 7) : wl name n ≠ [] := by
  unfold wl
  intro e
  have e2 := congrArg List.length e
  rw [List.length_append, List.length_take] at e2
  have : name.length ≠ 0 := fun z => h0 (List.eq_nil_of_length_eq_zero z)
  simp only [List.length_nil] at e2
  omega
theorem wl_low {name : List Nat} {n : Nat} (h : ∀ c ∈ name, low c) : ∀ c ∈ wl name n, low c := by
  intro c hc
  rcases List.mem_append.mp hc with hc | hc
  · exact h c (List.mem_of_mem_take hc)
  · exact ltr_low n c hc
theorem wl_inj {name : List Nat} {m n : Nat} (hl : (ltr m).length = (ltr n).length) (h : wl name m = wl name n) : m = n := by
  unfold wl at h
  rw [hl] at h
  exact ltr_inj (List.append_cancel_left h)
/-! ### the first free one -/
def Free (name : List Nat) (T : List Nat → Prop) (n : Nat) : Prop := ¬ T (wl name n) ∧ ∀ m < n, T (wl name m)
theorem least {T : Nat → Prop} : ∀ {b : Nat}, ¬ T b → ∃ n, n ≤ b ∧ ¬ T n ∧ ∀ m < n, T m := by
  intro b
  induction b using Nat.strongRecOn with
  | ind b ih =>
    intro hb
    by_cases h : ∀ m < b, T m
    · exact ⟨b, Nat.le_refl _, hb, h⟩
    · obtain ⟨m, hm⟩ := Classical.not_forall.mp h
      obtain ⟨h1, h2⟩ := Classical.not_imp.mp hm
      obtain ⟨n, a, c, d⟩ := ih m h1 h2
      exact ⟨n, by omega, c, d⟩
/-- as many different ones cannot all stand in a shorter list -/
theorem pigeon {α : Type} [DecidableEq α] (f : Nat → α) (a : Nat) : ∀ (k : Nat) (L : List α), (∀ i j, i < k → j < k → f (a + i) = f (a + j) → i = j) → L.length < k → ∃ i, i < k ∧ f (a + i) ∉ L := by
  intro k
  induction k with
  | zero => intro L _ h; omega
  | succ k ih =>
    intro L inj hL
    by_cases hm : f (a + k) ∈ L
    · obtain ⟨i, hi, hn⟩ := ih (L.erase (f (a + k))) (fun i j hi hj e => inj i j (by omega) (by omega) e) (by
        rw [List.length_erase_of_mem hm]
        have : 0 < L.length := List.length_pos_of_mem hm
        omega)
      refine ⟨i, by omega, fun z => hn ?_⟩
      refine (List.mem_erase_of_ne ?_).mpr z
      intro e
      have := inj i k (by omega) (by omega) e
      omega
    · exact ⟨k, by omega, hm⟩
theorem free_ex (name : List Nat) (L W : List (List Nat)) (hL : L.length + W.length ≤ 10000) : ∃ n, n < L.length + W.length + 2000 ∧ Free name (fun x => x ∈ L ∨ x ∈ W) n := by
  obtain ⟨i, hi, hn⟩ := pigeon (wl name) 703 (L.length + W.length + 1) (L ++ W) (fun i j hi hj e => by
    have := wl_inj (by rw [ltr_len3 (by omega) (by omega), ltr_len3 (by omega) (by omega)]) e
    omega) (by rw [List.length_append]; omega)
  have hT : ¬ ((fun m => wl name m ∈ L ∨ wl name m ∈ W) (703 + i)) := fun z => hn (List.mem_append.mpr z)
  obtain ⟨n, h1, h2, h3⟩ := least (T := fun m => wl name m ∈ L ∨ wl name m ∈ W) hT
  exact ⟨n, by omega, h2, h3⟩
theorem Free.uniq {name : List Nat} {T U : List Nat → Prop} {m n : Nat} (e : ∀ x, T x ↔ U x) (a : Free name T m) (b : Free name U n) : m = n := by
  rcases Nat.lt_trichotomy m n with h | h | h
  · exact absurd ((e _).mpr (b.2 m h)) a.1
  · exact h
  · exact absurd ((e _).mp (a.2 n h)) b.1
/-! ### the words -/
def W : List (List Nat) := [[97, 110, 100], [97, 115], [97, 115, 107], [97, 116], [98, 101, 115, 116], [98, 121], [99, 97, 108, 108], [99, 104, 111, 111, 115, 101], [101, 108, 115, 101], [102, 114, 111, 109], [103, 105, 118, 101], [105, 102], [105, 110], [106, 111, 105, 110], [108, 101, 97, 118, 101], [108, 101, 102, 116], [109, 97, 114, 107], [111, 102], [112, 97, 114, 116], [112, 114, 111, 99], [114, 101, 115, 116], [116, 111], [119, 111, 114, 116, 104]]
def lowB (c : Nat) : Bool := decide (97 ≤ c) && decide (c ≤ 122)
theorem lowB_iff {c : Nat} : lowB c = true ↔ low c := by unfold lowB low; simp
def isName (z : List Nat) : Bool := decide (1 ≤ z.length) && (decide (z.length ≤ 8) && (!decide (z ∈ W) && z.all lowB))
structure Nm (z : List Nat) : Prop where
  ne : z ≠ []
  len : z.length ≤ 8
  low : ∀ c ∈ z, low c
  nw : z ∉ W
theorem isName_iff {z : List Nat} : isName z = true ↔ Nm z := by
  unfold isName
  simp only [Bool.and_eq_true, decide_eq_true_eq, Bool.not_eq_true', decide_eq_false_iff_not, List.all_eq_true]
  constructor
  · rintro ⟨h1, h2, h3, h4⟩
    exact ⟨fun e => by rw [e] at h1; simp at h1, h2, fun c hc => lowB_iff.mp (h4 c hc), h3⟩
  · rintro ⟨h1, h2, h3, h4⟩
    refine ⟨?_, h2, h4, fun c hc => lowB_iff.mpr (h3 c hc)⟩
    cases z with
    | nil => exact absurd rfl h1
    | cons a r => simp
end K01
set_option Elab.async false
set_option linter.all false
set_option maxRecDepth 100000
set_option maxHeartbeats 4000000
namespace My
open PySem L2 PySem.Spec PyProof.Rows
/-! ### texts by their signs -/
def mk (l : List Nat) : Str := ⟨l.toArray⟩
theorem mk_len (l : List Nat) : (mk l).length = l.length := by show l.toArray.size = _; simp
theorem mk_tl (l : List Nat) : (mk l).cps.toList = l := rfl
theorem mk_of (z : Str) : mk z.cps.toList = z := rfl
theorem mk_app (a b : List Nat) : mk a ++ mk b = mk (a ++ b) := by
  show Str.mk (a.toArray ++ b.toArray) = Str.mk (a ++ b).toArray
  rw [List.append_toArray]
theorem mk_inj {a b : List Nat} (h : mk a = mk b) : a = b := by
  have := congrArg (fun z => z.cps.toList) h
  exact this
theorem mk_one (c : Nat) : (⟨#[c]⟩ : Str) = mk [c] := rfl
theorem mk_take (l : List Nat) (k : Nat) : cutS (mk l) none (some (k : Int)) = mk (l.take k) := by
  unfold cutS
  rw [mk_len, mk_tl, HT.sIx_none, HT.sIx_nat, List.drop_zero]
  show mk _ = mk _
  congr 1
  rw [Nat.sub_zero]
  rcases Nat.le_total k l.length with h | h
  · rw [Nat.min_eq_left h]
  · rw [Nat.min_eq_right h, List.take_of_length_le h, List.take_length]
theorem mk_drop (l : List Nat) (k : Nat) : cutS (mk l) (some (k : Int)) none = mk (l.drop k) := by
  unfold cutS
  rw [mk_len, mk_tl, HT.sIx_none, HT.sIx_nat]
  show mk _ = mk _
  congr 1
  rcases Nat.le_total k l.length with h | h
  · rw [Nat.min_eq_left h, List.take_of_length_le (by rw [List.length_drop]; exact Nat.le_refl _)]
  · rw [Nat.min_eq_right h, List.drop_eq_nil_of_le h, List.drop_length]; simp
theorem mk_cut (l : List Nat) (i j : Nat) (hi : i ≤ j) (hj : j ≤ l.length) : cutS (mk l) (some (i : Int)) (some (j : Int)) = mk ((l.drop i).take (j - i)) := by
  unfold cutS
  rw [mk_len, mk_tl, HT.sIx_nat, HT.sIx_nat, Nat.min_eq_left hj, Nat.min_eq_left (Nat.le_trans hi hj)]
  rfl
theorem fmN (a b : Nat) : Int.fmod (a : Int) (b : Int) = ((a % b : Nat) : Int) := by
  rw [Int.fmod_eq_emod_of_nonneg _ (by omega)]; rfl
theorem fdN (a b : Nat) : Int.fdiv (a : Int) (b : Int) = ((a / b : Nat) : Int) := by
  rw [Int.fdiv_eq_ediv_of_nonneg _ (by omega)]; rfl
theorem rep_fold (z : List Nat) : ∀ (n : Nat) (acc : Array Nat), List.foldl (fun x1 x2 => x1 ++ x2) acc (List.replicate n (mk z).cps) = acc ++ (List.replicate n z).flatten.toArray
  | 0, acc => by simp
  | n + 1, acc => by
    rw [List.replicate_succ, List.foldl_cons, rep_fold z n, List.replicate_succ, List.flatten_cons, Array.append_assoc]
    show acc ++ (z.toArray ++ _) = _
    exact congrArg (acc ++ ·) (List.append_toArray z _)
/-- text * number -/
theorem op_mulS {X : Cx} : OpR X (binaryOp .Mult) (fun x y H Q => ∃ (z : List Nat) (n : Nat), x = .str (mk z) ∧ y = .int n ∧ 2 ≤ n ∧ n ≤ 1000 ∧ z.length ≤ 1000 ∧ z ≠ [] ∧ Q (.str (mk (List.replicate n z).flatten)) H ∨ x = .str (mk z) ∧ y = .int n ∧ n = 1 ∧ Q (.str (mk z)) H) := by
  intro pins s σ H x y v u Q I rx ry h
  obtain ⟨z, n, ⟨rfl, rfl, h1, h2, h3, h4, q⟩ | ⟨rfl, rfl, rfl, q⟩⟩ := h
  · obtain ⟨t, rfl⟩ := rx
    obtain ⟨t', rfl⟩ := ry
    have hz : z.length ≠ 0 := fun e => h4 (List.eq_nil_of_length_eq_zero e)
    have e2 : (((n : Int) == 1) || ((mk z).length == 0)) = false := by
      rw [mk_len]
      have a : ((n : Int) == 1) = false := by simpa using (by omega : ¬ (n : Int) = 1)
      have b : (z.length == 0) = false := by simpa using hz
      rw [a, b]; rfl
    refine PySem.P.mul_str (by simp; omega) (fun _ _ => ?_) (fun _ _ => ?_) ?_
    · have hn : (0 : Int) < n := by omega
      have : ((mk z).length : Int) ≤ (2 ^ 63 - 1) / n := by
        rw [mk_len, Int.le_ediv_iff_mul_le hn]
        have : (z.length : Int) * n ≤ 1000 * 1000 := by
          have := Nat.mul_le_mul h3 h2
          exact_mod_cast this
        omega
      omega
    · show Builtin.Str.tooLong ((mk z).length * (n : Int).toNat) = false
      rw [mk_len, Int.toNat_natCast]
      have := Nat.mul_le_mul h3 h2
      unfold Builtin.Str.tooLong
      simp only [decide_eq_false_iff_not, gt_iff_lt, Nat.not_lt]
      exact Nat.le_trans this (by decide)
    · rw [if_neg (by omega : ¬ (n : Int) < 1), if_neg (by rw [e2]; decide)]
      have ef : List.foldl (fun x1 x2 => x1 ++ x2) #[] (List.replicate (n : Int).toNat (mk z).cps) = (mk (List.replicate n z).flatten).cps := by
        rw [Int.toNat_natCast, rep_fold]
        show #[] ++ _ = _
        rw [Array.empty_append]; rfl
      rw [ef]
      refine ⟨?_, ⟨.str (mk (List.replicate n z).flatten), H, I.tok _, ⟨_, rfl⟩, q⟩⟩
      show (mk (List.replicate n z).flatten).length ≤ sizeLine
      rw [mk_len, List.length_flatten, List.map_replicate, List.sum_replicate_nat]
      exact Nat.le_trans (Nat.mul_le_mul h2 h3) (by decide)
  · obtain ⟨t, rfl⟩ := rx
    obtain ⟨t', rfl⟩ := ry
    refine PySem.P.mul_str (by decide) (fun _ h => by simp at h) (fun _ h => by simp at h) ?_
    rw [if_neg (by decide), if_pos (by simp)]
    exact ⟨.str (mk z), H, I.tok _, ⟨_, rfl⟩, q⟩
end My
set_option Elab.async false
set_option linter.all false
set_option maxRecDepth 100000
set_option maxHeartbeats 4000000
namespace My
open PySem L2 PySem.Spec PyProof.Rows
section
variable {σ : L2.St} {H : Hp} {Q : VK} {K : PySem.W.Frag}
theorem rd_lc {wi : TI} {g : TG} {tt : TT} {te : TE} {vs : List Nat} (h : wi σ H fun J H1 => ∀ D, H1 D = none → ∃ W : Nat → Nat → Hp → Prop, (∃ m, W 0 m (upd H1 D (.lst []))) ∧ ∀ i m H, W i m H →
    (J.stop i H ∧ Q (.ref D) H) ∨ (J.go i H ∧ ∃ Nx : Hp → Prop, (∀ H', Nx H' → ∃ m', m' < m ∧ W (i + 1) m' H') ∧ ∀ x H', J.yld i H x H' → g x (wipe σ vs) H' fun σ2 H2 => wipe σ2 vs = wipe σ vs ∧ tt σ2 H2 fun b H3 =>
      if b = true then te σ2 H3 fun y H4 => ∃ acc, H4 D = some (.lst acc) ∧ acc.length < sizeLine ∧ Nx (upd H4 D (.lst (acc ++ [y]))) else Nx H3)) : tLc wi g tt te vs σ H Q := h
theorem rd_iStr {te : TE} {R : It → Hp → Prop} (h : te σ H fun v H1 => ∃ x, v = .str x ∧ R (Its x) H1) : iStr te σ H R := h
theorem rd_S {R : Str → Prop} {z : Str} (h : R z) : ∃ x, (V.str z) = .str x ∧ R x := ⟨z, rfl, h⟩
theorem rd_ite_nt {A B : Prop} (h : B) : if (!true) = true then A else B := by rw [if_neg (by decide)]; exact h
theorem rd_ite_nf {A B : Prop} (h : A) : if (!false) = true then A else B := by rw [if_pos (by decide)]; exact h
theorem rd_yes {R : Bool → Hp → Prop} (h : R true H) : tYes σ H R := h
end
theorem Paired.snoc {α β : Type} {F : α → β → Prop} : ∀ {l : List α} {m : List β} {a : α} {b : β}, Paired F l m → F a b → Paired F (l ++ [a]) (m ++ [b])
  | _, _, _, _, .nil, h => .cons h .nil
  | _, _, _, _, .cons x t, h => .cons x (Paired.snoc t h)
theorem filter_take {α : Type} {l : List α} {i : Nat} {x : α} (p : α → Bool) (h : l[i]? = some x) : (l.take (i + 1)).filter p = (l.take i).filter p ++ (if p x = true then [x] else []) := by
  obtain ⟨hi, e⟩ := List.getElem?_eq_some_iff.mp h
  rw [List.take_succ, h, Option.toList_some, List.filter_append]
  congr 1
  by_cases c : p x = true
  · rw [if_pos c, List.filter_cons_of_pos c]; rfl
  · rw [if_neg c, List.filter_cons_of_neg c]; rfl
section
variable {J : It} {n : Nat} {G : Hp → Prop} {Y : Nat → Hp → V → Hp → Prop} {g : TG} {tt : TT} {te : TE} {vs : List Nat} {σ : L2.St} {H1 : Hp} {D : Addr} {Qd : Hp → Prop}
/-- a comprehension whose turns keep all that stood: what it makes of each item is told by Rel -/
theorem lcR (w : Walk J n G Y) {src : List V} (hn : n = src.length) (hY : ∀ i H x H', Y i H x H' → H' = H ∧ src[i]? = some x) (hD : H1 D = none) (hG : ∀ H', Same H1 H' → G H') (small : src.length < sizeLine)
    (p : V → Bool) (Rel : Hp → V → V → Prop) (mono : ∀ H H' x y, But D H H' → Rel H x y → Rel H' x y)
    (hs : ∀ (i : Nat) (x : V) (Hc : Hp), src[i]? = some x → Same H1 Hc → (∃ l, Hc D = some (.lst l)) → ∀ (F : V → Hp → Prop) (N : Hp → Prop), (p x = true → ∀ y Hd, Same Hc Hd → Rel Hd x y → F y Hd) → (p x = false → ∀ Hd, Same Hc Hd → N Hd) →
      g x (wipe σ vs) Hc fun σ2 H2 => wipe σ2 vs = wipe σ vs ∧ tt σ2 H2 fun b H3 => if b = true then te σ2 H3 F else N H3)
    (hd : ∀ H' ys, Same H1 H' → H' D = some (.lst ys) → Paired (Rel H') (src.filter p) ys → Qd H') :
    ∃ W : Nat → Nat → Hp → Prop, (∃ m, W 0 m (upd H1 D (.lst []))) ∧ ∀ i m H, W i m H →
      (J.stop i H ∧ Qd H) ∨ (J.go i H ∧ ∃ Nx : Hp → Prop, (∀ H', Nx H' → ∃ m', m' < m ∧ W (i + 1) m' H') ∧ ∀ x H', J.yld i H x H' → g x (wipe σ vs) H' fun σ2 H2 => wipe σ2 vs = wipe σ vs ∧ tt σ2 H2 fun b H3 =>
        if b = true then te σ2 H3 fun y H4 => ∃ acc, H4 D = some (.lst acc) ∧ acc.length < sizeLine ∧ Nx (upd H4 D (.lst (acc ++ [y]))) else Nx H3) := by
  subst hn
  refine lc_it w (fun i H => Same H1 H ∧ ∃ ys, H D = some (.lst ys) ∧ Paired (Rel H) ((src.take i).filter p) ys) ⟨same_new hD _, [], upd_same, .nil⟩ (fun i H _ q => hG H q.1) ?_ ?_
  · rintro i x H H' hi ⟨sm, ys, hy, pr⟩ y0
    obtain ⟨rfl, hx⟩ := hY i H x H' y0
    refine hs i x H' hx sm ⟨_, hy⟩ _ _ (fun hp y Hd sd hr => ?_) (fun hp Hd sd => ?_)
    · have len : ys.length < sizeLine := by
        have e := pr.length
        have l1 := List.length_filter_le p (src.take i)
        rw [List.length_take] at l1
        omega
      refine ⟨ys, sd _ _ hy, len, (sm.trans sd).mut hD, ys ++ [y], upd_same, ?_⟩
      rw [filter_take p hx, if_pos hp]
      have bt : But D H' (upd Hd D (.lst (ys ++ [y]))) := (Same.but sd).upd
      have bd : But D Hd (upd Hd D (.lst (ys ++ [y]))) := (But.refl Hd).upd
      exact Paired.snoc (Paired.mapP pr fun a b z => mono _ _ _ _ bt z) (mono _ _ _ _ bd hr)
    · refine ⟨sm.trans sd, ys, sd _ _ hy, ?_⟩
      rw [filter_take p hx, if_neg (by rw [hp]; decide), List.append_nil]
      exact Paired.mapP pr fun a b z => mono _ _ _ _ (Same.but sd) z
  · rintro H ⟨sm, ys, hy, pr⟩
    rw [List.take_length] at pr
    exact hd H ys sm hy pr
/-- .. what it makes of each item is a value without objects -/
theorem lcP (w : Walk J n G Y) {src : List V} (hn : n = src.length) (hY : ∀ i H x H', Y i H x H' → H' = H ∧ src[i]? = some x) (hD : H1 D = none) (hG : ∀ H', Same H1 H' → G H') (small : src.length < sizeLine)
    (p : V → Bool) (f : V → V)
    (hs : ∀ (i : Nat) (x : V) (Hc : Hp), src[i]? = some x → Same H1 Hc → ∀ (F : V → Hp → Prop) (N : Hp → Prop), (p x = true → ∀ Hd, Same Hc Hd → F (f x) Hd) → (p x = false → ∀ Hd, Same Hc Hd → N Hd) →
      g x (wipe σ vs) Hc fun σ2 H2 => wipe σ2 vs = wipe σ vs ∧ tt σ2 H2 fun b H3 => if b = true then te σ2 H3 F else N H3)
    (hd : ∀ H', Same H1 H' → H' D = some (.lst ((src.filter p).map f)) → Qd H') :
    ∃ W : Nat → Nat → Hp → Prop, (∃ m, W 0 m (upd H1 D (.lst []))) ∧ ∀ i m H, W i m H →
      (J.stop i H ∧ Qd H) ∨ (J.go i H ∧ ∃ Nx : Hp → Prop, (∀ H', Nx H' → ∃ m', m' < m ∧ W (i + 1) m' H') ∧ ∀ x H', J.yld i H x H' → g x (wipe σ vs) H' fun σ2 H2 => wipe σ2 vs = wipe σ vs ∧ tt σ2 H2 fun b H3 =>
        if b = true then te σ2 H3 fun y H4 => ∃ acc, H4 D = some (.lst acc) ∧ acc.length < sizeLine ∧ Nx (upd H4 D (.lst (acc ++ [y]))) else Nx H3) :=
  lcR w hn hY hD hG small p (fun _ x y => y = f x) (fun _ _ _ _ _ z => z) (fun i x Hc hx sm _ F N h1 h2 => hs i x Hc hx sm F N (fun e Hd sd => h1 e _ Hd sd rfl) h2) (fun H' ys sm hy pr => hd H' sm (by
    have e : ∀ {a b : List V}, Paired (fun x y => y = f x) a b → b = a.map f := fun {a b} z => by
      induction z with
      | nil => rfl
      | cons x _ ih => rw [List.map_cons, x, ih]
    rw [← e pr]; exact hy))
theorem yat_list {xs : List V} : ∀ (i : Nat) (H : Hp) (x : V) (H' : Hp), YAt xs i H x H' → H' = H ∧ xs[i]? = some x := fun _ _ _ _ z => z
theorem walk_strs (l : List Nat) : Walk (Its (mk l)) l.length (fun _ => True) (YAt (l.map fun c => V.str (mk [c]))) := by
  have e : (mk l).cps.size = l.length := by show l.toArray.size = _; simp
  have w := walk_str (z := mk l)
  rw [e] at w
  refine w.mono (fun _ h => h) (fun i H x H' _ _ y => ⟨y.1, ?_⟩)
  obtain ⟨c, hc, ev⟩ := y.2
  have hc' : l[i]? = some c := by
    have q : (mk l).cps[i]? = l[i]? := by show l.toArray[i]? = _; simp
    rw [← q]; exact hc
  rw [List.getElem?_map, hc', ev]; rfl
theorem walk_rng (n : Nat) : Walk (Itr 0 ((n : Nat) : Int).toNat) n (fun _ => True) (YAt ((List.range n).map fun i => V.int (i : Nat))) :=
  (walk_range (lo := 0) (n := n)).mono (fun _ h => h) (fun i H x H' hi _ y => ⟨y.1, by
    rw [List.getElem?_map, List.getElem?_range hi, y.2]
    show some (V.int (i : Nat)) = some (V.int (0 + (i : Nat)))
    rw [Int.zero_add]⟩)
end
/-! ### all, isinstance -/
section
variable {K : PySem.W.Frag} {H : Hp} {Q : VK} {x : V}
theorem rd_all {p : Addr} {bs : List Bool} (h : SqL K H p (bs.map V.bl)) (q : Q (.bl (bs.all id)) H) : rAll K [.ref p] H Q := ⟨p, bs, rfl, h, q⟩
theorem rd_isi {t T : String} {b : Bool} (ty : TyX K H x (.type t)) (h : kitB t T = some b) (q : Q (.bl b) H) : rIsi K [x, .ty T] H Q := ⟨x, .ty T, .type t, .type T, b, rfl, .ty T, ty, kit_ty h, q⟩
theorem rd_isi2 {p : Addr} {t T1 T2 : String} {b1 b2 : Bool} (hp : H p = some (.tup [.ty T1, .ty T2])) (ty : TyX K H x (.type t)) (h1 : kitB t T1 = some b1) (h2 : kitB t T2 = some b2) (q : Q (.bl (b1 || b2)) H) : rIsiT K [x, .ref p] H Q := by
  refine ⟨x, p, _, .type t, [.type T1, .type T2], b1 || b2, rfl, hp, .cons (.ty T1) (.cons (.ty T2) .nil), ty, ?_, q⟩
  cases b1 with
  | true => exact kitAny_cons (kit_ty h1) (fun z => by cases z) (fun _ => rfl)
  | false =>
    refine kitAny_cons (kit_ty h1) (fun _ => ?_) (fun z => by cases z)
    cases b2 with
    | true => exact kitAny_cons (kit_ty h2) (fun z => by cases z) (fun _ => rfl)
    | false => exact kitAny_cons (kit_ty h2) (fun _ => kitAny_nil) (fun z => by cases z)
theorem ty_str {z : Str} : TyX K H (.str z) (.type "str") := .base (.str z)
theorem ty_lst {p : Addr} {xs : List V} (h : H p = some (.lst xs)) : TyX K H (.ref p) (.type "list") := .base (.lst h)
theorem ty_tup {p : Addr} {xs : List V} (h : H p = some (.tup xs)) : TyX K H (.ref p) (.type "tuple") := .base (.tup h)
theorem ty_dic {p : Addr} {kvs : List (Key × V)} (h : H p = some (.dK kvs)) : TyX K H (.ref p) (.type "dict") := .base (.dK h)
end
theorem in_strs (z : List Nat) : ∀ (L : List (List Nat)), inV (.str (mk z)) (L.map fun y => V.str (mk y)) = decide (z ∈ L)
  | [] => by simp [inV]
  | a :: r => by
    have ih := in_strs z r
    unfold inV at ih ⊢
    rw [List.map_cons, List.any_cons, ih]
    have e : eqV (V.str (mk a)) (.str (mk z)) = decide (z = a) := by
      show (mk a == mk z) = _
      by_cases h : z = a
      · subst h; simp
      · rw [decide_eq_false h]; exact beq_eq_false_iff_ne.mpr fun q => h (mk_inj q).symm
    rw [e]
    by_cases h : z = a
    · subst h; simp
    · simp [h]
theorem flat_strs (L : List (List Nat)) : (L.map fun y => V.str (mk y)).all flatV = true := by simp [flatV]
end My
set_option Elab.async false
set_option linter.all false
set_option maxRecDepth 100000
set_option maxHeartbeats 4000000
namespace My
open PySem L2 PySem.Spec PyProof.Rows
section
variable {X : Cx}
/-- y = {k: v for ..} on one line, y a local -/
theorem ps_setDc {i : Nat} {y : Str} {py : Pos} {kx vx tg iter : Expr} {ifs : List Expr} {scope : Scope} {own : List (Str × Nat)} {pos spos : Pos} {wi : TI} {g : TG} {tt : TT} {tk tv : TE} (calm : X.calm = true) (nd : X.N.Nodup) (sl : X.N[i]? = some y) (lo : X.env.scope.names.lookup y = some .local)
    (sw : swapsWith (.DictComp kx vx [⟨tg, iter, ifs, 0⟩] scope pos) (some (.Name y py)) spos.line X.env = pure true) (hi : PI X tg iter wi) (ok : BlkOk X.N X.env.scope scope own)
    (hg : ∀ (s : Shared) (H : Hp) (C : Addr) (cl : List (Str × Addr)) (fp : List Addr), PG (X.blk s H scope (compEnvC scope cl C X.env) fp) tg g)
    (ht : ∀ (s : Shared) (H : Hp) (C : Addr) (cl : List (Str × Addr)) (fp : List Addr), PTs (X.blk s H scope (compEnvC scope cl C X.env) fp) ifs tt)
    (hk : ∀ (s : Shared) (H : Hp) (C : Addr) (cl : List (Str × Addr)) (fp : List Addr), PE (X.blk s H scope (compEnvC scope cl C X.env) fp) kx tk)
    (hv : ∀ (s : Shared) (H : Hp) (C : Addr) (cl : List (Str × Addr)) (fp : List Addr), PE (X.blk s H scope (compEnvC scope cl C X.env) fp) vx tv)
    (hs : ∀ x, foldedSetIterable iter X.env x = pure x := by intro _; rfl) : PS X (.Assign [.Name y py] (.DictComp kx vx [⟨tg, iter, ifs, 0⟩] scope pos) spos) (tAsg (tDc wi g tt tk tv (own.map (·.2))) (gName i)) := by
  refine ⟨fun pins s σ H D I rd => ?_⟩
  have rd' : tDc wi g tt tk tv (own.map (·.2)) σ H (fun x H1 => gName i x σ H1 D.nx) := rd
  rw [exec_Assign_Name_used _ _ _ _ sw]
  refine wpAny_bind (wpAny_standAt (wpAny_bind ?_))
  show wpAny _ X.A (comprehension (.DictComp kx vx [⟨tg, iter, ifs, 0⟩] scope pos) scope X.env (firstIterPos [⟨tg, iter, ifs, 0⟩] pos) newDict false (eval iter X.env) (some (assign (.Name y py) X.env)) >>= fun _ => _) _ _ s
  have core := dc_core (pos := pos) (pos' := firstIterPos [⟨tg, iter, ifs, 0⟩] pos) (use := some (assign (.Name y py) X.env)) (Qf := fun _ s' => SP X pins D .next s') calm nd I hi ok hg ht hk hv hs rd' fun L C s' m H' I' q ns fp => by
    show wpAny _ _ (assign (.Name y py) X.env (.ref L)) _ _ _
    refine wpAny_assign_Name (store_ok2 (v := V.ref L) I' nd sl (.inl lo) rfl (fun s2 I2 st => ?_) (.inr lo))
    obtain ⟨e, same, at'⟩ := st
    obtain ⟨p0, p1, p2, p3, p4, p5⟩ := fp
    have ne : C ≠ e := at'.elim (fun z => z ▸ p1) fun z => fun w => p4 y e z w.symm
    exact ⟨m, ns.sameBut same ne, fun h3 sb => ⟨_, H', I2.turned (t' := s2.toks) (fun b o hb w => (sb.2 b hb).trans w) p0 p1 p3 p4 p5, q⟩⟩
  exact wpAny_bind (thn core fun _ s' z => wpAny_pure (wpAny_pure z))
theorem sw_trueD {kx vx : Expr} {gs : List Comprehension} {scope : Scope} {pos py : Pos} {y : Str} {l : Nat} {env : Env} (h1 : env.scope.kind = .function) (h2 : env.scope.names.lookup y = some .local) (h3 : (py.line == pos.line) = true)
    (h4 : (scope.names.any fun (n, k) => n == y && (k == .local || k == .cell)) = false) : swapsWith (.DictComp kx vx gs scope pos) (some (.Name y py)) l env = pure true := by
  have bk : env.blockKind = .function := by unfold Env.blockKind; rw [h1]; rfl
  have kd : env.kindOf y = some .local := h2
  unfold swapsWith
  simp only [bk, kd, h4, Expr.pos, h3]
  rfl
end
section
variable {J : It} {n : Nat} {G : Hp → Prop} {Y : Nat → Hp → V → Hp → Prop} {g : TG} {tt : TT} {tk tv : TE} {vs : List Nat} {σ : L2.St} {H H1 : Hp} {D : Addr} {Qd : Hp → Prop} {wi : TI} {Q : VK}
theorem rd_dc (h : wi σ H fun J H1 => ∀ D, H1 D = none → ∃ W : Nat → Nat → Hp → Prop, (∃ m, W 0 m (upd H1 D (.dK []))) ∧ ∀ i m H, W i m H →
  (J.stop i H ∧ Q (.ref D) H) ∨ (J.go i H ∧ ∃ Nx : Hp → Prop, (∀ H', Nx H' → ∃ m', m' < m ∧ W (i + 1) m' H') ∧ ∀ x H', J.yld i H x H' → g x (wipe σ vs) H' fun σ2 H2 => wipe σ2 vs = wipe σ vs ∧ tt σ2 H2 fun b H3 =>
    if b = true then tk σ2 H3 fun y H4 => tv σ2 H4 fun z H5 => ∃ kvs k, y = kV k ∧ H5 D = some (.dK kvs) ∧ kvs.length < sizeLine ∧ Nx (upd H5 D (.dK (putK kvs k z))) else Nx H3)) : tDc wi g tt tk tv vs σ H Q := h
theorem putK_len1 (c : List (Key × V)) (k : Key) (x : V) : (putK c k x).length ≤ c.length + 1 := by
  unfold putK
  split
  · rw [List.length_map]; exact Nat.le_succ _
  · rw [List.length_append]; exact Nat.le_refl _
theorem mergeK_len (kvs : List (Key × V)) : ∀ acc : List (Key × V), (mergeK acc kvs).length ≤ acc.length + kvs.length := by
  induction kvs with
  | nil => intro acc; exact Nat.le_refl _
  | cons a r ih =>
    intro acc
    have h1 := ih (putK acc a.1 a.2)
    have h2 := putK_len1 acc a.1 a.2
    show (mergeK (putK acc a.1 a.2) r).length ≤ acc.length + (r.length + 1)
    omega
/-- a dict of keys and values without objects, no test -/
theorem dcP (w : Walk J n G Y) {src : List V} (hn : n = src.length) (hY : ∀ i H x H', Y i H x H' → H' = H ∧ src[i]? = some x) (hD : H1 D = none) (hG : ∀ H', Same H1 H' → G H') (small : src.length < sizeLine)
    (f : V → Key × V)
    (hs : ∀ (i : Nat) (x : V) (Hc : Hp), src[i]? = some x → Same H1 Hc → ∀ (F : V → V → Hp → Prop) (N : Hp → Prop), F (kV (f x).1) (f x).2 Hc →
      g x (wipe σ vs) Hc fun σ2 H2 => wipe σ2 vs = wipe σ vs ∧ tt σ2 H2 fun b H3 => if b = true then tk σ2 H3 fun y H4 => tv σ2 H4 fun z H5 => F y z H5 else N H3)
    (hd : ∀ H', Same H1 H' → H' D = some (.dK (mergeK [] (src.map f))) → Qd H') :
    ∃ W : Nat → Nat → Hp → Prop, (∃ m, W 0 m (upd H1 D (.dK []))) ∧ ∀ i m H, W i m H →
      (J.stop i H ∧ Qd H) ∨ (J.go i H ∧ ∃ Nx : Hp → Prop, (∀ H', Nx H' → ∃ m', m' < m ∧ W (i + 1) m' H') ∧ ∀ x H', J.yld i H x H' → g x (wipe σ vs) H' fun σ2 H2 => wipe σ2 vs = wipe σ vs ∧ tt σ2 H2 fun b H3 =>
        if b = true then tk σ2 H3 fun y H4 => tv σ2 H4 fun z H5 => ∃ kvs k, y = kV k ∧ H5 D = some (.dK kvs) ∧ kvs.length < sizeLine ∧ Nx (upd H5 D (.dK (putK kvs k z))) else Nx H3) := by
  subst hn
  refine ⟨fun i m H => m = src.length - i ∧ i ≤ src.length ∧ Same H1 H ∧ H D = some (.dK (mergeK [] ((src.take i).map f))), ⟨_, rfl, Nat.zero_le _, same_new hD _, upd_same⟩, ?_⟩
  rintro i m H ⟨rfl, hi, sm, hy⟩
  by_cases lt : i < src.length
  · refine .inr ⟨w.goes i H lt (hG H sm), fun H' => Same H1 H' ∧ H' D = some (.dK (mergeK [] ((src.take (i + 1)).map f))), fun H' q => ⟨_, by omega, rfl, lt, q.1, q.2⟩, fun x H' yl => ?_⟩
    obtain ⟨rfl, hx⟩ := hY i H x H' (w.yields i H x H' lt (hG H sm) yl)
    refine hs i x H' hx sm (fun y z H5 => ∃ kvs k, y = kV k ∧ H5 D = some (.dK kvs) ∧ kvs.length < sizeLine ∧ (fun H' => Same H1 H' ∧ H' D = some (.dK (mergeK [] ((src.take (i + 1)).map f)))) (upd H5 D (.dK (putK kvs k z)))) _ ?_
    refine ⟨_, _, rfl, hy, ?_, sm.mut hD, ?_⟩
    · refine Nat.lt_of_le_of_lt (mergeK_len _ _) ?_
      rw [List.length_map, List.length_take]
      show 0 + _ < _
      omega
    · rw [upd_same, List.take_succ, hx]
      show some (HO.dK _) = some (HO.dK (mergeK [] ((src.take i ++ [x]).map f)))
      rw [List.map_append]
      unfold mergeK
      rw [List.foldl_append]; rfl
  · have e : i = src.length := by omega
    subst e
    rw [List.take_length] at hy
    exact .inl ⟨w.stops H (hG H sm), hd H sm hy⟩
end
/-- a while by a number that falls -/
theorem whl {c : TT} {tb : TS} {D : Ends} {σ : L2.St} {H : Hp} (Pv : Nat → L2.St → Hp → Prop) (m0 : Nat) (h0 : Pv m0 σ H)
    (hs : ∀ m σ H, Pv m σ H → c σ H fun b H1 => if b = true then ∃ N : L2.St → Hp → Prop, (∀ σ' H', N σ' H' → ∃ m', m' < m ∧ Pv m' σ' H') ∧ tb { D with nx := N, ct := N, bk := D.nx } σ H1 else D.nx σ H1) : tWhile c tb D σ H :=
  ⟨Pv, ⟨m0, h0⟩, hs⟩
end My
local macro_rules | `(tactic| walk_at "hp") => `(tactic| first | assumption | exact L2.upd_same | (rw [L2.upd_ne (by assumption)]; walk_at "hp"))
local macro_rules | `(tactic| walk_at "sq") => `(tactic| first | assumption | exact My.sq_upd | exact L2.SqL.of (by walk_at "hp"))
local macro_rules | `(tactic| walk_at "st") => `(tactic| first | assumption | exact My.st_upd | exact L2.SqT.of (by walk_at "hp"))
local macro_rules | `(tactic| walk_at "cnd") => `(tactic| first | decide | omega | (refine ⟨?_, ?_⟩ <;> omega) | (refine ⟨?_, ?_, ?_⟩ <;> first | omega | decide) | (refine Or.inl ⟨?_, ?_⟩ <;> omega) | (refine Or.inr ⟨?_, ?_⟩ <;> omega))
local macro_rules | `(tactic| walk_at "rd1") => `(tactic| first
  | with_reducible first
    | refine My.rd_seq ?_ | refine My.rd_next ?_ | refine My.rd_ret ?_ | refine My.rd_retN ?_ | refine My.rd_drop ?_ | refine My.rd_ifS ?_
    | refine My.rd_c ?_ | refine My.rd_op ?_ | refine My.rd_un ?_ | refine My.rd_I0 ?_ | refine My.rd_U ?_ | refine My.rd_test ?_ | refine My.rd_B ?_ | refine My.rd_bl ?_
    | refine My.rd_and ?_ | refine My.rd_or ?_ | refine My.rd_not ?_ | refine My.rd_if ?_ | refine My.rd_andV ?_ | refine My.rd_orV ?_ | refine My.rd_notV ?_ | refine My.rd_nil ?_ | refine My.rd_cons ?_
    | refine My.rd_call ?_ | refine My.rd_CB ?_ | refine My.rd_sl ?_ | refine My.rd_noP ?_ | refine My.rd_P ?_ | refine My.rd_Pi ?_ | refine My.rd_par ?_ | refine My.rd_par2 ?_ | refine My.rd_ite_t ?_ | refine My.rd_ite_f ?_ | refine My.rd_ite_nt ?_ | refine My.rd_ite_nf ?_ | refine My.rd_lc ?_ | refine My.rd_dc ?_ | refine My.rd_iStr ?_ | refine My.rd_S ?_ | refine My.rd_yes ?_ | refine My.rd_chain ?_
    | refine My.rd_lst ?_ | refine My.rd_tup ?_ | refine My.rd_BM ?_ | refine My.rd_asgS ?_ | refine My.rd_gSub ?_ | refine My.rd_truB ?_ | refine My.rd_truI ?_ | refine My.rd_int1 ?_ | refine My.rd_int1b ?_ | refine My.rd_e1 ?_ | refine My.rd_e2 ?_ | refine My.rd_str ?_ | refine My.rd_setN ?_ | refine My.rd_break ?_ | refine My.rd_cont ?_ | refine My.rd_for ?_ | refine My.rd_iR1 ?_ | refine My.rd_iR2 ?_ | refine My.rd_iL ?_ | refine My.rd_iT ?_ | refine My.rd_gName ?_
  | ((with_reducible refine' My.rd_var ?h ?_); (case h => exact rfl))
  | ((with_reducible refine' My.rd_ixL ?h ?a ?_); (case h => walk_at "sq"); (case a => exact rfl))
  | ((with_reducible refine' My.rd_ixT ?h ?a ?_); (case h => walk_at "st"); (case a => exact rfl))
  | ((with_reducible refine' My.rd_I ?c ?_); (case c => walk_at "cnd"))
  | ((with_reducible refine' My.rd_eq ?h ?_); (case h => exact rfl))
  | ((with_reducible refine' My.rd_ne ?h ?_); (case h => exact rfl))
  | ((with_reducible refine' My.rd_setL ?h ?a ?e ?_); (case h => walk_at "hp"); (case a => exact rfl); (case e => first | ((conv => lhs; simp only [Int.toNat_zero, Int.toNat_one, Int.reduceToNat, List.set_cons_zero, List.set_cons_succ])) | exact rfl))
  | ((with_reducible refine' My.rd_lenL ?h ?_); (case h => walk_at "sq"))
  | ((with_reducible refine' My.rd_lenT ?h ?_); (case h => walk_at "st"))
  | ((with_reducible refine' My.rd_append ?h ?l ?_); (case h => walk_at "hp"); (case l => first | omega | (simp only [List.length_append, List.length_map, List.length_cons, List.length_nil] <;> omega)))
  | ((with_reducible refine' And.intro (My.rd_tyL ?h) ?_); (case h => walk_at "sq")))
local macro_rules | `(tactic| walk_at "rd") => `(tactic| (repeat walk_at "rd1"))
local macro_rules | `(tactic| walk_at "rd0") => `(tactic| ((try simp only [My.cxK, My.cxK', My.start_eq, My.st0, My.nones, List.length_cons, List.length_nil, Nat.reduceAdd, Nat.reduceSub]); (repeat walk_at "rd1")))
set_option Elab.async false
set_option linter.all false
set_option maxRecDepth 100000
set_option maxHeartbeats 4000000

namespace K01
open PySem L2 My
def topS (i : Nat) : Stmt := PySem.Challenge.pw_cutsure_k01_free_names_far_along.main.body.getD i (.Pass ⟨0, 0, 0, 0⟩)
def gSwap {α : Type} (_ ws : List α) : List α := match ws with
  | [a, b] => [b, a]
  | _ => []
abbrev s_law_cell : Stmt := topS 18
abbrev N_law_cell : List Str := ["script", "k"]
theorem sc_law_cell : FnScope N_law_cell ["script", "k"] (defScope s_law_cell) := ⟨rfl, rfl, rfl, by decide +kernel, rfl, by decide +kernel, by decide +kernel⟩
abbrev s_law_box : Stmt := topS 19
abbrev N_law_box : List Str := ["great", "small"]
theorem sc_law_box : FnScope N_law_box ["great"] (defScope s_law_box) := ⟨rfl, rfl, rfl, by decide +kernel, rfl, by decide +kernel, by decide +kernel⟩
abbrev s_law_take : Stmt := topS 20
abbrev N_law_take : List Str := ["box", "many", "digit"]
theorem sc_law_take : FnScope N_law_take ["box", "many"] (defScope s_law_take) := ⟨rfl, rfl, rfl, by decide +kernel, rfl, by decide +kernel, by decide +kernel⟩
abbrev s_law_pick : Stmt := topS 21
abbrev N_law_pick : List Str := ["box", "some"]
theorem sc_law_pick : FnScope N_law_pick ["box", "some"] (defScope s_law_pick) := ⟨rfl, rfl, rfl, by decide +kernel, rfl, by decide +kernel, by decide +kernel⟩
abbrev s_law_mixed : Stmt := topS 22
abbrev N_law_mixed : List Str := ["box", "some", "left", "found", "turn"]
theorem sc_law_mixed : FnScope N_law_mixed ["box", "some"] (defScope s_law_mixed) := ⟨rfl, rfl, rfl, by decide +kernel, rfl, by decide +kernel, by decide +kernel⟩
abbrev s_law_behind : Stmt := topS 27
abbrev N_law_behind : List Str := ["number", "found", "left", "turn"]
theorem sc_law_behind : FnScope N_law_behind ["number"] (defScope s_law_behind) := ⟨rfl, rfl, rfl, by decide +kernel, rfl, by decide +kernel, by decide +kernel⟩
abbrev s_law_longer : Stmt := topS 28
abbrev N_law_longer : List Str := ["name", "number", "behind"]
theorem sc_law_longer : FnScope N_law_longer ["name", "number"] (defScope s_law_longer) := ⟨rfl, rfl, rfl, by decide +kernel, rfl, by decide +kernel, by decide +kernel⟩
abbrev s_law_words : Stmt := topS 26
abbrev N_law_words : List Str := []
theorem sc_law_words : FnScope N_law_words [] (defScope s_law_words) := ⟨rfl, rfl, rfl, by decide +kernel, rfl, by decide +kernel, by decide +kernel⟩
abbrev s_letters_at : Stmt := topS 13
abbrev N_letters_at : List Str := ["number", "found", "left"]
theorem sc_letters_at : FnScope N_letters_at ["number"] (defScope s_letters_at) := ⟨rfl, rfl, rfl, by decide +kernel, rfl, by decide +kernel, by decide +kernel⟩
abbrev s_with_letters : Stmt := topS 14
abbrev N_with_letters : List Str := ["name", "number", "letters"]
theorem sc_with_letters : FnScope N_with_letters ["name", "number"] (defScope s_with_letters) := ⟨rfl, rfl, rfl, by decide +kernel, rfl, by decide +kernel, by decide +kernel⟩
abbrev s_is_list : Stmt := topS 10
abbrev N_is_list : List Str := ["value"]
theorem sc_is_list : FnScope N_is_list ["value"] (defScope s_is_list) := ⟨rfl, rfl, rfl, by decide +kernel, rfl, by decide +kernel, by decide +kernel⟩
abbrev s_is_word : Stmt := topS 11
abbrev N_is_word : List Str := ["value"]
theorem sc_is_word : FnScope N_is_word ["value"] (defScope s_is_word) := ⟨rfl, rfl, rfl, by decide +kernel, rfl, by decide +kernel, by decide +kernel⟩
abbrev s_is_name : Stmt := topS 12
abbrev N_is_name : List Str := ["value", "sign"]
theorem sc_is_name : FnScope N_is_name ["value"] (defScope s_is_name) := ⟨rfl, rfl, rfl, by decide +kernel, rfl, by decide +kernel, by decide +kernel⟩
abbrev s_free_from : Stmt := topS 15
abbrev N_free_from : List Str := ["name", "names", "taken", "found", "number", "item"]
theorem sc_free_from : FnScope N_free_from ["name", "names"] (defScope s_free_from) := ⟨rfl, rfl, rfl, by decide +kernel, rfl, by decide +kernel, by decide +kernel⟩
abbrev s_law_free : Stmt := topS 29
abbrev N_law_free : List Str := ["name", "taken", "words", "number", "one"]
theorem sc_law_free : FnScope N_law_free ["name", "taken"] (defScope s_law_free) := ⟨rfl, rfl, rfl, by decide +kernel, rfl, by decide +kernel, by decide +kernel⟩
abbrev s_law_is_name : Stmt := topS 31
abbrev N_law_is_name : List Str := ["value", "sign"]
theorem sc_law_is_name : FnScope N_law_is_name ["value"] (defScope s_law_is_name) := ⟨rfl, rfl, rfl, by decide +kernel, rfl, by decide +kernel, by decide +kernel⟩
abbrev s_law_number : Stmt := topS 34
abbrev N_law_number : List Str := ["behind", "found", "sign"]
theorem sc_law_number : FnScope N_law_number ["behind"] (defScope s_law_number) := ⟨rfl, rfl, rfl, by decide +kernel, rfl, by decide +kernel, by decide +kernel⟩
abbrev s_free_name : Stmt := topS 16
abbrev N_free_name : List Str := ["name", "names", "item"]
theorem sc_free_name : FnScope N_free_name ["name", "names"] (defScope s_free_name) := ⟨rfl, rfl, rfl, by decide +kernel, rfl, by decide +kernel, by decide +kernel⟩
abbrev s_law_asked : Stmt := topS 30
abbrev N_law_asked : List Str := ["name", "names", "named", "e"]
theorem sc_law_asked : FnScope N_law_asked ["name", "names", "named"] (defScope s_law_asked) := ⟨rfl, rfl, rfl, by decide +kernel, rfl, by decide +kernel, by decide +kernel⟩
abbrev s_law_same : Stmt := topS 23
abbrev N_law_same : List Str := ["told", "due", "k"]
theorem sc_law_same : FnScope N_law_same ["told", "due"] (defScope s_law_same) := ⟨rfl, rfl, rfl, by decide +kernel, rfl, by decide +kernel, by decide +kernel⟩
abbrev s_law_copy : Stmt := topS 24
abbrev N_law_copy : List Str := ["value", "one", "key"]
theorem sc_law_copy : FnScope N_law_copy ["value"] (defScope s_law_copy) := ⟨rfl, rfl, rfl, by decide +kernel, rfl, by decide +kernel, by decide +kernel⟩
abbrev s_law_very : Stmt := topS 25
abbrev N_law_very : List Str := ["told", "value", "many"]
theorem sc_law_very : FnScope N_law_very ["told", "value"] (defScope s_law_very) := ⟨rfl, rfl, rfl, by decide +kernel, rfl, by decide +kernel, by decide +kernel⟩
abbrev s_law_names : Stmt := topS 32
abbrev N_law_names : List Str := ["box", "name", "most", "rows", "at", "number", "one", "turn"]
theorem sc_law_names : FnScope N_law_names ["box", "name", "most"] (defScope s_law_names) := ⟨rfl, rfl, rfl, by decide +kernel, rfl, by decide +kernel, by decide +kernel⟩
abbrev s_law_row_right : Stmt := topS 33
abbrev N_law_row_right : List Str := ["box", "name", "most", "named", "names", "taken", "turn", "due", "given", "one"]
theorem sc_law_row_right : FnScope N_law_row_right ["box", "name", "most", "named"] (defScope s_law_row_right) := ⟨rfl, rfl, rfl, by decide +kernel, rfl, by decide +kernel, by decide +kernel⟩
abbrev s_law_words_right : Stmt := topS 35
abbrev N_law_words_right : List Str := ["box", "named", "pairs", "one", "word", "cut", "name", "number", "rows", "due", "k"]
theorem sc_law_words_right : FnScope N_law_words_right ["box", "named"] (defScope s_law_words_right) := ⟨rfl, rfl, rfl, by decide +kernel, rfl, by decide +kernel, by decide +kernel⟩
abbrev s_law_refused_right : Stmt := topS 36
abbrev N_law_refused_right : List Str := ["box", "name", "named", "wrong", "other", "told"]
theorem sc_law_refused_right : FnScope N_law_refused_right ["box", "name", "named"] (defScope s_law_refused_right) := ⟨rfl, rfl, rfl, by decide +kernel, rfl, by decide +kernel, by decide +kernel⟩
abbrev s_law : Stmt := topS 37
abbrev N_law : List Str := ["script", "k", "box", "named", "most", "name"]
theorem sc_law : FnScope N_law ["script"] (defScope s_law) := ⟨rfl, rfl, rfl, by decide +kernel, rfl, by decide +kernel, by decide +kernel⟩
structure Txt (K : PySem.W.Frag) (mg : Str → Option Value) where
  f_law_cell : Addr
  fd_law_cell : FuncData
  F_law_cell : Fun K "_law_cell" "_law_cell" s_law_cell f_law_cell fd_law_cell
  m_law_cell : mg "_law_cell" = some (.ref f_law_cell)
  b_law_cell : Binds K fd_law_cell ["script", "k"] []
  f_law_box : Addr
  fd_law_box : FuncData
  F_law_box : Fun K "_law_box" "_law_box" s_law_box f_law_box fd_law_box
  m_law_box : mg "_law_box" = some (.ref f_law_box)
  b_law_box : Binds K fd_law_box ["great"] []
  f_law_take : Addr
  fd_law_take : FuncData
  F_law_take : Fun K "_law_take" "_law_take" s_law_take f_law_take fd_law_take
  m_law_take : mg "_law_take" = some (.ref f_law_take)
  b_law_take : Binds K fd_law_take ["box", "many"] []
  f_law_pick : Addr
  fd_law_pick : FuncData
  F_law_pick : Fun K "_law_pick" "_law_pick" s_law_pick f_law_pick fd_law_pick
  m_law_pick : mg "_law_pick" = some (.ref f_law_pick)
  b_law_pick : Binds K fd_law_pick ["box", "some"] []
  f_law_mixed : Addr
  fd_law_mixed : FuncData
  F_law_mixed : Fun K "_law_mixed" "_law_mixed" s_law_mixed f_law_mixed fd_law_mixed
  m_law_mixed : mg "_law_mixed" = some (.ref f_law_mixed)
  b_law_mixed : Binds K fd_law_mixed ["box", "some"] []
  f_law_behind : Addr
  fd_law_behind : FuncData
  F_law_behind : Fun K "_law_behind" "_law_behind" s_law_behind f_law_behind fd_law_behind
  m_law_behind : mg "_law_behind" = some (.ref f_law_behind)
  b_law_behind : Binds K fd_law_behind ["number"] []
  f_law_longer : Addr
  fd_law_longer : FuncData
  F_law_longer : Fun K "_law_longer" "_law_longer" s_law_longer f_law_longer fd_law_longer
  m_law_longer : mg "_law_longer" = some (.ref f_law_longer)
  b_law_longer : Binds K fd_law_longer ["name", "number"] []
  f_law_words : Addr
  fd_law_words : FuncData
  F_law_words : Fun K "_law_words" "_law_words" s_law_words f_law_words fd_law_words
  m_law_words : mg "_law_words" = some (.ref f_law_words)
  b_law_words : Binds K fd_law_words [] []
  f_letters_at : Addr
  fd_letters_at : FuncData
  F_letters_at : Fun K "letters_at" "letters_at" s_letters_at f_letters_at fd_letters_at
  m_letters_at : mg "letters_at" = some (.ref f_letters_at)
  b_letters_at : Binds K fd_letters_at ["number"] []
  f_with_letters : Addr
  fd_with_letters : FuncData
  F_with_letters : Fun K "with_letters" "with_letters" s_with_letters f_with_letters fd_with_letters
  m_with_letters : mg "with_letters" = some (.ref f_with_letters)
  b_with_letters : Binds K fd_with_letters ["name", "number"] []
  f_is_list : Addr
  fd_is_list : FuncData
  F_is_list : Fun K "is_list" "is_list" s_is_list f_is_list fd_is_list
  m_is_list : mg "is_list" = some (.ref f_is_list)
  b_is_list : Binds K fd_is_list ["value"] []
  f_is_word : Addr
  fd_is_word : FuncData
  F_is_word : Fun K "is_word" "is_word" s_is_word f_is_word fd_is_word
  m_is_word : mg "is_word" = some (.ref f_is_word)
  b_is_word : Binds K fd_is_word ["value"] []
  f_is_name : Addr
  fd_is_name : FuncData
  F_is_name : Fun K "is_name" "is_name" s_is_name f_is_name fd_is_name
  m_is_name : mg "is_name" = some (.ref f_is_name)
  b_is_name : Binds K fd_is_name ["value"] []
  f_free_from : Addr
  fd_free_from : FuncData
  F_free_from : Fun K "free_from" "free_from" s_free_from f_free_from fd_free_from
  m_free_from : mg "free_from" = some (.ref f_free_from)
  b_free_from : Binds K fd_free_from ["name", "names"] []
  f_law_free : Addr
  fd_law_free : FuncData
  F_law_free : Fun K "_law_free" "_law_free" s_law_free f_law_free fd_law_free
  m_law_free : mg "_law_free" = some (.ref f_law_free)
  b_law_free : Binds K fd_law_free ["name", "taken"] []
  f_law_is_name : Addr
  fd_law_is_name : FuncData
  F_law_is_name : Fun K "_law_is_name" "_law_is_name" s_law_is_name f_law_is_name fd_law_is_name
  m_law_is_name : mg "_law_is_name" = some (.ref f_law_is_name)
  b_law_is_name : Binds K fd_law_is_name ["value"] []
  f_law_number : Addr
  fd_law_number : FuncData
  F_law_number : Fun K "_law_number" "_law_number" s_law_number f_law_number fd_law_number
  m_law_number : mg "_law_number" = some (.ref f_law_number)
  b_law_number : Binds K fd_law_number ["behind"] []
  f_free_name : Addr
  fd_free_name : FuncData
  F_free_name : Fun K "free_name" "free_name" s_free_name f_free_name fd_free_name
  m_free_name : mg "free_name" = some (.ref f_free_name)
  b_free_name : Binds K fd_free_name ["name", "names"] []
  f_law_asked : Addr
  fd_law_asked : FuncData
  F_law_asked : Fun K "_law_asked" "_law_asked" s_law_asked f_law_asked fd_law_asked
  m_law_asked : mg "_law_asked" = some (.ref f_law_asked)
  b_law_asked : Binds K fd_law_asked ["name", "names", "named"] []
  f_law_same : Addr
  fd_law_same : FuncData
  F_law_same : Fun K "_law_same" "_law_same" s_law_same f_law_same fd_law_same
  m_law_same : mg "_law_same" = some (.ref f_law_same)
  b_law_same : Binds K fd_law_same ["told", "due"] []
  f_law_copy : Addr
  fd_law_copy : FuncData
  F_law_copy : Fun K "_law_copy" "_law_copy" s_law_copy f_law_copy fd_law_copy
  m_law_copy : mg "_law_copy" = some (.ref f_law_copy)
  b_law_copy : Binds K fd_law_copy ["value"] []
  f_law_very : Addr
  fd_law_very : FuncData
  F_law_very : Fun K "_law_very" "_law_very" s_law_very f_law_very fd_law_very
  m_law_very : mg "_law_very" = some (.ref f_law_very)
  b_law_very : Binds K fd_law_very ["told", "value"] []
  f_law_names : Addr
  fd_law_names : FuncData
  F_law_names : Fun K "_law_names" "_law_names" s_law_names f_law_names fd_law_names
  m_law_names : mg "_law_names" = some (.ref f_law_names)
  b_law_names : Binds K fd_law_names ["box", "name", "most"] []
  f_law_row_right : Addr
  fd_law_row_right : FuncData
  F_law_row_right : Fun K "_law_row_right" "_law_row_right" s_law_row_right f_law_row_right fd_law_row_right
  m_law_row_right : mg "_law_row_right" = some (.ref f_law_row_right)
  b_law_row_right : Binds K fd_law_row_right ["box", "name", "most", "named"] []
  f_law_words_right : Addr
  fd_law_words_right : FuncData
  F_law_words_right : Fun K "_law_words_right" "_law_words_right" s_law_words_right f_law_words_right fd_law_words_right
  m_law_words_right : mg "_law_words_right" = some (.ref f_law_words_right)
  b_law_words_right : Binds K fd_law_words_right ["box", "named"] []
  f_law_refused_right : Addr
  fd_law_refused_right : FuncData
  F_law_refused_right : Fun K "_law_refused_right" "_law_refused_right" s_law_refused_right f_law_refused_right fd_law_refused_right
  m_law_refused_right : mg "_law_refused_right" = some (.ref f_law_refused_right)
  b_law_refused_right : Binds K fd_law_refused_right ["box", "name", "named"] []
  f_law : Addr
  fd_law : FuncData
  F_law : Fun K "law" "law" s_law f_law fd_law
  m_law : mg "law" = some (.ref f_law)
  b_law : Binds K fd_law ["script"] []
  n_abs : mg "abs" = none
  n_all : mg "all" = none
  n_bool : mg "bool" = none
  n_dict : mg "dict" = none
  n_int : mg "int" = none
  n_isinstance : mg "isinstance" = none
  n_len : mg "len" = none
  n_list : mg "list" = none
  n_max : mg "max" = none
  n_min : mg "min" = none
  n_range : mg "range" = none
  n_str : mg "str" = none
  n_sum : mg "sum" = none
  n_tuple : mg "tuple" = none
  g_LETTERS : ∃ t, mg "LETTERS" = some (.str "abcdefghijklmnopqrstuvwxyz" t)
  g_MOST_NAME : ∃ t, mg "MOST_NAME" = some (.int 8 t)
  a_WORDS : Addr
  g_WORDS : mg "WORDS" = some (.ref a_WORDS)
  w_WORDS : ∀ H, SqT K H a_WORDS (K01.W.map fun z => V.str (mk z))
  C_InvalidName : Addr
  i_InvalidName : Addr
  d_InvalidName : FuncData
  E_InvalidName : ErrOk K mg "InvalidName" "InvalidName.__init__" (inClass (topS 2) 0) C_InvalidName i_InvalidName d_InvalidName
  C_InvalidNames : Addr
  i_InvalidNames : Addr
  d_InvalidNames : FuncData
  E_InvalidNames : ErrOk K mg "InvalidNames" "InvalidNames.__init__" (inClass (topS 3) 0) C_InvalidNames i_InvalidNames d_InvalidNames
  C_CutError : Addr
  m_CutError : mg "CutError" = some (.ref C_CutError)
  x_11 : PySem.W.exmOne K (.ref C_InvalidName) (.ref C_InvalidName) = some true
  x_21 : PySem.W.exmOne K (.ref C_InvalidNames) (.ref C_InvalidName) = some false
  x_22 : PySem.W.exmOne K (.ref C_InvalidNames) (.ref C_InvalidNames) = some true
  k_1 : PySem.W.kitOne K (.ref C_InvalidName) (.ref C_CutError) = some true
  k_2 : PySem.W.kitOne K (.ref C_InvalidNames) (.ref C_CutError) = some true
  k_free_name_0_names_name : KBn K fd_free_name ["name", "names"] 0 ["names", "name"] (fun us ws => K01.gSwap us ws) (fun us ws => K01.gSwap us ws)
  k_is_name_0_value : KBn K fd_is_name ["value"] 0 ["value"] (fun us ws => ws) (fun us ws => ws)

/-- the drawing box at b -/
def Box (H : Hp) (b : Addr) : Prop := ∃ (i : Int) (f : Bool) (j n : Int), H b = some (.lst [.int i, .bl f, .int j, .int n]) ∧ 0 ≤ i ∧ 0 ≤ j ∧ j < 2147483629
def sp_take : Sp := Sp2 fun x y H Q _ => ∃ (b : Addr) (m : Int), x = .ref b ∧ y = .int m ∧ Box H b ∧ 0 < m ∧ m < 2 ^ 30 ∧ ∀ k H', 0 ≤ k → k < m → Box H' b → But b H H' → Q (.int k) H'
theorem fdiv_nonneg {a b : Int} (h : 0 ≤ a) (hb : 0 < b) : 0 ≤ a.fdiv b := by rw [Int.fdiv_eq_ediv_of_nonneg _ (by omega)]; exact Int.ediv_nonneg h (by omega)
theorem seq_nat {n m : Nat} (h : m < n) : seqIndex? (m : Int) n = some m := by
  unfold seqIndex?
  have h1 : ¬ ((m : Int) < 0) := by omega
  have h2 : (m : Int) < (n : Int) := by omega
  simp [h1, h2, h]
theorem perm_erase {α : Type} : ∀ {l : List α} {m : Nat} (h : m < l.length), ([l[m]] ++ l.eraseIdx m).Perm l
  | [], _, h => absurd h (Nat.not_lt_zero _)
  | _ :: _, 0, _ => List.Perm.refl _
  | a :: r, m + 1, h => (List.Perm.swap a (r[m]'(Nat.lt_of_succ_lt_succ h)) _).trans (List.Perm.cons a (perm_erase (l := r) (m := m) (Nat.lt_of_succ_lt_succ h)))
section
variable {P : Program} {w : World} {K : PySem.W.Frag} {mg : Str → Option Value} {base : Heap}
theorem ok_law_take (T : Txt K mg) : FnOk P w K mg base CX0 1 T.f_law_take T.fd_law_take ["box", "many"] sp_take := by
  refine T.F_law_take.ok sc_law_take Sp2.len (fun cdv A outer s H vs Q E hr h => ?_)
  obtain ⟨_, _, rfl, b, m, rfl, rfl, ⟨i, f, j, n, hb, hi, hj, hj2⟩, hm, hm2, k⟩ := h
  refine ⟨_, (pss_cons (ps_if (PW.pt (pw_and (pt_truth (pe_ix (r := rIxL K) ix_list (pv 0) pe_int (fun _ _ => rfl)) (by intro _; rfl)) (pw_and1 (pt_cmpR op_gt (pe_ix (r := rIxL K) ix_list (pv 0) pe_int (fun _ _ => rfl)) pe_int (nomark _))))) (pss_cons (ps_set (i := 2) sc_law_take.nd rfl (.inl rfl) (pe_op op_modN (pe_callTy call_int1 rfl T.n_int (by decide +kernel) (pa_cons (pe_ix (r := rIxL K) ix_list (pv 0) pe_int (fun _ _ => rfl)) pa_nil)) (pv 1)))
      (pss_cons (ps_asg (pe_op op_fdivN (pe_callTy call_int1 rfl T.n_int (by decide +kernel) (pa_cons (pe_ix (r := rIxL K) ix_list (pv 0) pe_int (fun _ _ => rfl)) pa_nil)) (pv 1)) (pg_sub (pv 0) pe_int set_list))
      (pss_one (ps_ret (pv 2))))) pss_nil)
      (pss_cons (ps_asg (pe_op op_add (pe_ix (r := rIxL K) ix_list (pv 0) pe_int (fun _ _ => rfl)) pe_int) (pg_sub (pv 0) pe_int set_list))
      (pss_cons (ps_asg (pe_op op_modN (pe_op op_add (pe_op op_add (pe_op op_mul (pe_ix (r := rIxL K) ix_list (pv 0) pe_int (fun _ _ => rfl)) pe_int) (pe_op op_mul pe_int (pe_ix (r := rIxL K) ix_list (pv 0) pe_int (fun _ _ => rfl)))) pe_int) pe_int) (pg_sub (pv 0) pe_int set_list))
      (pss_one (ps_ret (pe_op op_modN (pe_callTy call_int1 rfl T.n_int (by decide +kernel) (pa_cons (pe_op op_fdivN (pe_ix (r := rIxL K) ix_list (pv 0) pe_int (fun _ _ => rfl)) pe_int) pa_nil)) (pv 1))))))), ?_⟩
  walk_at "rd0"
  refine rd_tie (fun ef => ?_) (fun ef => ?_)
  · walk_at "rd"
    refine rd_tid (fun e0 => ?_) (fun e0 => ?_)
    · walk_at "rd"
      exact k _ _ (Int.fmod_nonneg_of_pos _ hm) (Int.fmod_lt_of_pos _ hm) ⟨_, _, _, _, upd_same, fdiv_nonneg hi hm, hj, hj2⟩ (But.refl H).upd
    · walk_at "rd"
      exact k _ _ (Int.fmod_nonneg_of_pos _ hm) (Int.fmod_lt_of_pos _ hm) ⟨_, _, _, _, upd_same, hi, Int.fmod_nonneg_of_pos _ (by decide), Int.fmod_lt_of_pos _ (by decide)⟩ (But.refl H).upd.upd
  · walk_at "rd"
    exact k _ _ (Int.fmod_nonneg_of_pos _ hm) (Int.fmod_lt_of_pos _ hm) ⟨_, _, _, _, upd_same, hi, Int.fmod_nonneg_of_pos _ (by decide), Int.fmod_lt_of_pos _ (by decide)⟩ (But.refl H).upd.upd
def sp_box : Sp := Sp1 fun x H Q _ => ∃ g, x = .int g ∧ ∀ p H', H p = none → Same H H' → Box H' p → Q (.ref p) H'
theorem ok_law_box (T : Txt K mg) : FnOk P w K mg base CX0 1 T.f_law_box T.fd_law_box ["great"] sp_box := by
  refine T.F_law_box.ok sc_law_box Sp1.len (fun cdv A outer s H vs Q E hr h => ?_)
  obtain ⟨_, rfl, g, rfl, k⟩ := h
  refine ⟨_, (pss_cons (ps_set (i := 1) sc_law_box.nd rfl (.inl rfl) (pe_op op_modN (pe_callTy call_int1 rfl T.n_int (by decide +kernel) (pa_cons (pe_callB call_abs rfl T.n_abs (by decide +kernel) (pa_cons (pv 0) pa_nil)) pa_nil)) (pe_op op_pow pe_int pe_int)))
      (pss_one (ps_ret (pe_lst (pa_cons (pv 1) (pa_cons (pe_cmpR op_ge (pe_callB call_abs rfl T.n_abs (by decide +kernel) (pa_cons (pv 0) pa_nil)) (pe_op op_pow pe_int pe_int) (nomark _)) (pa_cons (pe_op op_modN (pv 1) pe_int) (pa_cons pe_int pa_nil)))))))), ?_⟩
  have h64 : (10 : Int) ^ Int.toNat 64 ≠ 0 := by decide
  walk_at "rd0"
  refine ⟨by show 4 ≤ sizeLine; decide, fun p hp => ?_⟩
  refine k p _ hp (same_new hp _) ⟨_, _, _, _, upd_same, ?_, ?_, ?_⟩
  · exact Int.fmod_nonneg_of_pos _ (by decide)
  · exact Int.fmod_nonneg_of_pos _ (by decide)
  · exact Int.fmod_lt_of_pos _ (by decide)
def sp_cell (K : PySem.W.Frag) : Sp := Sp2 fun x y H Q _ => ∃ (a : Addr) (ns : List Int) (i : Int), x = .ref a ∧ y = .int i ∧ SqL K H a (ns.map V.int) ∧ 0 ≤ i ∧ i < 2 ^ 60 ∧ ∀ g H', Same H H' → Q (.int g) H'
theorem ok_law_cell (T : Txt K mg) : FnOk P w K mg base CX0 1 T.f_law_cell T.fd_law_cell ["script", "k"] (sp_cell K) := by
  refine T.F_law_cell.ok sc_law_cell Sp2.len (fun cdv A outer s H vs Q E hr h => ?_)
  obtain ⟨_, _, rfl, a, ns, i, rfl, rfl, hS, h0, h1, k⟩ := h
  refine ⟨_, (pss_one (ps_ret (pe_ifExp (pt_cmpR op_lt (pv 1) (pe_callB call_len_seq rfl T.n_len (by decide +kernel) (pa_cons (pv 0) pa_nil)) (nomark _)) (pe_ix (r := rIxL K) ix_list (pv 0) (pv 1) (fun _ _ => rfl)) (pe_op op_add (pe_op op_mul pe_int (pv 1)) (pe_op op_modN (pe_callTy call_int1 rfl T.n_int (by decide +kernel) (pa_cons (pe_callB (cr_sum rfl) rfl T.n_sum (by decide +kernel) (pa_cons (pe_slice sl_list (pv 0) po_none (po_some pe_int)) pa_nil)) pa_nil)) pe_int))))), ?_⟩
  walk_at "rd0"
  refine rd_tid (fun c => ?_) (fun c => ?_)
  · walk_at "rd"
    rw [List.length_map] at c
    obtain ⟨n, rfl⟩ : ∃ n : Nat, i = n := ⟨i.toNat, by omega⟩
    have hn : n < ns.length := by omega
    refine rd_ixL hS (at_of rfl (by rw [List.getElem?_map, List.getElem?_eq_getElem hn]; rfl)) ?_
    walk_at "rd"
    exact k _ _ (Same.refl _)
  · walk_at "rd"
    refine rd_slL hS (fun l hl => ?_)
    walk_at "rd"
    have e : cutV (ns.map V.int) none (some 1) = (ns.take 1).map V.int := by
      unfold cutV
      cases ns with
      | nil => rfl
      | cons n r => simp [HT.sIx]
    rw [e]
    refine rd_sum (SqL.of upd_same) ?_
    walk_at "rd"
    exact k _ _ (same_new hl _)
def sp_pick (K : PySem.W.Frag) : Sp := Sp2 fun x y H Q _ => ∃ (b a : Addr) (xs : List V), x = .ref b ∧ y = .ref a ∧ Box H b ∧ SqL K H a xs ∧ a ≠ b ∧ 0 < xs.length ∧ xs.length < 2 ^ 20 ∧ ∀ v ∈ xs, ∀ H', Box H' b → But b H H' → Q v H'
theorem ok_law_pick (T : Txt K mg) : FnOk P w K mg base CX0 2 T.f_law_pick T.fd_law_pick ["box", "some"] (sp_pick K) := by
  refine T.F_law_pick.ok sc_law_pick Sp2.len (fun cdv A outer s H vs Q E hr h => ?_)
  obtain ⟨_, _, rfl, b, a, xs, rfl, rfl, hb, hS, ne, h0, h1, k⟩ := h
  refine ⟨_, (pss_one (ps_ret (pe_ix (r := rIxL K) ix_list (pv 1) (pe_call (ok_law_take T) (hr.mono (by decide)) rfl T.m_law_take T.F_law_take.kp T.b_law_take .nil pass0 (pa_cons (pv 0) (pa_cons (pe_callB call_len_seq rfl T.n_len (by decide +kernel) (pa_cons (pv 1) pa_nil)) pa_nil))) (fun _ _ => rfl)))), ?_⟩
  walk_at "rd0"
  refine ⟨_, _, rfl, b, _, rfl, rfl, hb, by omega, by omega, fun i H' i0 i1 hb' bt => ?_⟩
  obtain ⟨n, rfl⟩ : ∃ n : Nat, i = n := ⟨i.toNat, by omega⟩
  have hn : n < xs.length := by omega
  refine rd_ixL (bt.seq ne hS) (at_of rfl (List.getElem?_eq_getElem hn)) ?_
  exact k _ (List.getElem_mem hn) _ hb' bt
def sp_mixed (K : PySem.W.Frag) : Sp := Sp2 fun x y H Q _ => ∃ (b a : Addr) (xs : List V), x = .ref b ∧ y = .ref a ∧ Box H b ∧ SqL K H a xs ∧ a ≠ b ∧ xs.length < 2 ^ 20 ∧
  ∀ p ys H', H p = none → ys.Perm xs → H' p = some (.lst ys) → Box H' b → But b H H' → Q (.ref p) H'
theorem ok_law_mixed (T : Txt K mg) : FnOk P w K mg base CX0 2 T.f_law_mixed T.fd_law_mixed ["box", "some"] (sp_mixed K) := by
  refine T.F_law_mixed.ok sc_law_mixed Sp2.len (fun cdv A outer s H vs Q E hr h => ?_)
  obtain ⟨_, _, rfl, b, a, xs, rfl, rfl, hb, hS, ne, h1, k⟩ := h
  refine ⟨_, (pss_cons (ps_par (i := 2) (j := 3) rfl sc_law_mixed.nd rfl rfl (by decide) rfl rfl (pa_cons (pe_callTy call_list_of rfl T.n_list (by decide +kernel) (pa_cons (pv 1) pa_nil)) (pa_cons (pe_lst pa_nil) pa_nil)) rfl)
      (pss_cons (ps_for PassesOwn.never rfl (pi_range1 rfl T.n_range (pa_cons (pe_callB call_len_seq rfl T.n_len (by decide +kernel) (pa_cons (pv 1) pa_nil)) pa_nil)) (pg_name (i := 4) sc_law_mixed.nd rfl (.inl rfl)) (pss_one (ps_expr (pe_bm PySem.F.plainAttrs_list PySem.F.slot_list_append PySem.F.type_list_append mt_append (pv 3) (pa_cons (pe_bm PySem.F.plainAttrs_list PySem.F.slot_list_pop PySem.F.type_list_pop mt_popAt (pv 2) (pa_cons (pe_call (ok_law_take T) (hr.mono (by decide)) rfl T.m_law_take T.F_law_take.kp T.b_law_take .nil pass0 (pa_cons (pv 0) (pa_cons (pe_callB call_len_seq rfl T.n_len (by decide +kernel) (pa_cons (pv 2) pa_nil)) pa_nil))) pa_nil)) pa_nil)))))
      (pss_one (ps_ret (pv 3))))), ?_⟩
  walk_at "rd0"
  intro l hl
  walk_at "rd"
  refine ⟨Nat.zero_le _, fun f hf => ?_⟩
  have nlf : l ≠ f := ne_of_none upd_same hf
  have hf0 : H f = none := by rw [upd_ne nlf.symm] at hf; exact hf
  have s1 : Same H (upd (upd H l (.lst xs)) f (.lst [])) := (same_new hl _).trans (same_new hf _)
  obtain ⟨i0, f0, j0, n0, hb0, hbi⟩ := id hb
  have nbl : l ≠ b := (ne_of_none hb0 hl).symm
  have nbf : f ≠ b := (ne_of_none hb0 hf0).symm
  walk_at "rd"
  refine rd_lenL (s1.seq hS) ?_
  walk_at "rd"
  refine ⟨by omega, by omega, forR (n := xs.length) rfl (fun i σ H' => ∃ (v : Option V) (ls fs : List V), σ = [some (.ref b), some (.ref a), some (.ref l), some (.ref f), v] ∧ H' l = some (.lst ls) ∧ H' f = some (.lst fs) ∧
    (fs ++ ls).Perm xs ∧ fs.length = i ∧ Box H' b ∧ But b H H') ?_ ?_ ?_⟩
  · exact ⟨none, xs, [], rfl, by rw [upd_ne nlf]; exact upd_same, upd_same, List.Perm.refl _, rfl, ⟨i0, f0, j0, n0, s1 _ _ hb0, hbi⟩, s1.but⟩
  · rintro i σ H' hi ⟨v, ls, fs, rfl, hL, hF, hp, he, hB, bt⟩
    have hlen : fs.length + ls.length = xs.length := by rw [← List.length_append]; exact hp.length_eq
    walk_at "rd"
    refine ⟨_, _, rfl, b, _, rfl, rfl, hB, by omega, by omega, fun q H2 q0 q1 hB2 bt2 => ?_⟩
    obtain ⟨m, rfl⟩ : ∃ m : Nat, q = m := ⟨q.toNat, by omega⟩
    have hm : m < ls.length := by omega
    walk_at "rd"
    refine rd_popAt (bt2 _ _ nbl hL) (by omega) (by omega) (seq_nat hm) (List.getElem?_eq_getElem hm) ?_
    walk_at "rd"
    refine rd_append (by rw [upd_ne nlf.symm]; exact bt2 _ _ nbf hF) (Nat.lt_of_lt_of_le (by omega : fs.length < 2 ^ 20) (by decide)) ?_
    obtain ⟨i2, f2, j2, n2, hb2, hbi2⟩ := hB2
    refine ⟨_, _, _, rfl, by rw [upd_ne nlf]; exact upd_same, upd_same, ?_, by rw [List.length_append, he]; rfl, ⟨i2, f2, j2, n2, by rw [upd_ne nbf.symm, upd_ne nbl.symm]; exact hb2, hbi2⟩, ((bt.trans bt2).mut hl).mut hf0⟩
    refine List.Perm.trans ?_ hp
    rw [List.append_assoc]
    exact List.Perm.append_left _ (perm_erase hm)
  · rintro σ H' ⟨v, ls, fs, rfl, hL, hF, hp, he, hB, bt⟩
    walk_at "rd"
    have hlen : fs.length + ls.length = xs.length := by rw [← List.length_append]; exact hp.length_eq
    have : ls = [] := List.eq_nil_of_length_eq_zero (by omega)
    subst this
    rw [List.append_nil] at hp
    exact k f fs H' hf0 hp hF hB bt
end
end K01
set_option Elab.async false
set_option linter.all false
set_option maxRecDepth 100000
set_option maxHeartbeats 4000000

namespace K01
open PySem L2 My
abbrev ALPHA : Str := "abcdefghijklmnopqrstuvwxyz"
def alpha : List Nat := (List.range 26).map (97 + ·)
theorem alpha_eq : ALPHA = mk alpha := by decide +kernel
theorem empty_eq : Str.ofString "" = mk [] := by decide +kernel
theorem alpha_len : alpha.length = 26 := by decide
theorem ALPHA_len : ALPHA.length = 26 := by rw [alpha_eq, mk_len, alpha_len]
theorem alpha_at (m : Nat) (h : m < 26) : alpha[m]? = some (97 + m) := by
  unfold alpha
  rw [List.getElem?_map, List.getElem?_range h]; rfl
theorem rd_alpha {Q : VK} {H : Hp} {i : Int} {m : Nat} (hi : i = ((m % 26 : Nat) : Int)) (q : Q (.str (mk [97 + m % 26])) H) : rIxS (.str ALPHA) (.int i) H Q := by
  have hm : m % 26 < 26 := Nat.mod_lt _ (by decide)
  rw [alpha_eq]
  have a : atI alpha i = some (97 + m % 26) := by rw [hi]; exact atI_nat (alpha_at _ hm)
  exact rd_ixS (by rw [mk_len, alpha_len]; decide) a q
section
variable {P : Program} {w : World} {K : PySem.W.Frag} {mg : Str → Option Value} {base : Heap}
def sp_ltr : Sp := Sp1 fun x H Q _ => ∃ n : Nat, x = .int n ∧ n ≤ 400000 ∧ Q (.str (mk (ltr n))) H
theorem small_len {n : Nat} {f : List Nat} {l : Nat} (h : ltr n = ltr l ++ f) (hn : n ≤ 400000) : f.length ≤ 4 := by
  have := ltr_len4 hn
  rw [h, List.length_append] at this
  omega
theorem ok_law_behind (T : Txt K mg) : FnOk P w K mg base CX0 1 T.f_law_behind T.fd_law_behind ["number"] sp_ltr := by
  refine T.F_law_behind.ok sc_law_behind Sp1.len (fun cdv A outer s H vs Q E hr h => ?_)
  obtain ⟨_, rfl, n, rfl, hn, k⟩ := h
  refine ⟨_, (pss_cons (ps_par (i := 1) (j := 2) rfl sc_law_behind.nd rfl rfl (by decide) rfl rfl (pa_cons pe_str (pa_cons (pv 0) pa_nil)) rfl)
      (pss_cons (ps_for PassesOwn.never rfl (pi_range1 rfl T.n_range (pa_cons pe_int pa_nil)) (pg_name (i := 3) sc_law_behind.nd rfl (.inl rfl)) (pss_cons (ps_if (pt_cmpR op_eq (pv 2) pe_int (nomark _)) (pss_one ps_break) pss_nil)
      (pss_cons (ps_set (i := 2) sc_law_behind.nd rfl (.inl rfl) (pe_op op_sub (pv 2) pe_int))
      (pss_cons (ps_set (i := 1) sc_law_behind.nd rfl (.inl rfl) (pe_op op_add_str (pe_ix ix_str pe_str (pe_op op_modN (pe_callTy call_int1 rfl T.n_int (by decide +kernel) (pa_cons (pv 2) pa_nil)) pe_int) (fun _ _ => rfl)) (pv 1)))
      (pss_one (ps_set (i := 2) sc_law_behind.nd rfl (.inl rfl) (pe_op op_fdivN (pv 2) pe_int)))))))
      (pss_one (ps_ret (pv 1))))), ?_⟩
  walk_at "rd0"
  refine ⟨by decide, by decide, forR (n := 6) rfl (fun i σ H' => ∃ (f : List Nat) (l : Nat) (v : Option V), σ = [some (.int n), some (.str (mk f)), some (.int l), v] ∧ H' = H ∧ ltr n = ltr l ++ f ∧ l * 26 ^ i ≤ 400000) ?_ ?_ ?_⟩
  · exact ⟨[], n, none, by rw [← empty_eq]; rfl, rfl, (List.append_nil _).symm, by omega⟩
  · rintro i σ H' hi ⟨f, l, v, rfl, rfl, hl, hb⟩
    walk_at "rd"
    refine rd_tid (fun c => ?_) (fun c => ?_)
    · walk_at "rd"
      have hl0 : l = 0 := by injection c with c; omega
      subst hl0
      rw [ltr0, List.nil_append] at hl
      rw [← hl]
      exact k
    · have hl0 : 0 < l := by
        rcases Nat.eq_zero_or_pos l with z | z
        · exact absurd (by rw [z]; rfl) c
        · exact z
      walk_at "rd"
      refine rd_alpha (m := l - 1) (by rw [← fmN]; congr 1; omega) ?_
      walk_at "rd"
      have hf := small_len hl hn
      refine ⟨by rw [mk_len, mk_len]; show 1 + f.length ≤ sizeLine; exact Nat.le_trans (by omega : 1 + f.length ≤ 5) (by decide), ?_⟩
      walk_at "rd"
      refine ⟨[97 + (l - 1) % 26] ++ f, (l - 1) / 26, some (.int i), ?_, rfl, ?_, ?_⟩
      · rw [← mk_app, ← fdN, (by omega : ((l - 1 : Nat) : Int) = (l : Int) - 1)]; rfl
      · rw [hl, ltrS hl0, List.append_assoc]
      · have e1 : (l - 1) / 26 * 26 ≤ l := by omega
        have e2 : (l - 1) / 26 * 26 ^ (i + 1) = (l - 1) / 26 * 26 * 26 ^ i := by rw [Nat.pow_succ', Nat.mul_assoc]
        rw [e2]
        exact Nat.le_trans (Nat.mul_le_mul_right _ e1) hb
  · rintro σ H' ⟨f, l, v, rfl, rfl, hl, hb⟩
    walk_at "rd"
    have hl0 : l = 0 := by
      have : l * 26 ^ 6 ≤ 400000 := hb
      omega
    subst hl0
    rw [ltr0, List.nil_append] at hl
    rw [← hl]
    exact k
def sp_longer : Sp := Sp2 fun x y H Q _ => ∃ (z : List Nat) (n : Nat), x = .str (mk z) ∧ y = .int n ∧ n ≤ 400000 ∧ z.length ≤ 8 ∧ Q (.str (mk (wl z n))) H
theorem ok_law_longer (T : Txt K mg) : FnOk P w K mg base CX0 2 T.f_law_longer T.fd_law_longer ["name", "number"] sp_longer := by
  refine T.F_law_longer.ok sc_law_longer Sp2.len (fun cdv A outer s H vs Q E hr h => ?_)
  obtain ⟨_, _, rfl, z, n, rfl, rfl, hn, hz, k⟩ := h
  refine ⟨_, (pss_cons (ps_set (i := 2) sc_law_longer.nd rfl (.inl rfl) (pe_call (ok_law_behind T) (hr.mono (by decide)) rfl T.m_law_behind T.F_law_behind.kp T.b_law_behind .nil pass0 (pa_cons (pv 1) pa_nil)))
      (pss_one (ps_ret (pe_op op_add_str (pe_slice sl_str (pv 0) po_none (po_some (pe_op op_sub pe_int (pe_callB call_len_str rfl T.n_len (by decide +kernel) (pa_cons (pv 2) pa_nil))))) (pv 2))))), ?_⟩
  walk_at "rd0"
  refine ⟨_, rfl, n, rfl, hn, ?_⟩
  have h4 := ltr_len4 hn
  walk_at "rd"
  refine rd_lenS (by rw [mk_len]; exact Nat.le_trans h4 (by decide)) ?_
  walk_at "rd"
  have e : (8 : Int) - ((mk (ltr n)).length : Nat) = ((8 - (ltr n).length : Nat) : Int) := by rw [mk_len]; omega
  rw [e]
  refine rd_slS (by rw [mk_len]; exact Nat.le_trans hz (by decide)) ?_
  walk_at "rd"
  rw [mk_take]
  refine ⟨by rw [mk_len, mk_len, List.length_take]; exact Nat.le_trans (by omega : _ ≤ 20) (by decide), ?_⟩
  rw [mk_app]
  exact k
theorem rd_gI {X : Cx} {x : Str} {pos : Pos} {n : Int} (hm : ∃ t, X.mg x = some (.int n t)) (hg : Gl X x := by rfl) (hd : (x == ("__debug__" : Str)) = false := by decide) : PE X (.Name x pos) (tC (.int n)) := by
  obtain ⟨t, h⟩ := hm
  exact pe_glob (v := .int n) hg h ⟨t, rfl⟩ hd
theorem rd_gS {X : Cx} {x : Str} {pos : Pos} {z : Str} (hm : ∃ t, X.mg x = some (.str z t)) (hg : Gl X x := by rfl) (hd : (x == ("__debug__" : Str)) = false := by decide) : PE X (.Name x pos) (tC (.str z)) := by
  obtain ⟨t, h⟩ := hm
  exact pe_glob (v := .str z) hg h ⟨t, rfl⟩ hd
theorem rd_gR {X : Cx} {x : Str} {pos : Pos} {a : Addr} (h : X.mg x = some (.ref a)) (hg : Gl X x := by rfl) (hd : (x == ("__debug__" : Str)) = false := by decide) : PE X (.Name x pos) (tC (.ref a)) :=
  pe_glob (v := .ref a) hg h rfl hd
theorem ok_letters_at (T : Txt K mg) : FnOk P w K mg base CX0 1 T.f_letters_at T.fd_letters_at ["number"] sp_ltr := by
  refine T.F_letters_at.ok sc_letters_at Sp1.len (fun cdv A outer s H vs Q E hr h => ?_)
  obtain ⟨_, rfl, n, rfl, hn, k⟩ := h
  refine ⟨_, (pss_cons (ps_par (i := 1) (j := 2) rfl sc_letters_at.nd rfl rfl (by decide) rfl rfl (pa_cons pe_str (pa_cons (pv 0) pa_nil)) rfl)
      (pss_cons (ps_while PassesOwn.never (pt_cmpR op_gt (pv 2) pe_int (nomark _)) (pss_cons (ps_set (i := 1) sc_letters_at.nd rfl (.inl rfl) (pe_op op_add_str (pe_ix ix_str (rd_gS T.g_LETTERS) (pe_op op_modN (pe_op op_sub (pv 2) pe_int) (pe_callB call_len_str rfl T.n_len (by decide +kernel) (pa_cons (rd_gS T.g_LETTERS) pa_nil))) (fun _ _ => rfl)) (pv 1)))
      (pss_one (ps_set (i := 2) sc_letters_at.nd rfl (.inl rfl) (pe_op op_fdivN (pe_op op_sub (pv 2) pe_int) (pe_callB call_len_str rfl T.n_len (by decide +kernel) (pa_cons (rd_gS T.g_LETTERS) pa_nil)))))))
      (pss_one (ps_ret (pv 1))))), ?_⟩
  walk_at "rd0"
  refine while_by (fun σ H' => ∃ (f : List Nat) (l : Nat), σ = [some (.int n), some (.str (mk f)), some (.int l)] ∧ H' = H ∧ ltr n = ltr l ++ f) (fun (σ : L2.St) _ => match σ[2]? with | some (some (V.int i)) => i.toNat | _ => 0) ⟨[], n, by rw [← empty_eq]; rfl, rfl, (List.append_nil _).symm⟩ ?_ ?_
  · rintro σ H' ⟨f, l, rfl, rfl, hl⟩
    walk_at "rd"
    refine rd_tid (fun c => ?_) (fun c => ?_)
    · have hl0 : 0 < l := by omega
      walk_at "rd"
      refine rd_lenS (by show ALPHA.length ≤ sizeLine; rw [ALPHA_len]; decide) ?_
      have el : ((ALPHA.length : Nat) : Int) = 26 := by rw [ALPHA_len]; rfl
      rw [el]
      walk_at "rd"
      refine rd_alpha (m := l - 1) (by rw [← fmN]; congr 1; omega) ?_
      walk_at "rd"
      have hf := small_len hl hn
      refine ⟨by rw [mk_len, mk_len]; show 1 + f.length ≤ sizeLine; exact Nat.le_trans (by omega : 1 + f.length ≤ 5) (by decide), ?_⟩
      walk_at "rd"
      refine rd_lenS (by show ALPHA.length ≤ sizeLine; rw [ALPHA_len]; decide) ?_
      rw [el]
      walk_at "rd"
      refine ⟨⟨[97 + (l - 1) % 26] ++ f, (l - 1) / 26, ?_, rfl, ?_⟩, ?_⟩
      · rw [← mk_app, ← fdN, (by omega : ((l - 1 : Nat) : Int) = (l : Int) - 1)]; rfl
      · rw [hl, ltrS hl0, List.append_assoc]
      · show (Int.fdiv ((l : Int) - 1) 26).toNat < (l : Int).toNat
        rw [(by omega : (l : Int) - 1 = ((l - 1 : Nat) : Int)), (show ((l - 1 : Nat) : Int).fdiv 26 = (((l - 1) / 26 : Nat) : Int) from fdN (l - 1) 26), Int.toNat_natCast, Int.toNat_natCast]
        omega
    · walk_at "rd"
      have hl0 : l = 0 := by omega
      subst hl0
      rw [ltr0, List.nil_append] at hl
      rw [← hl]
      exact k
  · intro σ H Q Q' f h
    obtain ⟨v, h1, i, j, h2, h3, k, h4, h5⟩ := h
    exact ⟨v, h1, i, j, h2, h3, k, h4, f _ _ h5⟩
theorem ok_with_letters (T : Txt K mg) : FnOk P w K mg base CX0 2 T.f_with_letters T.fd_with_letters ["name", "number"] sp_longer := by
  refine T.F_with_letters.ok sc_with_letters Sp2.len (fun cdv A outer s H vs Q E hr h => ?_)
  obtain ⟨_, _, rfl, z, n, rfl, rfl, hn, hz, k⟩ := h
  refine ⟨_, (pss_cons (ps_set (i := 2) sc_with_letters.nd rfl (.inl rfl) (pe_call (ok_letters_at T) (hr.mono (by decide)) rfl T.m_letters_at T.F_letters_at.kp T.b_letters_at .nil pass0 (pa_cons (pv 1) pa_nil)))
      (pss_one (ps_ret (pe_op op_add_str (pe_slice sl_str (pv 0) po_none (po_some (pe_op op_sub (rd_gI T.g_MOST_NAME) (pe_callB call_len_str rfl T.n_len (by decide +kernel) (pa_cons (pv 2) pa_nil))))) (pv 2))))), ?_⟩
  walk_at "rd0"
  refine ⟨_, rfl, n, rfl, hn, ?_⟩
  have h4 := ltr_len4 hn
  walk_at "rd"
  refine rd_lenS (by rw [mk_len]; exact Nat.le_trans h4 (by decide)) ?_
  walk_at "rd"
  have e : (8 : Int) - ((mk (ltr n)).length : Nat) = ((8 - (ltr n).length : Nat) : Int) := by rw [mk_len]; omega
  rw [e]
  refine rd_slS (by rw [mk_len]; exact Nat.le_trans hz (by decide)) ?_
  walk_at "rd"
  rw [mk_take]
  refine ⟨by rw [mk_len, mk_len, List.length_take]; exact Nat.le_trans (by omega : _ ≤ 20) (by decide), ?_⟩
  rw [mk_app]
  exact k
end
end K01
set_option Elab.async false
set_option linter.all false
set_option maxRecDepth 100000
set_option maxHeartbeats 4000000

namespace K01
open PySem L2 My
abbrev TEXT : Str := "and as ask at best by call choose else from give if in join leave left mark of part proc rest to worth"
theorem split_eq : Txt.split TEXT " " = W.map mk := by decide +kernel
theorem str_isN {b : String} {t : String} (h : kitB t b = some false) : kitB t b = some false := h
section
variable {P : Program} {w : World} {K : PySem.W.Frag} {mg : Str → Option Value} {base : Heap}
def wordsV : List V := W.map fun z => V.str (mk z)
def sp_words : Sp := Sp0 fun H Q _ => ∀ p, H p = none → Q (.ref p) (upd H p (.lst wordsV))
theorem ok_law_words (T : Txt K mg) : FnOk P w K mg base CX0 1 T.f_law_words T.fd_law_words [] sp_words := by
  refine T.F_law_words.ok sc_law_words Sp0.len (fun cdv A outer s H vs Q E hr h => ?_)
  obtain ⟨rfl, k⟩ := h
  refine ⟨_, (pss_one (ps_ret (pe_split pe_str pe_str))), ?_⟩
  walk_at "rd0"
  refine ⟨⟨_, rfl⟩, _, _, rfl, rfl, by decide +kernel, by decide +kernel, fun p hp => ?_⟩
  have e : (Txt.split TEXT " ").map V.str = wordsV := by rw [split_eq, List.map_map]; rfl
  rw [e]
  exact k p hp
def sp_is_word : Sp := Sp1 fun x H Q _ => ∃ z, x = .str (mk z) ∧ Q (.bl (decide (z ∈ W))) H
theorem ok_is_word (T : Txt K mg) : FnOk P w K mg base CX0 1 T.f_is_word T.fd_is_word ["value"] sp_is_word := by
  refine T.F_is_word.ok sc_is_word Sp1.len (fun cdv A outer s H vs Q E hr h => ?_)
  obtain ⟨_, rfl, z, rfl, k⟩ := h
  refine ⟨_, (pss_one (ps_ret (pe_and (pe_callB call_isi rfl T.n_isinstance (by decide +kernel) (pa_cons (pv 0) (pa_cons (pe_ty "str" T.n_str) pa_nil))) (pe_one (pe_cmpR op_in_seq (pv 0) (rd_gR T.g_WORDS) rfl))))), ?_⟩
  walk_at "rd0"
  refine rd_isi (b := true) ty_str (by decide +kernel) ?_
  refine rd_blV (rd_ite_t ?_)
  walk_at "rd"
  refine ⟨T.a_WORDS, _, rfl, .inr (T.w_WORDS _), rfl, flat_strs W, ?_⟩
  rw [if_neg (by decide), in_strs]
  exact k
theorem low_in {c : Nat} : decide (c ∈ ALPHA.cps.toList) = lowB c := by
  have e : ALPHA.cps.toList = alpha := by rw [alpha_eq]; rfl
  rw [e]
  unfold alpha lowB
  rw [← Bool.decide_and]
  refine decide_eq_decide.mpr ⟨fun h => ?_, fun h => ?_⟩
  · obtain ⟨a, ha, rfl⟩ := List.mem_map.mp h
    have := List.mem_range.mp ha
    omega
  · exact List.mem_map.mpr ⟨c - 97, List.mem_range.mpr (by omega), by omega⟩
theorem rd_inS {Q : VK} {H : Hp} {c : Nat} {z : Str} (q : Q (.bl (decide (c ∈ z.cps.toList))) H) : ∃ (d : Nat) (y : Str), V.str (mk [c]) = .str ⟨#[d]⟩ ∧ V.str z = .str y ∧ Q (.bl (decide (d ∈ y.cps.toList))) H := ⟨c, z, rfl, rfl, q⟩
/-- is_name of a text, of anything else -/
def sp_is_name (K : PySem.W.Frag) : Sp := Sp1 fun x H Q _ => (∃ z, x = .str (mk z) ∧ z.length ≤ 1000 ∧ ∀ H', Same H H' → Q (.bl (isName z)) H') ∨ (∃ t, TyX K H x (.type t) ∧ kitB t "str" = some false ∧ Q (.bl false) H)
theorem ok_is_name (T : Txt K mg) : FnOk P w K mg base CX0 1 T.f_is_name T.fd_is_name ["value"] (sp_is_name K) := by
  refine T.F_is_name.ok sc_is_name Sp1.len (fun cdv A outer s H vs Q E hr h => ?_)
  obtain ⟨x, rfl, hx⟩ := h
  refine ⟨_, (pss_cons (ps_if (PW.pt (pw_or (pt_not (pt_val (pe_callB call_isi rfl T.n_isinstance (by decide +kernel) (pa_cons (pv 0) (pa_cons (pe_ty "str" T.n_str) pa_nil))))) (pw_or (pt_not (pt_chain op_le op_le pe_int (pe_callB call_len_str rfl T.n_len (by decide +kernel) (pa_cons (pv 0) pa_nil)) (rd_gI T.g_MOST_NAME))) (pw_or1 (pt_cmpR op_in_seq (pv 0) (rd_gR T.g_WORDS) rfl))))) (pss_one (ps_ret pe_bl)) pss_nil)
      (pss_one (ps_ret (pe_callB (cr_all rfl) rfl T.n_all (by decide +kernel) (pa_cons (pe_lc (own := [("sign", 1)]) rfl sc_is_name.nd (pi_str (pv 0)) (blkOk_by (own := [("sign", 1)]) (N := N_is_name) (sc := defScope s_is_name) (by decide +kernel)) (fun _ _ _ _ _ => (pg_name (i := 1) sc_is_name.nd rfl (Or.inl rfl))) (fun _ _ _ _ _ => pts_nil) (fun _ _ _ _ _ => (pe_cmpR op_in_sign (pv 1) (rd_gS T.g_LETTERS) rfl))) pa_nil))))), ?_⟩
  rcases hx with ⟨z, rfl, hz, k⟩ | ⟨t, ty, ht, k⟩
  · walk_at "rd0"
    refine rd_isi (b := true) ty_str (by decide +kernel) ?_
    walk_at "rd"
    refine rd_lenS (by rw [mk_len]; exact Nat.le_trans hz (by decide)) ?_
    walk_at "rd"
    rw [mk_len]
    by_cases h1 : 1 ≤ z.length
    · rw [decide_eq_true (show (1 : Int) ≤ (z.length : Int) by omega)]
      walk_at "rd"
      by_cases h8 : z.length ≤ 8
      · rw [decide_eq_true (show (z.length : Int) ≤ 8 by omega)]
        walk_at "rd"
        refine ⟨T.a_WORDS, _, rfl, .inr (T.w_WORDS _), rfl, flat_strs W, ?_⟩
        rw [if_neg (by decide), in_strs]
        walk_at "rd"
        refine rd_tid (fun hw => ?_) (fun hw => ?_)
        · walk_at "rd"
          have e : isName z = false := by
            unfold isName
            rw [decide_eq_true hw]
            simp
          rw [← e]
          exact k H (Same.refl H)
        · walk_at "rd"
          intro D hD
          refine lcP (walk_strs z) (by rw [List.length_map]) yat_list hD (fun _ _ => trivial) (by rw [List.length_map]; exact Nat.lt_of_le_of_lt hz (by decide)) (fun _ => true) (fun x => match x with | .str y => .bl (y.cps.toList.all lowB) | _ => .non) ?_ ?_
          · intro i x Hc hx sm F N hF hN
            rw [List.getElem?_map] at hx
            obtain ⟨c, hc, rfl⟩ := Option.map_eq_some_iff.mp hx
            walk_at "rd"
            refine ⟨rfl, ?_⟩
            walk_at "rd"
            refine rd_inS ?_
            rw [low_in]
            have q : F (V.bl ([c].all lowB)) Hc := hF rfl Hc (Same.refl Hc)
            have e : [c].all lowB = lowB c := by simp
            rw [e] at q
            exact q
          · intro H' sm hD'
            walk_at "rd"
            rw [List.filter_eq_self.mpr (fun _ _ => rfl), List.map_map] at hD'
            have e : z.map ((fun x => match x with | V.str y => V.bl (y.cps.toList.all lowB) | _ => V.non) ∘ fun c => V.str (mk [c])) = (z.map lowB).map V.bl := by
              rw [List.map_map]
              refine List.map_congr_left fun c _ => ?_
              show V.bl ([c].all lowB) = V.bl (lowB c)
              simp
            rw [e] at hD'
            refine rd_all (SqL.of hD') ?_
            have e2 : (z.map lowB).all id = isName z := by
              unfold isName
              rw [decide_eq_true h1, decide_eq_true h8, decide_eq_false hw, List.all_map]
              rfl
            rw [e2]
            exact k H' sm
      · rw [decide_eq_false (show ¬ (z.length : Int) ≤ 8 by omega)]
        walk_at "rd"
        have e : isName z = false := by unfold isName; rw [decide_eq_false h8]; simp
        rw [← e]
        exact k H (Same.refl H)
    · rw [decide_eq_false (show ¬ (1 : Int) ≤ (z.length : Int) by omega)]
      walk_at "rd"
      have e : isName z = false := by unfold isName; rw [decide_eq_false h1]; rfl
      rw [← e]
      exact k H (Same.refl H)
  · walk_at "rd0"
    refine rd_isi (b := false) ty ht ?_
    walk_at "rd"
    exact k
/-! ### a dict of names -/
def dictOf (L : List (List Nat)) : List (Key × V) := mergeK [] (L.map fun z => ((Sum.inr (mk z) : Key), V.bl true))
theorem dictOf_snoc (L : List (List Nat)) (z : List Nat) : dictOf (L ++ [z]) = putK (dictOf L) (Sum.inr (mk z)) (.bl true) := by
  unfold dictOf mergeK
  rw [List.map_append, List.foldl_append]; rfl
theorem snoc_ind {α : Type} {p : List α → Prop} (h0 : p []) (h1 : ∀ l a, p l → p (l ++ [a])) : ∀ l, p l := by
  intro l
  have : ∀ n (l : List α), l.length = n → p l := by
    intro n
    induction n with
    | zero => intro l h; rw [List.eq_nil_of_length_eq_zero h]; exact h0
    | succ n ih =>
      intro l h
      have hne : l ≠ [] := by intro e; rw [e] at h; cases h
      rw [← List.dropLast_concat_getLast hne]
      exact h1 _ _ (ih _ (by rw [List.length_dropLast, h]; rfl))
  exact this _ l rfl
theorem dictOf_get (L : List (List Nat)) (z : List Nat) : (valV (dictOf L) (Sum.inr (mk z))).isSome = decide (z ∈ L) := by
  refine snoc_ind (p := fun L => (valV (dictOf L) (Sum.inr (mk z))).isSome = decide (z ∈ L)) (by simp [dictOf, mergeK, valV]) (fun l a ih => ?_) L
  rw [dictOf_snoc, valV_put]
  by_cases e : z = a
  · subst e; simp
  · rw [if_neg (fun q => e (mk_inj (Sum.inr.inj q))), ih]
    simp [e]
/-- the keys, each once -/
theorem dictOf_keys (L : List (List Nat)) : ∃ M : List (List Nat), M.length = (dictOf L).length ∧ (dictOf L).map (·.1) = M.map (fun z => (Sum.inr (mk z) : Key)) ∧ ∀ z, z ∈ M ↔ z ∈ L := by
  refine snoc_ind (p := fun L => ∃ M : List (List Nat), M.length = (dictOf L).length ∧ (dictOf L).map (·.1) = M.map (fun z => (Sum.inr (mk z) : Key)) ∧ ∀ z, z ∈ M ↔ z ∈ L) ⟨[], rfl, rfl, fun z => Iff.rfl⟩ (fun l a ih => ?_) L
  obtain ⟨M, h1, h2, h3⟩ := ih
  by_cases c : a ∈ l
  · refine ⟨M, ?_, ?_, fun z => ?_⟩
    · rw [dictOf_snoc]
      unfold putK
      have : ((dictOf l).any fun kv => decide (kv.1 = Sum.inr (mk a))) = true := by
        have g := dictOf_get l a
        rw [decide_eq_true c] at g
        unfold valV at g
        rw [Option.isSome_map] at g
        rw [List.any_eq_true]
        obtain ⟨x, hx⟩ := Option.isSome_iff_exists.mp g
        exact ⟨x, List.mem_of_find?_eq_some hx, by simpa using List.find?_some hx⟩
      rw [if_pos this, List.length_map]; exact h1
    · rw [dictOf_snoc]
      unfold putK
      have : ((dictOf l).any fun kv => decide (kv.1 = Sum.inr (mk a))) = true := by
        have g := dictOf_get l a
        rw [decide_eq_true c] at g
        unfold valV at g
        rw [Option.isSome_map] at g
        rw [List.any_eq_true]
        obtain ⟨x, hx⟩ := Option.isSome_iff_exists.mp g
        exact ⟨x, List.mem_of_find?_eq_some hx, by simpa using List.find?_some hx⟩
      rw [if_pos this, List.map_map, ← h2]
      refine List.map_congr_left fun x _ => ?_
      show (if x.1 = _ then _ else _ : Key × V).1 = x.1
      split <;> rfl
    · rw [h3, List.mem_append, List.mem_singleton]
      exact ⟨.inl, fun z => z.elim id fun e => e ▸ c⟩
  · have g : valV (dictOf l) (Sum.inr (mk a)) = none := by
      have g := dictOf_get l a
      rw [decide_eq_false c] at g
      exact Option.not_isSome_iff_eq_none.mp (by rw [g]; decide)
    refine ⟨M ++ [a], ?_, ?_, fun z => ?_⟩
    · rw [dictOf_snoc, putK_new _ g, List.length_append, List.length_append, h1]; rfl
    · rw [dictOf_snoc, putK_new _ g, List.map_append, List.map_append, h2]; rfl
    · rw [List.mem_append, h3, List.mem_append]
theorem dictOf_len (L : List (List Nat)) : (dictOf L).length ≤ L.length := by
  refine snoc_ind (p := fun L => (dictOf L).length ≤ L.length) (Nat.le_refl 0) (fun l a ih => ?_) L
  rw [dictOf_snoc, List.length_append, List.length_singleton]
  refine Nat.le_trans ?_ (Nat.succ_le_succ ih)
  unfold putK
  split
  · rw [List.length_map]; exact Nat.le_succ _
  · rw [List.length_append]; exact Nat.le_refl _
/-! ### the first free name, by the law -/
def sp_law_free : Sp := Sp2 fun x y H Q _ => ∃ (z : List Nat) (d : Addr) (L : List (List Nat)) (n : Nat), x = .str (mk z) ∧ y = .ref d ∧ H d = some (.dK (dictOf L)) ∧ z.length ≤ 8 ∧ L.length ≤ 5000 ∧ Free z (fun x => x ∈ L ∨ x ∈ W) n ∧ ∀ H', Same H H' → Q (.str (mk (wl z n))) H'
theorem free_low {z : List Nat} {L : List (List Nat)} {n : Nat} (hL : L.length ≤ 5000) (hf : Free z (fun x => x ∈ L ∨ x ∈ W) n) : n < (dictOf L).length + 23 + 2000 := by
  obtain ⟨M, h1, h2, h3⟩ := dictOf_keys L
  have l1 := dictOf_len L
  obtain ⟨m, h4, h5⟩ := free_ex z M W (by rw [h1]; show _ + 23 ≤ 10000; omega)
  have e := hf.uniq (fun x => by rw [h3]) h5
  rw [e, ← h1]; exact h4
end
end K01
set_option Elab.async false
set_option linter.all false
set_option maxRecDepth 100000
set_option maxHeartbeats 4000000

namespace K01
open PySem L2 My
section
variable {P : Program} {w : World} {K : PySem.W.Frag} {mg : Str → Option Value} {base : Heap}
section
variable {σ : L2.St} {H : Hp} {Q : VK} {d : Addr} {kvs : List (Key × V)}
theorem rd_lenD {R : List (Key × V) → Prop} (h : H d = some (.dK kvs)) (q : R kvs) : ∃ (a : Addr) (ks : List (Key × V)), ([V.ref d] : List V) = [V.ref a] ∧ H a = some (.dK ks) ∧ R ks := ⟨d, kvs, rfl, h, q⟩
theorem rd_dnotin {R : Bool → Hp → Prop} {ty td : TE} (h : ty σ H fun y H1 => td σ H1 fun x H2 => ∃ a o, x = .ref a ∧ DGet H2 a y o ∧ ∃ c, V.bl (!o.isSome) = .bl c ∧ R c H2) : tB (tDNotIn ty td) σ H R := h
theorem rd_din {R : Bool → Hp → Prop} {ty td : TE} (h : ty σ H fun y H1 => td σ H1 fun x H2 => ∃ a o, x = .ref a ∧ DGet H2 a y o ∧ ∃ c, V.bl o.isSome = .bl c ∧ R c H2) : tB (tDIn ty td) σ H R := h
theorem rd_dg {L : List (List Nat)} {z : List Nat} {R : Option V → Prop} (h : H d = some (.dK (dictOf L))) (q : R (valV (dictOf L) (Sum.inr (mk z)))) : ∃ a o, V.ref d = .ref a ∧ DGet H a (.str (mk z)) o ∧ R o := ⟨d, _, rfl, DGet.k (k := Sum.inr (mk z)) h, q⟩
end
theorem ok_law_free (T : Txt K mg) : FnOk P w K mg base CX0 3 T.f_law_free T.fd_law_free ["name", "taken"] sp_law_free := by
  refine T.F_law_free.ok sc_law_free Sp2.len (fun cdv A outer s H vs Q E hr h => ?_)
  obtain ⟨_, _, rfl, z, d, L, n, rfl, rfl, hd, hz, hL, hf, k⟩ := h
  refine ⟨_, (pss_cons (ps_set (i := 2) sc_law_free.nd rfl (.inl rfl) (pe_call0 (ok_law_words T) (hr.mono (by decide)) rfl T.m_law_words T.F_law_words.kp T.b_law_words .nil pass0))
      (pss_cons (ps_for PassesOwn.never rfl (pi_range1 rfl T.n_range (pa_cons (pe_op op_add (pe_op op_add (pe_callB call_lenD rfl T.n_len (by decide +kernel) (pa_cons (pv 1) pa_nil)) (pe_callB call_len_seq rfl T.n_len (by decide +kernel) (pa_cons (pv 2) pa_nil))) pe_int) pa_nil)) (pg_name (i := 3) sc_law_free.nd rfl (.inl rfl)) (pss_cons (ps_set (i := 4) sc_law_free.nd rfl (.inl rfl) (pe_call (ok_law_longer T) (hr.mono (by decide)) rfl T.m_law_longer T.F_law_longer.kp T.b_law_longer .nil pass0 (pa_cons (pv 0) (pa_cons (pv 3) pa_nil))))
      (pss_one (ps_if (PW.pt (pw_and (pt_cmp (pc_dnotin (hu_of hr) (pv 4) (pv 1))) (pw_and1 (pt_cmpR op_notIn_seq (pv 4) (pv 2) rfl)))) (pss_one (ps_ret (pv 4))) pss_nil))))
      (pss_one (ps_ret pe_non)))), ?_⟩
  walk_at "rd0"
  refine ⟨rfl, fun p hp => ?_⟩
  have sm : Same H (upd H p (.lst wordsV)) := same_new hp _
  have npd : d ≠ p := ne_of_none hd hp
  have bound := free_low hL hf
  have l1 := dictOf_len L
  walk_at "rd"
  refine rd_lenD (sm _ _ hd) ?_
  walk_at "rd"
  have ew : (((wordsV.length : Nat) : Int)) = 23 := rfl
  rw [ew]
  refine ⟨by omega, by omega, forR (n := (dictOf L).length + 23 + 2000) (by omega) (fun i σ H' => ∃ (v u : Option V), σ = [some (.str (mk z)), some (.ref d), some (.ref p), v, u] ∧ H' = upd H p (.lst wordsV) ∧ i ≤ n) ?_ ?_ ?_⟩
  · exact ⟨none, none, rfl, rfl, Nat.zero_le _⟩
  · rintro i σ H' hi ⟨v, u, rfl, rfl, hin⟩
    walk_at "rd"
    refine ⟨_, _, rfl, z, i, rfl, rfl, by omega, hz, ?_⟩
    walk_at "rd"
    refine rd_dnotin ?_
    walk_at "rd"
    refine rd_dg (sm _ _ hd) ?_
    rw [dictOf_get]
    walk_at "rd"
    by_cases e : i = n
    · subst e
      have h1 : wl z i ∉ L := fun q => hf.1 (.inl q)
      have h2 : wl z i ∉ W := fun q => hf.1 (.inr q)
      rw [decide_eq_false h1]
      walk_at "rd"
      refine ⟨p, _, rfl, .inl (SqL.of upd_same), rfl, flat_strs W, ?_⟩
      rw [if_pos rfl]
      unfold wordsV
      rw [in_strs, decide_eq_false h2]
      walk_at "rd"
      exact k _ sm
    · have hT := hf.2 i (by omega)
      by_cases h1 : wl z i ∈ L
      · rw [decide_eq_true h1]
        walk_at "rd"
        exact ⟨_, _, rfl, rfl, by omega⟩
      · have h2 : wl z i ∈ W := hT.resolve_left h1
        rw [decide_eq_false h1]
        walk_at "rd"
        refine ⟨p, _, rfl, .inl (SqL.of upd_same), rfl, flat_strs W, ?_⟩
        rw [if_pos rfl]
        unfold wordsV
        rw [in_strs, decide_eq_true h2]
        walk_at "rd"
        exact ⟨_, _, rfl, rfl, by omega⟩
  · rintro σ H' ⟨v, u, rfl, rfl, hin⟩
    omega
/-- names: a list or a tuple of texts -/
def Names (K : PySem.W.Frag) (H : Hp) (a : Addr) (L : List (List Nat)) : Prop := SqL K H a (L.map fun z => V.str (mk z)) ∨ SqT K H a (L.map fun z => V.str (mk z))
def sp_free_from (K : PySem.W.Frag) : Sp := Sp2 fun x y H Q _ => ∃ (z : List Nat) (a : Addr) (L : List (List Nat)) (n : Nat), x = .str (mk z) ∧ y = .ref a ∧ Names K H a L ∧ z.length ≤ 8 ∧ L.length ≤ 5000 ∧ Free z (fun x => x ∈ L ∨ x ∈ W) n ∧ ∀ H', Same H H' → Q (.str (mk (wl z n))) H'
theorem ok_free_from (T : Txt K mg) : FnOk P w K mg base CX0 3 T.f_free_from T.fd_free_from ["name", "names"] (sp_free_from K) := by
  refine T.F_free_from.ok sc_free_from Sp2.len (fun cdv A outer s H vs Q E hr h => ?_)
  obtain ⟨_, _, rfl, z, a, L, n, rfl, rfl, ha, hz, hL, hf, k⟩ := h
  refine ⟨_, (pss_cons (ps_setDc (i := 2) (own := [("item", 5)]) rfl sc_free_from.nd rfl rfl (sw_trueD rfl rfl rfl (by decide +kernel)) (pi_seq (pv 1)) (blkOk_by (own := [("item", 5)]) (N := N_free_from) (sc := defScope s_free_from) (by decide +kernel)) (fun _ _ _ _ _ => (pg_name (i := 5) sc_free_from.nd rfl (Or.inl rfl))) (fun _ _ _ _ _ => pts_nil) (fun _ _ _ _ _ => (pv 5)) (fun _ _ _ _ _ => pe_bl))
      (pss_cons (ps_par (i := 3) (j := 4) rfl sc_free_from.nd rfl rfl (by decide) rfl rfl (pa_cons (pv 0) (pa_cons pe_int pa_nil)) rfl)
      (pss_cons (ps_while PassesOwn.never (PW.pt (pw_or (pt_cmp (pc_din (hu_of hr) (pv 3) (pv 2))) (pw_or1 (pt_val (pe_call (ok_is_word T) (hr.mono (by decide)) rfl T.m_is_word T.F_is_word.kp T.b_is_word .nil pass0 (pa_cons (pv 3) pa_nil)))))) (pss_cons (ps_set (i := 4) sc_free_from.nd rfl (.inl rfl) (pe_op op_add (pv 4) pe_int))
      (pss_one (ps_set (i := 3) sc_free_from.nd rfl (.inl rfl) (pe_call (ok_with_letters T) (hr.mono (by decide)) rfl T.m_with_letters T.F_with_letters.kp T.b_with_letters .nil pass0 (pa_cons (pv 0) (pa_cons (pv 4) pa_nil)))))))
      (pss_one (ps_ret (pv 3)))))), ?_⟩
  have hlen : (L.map fun z => V.str (mk z)).length < sizeLine := by rw [List.length_map]; exact Nat.lt_of_le_of_lt hL (by decide)
  have go : ∀ (D : Addr) (H1 : Hp), Same H H1 → H1 D = some (.dK (dictOf L)) →
      tSeq (tPar 3 4 (tCons (tVar 0) (tCons (tC (V.int 0)) tNil)))
        (tSeq (tWhile (tOr (tB (tDIn (tVar 3) (tVar 2))) (tB (tCall sp_is_word [] E0 (tCons (tVar 3) tNil))))
            (tSeq (tAsg (tOp (rI0 fun i j => V.int (i + j)) (tVar 4) (tC (V.int 1))) (gName 4))
              (tAsg (tCall sp_longer [] E0 (tCons (tVar 0) (tCons (tVar 4) tNil))) (gName 3))))
          (tRet (tVar 3))) { nx := fun _ H' => Q V.non H', rt := Q } [some (V.str (mk z)), some (V.ref a), some (.ref D), none, none, none] H1 := by
    intro D H1 sm hD
    walk_at "rd"
    refine whl (fun m σ H' => ∃ i, m + i = n ∧ H' = H1 ∧ σ = [some (V.str (mk z)), some (V.ref a), some (.ref D), some (.str (mk (wl z i))), some (.int i), none]) n ⟨0, rfl, rfl, by rw [wl0 hz]; rfl⟩ ?_
    rintro m σ H' ⟨i, hm, rfl, rfl⟩
    have bound : n < 20000 := by have := free_low hL hf; have := dictOf_len L; omega
    walk_at "rd"
    refine rd_din ?_
    walk_at "rd"
    refine rd_dg hD ?_
    rw [dictOf_get]
    walk_at "rd"
    by_cases e : i = n
    · subst e
      have h1 : wl z i ∉ L := fun q => hf.1 (.inl q)
      have h2 : wl z i ∉ W := fun q => hf.1 (.inr q)
      rw [decide_eq_false h1]
      walk_at "rd"
      refine ⟨_, rfl, _, rfl, ?_⟩
      rw [decide_eq_false h2]
      walk_at "rd"
      exact k _ sm
    · have hT := hf.2 i (by omega)
      have turn : ∃ N : L2.St → Hp → Prop, (∀ σ' H'', N σ' H'' → ∃ m', m' < m ∧ ∃ i, m' + i = n ∧ H'' = H' ∧ σ' = [some (V.str (mk z)), some (V.ref a), some (.ref D), some (.str (mk (wl z i))), some (.int i), none]) ∧
          tSeq (tAsg (tOp (rI0 fun i j => V.int (i + j)) (tVar 4) (tC (V.int 1))) (gName 4)) (tAsg (tCall sp_longer [] E0 (tCons (tVar 0) (tCons (tVar 4) tNil))) (gName 3))
            { nx := N, rt := Q, ct := N, bk := tRet (tVar 3) { nx := fun _ H' => Q V.non H', rt := Q } } [some (V.str (mk z)), some (V.ref a), some (.ref D), some (.str (mk (wl z i))), some (.int i), none] H' := by
        refine ⟨fun σ' H'' => H'' = H' ∧ σ' = [some (V.str (mk z)), some (V.ref a), some (.ref D), some (.str (mk (wl z (i + 1)))), some (.int ((i + 1 : Nat) : Int)), none], fun σ' H'' q => ⟨m - 1, by omega, i + 1, by omega, q.1, q.2⟩, ?_⟩
        walk_at "rd"
        exact ⟨_, _, rfl, z, i + 1, rfl, rfl, by omega, hz, rfl, rfl⟩
      by_cases h1 : wl z i ∈ L
      · rw [decide_eq_true h1]
        walk_at "rd"
        exact turn
      · have h2 : wl z i ∈ W := hT.resolve_left h1
        rw [decide_eq_false h1]
        walk_at "rd"
        refine ⟨_, rfl, _, rfl, ?_⟩
        rw [decide_eq_true h2]
        walk_at "rd"
        exact turn
  have made : ∀ {J : It} {G : Hp → Prop} (w : Walk J L.length G (YAt (L.map fun z => V.str (mk z)))) (hG : ∀ H', Same H H' → G H') (D : Addr), H D = none → ∀ {Qd : Hp → Prop}, (∀ H', Same H H' → H' D = some (.dK (dictOf L)) → Qd H') → _ := fun {J G} w hG D hD {Qd} hd =>
    dcP (g := gName 5) (tt := tYes) (tk := tVar 5) (tv := tC (V.bl true)) (vs := [5]) (σ := [some (V.str (mk z)), some (V.ref a), none, none, none, none]) w (by rw [List.length_map]) yat_list hD hG hlen (fun x => match x with | .str y => (Sum.inr y, .bl true) | _ => (Sum.inl 0, .non)) (fun i x Hc hx sm F N hF => by
      rw [List.getElem?_map] at hx
      obtain ⟨c, hc, rfl⟩ := Option.map_eq_some_iff.mp hx
      walk_at "rd"
      refine ⟨rfl, ?_⟩
      walk_at "rd"
      exact hF) (fun H' sm h => hd H' sm (by rw [List.map_map] at h; exact h))
  walk_at "rd0"
  refine My.rd_iS ?_
  walk_at "rd"
  refine ⟨a, rfl, ?_⟩
  rcases ha with ha | ha
  · refine .inl ⟨⟨_, ha⟩, fun D hD => ?_⟩
    exact made (by have w := walk_list (K := K) (a := a) (xs := L.map fun z => V.str (mk z)); rw [List.length_map] at w; exact w) (fun H' s => s.seq ha) D hD (fun H' sm h => go D H' sm h)
  · refine .inr ⟨⟨_, ha⟩, fun D hD => ?_⟩
    exact made (by have w := walk_tup (K := K) (a := a) (xs := L.map fun z => V.str (mk z)); rw [List.length_map] at w; exact w) (fun H' s => s.tup ha) D hD (fun H' sm h => go D H' sm h)
end
end K01
set_option Elab.async false
set_option linter.all false
set_option maxRecDepth 100000
set_option maxHeartbeats 4000000

namespace K01
open PySem L2 My
section
variable {P : Program} {w : World} {K : PySem.W.Frag} {mg : Str → Option Value} {base : Heap}
def sp_is_list (K : PySem.W.Frag) : Sp := Sp1 fun x H Q _ => ∃ (t : String) (b1 b2 : Bool), (∀ H', Same H H' → TyX K H' x (.type t)) ∧ kitB t "list" = some b1 ∧ kitB t "tuple" = some b2 ∧ ∀ H', Same H H' → Q (.bl (b1 || b2)) H'
theorem ok_is_list (T : Txt K mg) : FnOk P w K mg base CX0 1 T.f_is_list T.fd_is_list ["value"] (sp_is_list K) := by
  refine T.F_is_list.ok sc_is_list Sp1.len (fun cdv A outer s H vs Q E hr h => ?_)
  obtain ⟨x, rfl, t, b1, b2, ty, h1, h2, k⟩ := h
  refine ⟨_, (pss_one (ps_ret (pe_callB call_isiT rfl T.n_isinstance (by decide +kernel) (pa_cons (pv 0) (pa_cons (pe_tup (pa_cons (pe_ty "list" T.n_list) (pa_cons (pe_ty "tuple" T.n_tuple) pa_nil))) pa_nil))))), ?_⟩
  walk_at "rd0"
  refine ⟨by show 2 ≤ sizeLine; decide, fun p hp => ?_⟩
  walk_at "rd"
  exact rd_isi2 upd_same (ty _ (same_new hp _)) h1 h2 (k _ (same_new hp _))
/-! ### values of any kind, judged -/
def nmV : V → Bool
  | .str y => isName y.cps.toList
  | _ => false
def Judged (K : PySem.W.Frag) (H : Hp) (x : V) : Prop := (∃ z, x = .str (mk z) ∧ z.length ≤ 1000) ∨ (nmV x = false ∧ ∃ t, (∀ H', Same H H' → TyX K H' x (.type t)) ∧ kitB t "str" = some false)
theorem Judged.same {H H' : Hp} {x : V} (s : Same H H') (h : Judged K H x) : Judged K H' x :=
  h.imp id fun ⟨a, t, b, c⟩ => ⟨a, t, fun H2 s2 => b H2 (s.trans s2), c⟩
def sp_judge (K : PySem.W.Frag) : Sp := Sp1 fun x H Q _ => Judged K H x ∧ ∀ H', Same H H' → Q (.bl (nmV x)) H'
theorem ok_judge (T : Txt K mg) : FnOk P w K mg base CX0 1 T.f_is_name T.fd_is_name ["value"] (sp_judge K) :=
  mono_sp (ok_is_name T) fun vs H Q E h => by
    obtain ⟨x, rfl, j, k⟩ := h
    refine ⟨x, rfl, ?_⟩
    rcases j with ⟨z, rfl, hz⟩ | ⟨nm, t, ty, ht⟩
    · exact .inl ⟨z, rfl, hz, k⟩
    · rw [nm] at k
      exact .inr ⟨t, ty H (Same.refl H), ht, k H (Same.refl H)⟩
theorem ok_init_InvalidName (T : Txt K mg) : FnOk P w K mg base CX0 1 T.i_InvalidName T.d_InvalidName ["self", "given"] (sp_given T.C_InvalidName) :=
  ok_given T.E_InvalidName ⟨rfl, rfl, rfl, by decide +kernel, rfl, by decide +kernel, by decide +kernel⟩ fun _ _ _ _ _ _ => pss_one (ps_ost (pv 0) (pv 1))
theorem ok_init_InvalidNames (T : Txt K mg) : FnOk P w K mg base CX0 1 T.i_InvalidNames T.d_InvalidNames ["self", "given"] (sp_given T.C_InvalidNames) :=
  ok_given T.E_InvalidNames ⟨rfl, rfl, rfl, by decide +kernel, rfl, by decide +kernel, by decide +kernel⟩ fun _ _ _ _ _ _ => pss_one (ps_ost (pv 0) (pv 1))
/-- a comprehension over a list or a tuple, whichever it is, of values without objects -/
theorem lcSeq {g : TG} {tt : TT} {te : TE} {vs : List Nat} {σ : L2.St} {H1 : Hp} {a : Addr} {xs : List V} {j : Nat} {Fin : Addr → Hp → Prop} (lt : SqL K H1 a xs ∨ SqT K H1 a xs) (hσ : σ[j]? = some (some (.ref a))) (small : xs.length < sizeLine) (p : V → Bool) (f : V → V)
    (hs : ∀ (i : Nat) (x : V) (Hc : Hp), xs[i]? = some x → Same H1 Hc → ∀ (F : V → Hp → Prop) (N : Hp → Prop), (p x = true → ∀ Hd, Same Hc Hd → F (f x) Hd) → (p x = false → ∀ Hd, Same Hc Hd → N Hd) →
      g x (wipe σ vs) Hc fun σ2 H2 => wipe σ2 vs = wipe σ vs ∧ tt σ2 H2 fun b H3 => if b = true then te σ2 H3 F else N H3)
    (hd : ∀ D H', Same H1 H' → H' D = some (.lst ((xs.filter p).map f)) → Fin D H') :
    iSeq K (tVar j) σ H1 (fun J H1 => ∀ D, H1 D = none → ∃ W : Nat → Nat → Hp → Prop, (∃ m, W 0 m (upd H1 D (.lst []))) ∧ ∀ i m H, W i m H →
      (J.stop i H ∧ Fin D H) ∨ (J.go i H ∧ ∃ Nx : Hp → Prop, (∀ H', Nx H' → ∃ m', m' < m ∧ W (i + 1) m' H') ∧ ∀ x H', J.yld i H x H' → g x (wipe σ vs) H' fun σ2 H2 => wipe σ2 vs = wipe σ vs ∧ tt σ2 H2 fun b H3 =>
        if b = true then te σ2 H3 fun y H4 => ∃ acc, H4 D = some (.lst acc) ∧ acc.length < sizeLine ∧ Nx (upd H4 D (.lst (acc ++ [y]))) else Nx H3)) := by
  refine ⟨.ref a, hσ, a, rfl, ?_⟩
  rcases lt with lt | lt
  · exact .inl ⟨⟨_, lt⟩, fun D hD => lcP (walk_list (K := K) (a := a)) rfl yat_list hD (fun H' s => s.seq lt) small p f hs (hd D)⟩
  · exact .inr ⟨⟨_, lt⟩, fun D hD => lcP (walk_tup (K := K) (a := a)) rfl yat_list hD (fun H' s => s.tup lt) small p f hs (hd D)⟩
/-! ### free_name: told, or one of two errors -/
def LT (H : Hp) (a : Addr) (xs : List V) : Prop := H a = some (.lst xs) ∨ H a = some (.tup xs)
def txts (L : List (List Nat)) : List V := L.map fun z => V.str (mk z)
def AskA (H : Hp) (x y : V) (R : V → Prop) : Prop := ∃ (z : List Nat) (L : List (List Nat)) (a : Addr) (n : Nat), x = .str (mk z) ∧ y = .ref a ∧ LT H a (txts L) ∧ Nm z ∧ (∀ l ∈ L, Nm l) ∧ L.length ≤ 5000 ∧ Free z (fun x => x ∈ L ∨ x ∈ W) n ∧ R (.str (mk (wl z n)))
def AskB (K : PySem.W.Frag) (H : Hp) (x : V) : Prop := Judged K H x ∧ nmV x = false
def AskC (K : PySem.W.Frag) (H : Hp) (x y : V) : Prop := (Judged K H x ∧ nmV x = true) ∧
  ((∃ t, (∀ H', Same H H' → TyX K H' y (.type t)) ∧ kitB t "list" = some false ∧ kitB t "tuple" = some false) ∨ ∃ a xs, y = .ref a ∧ LT H a xs ∧ xs.length ≤ 5000 ∧ (∀ v ∈ xs, Judged K H v) ∧ xs.all nmV = false)
def sp_free_name (K : PySem.W.Frag) (C1 C2 : Addr) : Sp := Sp2 fun x y H Q E => AskA H x y (fun v => ∀ H', Same H H' → Q v H') ∨
  (AskB K H x ∧ ∀ d H', Same H H' → H' d = some (.xd [(("given" : Str), x)]) → E (.ref C1) (some d) H') ∨
  (AskC K H x y ∧ ∀ d H', Same H H' → H' d = some (.xd [(("given" : Str), y)]) → E (.ref C2) (some d) H')
theorem nmV_str {z : List Nat} : nmV (.str (mk z)) = isName z := rfl
theorem LT.ty {H : Hp} {a : Addr} {xs : List V} (h : LT H a xs) : ∃ t b1 b2, (∀ H', Same H H' → TyX K H' (.ref a) (.type t)) ∧ kitB t "list" = some b1 ∧ kitB t "tuple" = some b2 ∧ (b1 || b2) = true := by
  rcases h with h | h
  · exact ⟨"list", true, false, fun H' s => ty_lst (s _ _ h), by decide +kernel, by decide +kernel, rfl⟩
  · exact ⟨"tuple", false, true, fun H' s => ty_tup (s _ _ h), by decide +kernel, by decide +kernel, rfl⟩
theorem LT.same {H H' : Hp} {a : Addr} {xs : List V} (s : Same H H') (h : LT H a xs) : LT H' a xs := h.imp (s _ _) (s _ _)
theorem ok_free_name (T : Txt K mg) : FnOk P w K mg base (L2.CX P w) 4 T.f_free_name T.fd_free_name ["name", "names"] (sp_free_name K T.C_InvalidName T.C_InvalidNames) := by
  refine T.F_free_name.okX sc_free_name Sp2.len (fun cdv A outer s H vs Q E hr h => ?_)
  obtain ⟨x, y, rfl, h⟩ := h
  have ok_is_name := @ok_judge P w K mg base
  refine ⟨_, (pss_cons (ps_if (pt_not (pt_val (pe_call (ok_is_name T) (hr.mono (by decide)) rfl T.m_is_name T.F_is_name.kp T.b_is_name .nil pass0 (pa_cons (pv 0) pa_nil)))) (pss_one (ps_raiseG T.E_InvalidName (ok_init_InvalidName T) (hr.mono (by decide)) (takes_of rfl rfl rfl rfl) (pv 0))) pss_nil)
      (pss_cons (ps_if (PW.pt (pw_or (pt_not (pt_val (pe_call (ok_is_list T) (hr.mono (by decide)) rfl T.m_is_list T.F_is_list.kp T.b_is_list .nil pass0 (pa_cons (pv 1) pa_nil)))) (pw_or1 (pt_not (pt_val (pe_callB (cr_all rfl) rfl T.n_all (by decide +kernel) (pa_cons (pe_lc (own := [("item", 2)]) rfl sc_free_name.nd (pi_seq (pv 1)) (blkOk_by (own := [("item", 2)]) (N := N_free_name) (sc := defScope s_free_name) (by decide +kernel)) (fun _ _ _ _ _ => (pg_name (i := 2) sc_free_name.nd rfl (Or.inl rfl))) (fun _ _ _ _ _ => pts_nil) (fun _ _ _ _ _ => (pe_call (ok_is_name T) (hr.mono (by decide)) rfl T.m_is_name T.F_is_name.kp T.b_is_name .nil pass0 (pa_cons (pv 2) pa_nil)))) pa_nil))))))) (pss_one (ps_raiseG T.E_InvalidNames (ok_init_InvalidNames T) (hr.mono (by decide)) (takes_of rfl rfl rfl rfl) (pv 1))) pss_nil)
      (pss_one (ps_ret (pe_call (ok_free_from T) (hr.mono (by decide)) rfl T.m_free_from T.F_free_from.kp T.b_free_from .nil pass0 (pa_cons (pv 0) (pa_cons (pv 1) pa_nil))))))), ?_⟩
  /- all names of a list judged -/
  have judge : ∀ (a : Addr) (xs : List V) (H1 : Hp), LT H a xs → Same H H1 → xs.length ≤ 5000 → (∀ v ∈ xs, Judged K H v) → ∀ {Fin : Addr → Hp → Prop}, (∀ D H2, Same H1 H2 → H2 D = some (.lst ((xs.map nmV).map V.bl)) → Fin D H2) → _ := fun a xs H1 lt sm hlen hj {Fin} k =>
    lcSeq (g := gName 2) (tt := tYes) (te := tCall (sp_judge K) [] E0 (tCons (tVar 2) tNil)) (vs := [2]) (σ := [some x, some (.ref a), none]) (Fin := Fin) (lt.imp (fun z => SqL.of (sm _ _ z)) (fun z => SqT.of (sm _ _ z)) : SqL K H1 a xs ∨ SqT K H1 a xs) (j := 1) rfl (Nat.lt_of_le_of_lt hlen (by decide)) (fun _ => true) (fun v => .bl (nmV v)) (fun i v Hc hx s2 F N hF hN => by
        walk_at "rd"
        refine ⟨rfl, ?_⟩
        walk_at "rd"
        exact ⟨v, rfl, (hj v (List.mem_of_getElem? hx)).same (sm.trans s2), fun H' s3 => hF rfl H' s3⟩) (fun D H' s2 h => k D H' s2 (by
          rw [List.filter_eq_self.mpr (fun _ _ => rfl)] at h
          rw [List.map_map]
          exact h))
  have done : ∀ (xs : List V) (D : Addr) (H' : Hp) (R : VK), H' D = some (.lst ((xs.map nmV).map V.bl)) → R (.bl (xs.all nmV)) H' → rAll K [.ref D] H' R := fun xs D H' R h k => by
      refine rd_all (SqL.of h) ?_
      have e : (xs.map nmV).all id = xs.all nmV := by rw [List.all_map]; rfl
      rw [e]
      exact k
  walk_at "rd0"
  rcases h with ⟨z, L, a, n, rfl, rfl, lt, nz, nL, hL, hf, k⟩ | ⟨⟨jx, nx⟩, k⟩ | ⟨⟨⟨jx, nx⟩, hy⟩, k⟩
  · have e1 : isName z = true := isName_iff.mpr nz
    refine ⟨_, rfl, .inl ⟨z, rfl, Nat.le_trans nz.len (by decide)⟩, fun H1 s1 => ?_⟩
    rw [nmV_str, e1]
    walk_at "rd"
    obtain ⟨t, b1, b2, ty, t1, t2, tb⟩ := lt.ty
    refine ⟨_, rfl, t, b1, b2, fun H' s2 => ty H' (s1.trans s2), t1, t2, fun H2 s2 => ?_⟩
    rw [tb]
    walk_at "rd"
    refine judge a (txts L) H2 lt (s1.trans s2) (by unfold txts; rw [List.length_map]; exact hL) (fun v hv => ?_) (fun D H3 s3 h3 => ?_)
    · obtain ⟨l, hl, rfl⟩ := List.mem_map.mp hv
      exact .inl ⟨l, rfl, Nat.le_trans (nL l hl).len (by decide)⟩
    · have e2 : (txts L).all nmV = true := by
        unfold txts
        rw [List.all_map, List.all_eq_true]
        intro l hl
        exact isName_iff.mpr (nL l hl)
      walk_at "rd"
      refine done _ D H3 _ h3 ?_
      rw [e2]
      walk_at "rd"
      have s123 := (s1.trans s2).trans s3
      refine ⟨_, _, rfl, z, a, L, n, rfl, rfl, (lt.same s123).imp SqL.of SqT.of, nz.len, hL, hf, fun H4 s4 => k H4 (s123.trans s4)⟩
  · refine ⟨_, rfl, jx, fun H1 s1 => ?_⟩
    rw [nx]
    walk_at "rd"
    refine rd_raise ?_
    walk_at "rd"
    refine raise_end fun d hd => ?_
    exact k d _ (s1.trans (same_new hd _)) upd_same
  · refine ⟨_, rfl, jx, fun H1 s1 => ?_⟩
    rw [nx]
    walk_at "rd"
    rcases hy with ⟨t, ty, t1, t2⟩ | ⟨a, xs, rfl, lt, hlen, hj, hall⟩
    · refine ⟨_, rfl, t, false, false, fun H' s2 => ty H' (s1.trans s2), t1, t2, fun H2 s2 => ?_⟩
      rw [show (false || false) = false from rfl]
      walk_at "rd"
      refine rd_raise ?_
      walk_at "rd"
      refine raise_end fun d hd => ?_
      exact k d _ ((s1.trans s2).trans (same_new hd _)) upd_same
    · obtain ⟨t, b1, b2, ty, t1, t2, tb⟩ := lt.ty
      refine ⟨_, rfl, t, b1, b2, fun H' s2 => ty H' (s1.trans s2), t1, t2, fun H2 s2 => ?_⟩
      rw [tb]
      walk_at "rd"
      refine judge a xs H2 lt (s1.trans s2) hlen hj (fun D H3 s3 h3 => ?_)
      walk_at "rd"
      refine done _ D H3 _ h3 ?_
      rw [hall]
      walk_at "rd"
      refine rd_raise ?_
      walk_at "rd"
      refine raise_end fun d hd => ?_
      exact k d _ (((s1.trans s2).trans s3).trans (same_new hd _)) upd_same
theorem rd_callN0S {m : Nat} {sp : Sp} {gV : List V → List V → List V} {E : L2.St → XK} {tk : TA} {σ : L2.St} {H : Hp} {Q : VK} (h : tk σ H fun zs H2 => zs.length = m ∧ sp (gV [] zs) H2 Q (E σ)) : tCallN0S m sp gV E tk σ H Q := h
theorem rd_callN0 {m : Nat} {sp : Sp} {gV : List V → List V → List V} {E : XK} {tk : TA} {σ : L2.St} {H : Hp} {Q : VK} (h : tk σ H fun zs H2 => zs.length = m ∧ sp (gV [] zs) H2 Q E) : tCallN0 m sp gV E tk σ H Q := h
theorem rd_callS {sp : Sp} {E : L2.St → XK} {t : TA} {σ : L2.St} {H : Hp} {Q : VK} (h : t σ H fun vs H1 => sp vs H1 Q (E σ)) : tCallS sp E t σ H Q := h
/-! ### asked: the answer, or what was refused -/
def sp_asked (K : PySem.W.Frag) : Sp := Sp3 fun x y b H Q _ => ∃ f, b = .bl f ∧ (AskA H x y (fun v => ∀ p H', H p = none → Same H H' → H' p = some (.lst [.str "told", v]) → Q (.ref p) H') ∨
  (AskB K H x ∧ ∀ p H', H p = none → Same H H' → H' p = some (.lst [.str "name", x, .bl true]) → Q (.ref p) H') ∨
  (AskC K H x y ∧ ∀ p H', H p = none → Same H H' → H' p = some (.lst [.str "names", y, .bl true]) → Q (.ref p) H'))
theorem ok_law_asked (T : Txt K mg) : FnOk P w K mg base CX0 5 T.f_law_asked T.fd_law_asked ["name", "names", "named"] (sp_asked K) := by
  refine T.F_law_asked.ok sc_law_asked Sp3.len (fun cdv A outer s H vs Q E hr h => ?_)
  obtain ⟨x, y, _, rfl, f, rfl, h⟩ := h
  refine ⟨_, (pss_one (ps_tryC rfl rfl sc_law_asked.nd takes0 (fun W pn xe tk hpo => (pss_one (ps_ret (pe_lst (pa_cons pe_str (pa_cons (pe_ifExp (pt_val (pv 2)) (pe_callN0S (ok_free_name T) (hr.mono (by decide)) rfl T.m_free_name T.F_free_name.kp T.k_free_name_0_names_name (fun σ => passAt tk σ) (pk_cons (pv 1) (pk_cons (pv 0) pk_nil))) (pe_callS (ok_free_name T) (hr.mono (by decide)) rfl T.m_free_name T.F_free_name.kp T.b_free_name (fun σ => passAt tk σ) (pa_cons (pv 0) (pa_cons (pv 1) pa_nil)))) pa_nil)))))) (Clauses.some ⟨rfl, by decide, .inl T.E_InvalidName.m⟩ (.inr ⟨3, "e", rfl, rfl, rfl, rfl⟩) (fun e o kls dd l hz hf => (pss_one (ps_ret (pe_lst (pa_cons pe_str (pa_cons (pe_xf T.E_InvalidName.xf T.E_InvalidName.no hz hf (pv 3)) (pa_cons (pe_callB (call_isED T.E_InvalidName.et hz hf) rfl T.n_isinstance (by decide +kernel) (pa_cons (pv 3) (pa_cons (rd_gR T.m_CutError) pa_nil))) pa_nil))))))) (Clauses.some ⟨rfl, by decide, .inl T.E_InvalidNames.m⟩ (.inr ⟨3, "e", rfl, rfl, rfl, rfl⟩) (fun e o kls dd l hz hf => (pss_one (ps_ret (pe_lst (pa_cons pe_str (pa_cons (pe_xf T.E_InvalidNames.xf T.E_InvalidNames.no hz hf (pv 3)) (pa_cons (pe_callB (call_isED T.E_InvalidNames.et hz hf) rfl T.n_isinstance (by decide +kernel) (pa_cons (pv 3) (pa_cons (rd_gR T.m_CutError) pa_nil))) pa_nil))))))) Clauses.none)))), ?_⟩
  walk_at "rd0"
  have fin : ∀ (R : VK) (E' : XK), (∀ v H1, Same H H1 → (∀ p H', H1 p = none → H' = upd H1 p (.lst [.str "told", v]) → Q (.ref p) H') → R v H1) →
      (∀ d H1, Same H H1 → H1 d = some (.xd [(("given" : Str), x)]) → (∀ p H', H1 p = none → H' = upd H1 p (.lst [.str "name", x, .bl true]) → Q (.ref p) H') → E' (.ref T.C_InvalidName) (some d) H1) →
      (∀ d H1, Same H H1 → H1 d = some (.xd [(("given" : Str), y)]) → (∀ p H', H1 p = none → H' = upd H1 p (.lst [.str "names", y, .bl true]) → Q (.ref p) H') → E' (.ref T.C_InvalidNames) (some d) H1) →
      sp_free_name K T.C_InvalidName T.C_InvalidNames [x, y] H R E' := by
    intro R E' k1 k2 k3
    have fr : ∀ {H1 : Hp} {p : Addr}, Same H H1 → H1 p = none → H p = none := fun s e => s.free e
    refine ⟨x, y, rfl, ?_⟩
    rcases h with ⟨z, L, a, n, e1, e2, lt, nz, nL, hL, hf, k⟩ | ⟨b, k⟩ | ⟨c, k⟩
    · refine .inl ⟨z, L, a, n, e1, e2, lt, nz, nL, hL, hf, fun H1 s1 => k1 _ H1 s1 fun p H' hp eH => ?_⟩
      subst eH
      exact k p _ (fr s1 hp) (s1.trans (same_new hp _)) upd_same
    · refine .inr (.inl ⟨b, fun d H1 s1 hd => k2 d H1 s1 hd fun p H' hp eH => ?_⟩)
      subst eH
      exact k p _ (fr s1 hp) (s1.trans (same_new hp _)) upd_same
    · refine .inr (.inr ⟨c, fun d H1 s1 hd => k3 d H1 s1 hd fun p H' hp eH => ?_⟩)
      subst eH
      exact k p _ (fr s1 hp) (s1.trans (same_new hp _)) upd_same
  refine rd_tie (fun ef => ?_) (fun ef => ?_)
  · refine rd_callN0S ?_
    walk_at "rd"
    refine ⟨rfl, ?_⟩
    refine fin _ _ (fun v H1 s1 k => ?_) (fun d H1 s1 hd k => ?_) (fun d H1 s1 hd k => ?_)
    · walk_at "rd"
      exact ⟨by show 2 ≤ sizeLine; decide, fun p hp => k p _ hp rfl⟩
    · refine ⟨true, T.x_11, fun _ e he => ?_, fun z => by cases z⟩
      show tRet _ _ _ _
      walk_at "rd"
      refine ⟨_, rfl, rfl, rfl, d, _, x, rfl, hd, rfl, ?_⟩
      walk_at "rd"
      refine ⟨rfl, d, _, rfl, hd, _, _, true, rfl, fun u hu => hu, T.k_1, ?_⟩
      walk_at "rd"
      exact ⟨by show 3 ≤ sizeLine; decide, fun p hp => k p _ hp rfl⟩
    · refine ⟨false, T.x_21, (fun z => by cases z), fun _ => ⟨true, T.x_22, fun _ e he => ?_, (fun z => by cases z)⟩⟩
      show tRet _ _ _ _
      walk_at "rd"
      refine ⟨_, rfl, rfl, rfl, d, _, y, rfl, hd, rfl, ?_⟩
      walk_at "rd"
      refine ⟨rfl, d, _, rfl, hd, _, _, true, rfl, fun u hu => hu, T.k_2, ?_⟩
      walk_at "rd"
      exact ⟨by show 3 ≤ sizeLine; decide, fun p hp => k p _ hp rfl⟩
  · refine rd_callS ?_
    walk_at "rd"
    refine fin _ _ (fun v H1 s1 k => ?_) (fun d H1 s1 hd k => ?_) (fun d H1 s1 hd k => ?_)
    · walk_at "rd"
      exact ⟨by show 2 ≤ sizeLine; decide, fun p hp => k p _ hp rfl⟩
    · refine ⟨true, T.x_11, fun _ e he => ?_, fun z => by cases z⟩
      show tRet _ _ _ _
      walk_at "rd"
      refine ⟨_, rfl, rfl, rfl, d, _, x, rfl, hd, rfl, ?_⟩
      walk_at "rd"
      refine ⟨rfl, d, _, rfl, hd, _, _, true, rfl, fun u hu => hu, T.k_1, ?_⟩
      walk_at "rd"
      exact ⟨by show 3 ≤ sizeLine; decide, fun p hp => k p _ hp rfl⟩
    · refine ⟨false, T.x_21, (fun z => by cases z), fun _ => ⟨true, T.x_22, fun _ e he => ?_, (fun z => by cases z)⟩⟩
      show tRet _ _ _ _
      walk_at "rd"
      refine ⟨_, rfl, rfl, rfl, d, _, y, rfl, hd, rfl, ?_⟩
      walk_at "rd"
      refine ⟨rfl, d, _, rfl, hd, _, _, true, rfl, fun u hu => hu, T.k_2, ?_⟩
      walk_at "rd"
      exact ⟨by show 3 ≤ sizeLine; decide, fun p hp => k p _ hp rfl⟩
end
end K01
set_option Elab.async false
set_option linter.all false
set_option maxRecDepth 100000
set_option maxHeartbeats 4000000

namespace K01
open PySem L2 My
/-! ### data: what a value is worth, and where its parts lie -/
inductive D where
  | non | bl (b : Bool) | int (i : Int) | str (z : List Nat) | lst (l : List D) | tup (l : List D) | dic (more : Bool)
def dicOf : Bool → List (Key × V)
  | false => []
  | true => [(Sum.inr (mk [97]), .int 1)]
/-- v is worth d in the heap H; its objects lie within S, no deeper than n; a list's own place is none of its items' -/
def Rp (H : Hp) : Nat → (Addr → Prop) → V → D → Prop
  | _, _, v, .non => v = .non
  | _, _, v, .bl b => v = .bl b
  | _, _, v, .int i => v = .int i
  | _, _, v, .str z => v = .str (mk z) ∧ z.length ≤ 1000
  | _, S, v, .dic m => ∃ a, v = .ref a ∧ S a ∧ H a = some (.dK (dicOf m))
  | 0, _, _, .lst _ => False
  | 0, _, _, .tup _ => False
  | n + 1, S, v, .lst l => ∃ a xs, v = .ref a ∧ S a ∧ H a = some (.lst xs) ∧ xs.length ≤ 1000 ∧ Paired (Rp H n fun b => S b ∧ b ≠ a) xs l
  | n + 1, S, v, .tup l => ∃ a xs, v = .ref a ∧ S a ∧ H a = some (.tup xs) ∧ xs.length ≤ 1000 ∧ Paired (Rp H n fun b => S b ∧ b ≠ a) xs l
theorem Rp.go {H H' : Hp} : ∀ (n : Nat) (S S' : Addr → Prop) (v : V) (d : D), (∀ b, S b → S' b) → (∀ b o, S b → H b = some o → H' b = some o) → Rp H n S v d → Rp H' n S' v d := by
  intro n
  induction n with
  | zero =>
    intro S S' v d hS hH h
    cases d with
    | non => exact h
    | bl b => exact h
    | int i => exact h
    | str z => exact h
    | dic m => obtain ⟨a, e, s, q⟩ := h; exact ⟨a, e, hS _ s, hH _ _ s q⟩
    | lst l => exact h.elim
    | tup l => exact h.elim
  | succ n ih =>
    intro S S' v d hS hH h
    cases d with
    | non => exact h
    | bl b => exact h
    | int i => exact h
    | str z => exact h
    | dic m => obtain ⟨a, e, s, q⟩ := h; exact ⟨a, e, hS _ s, hH _ _ s q⟩
    | lst l =>
      obtain ⟨a, xs, e, s, q, hl, p⟩ := h
      exact ⟨a, xs, e, hS _ s, hH _ _ s q, hl, Paired.mapP p fun x y z => ih _ _ x y (fun b hb => ⟨hS _ hb.1, hb.2⟩) (fun b o hb => hH b o hb.1) z⟩
    | tup l =>
      obtain ⟨a, xs, e, s, q, hl, p⟩ := h
      exact ⟨a, xs, e, hS _ s, hH _ _ s q, hl, Paired.mapP p fun x y z => ih _ _ x y (fun b hb => ⟨hS _ hb.1, hb.2⟩) (fun b o hb => hH b o hb.1) z⟩
/-- no dict within -/
def Nd : Nat → D → Prop
  | _, .dic _ => False
  | n + 1, .lst l => ∀ d ∈ l, Nd n d
  | n + 1, .tup l => ∀ d ∈ l, Nd n d
  | _, _ => True
abbrev Any : Addr → Prop := fun _ => True
theorem Rp.same {H H' : Hp} {n : Nat} {S : Addr → Prop} {v : V} {d : D} (s : Same H H') (h : Rp H n S v d) : Rp H' n S v d := Rp.go n S S v d (fun _ z => z) (fun b o _ q => s b o q) h
theorem Rp.any {H : Hp} {n : Nat} {S : Addr → Prop} {v : V} {d : D} (h : Rp H n S v d) : Rp H n Any v d := Rp.go n S Any v d (fun _ _ => trivial) (fun _ _ _ q => q) h
/-- the type's name -/
def D.ty : D → String
  | .non => "NoneType" | .bl _ => "bool" | .int _ => "int" | .str _ => "str" | .lst _ => "list" | .tup _ => "tuple" | .dic _ => "dict"
theorem Rp.ty {K : PySem.W.Frag} {H : Hp} {n : Nat} {S : Addr → Prop} {v : V} {d : D} (h : Rp H n S v d) : TyX K H v (.type d.ty) := by
  cases d with
  | non => cases n <;> (cases (show v = V.non from h); exact .base .non)
  | bl b => cases n <;> (cases (show v = V.bl b from h); exact .base (.bl b))
  | int i => cases n <;> (cases (show v = V.int i from h); exact .base (.int i))
  | str z => cases n <;> (obtain ⟨e, _⟩ := (show v = V.str (mk z) ∧ _ from h); cases e; exact .base (.str _))
  | dic m => cases n <;> (obtain ⟨a, e, _, q⟩ := h; cases e; exact ty_dic q)
  | lst l => cases n with
    | zero => exact h.elim
    | succ n => obtain ⟨a, xs, e, _, q, _⟩ := h; cases e; exact ty_lst q
  | tup l => cases n with
    | zero => exact h.elim
    | succ n => obtain ⟨a, xs, e, _, q, _⟩ := h; cases e; exact ty_tup q
theorem Paired.at {α β : Type} {F : α → β → Prop} : ∀ {l : List α} {m : List β} {i : Nat} {x : α}, Paired F l m → l[i]? = some x → ∃ y, m[i]? = some y ∧ F x y
  | _, _, _, _, .nil, e => by simp at e
  | _, _, 0, _, .cons r _, e => by simp at e; subst e; exact ⟨_, rfl, r⟩
  | _, _, i + 1, x, .cons _ t, e => by
    obtain ⟨y, h1, h2⟩ := Paired.at (i := i) (x := x) t (by simpa using e)
    exact ⟨y, by simpa using h1, h2⟩
section
variable {P : Program} {w : World} {K : PySem.W.Frag} {mg : Str → Option Value} {base : Heap}
/-- two values of the same worth are the same -/
def sp_same : Nat → Sp
  | 0 => fun _ _ _ _ => False
  | n + 1 => Sp2 fun x y H Q _ => ∃ d, Nd n d ∧ Rp H n Any x d ∧ Rp H n Any y d ∧ ∀ H', Same H H' → Q (.bl true) H'
theorem sp_same_len {n : Nat} : ∀ vs H Q E, sp_same n vs H Q E → vs.length = 2 := by
  intro vs H Q E h
  cases n with
  | zero => exact h.elim
  | succ n => exact Sp2.len (P := fun x y H Q _ => ∃ d, Nd n d ∧ Rp H n Any x d ∧ Rp H n Any y d ∧ ∀ H', Same H H' → Q (.bl true) H') _ _ _ E h
theorem none_same {f : Addr} {fd : FuncData} {ps : List Str} : FnOk P w K mg base CX0 0 f fd ps (sp_same 0) :=
  ⟨fun vs H Q E h => h.elim, fun A outer s H args us vs Q E _ _ _ _ h => h.elim⟩
theorem rd_is {H : Hp} {Q : VK} {a b : Bool} (q : Q (.bl (decide (a = b))) H) : rIsB (.bl a) (.bl b) H Q := ⟨a, b, rfl, rfl, q⟩
theorem rd_nilnil {X : PySem.W.Frag} {H : Hp} {Q : VK} {p q : Addr} (hp : H p = some (.lst [])) (hq : H q = some (.lst [])) (k : Q (.bl true) H) : rEqD X (.ref p) (.ref q) H Q :=
  ⟨.list [], .list [], .lst (SqL.of hp) .nil, .lst (SqL.of hq) .nil, by decide, by decide, by
    have e : PyData.eqv (.list []) (.list []) = true := by decide
    rw [e]; exact k⟩
theorem same_step (T : Txt K mg) (n : Nat) (G : FnOk P w K mg base CX0 n T.f_law_same T.fd_law_same ["told", "due"] (sp_same n)) : FnOk P w K mg base CX0 (n + 1) T.f_law_same T.fd_law_same ["told", "due"] (sp_same (n + 1)) := by
  refine T.F_law_same.ok sc_law_same sp_same_len (fun cdv A outer s H vs Q E hr h => ?_)
  obtain ⟨x, y, rfl, d, nd, hx, hy, k⟩ := h
  refine ⟨_, (pss_cons (ps_if (PW.pt (pw_or (pt_cmpR op_isN (pv 1) pe_non (nomark _)) (pw_or1 (pt_val (pe_callB call_isi rfl T.n_isinstance (by decide +kernel) (pa_cons (pv 1) (pa_cons (pe_ty "bool" T.n_bool) pa_nil))))))) (pss_one (ps_ret (pe_ifExp (pt_cmpR op_isN (pv 1) pe_non (nomark _)) (pe_cmpR op_isN (pv 0) pe_non (nomark _)) (pe_and (pe_callB call_isi rfl T.n_isinstance (by decide +kernel) (pa_cons (pv 0) (pa_cons (pe_ty "bool" T.n_bool) pa_nil))) (pe_one (pe_cmpR op_eq (pe_cmpR op_isBl (pv 0) pe_bl (nomark _)) (pe_cmpR op_isBl (pv 1) pe_bl (nomark _)) (nomark _))))))) pss_nil)
      (pss_cons (ps_if (pt_val (pe_callB call_isi rfl T.n_isinstance (by decide +kernel) (pa_cons (pv 1) (pa_cons (pe_ty "int" T.n_int) pa_nil)))) (pss_one (ps_ret (pe_and (pe_callB call_isi rfl T.n_isinstance (by decide +kernel) (pa_cons (pv 0) (pa_cons (pe_ty "int" T.n_int) pa_nil))) (pe_and (pe_not (pe_callB call_isi rfl T.n_isinstance (by decide +kernel) (pa_cons (pv 0) (pa_cons (pe_ty "bool" T.n_bool) pa_nil)))) (pe_one (pe_cmpR op_eq (pe_op op_sub (pe_callTy call_int1 rfl T.n_int (by decide +kernel) (pa_cons (pv 0) pa_nil)) (pv 1)) pe_int (nomark _))))))) pss_nil)
      (pss_cons (ps_if (pt_val (pe_callB call_isi rfl T.n_isinstance (by decide +kernel) (pa_cons (pv 1) (pa_cons (pe_ty "str" T.n_str) pa_nil)))) (pss_one (ps_ret (pe_and (pe_callB call_isi rfl T.n_isinstance (by decide +kernel) (pa_cons (pv 0) (pa_cons (pe_ty "str" T.n_str) pa_nil))) (pe_and (pe_cmpR op_eq (pe_callB call_len_str rfl T.n_len (by decide +kernel) (pa_cons (pv 0) pa_nil)) (pe_callB call_len_str rfl T.n_len (by decide +kernel) (pa_cons (pv 1) pa_nil)) (nomark _)) (pe_one (pe_cmpR (op_eqD hr.units) (pe_lc (own := [("k", 2)]) (tt := _) rfl sc_law_same.nd (pi_range1 rfl T.n_range (pa_cons (pe_callB call_len_str rfl T.n_len (by decide +kernel) (pa_cons (pv 1) pa_nil)) pa_nil)) (blkOk_by (own := [("k", 2)]) (N := N_law_same) (sc := defScope s_law_same) (by decide +kernel)) (fun _ _ _ _ _ => (pg_name (i := 2) sc_law_same.nd rfl (Or.inl rfl))) (fun _ _ _ _ _ => (pts_one (pt_cmpR op_ne (pe_slice sl_str (pv 0) (po_some (pv 2)) (po_some (pe_op op_add (pv 2) pe_int))) (pe_ix ix_str (pv 1) (pv 2) (fun _ _ => rfl)) (nomark _)))) (fun _ _ _ _ _ => (pv 2))) (pe_lst pa_nil) (nomark _))))))) pss_nil)
      (pss_cons (ps_if (PW.pt (pw_or (pt_not (pt_val (pe_callB call_isiT rfl T.n_isinstance (by decide +kernel) (pa_cons (pv 1) (pa_cons (pe_tup (pa_cons (pe_ty "list" T.n_list) (pa_cons (pe_ty "tuple" T.n_tuple) pa_nil))) pa_nil))))) (pw_or1 (pt_not (pt_val (pe_callB call_isiT rfl T.n_isinstance (by decide +kernel) (pa_cons (pv 0) (pa_cons (pe_tup (pa_cons (pe_ty "list" T.n_list) (pa_cons (pe_ty "tuple" T.n_tuple) pa_nil))) pa_nil)))))))) (pss_one (ps_ret pe_bl)) pss_nil)
      (pss_cons (ps_if (PW.pt (pw_or (pt_cmpR op_ne (pe_callB call_isi rfl T.n_isinstance (by decide +kernel) (pa_cons (pv 0) (pa_cons (pe_ty "list" T.n_list) pa_nil))) (pe_callB call_isi rfl T.n_isinstance (by decide +kernel) (pa_cons (pv 1) (pa_cons (pe_ty "list" T.n_list) pa_nil))) (nomark _)) (pw_or1 (pt_cmpR op_ne (pe_callB call_len_seq rfl T.n_len (by decide +kernel) (pa_cons (pv 0) pa_nil)) (pe_callB call_len_seq rfl T.n_len (by decide +kernel) (pa_cons (pv 1) pa_nil)) (nomark _))))) (pss_one (ps_ret pe_bl)) pss_nil)
      (pss_one (ps_ret (pe_cmpR (op_eqD hr.units) (pe_lc (own := [("k", 2)]) (tt := _) rfl sc_law_same.nd (pi_range1 rfl T.n_range (pa_cons (pe_callB call_len_seq rfl T.n_len (by decide +kernel) (pa_cons (pv 1) pa_nil)) pa_nil)) (blkOk_by (own := [("k", 2)]) (N := N_law_same) (sc := defScope s_law_same) (by decide +kernel)) (fun _ _ _ _ _ => (pg_name (i := 2) sc_law_same.nd rfl (Or.inl rfl))) (fun _ _ _ _ _ => (pts_one (pt_not (pt_val (pe_call G hr rfl T.m_law_same T.F_law_same.kp T.b_law_same .nil pass0 (pa_cons (pe_ix (r := rIx K) ix_seq (pv 0) (pv 2) (fun _ _ => rfl)) (pa_cons (pe_ix (r := rIx K) ix_seq (pv 1) (pv 2) (fun _ _ => rfl)) pa_nil))))))) (fun _ _ _ _ _ => (pv 2))) (pe_lst pa_nil) (nomark _))))))))), ?_⟩
  have nN : ∀ {v : V}, v ≠ V.non → decide (v = V.non) = false := fun h => decide_eq_false h
  cases d with
  | non =>
    obtain rfl : x = V.non := by cases n <;> exact hx
    obtain rfl : y = V.non := by cases n <;> exact hy
    have dN : decide (V.non = V.non) = true := rfl
    walk_at "rd0"
    refine ⟨rfl, ?_⟩
    rw [dN]
    walk_at "rd"
    refine ⟨rfl, ?_⟩
    rw [dN]
    walk_at "rd"
    refine ⟨rfl, ?_⟩
    rw [dN]
    exact k H (Same.refl H)
  | bl b =>
    obtain rfl : x = V.bl b := by cases n <;> exact hx
    obtain rfl : y = V.bl b := by cases n <;> exact hy
    have ty : TyX K H (V.bl b) (.type "bool") := hx.ty
    walk_at "rd0"
    refine ⟨rfl, ?_⟩
    rw [nN (fun z => by cases z)]
    walk_at "rd"
    refine rd_isi (b := true) ty (by decide +kernel) ?_
    walk_at "rd"
    refine ⟨rfl, ?_⟩
    rw [nN (fun z => by cases z)]
    walk_at "rd"
    refine rd_isi (b := true) ty (by decide +kernel) ?_
    refine rd_blV (rd_ite_t ?_)
    walk_at "rd"
    refine rd_is ?_
    walk_at "rd"
    refine rd_is ?_
    walk_at "rd"
    rw [decide_eq_true rfl]
    exact k H (Same.refl H)
  | int i =>
    obtain rfl : x = V.int i := by cases n <;> exact hx
    obtain rfl : y = V.int i := by cases n <;> exact hy
    have ty : TyX K H (V.int i) (.type "int") := hx.ty
    walk_at "rd0"
    refine ⟨rfl, ?_⟩
    rw [nN (fun z => by cases z)]
    walk_at "rd"
    refine rd_isi (b := false) ty (by decide +kernel) ?_
    walk_at "rd"
    refine rd_isi (b := true) ty (by decide +kernel) ?_
    walk_at "rd"
    refine rd_isi (b := true) ty (by decide +kernel) ?_
    refine rd_blV (rd_ite_t ?_)
    walk_at "rd"
    refine rd_isi (b := false) ty (by decide +kernel) ?_
    refine rd_blV (rd_blV ?_)
    refine rd_ite_t ?_
    walk_at "rd"
    rw [decide_eq_true (by rw [Int.sub_self])]
    exact k H (Same.refl H)
  | str z =>
    obtain ⟨rfl, hz⟩ : x = V.str (mk z) ∧ z.length ≤ 1000 := by cases n <;> exact hx
    obtain ⟨rfl, _⟩ : y = V.str (mk z) ∧ z.length ≤ 1000 := by cases n <;> exact hy
    have ty : TyX K H (V.str (mk z)) (.type "str") := hx.ty
    have hl : (mk z).length ≤ sizeLine := by rw [mk_len]; exact Nat.le_trans hz (by decide)
    walk_at "rd0"
    refine ⟨rfl, ?_⟩
    rw [nN (fun z => by cases z)]
    walk_at "rd"
    refine rd_isi (b := false) ty (by decide +kernel) ?_
    walk_at "rd"
    refine rd_isi (b := false) ty (by decide +kernel) ?_
    walk_at "rd"
    refine rd_isi (b := true) ty (by decide +kernel) ?_
    walk_at "rd"
    refine rd_isi (b := true) ty (by decide +kernel) ?_
    refine rd_blV (rd_ite_t ?_)
    walk_at "rd"
    refine rd_lenS hl ?_
    walk_at "rd"
    refine rd_lenS hl ?_
    walk_at "rd"
    rw [decide_eq_true rfl]
    refine rd_ite_t ?_
    walk_at "rd"
    refine rd_lenS hl ?_
    rw [mk_len]
    walk_at "rd"
    refine ⟨by omega, by omega, fun D hD => ?_⟩
    refine lcP (walk_rng z.length) (by rw [List.length_map, List.length_range]) yat_list hD (fun _ _ => trivial) (by rw [List.length_map, List.length_range]; exact Nat.lt_of_le_of_lt hz (by decide)) (fun _ => false) id ?_ ?_
    · intro i v Hc hv sm F N hF hN
      rw [List.getElem?_map] at hv
      obtain ⟨j, hj, rfl⟩ := Option.map_eq_some_iff.mp hv
      obtain ⟨hj1, rfl⟩ := List.getElem?_eq_some_iff.mp hj
      rw [List.length_range] at hj1
      rw [List.getElem_range]
      walk_at "rd"
      refine ⟨rfl, ?_⟩
      walk_at "rd"
      refine rd_slS hl ?_
      have e1 : ((i : Nat) : Int) + 1 = ((i + 1 : Nat) : Int) := by omega
      rw [e1, mk_cut z i (i + 1) (by omega) (by omega), Nat.add_sub_cancel_left]
      walk_at "rd"
      refine rd_ixS (c := z[i]) hl (atI_nat (by rw [mk_tl]; exact List.getElem?_eq_getElem hj1)) ?_
      walk_at "rd"
      have e2 : (z.drop i).take 1 = [z[i]] := by
        rw [List.drop_eq_getElem_cons hj1]; rfl
      rw [e2, mk_one, decide_eq_true rfl]
      walk_at "rd"
      exact hN rfl Hc (Same.refl Hc)
    · intro H1 s1 hD1
      have hD2 : H1 D = some (.lst []) := by
        rw [hD1]
        congr 1
        simp
      walk_at "rd"
      refine ⟨Nat.zero_le _, fun q hq => ?_⟩
      have s2 : Same H1 (upd H1 q (.lst [])) := same_new hq _
      exact rd_nilnil (s2 _ _ hD2) upd_same (k _ (s1.trans s2))
  | dic m => cases n <;> exact nd.elim
  | lst l =>
    cases n with
    | zero => exact hx.elim
    | succ n =>
      obtain ⟨a, xs, rfl, _, ha, hal, pa⟩ := hx
      obtain ⟨b, ys, rfl, _, hb, hbl, pb⟩ := hy
      have la := pa.length
      have lb := pb.length
      walk_at "rd0"
      refine ⟨rfl, ?_⟩
      rw [nN (fun z => by cases z)]
      walk_at "rd"
      refine rd_isi (b := false) (ty_lst hb) (by decide +kernel) ?_
      walk_at "rd"
      refine rd_isi (b := false) (ty_lst hb) (by decide +kernel) ?_
      walk_at "rd"
      refine rd_isi (b := false) (ty_lst hb) (by decide +kernel) ?_
      walk_at "rd"
      refine ⟨by show 2 ≤ sizeLine; decide, fun p hp => ?_⟩
      have s1 : Same H (upd H p (.tup [.ty "list", .ty "tuple"])) := same_new hp _
      walk_at "rd"
      refine rd_isi2 (b1 := true) (b2 := false) upd_same (ty_lst (s1 _ _ hb)) (by decide +kernel) (by decide +kernel) ?_
      rw [show (true || false) = true from rfl]
      walk_at "rd"
      refine ⟨by show 2 ≤ sizeLine; decide, fun q hq => ?_⟩
      have s2 := s1.trans (same_new hq (.tup [.ty "list", .ty "tuple"]))
      walk_at "rd"
      refine rd_isi2 (b1 := true) (b2 := false) upd_same (ty_lst (s2 _ _ ha)) (by decide +kernel) (by decide +kernel) ?_
      rw [show (true || false) = true from rfl]
      walk_at "rd"
      refine rd_isi (b := true) (ty_lst (s2 _ _ ha)) (by decide +kernel) ?_
      walk_at "rd"
      refine rd_isi (b := true) (ty_lst (s2 _ _ hb)) (by decide +kernel) ?_
      walk_at "rd"
      rw [decide_eq_true rfl]
      walk_at "rd"
      refine rd_lenL (SqL.of (s2 _ _ ha)) ?_
      walk_at "rd"
      refine rd_lenL (SqL.of (s2 _ _ hb)) ?_
      walk_at "rd"
      rw [decide_eq_true (by rw [la, lb])]
      walk_at "rd"
      refine rd_lenL (SqL.of (s2 _ _ hb)) ?_
      walk_at "rd"
      refine ⟨by omega, by omega, fun D hD => ?_⟩
      refine lcP (walk_rng ys.length) (by rw [List.length_map, List.length_range]) yat_list hD (fun _ _ => trivial) (by rw [List.length_map, List.length_range]; exact Nat.lt_of_le_of_lt hbl (by decide)) (fun _ => false) id ?_ ?_
      · intro i v Hc hv sm F N hF hN
        rw [List.getElem?_map] at hv
        obtain ⟨j, hj, rfl⟩ := Option.map_eq_some_iff.mp hv
        obtain ⟨hj1, rfl⟩ := List.getElem?_eq_some_iff.mp hj
        rw [List.length_range] at hj1
        rw [List.getElem_range]
        have s3 := s2.trans sm
        have hy1 := List.getElem?_eq_getElem hj1
        have hx1 := List.getElem?_eq_getElem (show i < xs.length by omega)
        obtain ⟨d1, e1, r1⟩ := Paired.at pa hx1
        obtain ⟨d2, e2, r2⟩ := Paired.at pb hy1
        obtain rfl : d1 = d2 := Option.some.inj (e1.symm.trans e2)
        walk_at "rd"
        refine ⟨rfl, ?_⟩
        walk_at "rd"
        refine .inl (rd_ixL (SqL.of (s3 _ _ ha)) (at_of rfl hx1) ?_)
        walk_at "rd"
        refine .inl (rd_ixL (SqL.of (s3 _ _ hb)) (at_of rfl hy1) ?_)
        walk_at "rd"
        refine ⟨_, _, rfl, d1, nd d1 (List.mem_of_getElem? e1), (r1.same s3).any, (r2.same s3).any, fun H' s4 => ?_⟩
        walk_at "rd"
        exact hN rfl H' s4
      · intro H1 s4 hD1
        have hD2 : H1 D = some (.lst []) := by
          rw [hD1]
          congr 1
          simp
        walk_at "rd"
        refine ⟨Nat.zero_le _, fun r hr' => ?_⟩
        have s5 : Same H1 (upd H1 r (.lst [])) := same_new hr' _
        exact rd_nilnil (s5 _ _ hD2) upd_same (k _ ((s2.trans s4).trans s5))
  | tup l =>
    cases n with
    | zero => exact hx.elim
    | succ n =>
      obtain ⟨a, xs, rfl, _, ha, hal, pa⟩ := hx
      obtain ⟨b, ys, rfl, _, hb, hbl, pb⟩ := hy
      have la := pa.length
      have lb := pb.length
      walk_at "rd0"
      refine ⟨rfl, ?_⟩
      rw [nN (fun z => by cases z)]
      walk_at "rd"
      refine rd_isi (b := false) (ty_tup hb) (by decide +kernel) ?_
      walk_at "rd"
      refine rd_isi (b := false) (ty_tup hb) (by decide +kernel) ?_
      walk_at "rd"
      refine rd_isi (b := false) (ty_tup hb) (by decide +kernel) ?_
      walk_at "rd"
      refine ⟨by show 2 ≤ sizeLine; decide, fun p hp => ?_⟩
      have s1 : Same H (upd H p (.tup [.ty "list", .ty "tuple"])) := same_new hp _
      walk_at "rd"
      refine rd_isi2 (b1 := false) (b2 := true) upd_same (ty_tup (s1 _ _ hb)) (by decide +kernel) (by decide +kernel) ?_
      rw [show (false || true) = true from rfl]
      walk_at "rd"
      refine ⟨by show 2 ≤ sizeLine; decide, fun q hq => ?_⟩
      have s2 := s1.trans (same_new hq (.tup [.ty "list", .ty "tuple"]))
      walk_at "rd"
      refine rd_isi2 (b1 := false) (b2 := true) upd_same (ty_tup (s2 _ _ ha)) (by decide +kernel) (by decide +kernel) ?_
      rw [show (false || true) = true from rfl]
      walk_at "rd"
      refine rd_isi (b := false) (ty_tup (s2 _ _ ha)) (by decide +kernel) ?_
      walk_at "rd"
      refine rd_isi (b := false) (ty_tup (s2 _ _ hb)) (by decide +kernel) ?_
      walk_at "rd"
      rw [decide_eq_true rfl]
      walk_at "rd"
      refine rd_lenT (SqT.of (s2 _ _ ha)) ?_
      walk_at "rd"
      refine rd_lenT (SqT.of (s2 _ _ hb)) ?_
      walk_at "rd"
      rw [decide_eq_true (by rw [la, lb])]
      walk_at "rd"
      refine rd_lenT (SqT.of (s2 _ _ hb)) ?_
      walk_at "rd"
      refine ⟨by omega, by omega, fun D hD => ?_⟩
      refine lcP (walk_rng ys.length) (by rw [List.length_map, List.length_range]) yat_list hD (fun _ _ => trivial) (by rw [List.length_map, List.length_range]; exact Nat.lt_of_le_of_lt hbl (by decide)) (fun _ => false) id ?_ ?_
      · intro i v Hc hv sm F N hF hN
        rw [List.getElem?_map] at hv
        obtain ⟨j, hj, rfl⟩ := Option.map_eq_some_iff.mp hv
        obtain ⟨hj1, rfl⟩ := List.getElem?_eq_some_iff.mp hj
        rw [List.length_range] at hj1
        rw [List.getElem_range]
        have s3 := s2.trans sm
        have hy1 := List.getElem?_eq_getElem hj1
        have hx1 := List.getElem?_eq_getElem (show i < xs.length by omega)
        obtain ⟨d1, e1, r1⟩ := Paired.at pa hx1
        obtain ⟨d2, e2, r2⟩ := Paired.at pb hy1
        obtain rfl : d1 = d2 := Option.some.inj (e1.symm.trans e2)
        walk_at "rd"
        refine ⟨rfl, ?_⟩
        walk_at "rd"
        refine .inr (.inl (rd_ixT (SqT.of (s3 _ _ ha)) (at_of rfl hx1) ?_))
        walk_at "rd"
        refine .inr (.inl (rd_ixT (SqT.of (s3 _ _ hb)) (at_of rfl hy1) ?_))
        walk_at "rd"
        refine ⟨_, _, rfl, d1, nd d1 (List.mem_of_getElem? e1), (r1.same s3).any, (r2.same s3).any, fun H' s4 => ?_⟩
        walk_at "rd"
        exact hN rfl H' s4
      · intro H1 s4 hD1
        have hD2 : H1 D = some (.lst []) := by
          rw [hD1]
          congr 1
          simp
        walk_at "rd"
        refine ⟨Nat.zero_le _, fun r hr' => ?_⟩
        have s5 : Same H1 (upd H1 r (.lst [])) := same_new hr' _
        exact rd_nilnil (s5 _ _ hD2) upd_same (k _ ((s2.trans s4).trans s5))
theorem ok_same (T : Txt K mg) : ∀ n, FnOk P w K mg base CX0 n T.f_law_same T.fd_law_same ["told", "due"] (sp_same n)
  | 0 => none_same
  | n + 1 => same_step T n (ok_same T n)
theorem ok_law_same (T : Txt K mg) : FnOk P w K mg base CX0 4 T.f_law_same T.fd_law_same ["told", "due"] (sp_same 4) := ok_same T 4
end
end K01
set_option Elab.async false
set_option linter.all false
set_option maxRecDepth 100000
set_option maxHeartbeats 4000000

namespace K01
open PySem L2 My
theorem Rp.scalar {H H' : Hp} {n : Nat} {S S' : Addr → Prop} {v : V} {d : D} (ns : ∀ a, v ≠ .ref a) (h : Rp H n S v d) : Rp H' n S' v d := by
  cases d with
  | non => cases n <;> exact h
  | bl b => cases n <;> exact h
  | int i => cases n <;> exact h
  | str z => cases n <;> exact h
  | dic m => cases n <;> (obtain ⟨a, e, _⟩ := h; exact absurd e (ns a))
  | lst l => cases n with
    | zero => exact h.elim
    | succ n => obtain ⟨a, xs, e, _⟩ := h; exact absurd e (ns a)
  | tup l => cases n with
    | zero => exact h.elim
    | succ n => obtain ⟨a, xs, e, _⟩ := h; exact absurd e (ns a)
theorem Rp.live {H : Hp} : ∀ (n : Nat) (S : Addr → Prop) (v : V) (d : D), Rp H n S v d → Rp H n (fun b => S b ∧ H b ≠ none) v d := by
  intro n
  induction n with
  | zero =>
    intro S v d h
    cases d with
    | non => exact h
    | bl b => exact h
    | int i => exact h
    | str z => exact h
    | dic m => obtain ⟨a, e, s, q⟩ := h; exact ⟨a, e, ⟨s, by rw [q]; simp⟩, q⟩
    | lst l => exact h.elim
    | tup l => exact h.elim
  | succ n ih =>
    intro S v d h
    have up : ∀ {a : Addr} {xs : List V} {l : List D}, Paired (Rp H n fun b => S b ∧ b ≠ a) xs l → Paired (Rp H n fun b => (S b ∧ H b ≠ none) ∧ b ≠ a) xs l := fun {a xs l} p =>
      Paired.mapP p fun x y z => Rp.go n _ _ x y (fun b hb => ⟨⟨hb.1.1, hb.2⟩, hb.1.2⟩) (fun _ _ _ q => q) (ih _ x y z)
    cases d with
    | non => exact h
    | bl b => exact h
    | int i => exact h
    | str z => exact h
    | dic m => obtain ⟨a, e, s, q⟩ := h; exact ⟨a, e, ⟨s, by rw [q]; simp⟩, q⟩
    | lst l => obtain ⟨a, xs, e, s, q, hl, p⟩ := h; exact ⟨a, xs, e, ⟨s, by rw [q]; simp⟩, q, hl, up p⟩
    | tup l => obtain ⟨a, xs, e, s, q, hl, p⟩ := h; exact ⟨a, xs, e, ⟨s, by rw [q]; simp⟩, q, hl, up p⟩
theorem paired_rel {H0 Hf : Hp} {n : Nat} {S0 S : Addr → Prop} : ∀ {xs ys : List V} {l : List D}, Paired (fun x y => ∀ d, Rp H0 n Any x d → Rp Hf n S y d) xs ys → Paired (Rp H0 n S0) xs l → Paired (Rp Hf n S) ys l
  | _, _, _, .nil, .nil => .nil
  | _, _, _, .cons r t, .cons r2 t2 => .cons (r _ r2.any) (paired_rel t t2)
section
variable {P : Program} {w : World} {K : PySem.W.Frag} {mg : Str → Option Value} {base : Heap}
def Copies (n : Nat) (d : D) : Prop := Nd n d ∨ ∃ m, d = .dic m ∧ 1 ≤ n
theorem Copies.lst {n : Nat} {l : List D} (h : Copies (n + 1) (.lst l)) : ∀ d ∈ l, Copies n d := by
  rcases h with h | ⟨m, e, _⟩
  · exact fun d hd => .inl (h d hd)
  · cases e
theorem Copies.tup {n : Nat} {l : List D} (h : Copies (n + 1) (.tup l)) : ∀ d ∈ l, Copies n d := by
  rcases h with h | ⟨m, e, _⟩
  · exact fun d hd => .inl (h d hd)
  · cases e
/-- a copy is worth the same, and all its objects are new -/
def sp_copy : Nat → Sp
  | 0 => fun _ _ _ _ => False
  | n + 1 => Sp1 fun x H Q _ => (∃ d, Rp H n Any x d ∧ Copies n d) ∧ ∀ v' H', Same H H' → (∀ d, Rp H n Any x d → Rp H' n (fun b => H b = none) v' d) → Q v' H'
theorem sp_copy_len {n : Nat} : ∀ vs H Q E, sp_copy n vs H Q E → vs.length = 1 := by
  intro vs H Q E h
  cases n with
  | zero => exact h.elim
  | succ n => exact Sp1.len (P := fun x H Q _ => (∃ d, Rp H n Any x d ∧ Copies n d) ∧ ∀ v' H', Same H H' → (∀ d, Rp H n Any x d → Rp H' n (fun b => H b = none) v' d) → Q v' H') _ _ _ E h
theorem none_copy {f : Addr} {fd : FuncData} {ps : List Str} : FnOk P w K mg base CX0 0 f fd ps (sp_copy 0) :=
  ⟨fun vs H Q E h => h.elim, fun A outer s H args us vs Q E _ _ _ _ h => h.elim⟩
/-- of an item of what is copied -/
abbrev RelC (H0 : Hp) (n : Nat) (Da : Addr) : Hp → V → V → Prop := fun Hf x y => ∀ d, Rp H0 n Any x d → Rp Hf n (fun b => H0 b = none ∧ b ≠ Da) y d
theorem relC_mono {H0 : Hp} {n : Nat} {Da : Addr} : ∀ (H H' : Hp) (x y : V), But Da H H' → RelC H0 n Da H x y → RelC H0 n Da H' x y := fun H H' x y bt h d r =>
  Rp.go n _ _ y d (fun _ z => z) (fun b o hb q => bt b o hb.2 q) (h d r)
theorem relC_mk {H0 Hc H1 : Hp} {n : Nat} {Da : Addr} {x v' : V} {l : List V} (s : Same H0 Hc) (hD : Hc Da = some (.lst l)) (h : ∀ d, Rp Hc n Any x d → Rp H1 n (fun b => Hc b = none) v' d) : RelC H0 n Da H1 x v' := fun d r =>
  Rp.go n _ _ v' d (fun b hb => ⟨s.free hb, fun e => by rw [e, hD] at hb; cases hb⟩) (fun _ _ _ q => q) (h d (r.same s))
theorem copy_step (T : Txt K mg) (n : Nat) (G : FnOk P w K mg base CX0 n T.f_law_copy T.fd_law_copy ["value"] (sp_copy n)) : FnOk P w K mg base CX0 (n + 1) T.f_law_copy T.fd_law_copy ["value"] (sp_copy (n + 1)) := by
  refine T.F_law_copy.ok sc_law_copy sp_copy_len (fun cdv A outer s H vs Q E hr h => ?_)
  obtain ⟨x, rfl, ⟨d, hx, hdic⟩, k⟩ := h
  refine ⟨_, (pss_cons (ps_if (pt_val (pe_callB call_isi rfl T.n_isinstance (by decide +kernel) (pa_cons (pv 0) (pa_cons (pe_ty "list" T.n_list) pa_nil)))) (pss_one (ps_ret (pe_lc (own := [("one", 1)]) rfl sc_law_copy.nd (pi_list (pv 0)) (blkOk_by (own := [("one", 1)]) (N := N_law_copy) (sc := defScope s_law_copy) (by decide +kernel)) (fun _ _ _ _ _ => (pg_name (i := 1) sc_law_copy.nd rfl (Or.inl rfl))) (fun _ _ _ _ _ => pts_nil) (fun _ _ _ _ _ => (pe_call G hr rfl T.m_law_copy T.F_law_copy.kp T.b_law_copy .nil pass0 (pa_cons (pv 1) pa_nil)))))) pss_nil)
      (pss_cons (ps_if (pt_val (pe_callB call_isi rfl T.n_isinstance (by decide +kernel) (pa_cons (pv 0) (pa_cons (pe_ty "tuple" T.n_tuple) pa_nil)))) (pss_one (ps_ret (pe_callTy call_tuple_of rfl T.n_tuple (by decide +kernel) (pa_cons (pe_lc (own := [("one", 1)]) rfl sc_law_copy.nd (pi_tup (pv 0)) (blkOk_by (own := [("one", 1)]) (N := N_law_copy) (sc := defScope s_law_copy) (by decide +kernel)) (fun _ _ _ _ _ => (pg_name (i := 1) sc_law_copy.nd rfl (Or.inl rfl))) (fun _ _ _ _ _ => pts_nil) (fun _ _ _ _ _ => (pe_call G hr rfl T.m_law_copy T.F_law_copy.kp T.b_law_copy .nil pass0 (pa_cons (pv 1) pa_nil)))) pa_nil)))) pss_nil)
      (pss_one (ps_ret (pe_ifExp (pt_val (pe_callB call_isi rfl T.n_isinstance (by decide +kernel) (pa_cons (pv 0) (pa_cons (pe_ty "dict" T.n_dict) pa_nil)))) (pe_callTy (call_dictP rfl) rfl T.n_dict (by decide +kernel) (pa_cons (pe_lock (pe_lc (own := [("key", 2)]) rfl sc_law_copy.nd (pi_keys (pv 0)) (blkOk_by (own := [("key", 2)]) (N := N_law_copy) (sc := defScope s_law_copy) (by decide +kernel)) (fun _ _ _ _ _ => (pg_name (i := 2) sc_law_copy.nd rfl (Or.inl rfl))) (fun _ _ _ _ _ => pts_nil) (fun _ _ _ _ _ => (pe_tup (pa_cons (pv 2) (pa_cons (pe_call G hr rfl T.m_law_copy T.F_law_copy.kp T.b_law_copy .nil pass0 (pa_cons (pe_dget (hu_of hr) (pv 0) (pv 2) (fun _ _ => rfl)) pa_nil)) pa_nil)))))) pa_nil)) (pv 0)))))), ?_⟩
  have plain : (∀ a, x ≠ .ref a) → Q x H := fun ns => k x H (Same.refl H) fun d r => r.scalar ns
  by_cases isr : ∃ a, x = V.ref a
  case neg =>
    have ns : ∀ a, x ≠ V.ref a := fun a e => isr ⟨a, e⟩
    obtain ⟨t, ty, h1, h2, h3⟩ : ∃ t, TyX K H x (.type t) ∧ kitB t "list" = some false ∧ kitB t "tuple" = some false ∧ kitB t "dict" = some false := by
      refine ⟨d.ty, hx.ty, ?_⟩
      cases d with
      | non => exact ⟨by decide +kernel, by decide +kernel, by decide +kernel⟩
      | bl b => exact ⟨(by decide +kernel : kitB "bool" "list" = some false), (by decide +kernel : kitB "bool" "tuple" = some false), (by decide +kernel : kitB "bool" "dict" = some false)⟩
      | int b => exact ⟨(by decide +kernel : kitB "int" "list" = some false), (by decide +kernel : kitB "int" "tuple" = some false), (by decide +kernel : kitB "int" "dict" = some false)⟩
      | str b => exact ⟨(by decide +kernel : kitB "str" "list" = some false), (by decide +kernel : kitB "str" "tuple" = some false), (by decide +kernel : kitB "str" "dict" = some false)⟩
      | dic m => cases n <;> (obtain ⟨a, e, _⟩ := hx; exact absurd e (ns a))
      | lst l => cases n with
        | zero => exact hx.elim
        | succ n => obtain ⟨a, xs, e, _⟩ := hx; exact absurd e (ns a)
      | tup l => cases n with
        | zero => exact hx.elim
        | succ n => obtain ⟨a, xs, e, _⟩ := hx; exact absurd e (ns a)
    walk_at "rd0"
    refine rd_isi (b := false) ty h1 ?_
    walk_at "rd"
    refine rd_isi (b := false) ty h2 ?_
    walk_at "rd"
    refine rd_isi (b := false) ty h3 ?_
    walk_at "rd"
    exact plain ns
  obtain ⟨a0, ea0⟩ := isr
  cases d with
  | non => rw [ea0] at hx; cases n <;> cases (show V.ref a0 = V.non from hx)
  | bl b => rw [ea0] at hx; cases n <;> cases (show V.ref a0 = V.bl b from hx)
  | int i => rw [ea0] at hx; cases n <;> cases (show V.ref a0 = V.int i from hx)
  | str z => rw [ea0] at hx; cases n <;> cases (show V.ref a0 = V.str (mk z) ∧ _ from hx).1
  | lst l =>
    cases n with
    | zero => exact hx.elim
    | succ n =>
      clear ea0
      obtain ⟨a, xs, rfl, _, ha, hal, pa⟩ := hx
      walk_at "rd0"
      refine rd_isi (b := true) (ty_lst ha) (by decide +kernel) ?_
      walk_at "rd"
      refine ⟨a, rfl, ⟨_, SqL.of ha⟩, fun Da hDa => ?_⟩
      refine lcR (walk_list (K := K) (a := a)) rfl yat_list hDa (fun H' s => SqL.of (s _ _ ha)) (Nat.lt_of_le_of_lt hal (by decide)) (fun _ => true) (RelC H n Da) relC_mono ?_ ?_
      · intro i v Hc hv sm ⟨lc, hDc⟩ F N hF hN
        obtain ⟨dv, ev, rv⟩ := Paired.at pa hv
        walk_at "rd"
        refine ⟨rfl, ?_⟩
        walk_at "rd"
        exact ⟨_, rfl, ⟨dv, (rv.same sm).any, hdic.lst dv (List.mem_of_getElem? ev)⟩, fun v' H' s2 hv' => hF rfl v' H' s2 (relC_mk sm hDc hv')⟩
      · intro H1 ys s1 hD1 pr
        rw [List.filter_eq_self.mpr (fun _ _ => rfl)] at pr
        refine k _ _ s1 fun d' r' => ?_
        cases d' with
        | lst l' =>
          obtain ⟨a', xs', e', _, ha', _, pa'⟩ := r'
          cases e'
          rw [ha] at ha'
          cases ha'
          exact ⟨Da, ys, rfl, hDa, hD1, by rw [← pr.length]; exact hal, paired_rel pr pa'⟩
        | tup l' => obtain ⟨a', xs', e', _, ha', _⟩ := r'; cases e'; rw [ha] at ha'; cases ha'
        | dic m => obtain ⟨a', e', _, ha'⟩ := r'; cases e'; rw [ha] at ha'; cases ha'
        | non => cases r'
        | bl b => cases r'
        | int i => cases r'
        | str z => cases r'.1
  | tup l =>
    cases n with
    | zero => exact hx.elim
    | succ n =>
      clear ea0
      obtain ⟨a, xs, rfl, _, ha, hal, pa⟩ := hx
      walk_at "rd0"
      refine rd_isi (b := false) (ty_tup ha) (by decide +kernel) ?_
      walk_at "rd"
      refine rd_isi (b := true) (ty_tup ha) (by decide +kernel) ?_
      walk_at "rd"
      refine ⟨a, rfl, ⟨_, SqT.of ha⟩, fun Da hDa => ?_⟩
      refine lcR (walk_tup (K := K) (a := a)) rfl yat_list hDa (fun H' s => SqT.of (s _ _ ha)) (Nat.lt_of_le_of_lt hal (by decide)) (fun _ => true) (RelC H n Da) relC_mono ?_ ?_
      · intro i v Hc hv sm ⟨lc, hDc⟩ F N hF hN
        obtain ⟨dv, ev, rv⟩ := Paired.at pa hv
        walk_at "rd"
        refine ⟨rfl, ?_⟩
        walk_at "rd"
        exact ⟨_, rfl, ⟨dv, (rv.same sm).any, hdic.tup dv (List.mem_of_getElem? ev)⟩, fun v' H' s2 hv' => hF rfl v' H' s2 (relC_mk sm hDc hv')⟩
      · intro H1 ys s1 hD1 pr
        rw [List.filter_eq_self.mpr (fun _ _ => rfl)] at pr
        walk_at "rd"
        refine ⟨Da, ys, rfl, .inl ⟨SqL.of hD1, fun q hq => ?_⟩⟩
        refine k _ _ (s1.trans (same_new hq _)) fun d' r' => ?_
        cases d' with
        | tup l' =>
          obtain ⟨a', xs', e', _, ha', _, pa'⟩ := r'
          cases e'
          rw [ha] at ha'
          cases ha'
          refine ⟨q, ys, rfl, s1.free hq, upd_same, by rw [← pr.length]; exact hal, ?_⟩
          refine Paired.mapP (paired_rel pr pa') fun y d z => ?_
          exact Rp.go n _ _ y d (fun b hb => ⟨hb.1.1, fun e => hb.2 (by rw [e]; exact hq)⟩) (fun b o hb w => same_new hq _ b o w) (Rp.live n _ y d z)
        | lst l' => obtain ⟨a', xs', e', _, ha', _⟩ := r'; cases e'; rw [ha] at ha'; cases ha'
        | dic m => obtain ⟨a', e', _, ha'⟩ := r'; cases e'; rw [ha] at ha'; cases ha'
        | non => cases r'
        | bl b => cases r'
        | int i => cases r'
        | str z => cases r'.1
  | dic m =>
    obtain ⟨n, rfl⟩ : ∃ n', n = n' + 1 := by
      rcases hdic with h | ⟨m', _, h⟩
      · cases n <;> exact h.elim
      · exact ⟨n - 1, by omega⟩
    clear ea0
    obtain ⟨a, rfl, _, ha⟩ := hx
    walk_at "rd0"
    refine rd_isi (b := false) (ty_dic ha) (by decide +kernel) ?_
    walk_at "rd"
    refine rd_isi (b := false) (ty_dic ha) (by decide +kernel) ?_
    walk_at "rd"
    refine rd_isi (b := true) (ty_dic ha) (by decide +kernel) ?_
    walk_at "rd"
    refine ⟨a, _, ha, trivial, fun od => ?_⟩
    have hf : upd H a (.frz od (.dK (dicOf m))) a = some (.frz od (.dK (dicOf m))) := upd_same
    walk_at "rd"
    refine ⟨_, rfl, a, od, rfl, .inl ⟨_, hf, fun Da hDa => ?_⟩⟩
    have nDa : Da ≠ a := fun e => by rw [e, hf] at hDa; cases hDa
    have hDa0 : H Da = none := by rw [upd_ne nDa] at hDa; exact hDa
    refine lcR (src := (dicOf m).map fun kv => kV kv.1) walk_keys (by rw [List.length_map]) (fun i H x H' y => ⟨y.1, by
        obtain ⟨k, v, h1, h2⟩ := y.2
        rw [List.getElem?_map, h1, h2]; rfl⟩) hDa (fun H' s => s _ _ hf) (by rw [List.length_map]; cases m <;> decide) (fun _ => true)
      (fun Hf x y => ∃ q, y = .ref q ∧ q ≠ Da ∧ q ≠ a ∧ Hf q = some (.tup [x, .int 1])) (fun H H' x y bt h => by
        obtain ⟨q, e, n1, n2, h⟩ := h
        exact ⟨q, e, n1, n2, bt _ _ n1 h⟩) ?_ ?_
    · intro i v Hc hv sm ⟨lc, hDc⟩ F N hF hN
      have hav := sm _ _ hf
      have isa : m = true ∧ v = .str (mk [97]) := by
        cases m with
        | false => simp [dicOf] at hv
        | true =>
          cases i with
          | zero => exact ⟨rfl, (Option.some.inj hv).symm⟩
          | succ i => simp [dicOf] at hv
      obtain ⟨rfl, rfl⟩ := isa
      walk_at "rd"
      refine ⟨rfl, ?_⟩
      walk_at "rd"
      refine ⟨_, rfl, _, rfl, a, .int 1, rfl, .inl ⟨_, Sum.inr (mk [97]), .inr ⟨od, hav⟩, rfl, by decide⟩, ?_⟩
      walk_at "rd"
      refine ⟨_, rfl, ⟨.int 1, (by cases n <;> rfl), .inl (by cases n <;> trivial)⟩, fun v' H2 s2 hv' => ?_⟩
      obtain rfl : v' = .int 1 := by
        have q : Rp H2 n (fun b => Hc b = none) v' (.int 1) := hv' (.int 1) (by cases n <;> rfl)
        cases n <;> exact q
      walk_at "rd"
      refine ⟨by show 2 ≤ sizeLine; decide, fun q hq => ?_⟩
      exact hF rfl _ _ (s2.trans (same_new hq _)) ⟨q, rfl, (fun e => by rw [e, s2 _ _ hDc] at hq; cases hq), (fun e => by rw [e, s2 _ _ hav] at hq; cases hq), upd_same⟩
    · intro H1 ys s1 hD1 pr
      rw [List.filter_eq_self.mpr (fun _ _ => rfl)] at pr
      have hf1 := s1 _ _ hf
      refine ⟨hf1, ?_⟩
      walk_at "rd"
      have s2 : Same H (upd H1 a (.dK (dicOf m))) := fun b o hb => by
        by_cases e : b = a
        · subst e; rw [ha] at hb; cases hb; exact upd_same
        · rw [upd_ne e]; exact s1 _ _ (by rw [upd_ne e]; exact hb)
      have fin : ∀ (ps : List Addr) (p : Addr), (upd H1 a (.dK (dicOf m))) p = none → mergeK [] (dicOf m) = dicOf m → Q (.ref p) (upd (upd H1 a (.dK (dicOf m))) p (.dK (mergeK [] (dicOf m)))) := fun ps p hp em => by
        rw [em]
        refine k _ _ (s2.trans (same_new hp _)) fun d' r' => ?_
        cases d' with
        | dic m' =>
          obtain ⟨a', e', _, ha'⟩ := r'
          cases e'
          rw [ha] at ha'
          refine ⟨p, rfl, s2.free hp, ?_⟩
          rw [upd_same]; exact ha'
        | lst l' => obtain ⟨a', xs', e', _, ha', _⟩ := r'; cases e'; rw [ha] at ha'; cases ha'
        | tup l' => obtain ⟨a', xs', e', _, ha', _⟩ := r'; cases e'; rw [ha] at ha'; cases ha'
        | non => cases r'
        | bl b => cases r'
        | int i => cases r'
        | str z => cases r'.1
      cases m with
      | false =>
        cases pr
        exact ⟨Da, [], [], rfl, SqL.of (by rw [upd_ne nDa]; exact hD1), .nil, fun p hp => fin [] p hp rfl⟩
      | true =>
        cases pr with
        | cons h1 h2 =>
          cases h2
          obtain ⟨q, rfl, n1, n2, hq⟩ := h1
          exact ⟨Da, [q], [(Sum.inr (mk [97]), .int 1)], rfl, SqL.of (by rw [upd_ne nDa]; exact hD1), .cons (SqT.of (by rw [upd_ne n2]; exact hq)) .nil, fun p hp => fin [q] p hp rfl⟩
theorem ok_copy (T : Txt K mg) : ∀ n, FnOk P w K mg base CX0 n T.f_law_copy T.fd_law_copy ["value"] (sp_copy n)
  | 0 => none_copy
  | n + 1 => copy_step T n (ok_copy T n)
end
end K01
set_option Elab.async false
set_option linter.all false
set_option maxRecDepth 100000
set_option maxHeartbeats 4000000

namespace K01
open PySem L2 My
/-! ### what the names' judge says of a value of known worth -/
def D.nm : D → Bool
  | .str z => isName z
  | _ => false
theorem Rp.nm {H : Hp} {n : Nat} {S : Addr → Prop} {v : V} {d : D} (h : Rp H n S v d) : nmV v = d.nm := by
  cases d with
  | non => cases n <;> (cases (show v = V.non from h); rfl)
  | bl b => cases n <;> (cases (show v = V.bl b from h); rfl)
  | int i => cases n <;> (cases (show v = V.int i from h); rfl)
  | str z => cases n <;> (obtain ⟨e, _⟩ := (show v = V.str (mk z) ∧ _ from h); cases e; rfl)
  | dic m => cases n <;> (obtain ⟨a, e, _, q⟩ := h; cases e; rfl)
  | lst l => cases n with
    | zero => exact h.elim
    | succ n => obtain ⟨a, xs, e, _, q, _⟩ := h; cases e; rfl
  | tup l => cases n with
    | zero => exact h.elim
    | succ n => obtain ⟨a, xs, e, _, q, _⟩ := h; cases e; rfl
section
variable {P : Program} {w : World} {K : PySem.W.Frag} {mg : Str → Option Value} {base : Heap}
theorem Rp.judged {H : Hp} {n : Nat} {S : Addr → Prop} {v : V} {d : D} (h : Rp H n S v d) : Judged K H v := by
  have ty : ∀ H', Same H H' → TyX K H' v (.type d.ty) := fun H' s => (h.same s).ty
  cases d with
  | non => exact .inr ⟨h.nm, _, ty, (by decide +kernel : kitB "NoneType" "str" = some false)⟩
  | bl b => exact .inr ⟨h.nm, _, ty, (by decide +kernel : kitB "bool" "str" = some false)⟩
  | int i => exact .inr ⟨h.nm, _, ty, (by decide +kernel : kitB "int" "str" = some false)⟩
  | str z => obtain ⟨e, l⟩ := (show v = V.str (mk z) ∧ z.length ≤ 1000 by cases n <;> exact h); exact .inl ⟨z, e, l⟩
  | dic m => exact .inr ⟨h.nm, _, ty, (by decide +kernel : kitB "dict" "str" = some false)⟩
  | lst l => exact .inr ⟨h.nm, _, ty, (by decide +kernel : kitB "list" "str" = some false)⟩
  | tup l => exact .inr ⟨h.nm, _, ty, (by decide +kernel : kitB "tuple" "str" = some false)⟩
theorem Rp.askB {H : Hp} {n : Nat} {S : Addr → Prop} {v : V} {d : D} (h : Rp H n S v d) (e : d.nm = false) : AskB K H v := ⟨h.judged, h.nm.trans e⟩
/-- not a list of names -/
def D.noNames : D → Bool
  | .lst l => !(l.all D.nm)
  | .tup l => !(l.all D.nm)
  | _ => true
theorem paired_nm (K : PySem.W.Frag) {H : Hp} {n : Nat} {S : Addr → Prop} : ∀ {xs : List V} {l : List D}, Paired (Rp H n S) xs l → (∀ v ∈ xs, Judged K H v) ∧ xs.all nmV = l.all D.nm
  | _, _, .nil => ⟨(fun v h => by cases h), rfl⟩
  | _, _, .cons r t => by
    obtain ⟨a, b⟩ := paired_nm K t
    refine ⟨fun v hv => ?_, ?_⟩
    · cases hv with
      | head => exact r.judged
      | tail _ h => exact a v h
    · rw [List.all_cons, List.all_cons, b, r.nm]
theorem Rp.askC {H : Hp} {n : Nat} {S : Addr → Prop} {x v : V} {d : D} (h : Rp H n S v d) (e : d.noNames = true) (hx : Judged K H x ∧ nmV x = true) : AskC K H x v := by
  have ty : ∀ H', Same H H' → TyX K H' v (.type d.ty) := fun H' s => (h.same s).ty
  refine ⟨hx, ?_⟩
  cases d with
  | non => exact .inl ⟨_, ty, (by decide +kernel : kitB "NoneType" "list" = some false), (by decide +kernel : kitB "NoneType" "tuple" = some false)⟩
  | bl b => exact .inl ⟨_, ty, (by decide +kernel : kitB "bool" "list" = some false), (by decide +kernel : kitB "bool" "tuple" = some false)⟩
  | int i => exact .inl ⟨_, ty, (by decide +kernel : kitB "int" "list" = some false), (by decide +kernel : kitB "int" "tuple" = some false)⟩
  | str z => exact .inl ⟨_, ty, (by decide +kernel : kitB "str" "list" = some false), (by decide +kernel : kitB "str" "tuple" = some false)⟩
  | dic m => exact .inl ⟨_, ty, (by decide +kernel : kitB "dict" "list" = some false), (by decide +kernel : kitB "dict" "tuple" = some false)⟩
  | lst l => cases n with
    | zero => exact h.elim
    | succ n =>
      obtain ⟨a, xs, ev, _, q, hl, p⟩ := h
      obtain ⟨j, al⟩ := paired_nm K p
      refine .inr ⟨a, xs, ev, .inl q, Nat.le_trans hl (by decide), j, al.trans ?_⟩
      have e' : (!(l.all D.nm)) = true := e
      simpa using e'
  | tup l => cases n with
    | zero => exact h.elim
    | succ n =>
      obtain ⟨a, xs, ev, _, q, hl, p⟩ := h
      obtain ⟨j, al⟩ := paired_nm K p
      refine .inr ⟨a, xs, ev, .inr q, Nat.le_trans hl (by decide), j, al.trans ?_⟩
      have e' : (!(l.all D.nm)) = true := e
      simpa using e'
theorem rd_dput {td ty tv : TE} {D : Ends} {σ : L2.St} {H : Hp} (h : tv σ H fun v H1 => td σ H1 fun x H2 => ty σ H2 fun y H3 => ∃ a H4, x = .ref a ∧ DPut H3 a y v H4 ∧ D.nx σ H4) : sDPut td ty tv D σ H := h
theorem rd_dinV {ty td : TE} {σ : L2.St} {H : Hp} {Q : VK} (h : ty σ H fun y H1 => td σ H1 fun x H2 => ∃ a o, x = .ref a ∧ DGet H2 a y o ∧ Q (.bl o.isSome) H2) : tDIn ty td σ H Q := h
theorem rd_bms {T : String} {r : L2.St → V → List V → Hp → VK → Prop} {to : TE} {t : TA} {σ : L2.St} {H : Hp} {Q : VK} (h : to σ H fun x H1 => tyV K T x H1 ∧ t σ H1 fun xs H2 => r σ x xs H2 Q) : tBMS K T r to t σ H Q := h
theorem forW {J : It} {n : Nat} {G : Hp → Prop} {Y : Nat → Hp → V → Hp → Prop} {g : TG} {tb : TS} {F : L2.St → Hp → Prop} {Rt : VK} {σ : L2.St} {H : Hp} (w : Walk J n G Y) (Pv : Nat → L2.St → Hp → Prop) (h0 : Pv 0 σ H) (hG : ∀ i σ H, i ≤ n → Pv i σ H → G H)
    (hs : ∀ i x σ H H', i < n → Pv i σ H → Y i H x H' → g x σ H' fun σ2 H2 => tb { nx := Pv (i + 1), rt := Rt, bk := F, ct := Pv (i + 1) } σ2 H2) (hd : ∀ σ H, Pv n σ H → F σ H) :
    ∃ W : Nat → Nat → L2.St → Hp → Prop, (∃ m, W 0 m σ H) ∧ ∀ i m σ H, W i m σ H →
      (J.stop i H ∧ F σ H) ∨ (J.go i H ∧ ∃ N : L2.St → Hp → Prop, (∀ σ' H', N σ' H' → ∃ m', m' < m ∧ W (i + 1) m' σ' H') ∧ ∀ x H', J.yld i H x H' → g x σ H' fun σ2 H2 => tb { nx := N, rt := Rt, bk := F, ct := N } σ2 H2) :=
  for_it w (g := g) (tb := tb) (D := { nx := F, rt := Rt }) Pv h0 hG hs hd
/-! ### told is the very value -/
def Lt9 : D → Prop
  | .lst l => l.length ≤ 900
  | _ => True
def sp_very : Sp := Sp2 fun x y H Q _ => x = y ∧ ∃ d, Rp H 3 Any x d ∧ Copies 3 d ∧ Lt9 d ∧ ∀ H', (∀ b o, x ≠ .ref b → H b = some o → H' b = some o) → Q (.bl true) H'
theorem more_new (m : Bool) : valV (dicOf m) (Sum.inr ("more" : Str)) = none := by cases m <;> decide +kernel
theorem ok_law_very (T : Txt K mg) : FnOk P w K mg base CX0 5 T.f_law_very T.fd_law_very ["told", "value"] sp_very := by
  refine T.F_law_very.ok sc_law_very Sp2.len (fun cdv A outer s H vs Q E hr h => ?_)
  obtain ⟨x, _, rfl, rfl, d, hx, hc, h9, k⟩ := h
  refine ⟨_, (pss_cons (ps_if (pt_val (pe_callB call_isi rfl T.n_isinstance (by decide +kernel) (pa_cons (pv 1) (pa_cons (pe_ty "dict" T.n_dict) pa_nil)))) (pss_cons (ps_set (i := 2) sc_law_very.nd rfl (.inl rfl) (pe_callB call_lenD rfl T.n_len (by decide +kernel) (pa_cons (pv 1) pa_nil)))
      (pss_cons (ps_dput (hu_of hr) (pv 1) pe_str pe_int rfl)
      (pss_one (ps_ret (pe_and (pe_callB call_isi rfl T.n_isinstance (by decide +kernel) (pa_cons (pv 0) (pa_cons (pe_ty "dict" T.n_dict) pa_nil))) (pe_and (pe_cmpR op_eq (pe_callB call_lenD rfl T.n_len (by decide +kernel) (pa_cons (pv 0) pa_nil)) (pe_op op_add (pv 2) pe_int) (nomark _)) (pe_one (pe_cmp (pc_din (hu_of hr) pe_str (pv 0)))))))))) pss_nil)
      (pss_cons (ps_if (pt_not (pt_val (pe_call (ok_law_same T) (hr.mono (by decide)) rfl T.m_law_same T.F_law_same.kp T.b_law_same .nil pass0 (pa_cons (pv 0) (pa_cons (pv 1) pa_nil))))) (pss_one (ps_ret pe_bl)) pss_nil)
      (pss_cons (ps_if (pt_val (pe_callB call_isi rfl T.n_isinstance (by decide +kernel) (pa_cons (pv 1) (pa_cons (pe_ty "list" T.n_list) pa_nil)))) (pss_one (ps_expr (pe_bm PySem.F.plainAttrs_list PySem.F.slot_list_append PySem.F.type_list_append mt_append (pv 1) (pa_cons pe_int pa_nil)))) pss_nil)
      (pss_one (ps_ret (pe_call (ok_law_same T) (hr.mono (by decide)) rfl T.m_law_same T.F_law_same.kp T.b_law_same .nil pass0 (pa_cons (pv 0) (pa_cons (pv 1) pa_nil)))))))), ?_⟩
  by_cases isd : ∃ m, d = .dic m
  · obtain ⟨m, rfl⟩ := isd
    obtain ⟨a, rfl, _, ha⟩ := hx
    walk_at "rd0"
    refine rd_isi (b := true) (ty_dic ha) (by decide +kernel) ?_
    walk_at "rd"
    refine rd_lenD ha ?_
    walk_at "rd"
    have hl : (dicOf m).length < sizeLine := by cases m <;> decide
    refine rd_dput ?_
    walk_at "rd"
    refine ⟨a, _, rfl, DPut.k (k := Sum.inr ("more" : Str)) ha hl, ?_⟩
    have hpn : putK (dicOf m) (Sum.inr ("more" : Str)) (.int 7) = dicOf m ++ [(Sum.inr ("more" : Str), .int 7)] := putK_new _ (more_new m)
    rw [hpn]
    walk_at "rd"
    refine rd_isi (b := true) (ty_dic upd_same) (by decide +kernel) ?_
    walk_at "rd"
    refine rd_lenD upd_same ?_
    walk_at "rd"
    rw [List.length_append, List.length_singleton]
    walk_at "rd"
    rw [decide_eq_true (show (V.int (((dicOf m).length + 1 : Nat) : Int)) = V.int (((dicOf m).length : Nat) + 1 : Int) by rfl)]
    walk_at "rd"
    refine rd_dinV ?_
    walk_at "rd"
    refine ⟨a, _, rfl, DGet.k (k := Sum.inr ("more" : Str)) upd_same, ?_⟩
    have hv : (valV (dicOf m ++ [(Sum.inr ("more" : Str), V.int 7)]) (Sum.inr ("more" : Str))).isSome = true := by cases m <;> decide +kernel
    rw [hv]
    exact k _ fun b o hb q => by rw [upd_ne (fun e => hb (by rw [e]))]; exact q
  · have hnd : Nd 3 d := hc.elim id fun ⟨m, e, _⟩ => absurd ⟨m, e⟩ isd
    have notd : kitB d.ty "dict" = some false := by
      cases d with
      | non => exact (by decide +kernel : kitB "NoneType" "dict" = some false)
      | bl b => exact (by decide +kernel : kitB "bool" "dict" = some false)
      | int i => exact (by decide +kernel : kitB "int" "dict" = some false)
      | str z => exact (by decide +kernel : kitB "str" "dict" = some false)
      | dic m => exact absurd ⟨m, rfl⟩ isd
      | lst l => exact (by decide +kernel : kitB "list" "dict" = some false)
      | tup l => exact (by decide +kernel : kitB "tuple" "dict" = some false)
    walk_at "rd0"
    refine rd_isi (b := false) hx.ty notd ?_
    walk_at "rd"
    refine ⟨_, _, rfl, d, hnd, hx, hx, fun H1 s1 => ?_⟩
    walk_at "rd"
    have hx1 := hx.same s1
    by_cases isl : ∃ l, d = .lst l
    · obtain ⟨l, rfl⟩ := isl
      obtain ⟨a, xs, rfl, _, ha, hl, pa⟩ := hx1
      refine rd_isi (b := true) (ty_lst ha) (by decide +kernel) ?_
      walk_at "rd"
      have hl9 : xs.length ≤ 900 := by rw [pa.length]; exact h9
      refine rd_append ha (Nat.lt_of_le_of_lt hl9 (by decide)) ?_
      walk_at "rd"
      have hx2 : Rp (upd H1 a (.lst (xs ++ [.int 7]))) 3 Any (.ref a) (.lst (l ++ [.int 7])) := by
        refine ⟨a, _, rfl, trivial, upd_same, by rw [List.length_append]; exact Nat.le_trans (Nat.add_le_add_right hl9 1) (by decide), ?_⟩
        exact My.Paired.snoc (Paired.mapP pa fun x y z => Rp.go 2 _ _ x y (fun _ q => q) (fun b o hb q => by rw [upd_ne hb.2]; exact q) z) rfl
      refine ⟨_, _, rfl, .lst (l ++ [.int 7]), ?_, hx2, hx2, fun H2 s2 => ?_⟩
      · intro d' hd'
        rcases List.mem_append.mp hd' with q | q
        · exact hnd d' q
        · rw [List.mem_singleton.mp q]; trivial
      · refine k H2 fun b o hb q => s2 _ _ ?_
        rw [upd_ne (fun e => hb (by rw [e]))]
        exact s1 _ _ q
    · have notl : kitB d.ty "list" = some false := by
        cases d with
        | non => exact (by decide +kernel : kitB "NoneType" "list" = some false)
        | bl b => exact (by decide +kernel : kitB "bool" "list" = some false)
        | int i => exact (by decide +kernel : kitB "int" "list" = some false)
        | str z => exact (by decide +kernel : kitB "str" "list" = some false)
        | dic m => exact absurd ⟨m, rfl⟩ isd
        | lst l => exact absurd ⟨l, rfl⟩ isl
        | tup l => exact (by decide +kernel : kitB "tuple" "list" = some false)
      refine rd_isi (b := false) hx1.ty notl ?_
      walk_at "rd"
      exact ⟨_, _, rfl, d, hnd, hx1, hx1, fun H2 s2 => k H2 fun b o _ q => s2 _ _ (s1 _ _ q)⟩
/-! ### is_name, by the law, of letters -/
def sp_is_name_l : Sp := Sp1 fun x H Q _ => ∃ z, x = .str (mk z) ∧ z.length ≤ 1000 ∧ (∀ c ∈ z, low c) ∧ ∀ H', Same H H' → Q (.bl (isName z)) H'
theorem ok_law_is_name (T : Txt K mg) : FnOk P w K mg base CX0 2 T.f_law_is_name T.fd_law_is_name ["value"] sp_is_name_l := by
  refine T.F_law_is_name.ok sc_law_is_name Sp1.len (fun cdv A outer s H vs Q E hr h => ?_)
  obtain ⟨_, rfl, z, rfl, hz, hlow, k⟩ := h
  refine ⟨_, (pss_one (ps_ret (pe_and (pe_callB call_isi rfl T.n_isinstance (by decide +kernel) (pa_cons (pv 0) (pa_cons (pe_ty "str" T.n_str) pa_nil))) (pe_and (pe_chain op_le op_le pe_int (pe_callB call_len_str rfl T.n_len (by decide +kernel) (pa_cons (pv 0) pa_nil)) pe_int) (pe_and (pe_cmpR (op_eqD hr.units) (pe_lc (own := [("sign", 1)]) (tt := _) rfl sc_law_is_name.nd (pi_str (pv 0)) (blkOk_by (own := [("sign", 1)]) (N := N_law_is_name) (sc := defScope s_law_is_name) (by decide +kernel)) (fun _ _ _ _ _ => (pg_name (i := 1) sc_law_is_name.nd rfl (Or.inl rfl))) (fun _ _ _ _ _ => (pts_one (pt_cmpR op_notIn_sign (pv 1) pe_str rfl))) (fun _ _ _ _ _ => (pv 1))) (pe_lst pa_nil) (nomark _)) (pe_one (pe_cmpR op_notIn_seq (pv 0) (pe_call0 (ok_law_words T) (hr.mono (by decide)) rfl T.m_law_words T.F_law_words.kp T.b_law_words .nil pass0) rfl))))))), ?_⟩
  have hall : z.all lowB = true := List.all_eq_true.mpr fun c hc => lowB_iff.mpr (hlow c hc)
  walk_at "rd0"
  refine rd_isi (b := true) ty_str (by decide +kernel) ?_
  walk_at "rd"
  refine rd_lenS (by rw [mk_len]; exact Nat.le_trans hz (by decide)) ?_
  walk_at "rd"
  rw [mk_len]
  by_cases h1 : 1 ≤ z.length
  · rw [decide_eq_true (show (1 : Int) ≤ (z.length : Int) by omega)]
    walk_at "rd"
    by_cases h8 : z.length ≤ 8
    · rw [decide_eq_true (show (z.length : Int) ≤ 8 by omega)]
      walk_at "rd"
      intro D hD
      refine lcP (walk_strs z) (by rw [List.length_map]) yat_list hD (fun _ _ => trivial) (by rw [List.length_map]; exact Nat.lt_of_le_of_lt hz (by decide)) (fun _ => false) id ?_ ?_
      · intro i x Hc hx sm F N hF hN
        rw [List.getElem?_map] at hx
        obtain ⟨c, hc, rfl⟩ := Option.map_eq_some_iff.mp hx
        walk_at "rd"
        refine ⟨rfl, ?_⟩
        walk_at "rd"
        refine ⟨c, ALPHA, rfl, rfl, ?_⟩
        rw [low_in, lowB_iff.mpr (hlow c (List.mem_of_getElem? hc))]
        walk_at "rd"
        exact hN rfl Hc (Same.refl Hc)
      · intro H1 s1 hD1
        have hD2 : H1 D = some (.lst []) := by
          rw [hD1]
          congr 1
          simp
        walk_at "rd"
        refine ⟨Nat.zero_le _, fun q hq => ?_⟩
        have s2 : Same H1 (upd H1 q (.lst [])) := same_new hq _
        refine rd_nilnil (s2 _ _ hD2) upd_same ?_
        walk_at "rd"
        refine ⟨rfl, fun p hp => ?_⟩
        walk_at "rd"
        refine ⟨p, _, rfl, .inl (SqL.of upd_same), rfl, flat_strs W, ?_⟩
        rw [if_pos rfl]
        unfold wordsV
        rw [in_strs]
        have e : (!decide (z ∈ W)) = isName z := by
          unfold isName
          rw [decide_eq_true h1, decide_eq_true h8, hall]
          simp
        rw [e]
        exact k _ ((s1.trans s2).trans (same_new hp _))
    · rw [decide_eq_false (show ¬ (z.length : Int) ≤ 8 by omega)]
      walk_at "rd"
      have e : isName z = false := by unfold isName; rw [decide_eq_false h8]; simp
      rw [← e]
      exact k H (Same.refl H)
  · rw [decide_eq_false (show ¬ (1 : Int) ≤ (z.length : Int) by omega)]
    walk_at "rd"
    have e : isName z = false := by unfold isName; rw [decide_eq_false h1]; rfl
    rw [← e]
    exact k H (Same.refl H)
/-! ### the number of letters -/
theorem index_alpha : ∀ c ∈ List.range 26, Txt.index0 ALPHA (mk [97 + c]) = some c := by decide +kernel
def sp_number : Sp := Sp1 fun x H Q _ => ∃ z, x = .str (mk z) ∧ z.length ≤ 1000 ∧ (∀ c ∈ z, low c) ∧ Q (.int (num z : Nat)) H
theorem ok_law_number (T : Txt K mg) : FnOk P w K mg base CX0 1 T.f_law_number T.fd_law_number ["behind"] sp_number := by
  refine T.F_law_number.ok sc_law_number Sp1.len (fun cdv A outer s H vs Q E hr h => ?_)
  obtain ⟨_, rfl, z, rfl, hz, hlow, k⟩ := h
  refine ⟨_, (pss_cons (ps_set (i := 1) sc_law_number.nd rfl (.inl rfl) pe_int)
      (pss_cons (ps_for PassesOwn.never rfl (pi_str (pv 0)) (pg_name (i := 2) sc_law_number.nd rfl (.inl rfl)) (pss_one (ps_set (i := 1) sc_law_number.nd rfl (.inl rfl) (pe_op op_add (pe_op op_add (pe_op op_mul pe_int (pv 1)) (pe_bmS PySem.F.plainAttrs_str PySem.F.slot_str_index PySem.F.type_str_index (mt_indexX rfl takes_no) pe_str (pa_cons (pv 2) pa_nil))) pe_int))))
      (pss_one (ps_ret (pv 1))))), ?_⟩
  walk_at "rd0"
  refine forW (walk_strs z) (fun i σ H' => ∃ v : Option V, H' = H ∧ σ = [some (.str (mk z)), some (.int (num (z.take i) : Nat)), v]) ⟨none, rfl, rfl⟩ (fun _ _ _ _ _ => trivial) ?_ ?_
  · rintro i x σ H1 H2 hi ⟨v, rfl, rfl⟩ ⟨rfl, hx⟩
    rw [List.getElem?_map] at hx
    obtain ⟨c, hc, rfl⟩ := Option.map_eq_some_iff.mp hx
    obtain ⟨l1, l2⟩ := hlow c (List.mem_of_getElem? hc)
    obtain ⟨m, rfl⟩ : ∃ m, c = 97 + m := ⟨c - 97, by omega⟩
    have ix := index_alpha m (List.mem_range.mpr (by omega))
    walk_at "rd"
    refine rd_bms ?_
    walk_at "rd"
    refine ⟨rfl, ?_⟩
    walk_at "rd"
    refine ⟨_, _, rfl, rfl, fun j hj => ?_, fun hj => ?_⟩
    · obtain rfl : m = j := Option.some.inj (ix.symm.trans hj)
      walk_at "rd"
      refine ⟨some (.str (mk [97 + m])), rfl, ?_⟩
      have e : z.take (i + 1) = z.take i ++ [97 + m] := by rw [List.take_succ, hc]; rfl
      rw [e, num_app]
      have e2 : ((26 * num (z.take i) + (97 + m - 97) + 1 : Nat) : Int) = 26 * ((num (z.take i) : Nat) : Int) + (m : Int) + 1 := by omega
      rw [e2]
      rfl
    · rw [ix] at hj; cases hj
  · rintro σ H1 ⟨v, rfl, rfl⟩
    rw [List.take_length]
    walk_at "rd"
    exact k
end
end K01
set_option Elab.async false
set_option linter.all false
set_option maxRecDepth 100000
set_option maxHeartbeats 4000000

namespace K01
open PySem L2 My
theorem Box.same {H H' : Hp} {b : Addr} (s : Same H H') (h : Box H b) : Box H' b := by
  obtain ⟨i, f, j, n, e, r⟩ := h
  exact ⟨i, f, j, n, s _ _ e, r⟩
theorem Box.new {H : Hp} {b p : Addr} {o : HO} (h : Box H b) (hp : H p = none) : Box (upd H p o) b := h.same (same_new hp o)
theorem Box.ne {H : Hp} {b p : Addr} (h : Box H b) (hp : H p = none) : p ≠ b := by
  obtain ⟨i, f, j, n, e, r⟩ := h
  exact (ne_of_none e hp).symm
theorem Box.up {H : Hp} {b p : Addr} {o : HO} (h : Box H b) (hp : p ≠ b) : Box (upd H p o) b := by
  obtain ⟨i, f, j, n, e, r⟩ := h
  exact ⟨i, f, j, n, by rw [upd_ne hp.symm]; exact e, r⟩
theorem _root_.My.But.free {b p : Addr} {H H' : Hp} (bt : But b H H') (n : p ≠ b) (h : H' p = none) : H p = none := by
  cases e : H p with
  | none => rfl
  | some o => rw [bt p o n e] at h; cases h
theorem _root_.My.But.new {b p : Addr} {H H' : Hp} {o : HO} (bt : But b H H') (h : H' p = none) : But b H (upd H' p o) := bt.same (same_new h o)
/-- texts of small letters, at most eight -/
def LowV (v : V) : Prop := ∃ t : List Nat, v = .str (mk t) ∧ t.length ≤ 8 ∧ ∀ c ∈ t, low c
def NmV (v : V) : Prop := ∃ t : List Nat, v = .str (mk t) ∧ Nm t
theorem nm_txts : ∀ {xs : List V}, (∀ v ∈ xs, NmV v) → ∃ L, xs = txts L ∧ ∀ l ∈ L, Nm l
  | [], _ => ⟨[], rfl, fun l h => by cases h⟩
  | x :: r, h => by
    obtain ⟨t, rfl, nt⟩ := h x (List.mem_cons_self ..)
    obtain ⟨L, rfl, nL⟩ := nm_txts (xs := r) fun v hv => h v (List.mem_cons_of_mem _ hv)
    refine ⟨t :: L, rfl, fun l hl => ?_⟩
    cases hl with
    | head => exact nt
    | tail _ q => exact nL l q
theorem mem_cut {xs : List V} {lo hi : Option Int} {v : V} (h : v ∈ cutV xs lo hi) : v ∈ xs := List.mem_of_mem_drop (List.mem_of_mem_take h)
/-- a comprehension over a range whose turns may draw from the box -/
theorem lcB {n : Nat} {g : TG} {tt : TT} {te : TE} {vs : List Nat} {σ : L2.St} {H1 : Hp} {D b : Addr} {Qd : Hp → Prop} (hD : H1 D = none) (hb : Box H1 b) (small : n < sizeLine) (Pr : V → Prop)
    (hs : ∀ (i : Nat) (Hc : Hp), i < n → But b H1 Hc → Box Hc b → ∀ (F : V → Hp → Prop) (N : Hp → Prop), (∀ y Hd, But b Hc Hd → Box Hd b → Pr y → F y Hd) →
      g (.int (i : Nat)) (wipe σ vs) Hc fun σ2 H2 => wipe σ2 vs = wipe σ vs ∧ tt σ2 H2 fun b H3 => if b = true then te σ2 H3 F else N H3)
    (hd : ∀ H' ys, But b H1 H' → Box H' b → H' D = some (.lst ys) → ys.length = n → (∀ y ∈ ys, Pr y) → Qd H') :
    ∃ W : Nat → Nat → Hp → Prop, (∃ m, W 0 m (upd H1 D (.lst []))) ∧ ∀ i m H, W i m H →
      ((Itr 0 ((n : Nat) : Int).toNat).stop i H ∧ Qd H) ∨ ((Itr 0 ((n : Nat) : Int).toNat).go i H ∧ ∃ Nx : Hp → Prop, (∀ H', Nx H' → ∃ m', m' < m ∧ W (i + 1) m' H') ∧ ∀ x H', (Itr 0 ((n : Nat) : Int).toNat).yld i H x H' → g x (wipe σ vs) H' fun σ2 H2 => wipe σ2 vs = wipe σ vs ∧ tt σ2 H2 fun b H3 =>
        if b = true then te σ2 H3 fun y H4 => ∃ acc, H4 D = some (.lst acc) ∧ acc.length < sizeLine ∧ Nx (upd H4 D (.lst (acc ++ [y]))) else Nx H3) := by
  have nDb : D ≠ b := hb.ne hD
  refine lc_it (walk_rng n) (fun i H => But b H1 H ∧ Box H b ∧ ∃ ys, H D = some (.lst ys) ∧ ys.length = i ∧ ∀ y ∈ ys, Pr y) ⟨(same_new hD _).but, hb.new hD, [], upd_same, rfl, fun y h => by cases h⟩ (fun _ _ _ _ => trivial) ?_ ?_
  · rintro i x H H' hi ⟨bt, hB, ys, hy, hl, hp⟩ ⟨rfl, hx⟩
    rw [List.getElem?_map, List.getElem?_range hi] at hx
    cases hx
    refine hs i H' hi bt hB _ _ (fun y Hd bd hBd py => ?_)
    refine ⟨ys, bd _ _ nDb hy, by omega, (bt.trans bd).mut hD, hBd.up nDb, ys ++ [y], upd_same, by rw [List.length_append, hl]; rfl, fun v hv => ?_⟩
    rcases List.mem_append.mp hv with q | q
    · exact hp v q
    · rw [List.mem_singleton.mp q]; exact py
  · rintro H ⟨bt, hB, ys, hy, hl, hp⟩
    exact hd H ys bt hB hy hl hp
theorem rd_revL {K : PySem.W.Frag} {te : TE} {σ : L2.St} {H : Hp} {Q : VK} (h : te σ H fun x H1 => ∃ a xs, x = .ref a ∧ SqL K H1 a xs ∧ ∀ p, H1 p = none → Q (.ref p) (upd H1 p (.lst xs.reverse))) : tRevL K te σ H Q := h
theorem rd_seqG {t u : TS} {D : Ends} {σ : L2.St} {H : Hp} (Mid : L2.St → Hp → Prop) (h : ∀ N : L2.St → Hp → Prop, (∀ σ' H', Mid σ' H' → N σ' H') → t { D with nx := N } σ H) (h2 : ∀ σ' H', Mid σ' H' → u D σ' H') : tSeq t u D σ H := h (u D) h2
theorem lit_u : Str.ofString "u" = mk [117] := by decide +kernel
theorem lit_yes : Str.ofString "yes" = mk [121, 101, 115] := by decide +kernel
theorem lit_ah : Str.ofString "abcdefgh" = mk [97, 98, 99, 100, 101, 102, 103, 104] := by decide +kernel
theorem lit_q : Str.ofString "q" = mk [113] := by decide +kernel
theorem lowV_of {t : List Nat} (h : t.length ≤ 8) (hl : t.all lowB = true) : LowV (.str (mk t)) := ⟨t, rfl, h, fun c hc => lowB_iff.mp (List.all_eq_true.mp hl c hc)⟩
section
variable {P : Program} {w : World} {K : PySem.W.Frag} {mg : Str → Option Value} {base : Heap}
def sp_names : Sp := Sp3 fun x y m H Q _ => ∃ (b : Addr) (z : List Nat) (n : Nat), x = .ref b ∧ y = .str (mk z) ∧ m = .int n ∧ Box H b ∧ Nm z ∧ n ≤ 800 ∧
  ∀ p L H', H p = none → H' p = some (.lst (txts L)) → (∀ l ∈ L, Nm l) → L.length ≤ 4 * (n + 5) → Box H' b → But b H H' → Q (.ref p) H'
theorem ok_law_names (T : Txt K mg) : FnOk P w K mg base CX0 3 T.f_law_names T.fd_law_names ["box", "name", "most"] sp_names := by
  refine T.F_law_names.ok sc_law_names Sp3.len (fun cdv A outer s H vs Q E hr h => ?_)
  obtain ⟨_, _, _, rfl, b, z, n, rfl, rfl, rfl, hb, nz, hn, k⟩ := h
  refine ⟨_, (pss_cons (ps_setLc (i := 3) (own := [("number", 5)]) rfl sc_law_names.nd rfl rfl (sw_true rfl rfl rfl (by decide +kernel)) (pi_range1 rfl T.n_range (pa_cons (pv 2) pa_nil)) (blkOk_by (own := [("number", 5)]) (N := N_law_names) (sc := defScope s_law_names) (by decide +kernel)) (fun _ _ _ _ _ => (pg_name (i := 5) sc_law_names.nd rfl (Or.inl rfl))) (fun _ _ _ _ _ => pts_nil) (fun _ _ _ _ _ => (pe_call (ok_law_longer T) (hr.mono (by decide)) rfl T.m_law_longer T.F_law_longer.kp T.b_law_longer .nil pass0 (pa_cons (pv 1) (pa_cons (pv 5) pa_nil)))))
      (pss_cons (ps_setLc (i := 3) (own := [("one", 6)]) (tt := _) rfl sc_law_names.nd rfl rfl (sw_true rfl rfl rfl (by decide +kernel)) (pi_list (pv 3)) (blkOk_by (own := [("one", 6)]) (N := N_law_names) (sc := defScope s_law_names) (by decide +kernel)) (fun _ _ _ _ _ => (pg_name (i := 6) sc_law_names.nd rfl (Or.inl rfl))) (fun _ _ _ _ _ => (pts_one (pt_cmpR (show OpR _ _ (rIn K true) from op_notIn_seq) (pv 6) (pe_call0 (ok_law_words T) (hr.mono (by decide)) rfl T.m_law_words T.F_law_words.kp T.b_law_words .nil pass0) rfl))) (fun _ _ _ _ _ => (pv 6)))
      (pss_cons (ps_set (i := 3) sc_law_names.nd rfl (.inl rfl) (pe_op op_cat (pv 3) (pe_lc (own := [("turn", 7)]) rfl sc_law_names.nd (pi_range1 rfl T.n_range (pa_cons pe_int pa_nil)) (blkOk_by (own := [("turn", 7)]) (N := N_law_names) (sc := defScope s_law_names) (by decide +kernel)) (fun _ _ _ _ _ => (pg_name (i := 7) sc_law_names.nd rfl (Or.inl rfl))) (fun _ _ _ _ _ => pts_nil) (fun _ _ _ _ _ => (pe_call (ok_law_longer T) (hr.mono (by decide)) rfl T.m_law_longer T.F_law_longer.kp T.b_law_longer .nil pass0 (pa_cons (pe_call (ok_law_pick T) (hr.mono (by decide)) rfl T.m_law_pick T.F_law_pick.kp T.b_law_pick .nil pass0 (pa_cons (pv 0) (pa_cons (pe_lst (pa_cons pe_str (pa_cons pe_str (pa_cons pe_str (pa_cons (pe_op op_add_str (pe_slice sl_str (pv 1) po_none (po_some pe_int)) pe_str) pa_nil))))) pa_nil))) (pa_cons (pe_call (ok_law_take T) (hr.mono (by decide)) rfl T.m_law_take T.F_law_take.kp T.b_law_take .nil pass0 (pa_cons (pv 0) (pa_cons pe_int pa_nil))) pa_nil)))))))
      (pss_cons (ps_setLc (i := 3) (own := [("one", 6)]) (tt := _) rfl sc_law_names.nd rfl rfl (sw_true rfl rfl rfl (by decide +kernel)) (pi_list (pv 3)) (blkOk_by (own := [("one", 6)]) (N := N_law_names) (sc := defScope s_law_names) (by decide +kernel)) (fun _ _ _ _ _ => (pg_name (i := 6) sc_law_names.nd rfl (Or.inl rfl))) (fun _ _ _ _ _ => (pts_one (pt_val (pe_call (ok_law_is_name T) (hr.mono (by decide)) rfl T.m_law_is_name T.F_law_is_name.kp T.b_law_is_name .nil pass0 (pa_cons (pv 6) pa_nil))))) (fun _ _ _ _ _ => (pv 6)))
      (pss_cons (ps_if (PW.pt (pw_and (pt_cmpR op_eq (pe_call (ok_law_take T) (hr.mono (by decide)) rfl T.m_law_take T.F_law_take.kp T.b_law_take .nil pass0 (pa_cons (pv 0) (pa_cons pe_int pa_nil))) pe_int (nomark _)) (pw_and1 (pt_cmpR op_gt (pe_callB call_len_seq rfl T.n_len (by decide +kernel) (pa_cons (pv 3) pa_nil)) pe_int (nomark _))))) (pss_one (ps_expr (pe_bm PySem.F.plainAttrs_list PySem.F.slot_list_pop PySem.F.type_list_pop mt_popAt (pv 3) (pa_cons (pe_call (ok_law_take T) (hr.mono (by decide)) rfl T.m_law_take T.F_law_take.kp T.b_law_take .nil pass0 (pa_cons (pv 0) (pa_cons (pe_callB call_len_seq rfl T.n_len (by decide +kernel) (pa_cons (pv 3) pa_nil)) pa_nil))) pa_nil)))) pss_nil)
      (pss_cons (ps_set (i := 3) sc_law_names.nd rfl (.inl rfl) (pe_op op_cat (pv 3) (pe_slice sl_list (pv 3) po_none (po_some (pe_call (ok_law_take T) (hr.mono (by decide)) rfl T.m_law_take T.F_law_take.kp T.b_law_take .nil pass0 (pa_cons (pv 0) (pa_cons pe_int pa_nil)))))))
      (pss_cons (ps_if (pt_cmpR op_lt (pe_callB call_len_seq rfl T.n_len (by decide +kernel) (pa_cons (pv 3) pa_nil)) pe_int (nomark _)) (pss_one (ps_ret (pe_call (ok_law_mixed T) (hr.mono (by decide)) rfl T.m_law_mixed T.F_law_mixed.kp T.b_law_mixed .nil pass0 (pa_cons (pv 0) (pa_cons (pv 3) pa_nil))))) pss_nil)
      (pss_cons (ps_set (i := 4) sc_law_names.nd rfl (.inl rfl) (pe_call (ok_law_take T) (hr.mono (by decide)) rfl T.m_law_take T.F_law_take.kp T.b_law_take .nil pass0 (pa_cons (pv 0) (pa_cons (pe_callB call_len_seq rfl T.n_len (by decide +kernel) (pa_cons (pv 3) pa_nil)) pa_nil))))
      (pss_one (ps_ret (pe_op op_cat (pe_revL (pe_slice sl_list (pv 3) (po_some (pv 4)) po_none)) (pe_slice sl_list (pv 3) po_none (po_some (pv 4)))))))))))))), ?_⟩
  walk_at "rd0"
  refine ⟨by omega, by omega, fun D hD => ?_⟩
  refine lcP (walk_rng n) (by rw [List.length_map, List.length_range]) yat_list hD (fun _ _ => trivial) (by rw [List.length_map, List.length_range]; exact Nat.lt_of_le_of_lt hn (by decide)) (fun _ => true) (fun v => match v with | .int i => .str (mk (wl z i.toNat)) | _ => .non) ?_ ?_
  · intro i v Hc hv sm F N hF hN
    rw [List.getElem?_map] at hv
    obtain ⟨j, hj, rfl⟩ := Option.map_eq_some_iff.mp hv
    obtain ⟨hj1, rfl⟩ := List.getElem?_eq_some_iff.mp hj
    rw [List.length_range] at hj1
    rw [List.getElem_range]
    rw [List.getElem_range] at hF
    walk_at "rd"
    refine ⟨rfl, ?_⟩
    walk_at "rd"
    refine ⟨_, _, rfl, z, i, rfl, rfl, by omega, nz.len, ?_⟩
    exact hF rfl Hc (Same.refl Hc)
  · intro H1 s1 hD1
    rw [List.filter_eq_self.mpr (fun _ _ => rfl)] at hD1
    obtain ⟨x1, ex1⟩ : ∃ xs, xs = (((List.range n).map fun i => V.int (i : Nat)).map fun v => match v with | .int i => V.str (mk (wl z i.toNat)) | _ => .non) := ⟨_, rfl⟩
    rw [← ex1] at hD1
    have p1 : ∀ v ∈ x1, LowV v := fun v hv => by
      rw [ex1] at hv
      obtain ⟨u, hu, rfl⟩ := List.mem_map.mp hv
      obtain ⟨i, hi, rfl⟩ := List.mem_map.mp hu
      have hi' := List.mem_range.mp hi
      exact ⟨_, rfl, wl_len (Nat.le_trans (ltr_len4 (by show ((i : Nat) : Int).toNat ≤ _; omega)) (by decide)), wl_low nz.low⟩
    have l1 : x1.length = n := by rw [ex1, List.length_map, List.length_map, List.length_range]
    have b1 : Box H1 b := hb.same s1
    have nD : D ≠ b := hb.ne hD
    walk_at "rd"
    refine ⟨D, rfl, ⟨_, SqL.of hD1⟩, fun D2 hD2 => ?_⟩
    refine lcP (walk_list (K := K) (a := D)) rfl yat_list hD2 (fun H' s => SqL.of (s _ _ hD1)) (by rw [l1]; exact Nat.lt_of_le_of_lt hn (by decide)) (fun v => match v with | .str y => !decide (y.cps.toList ∈ W) | _ => false) id ?_ ?_
    · intro i v Hc hv sm F N hF hN
      obtain ⟨t, rfl, ht, hlow⟩ := p1 v (List.mem_of_getElem? hv)
      walk_at "rd"
      refine ⟨rfl, ?_⟩
      walk_at "rd"
      refine ⟨rfl, fun p hp => ?_⟩
      walk_at "rd"
      refine ⟨p, _, rfl, .inl (SqL.of upd_same), rfl, flat_strs W, ?_⟩
      rw [if_pos rfl]
      unfold wordsV
      rw [in_strs]
      by_cases c : t ∈ W
      · rw [decide_eq_true c]
        walk_at "rd"
        exact hN (by show (!decide (t ∈ W)) = false; rw [decide_eq_true c]; rfl) _ (same_new hp _)
      · rw [decide_eq_false c]
        walk_at "rd"
        exact hF (by show (!decide (t ∈ W)) = true; rw [decide_eq_false c]; rfl) _ (same_new hp _)
    · intro H2 s2 hD2'
      rw [List.map_id] at hD2'
      obtain ⟨x2, ex2⟩ : ∃ xs, xs = x1.filter (fun v => match v with | .str y => !decide (y.cps.toList ∈ W) | _ => false) := ⟨_, rfl⟩
      rw [← ex2] at hD2'
      have p2 : ∀ v ∈ x2, LowV v := fun v hv => p1 v (by rw [ex2] at hv; exact (List.mem_filter.mp hv).1)
      have l2 : x2.length ≤ n := by rw [ex2, ← l1]; exact List.length_filter_le _ _
      have s12 := s1.trans s2
      have b2 : Box H2 b := hb.same s12
      have nD2 : D2 ≠ b := b1.ne hD2
      walk_at "rd"
      refine ⟨by decide, by decide, fun D3 hD3 => ?_⟩
      refine lcB (n := 5) hD3 b2 (by decide) LowV ?_ ?_
      · intro i Hc hi bt hB F N hF
        walk_at "rd"
        refine ⟨rfl, ?_⟩
        walk_at "rd"
        refine rd_slS (by rw [mk_len]; exact Nat.le_trans nz.len (by decide)) ?_
        walk_at "rd"
        rw [show (1 : Int) = ((1 : Nat) : Int) from rfl, mk_take, lit_q]
        walk_at "rd"
        refine ⟨by rw [mk_len, mk_len, List.length_take, List.length_singleton]; exact Nat.le_trans (by omega : _ ≤ 2) (by decide), ?_⟩
        rw [mk_app, lit_u, lit_yes, lit_ah]
        walk_at "rd"
        refine ⟨by show 4 ≤ sizeLine; decide, fun p hp => ?_⟩
        walk_at "rd"
        refine ⟨_, _, rfl, b, p, _, rfl, rfl, hB.new hp, SqL.of upd_same, hB.ne hp, (by show 0 < 4; decide), (by show 4 < 2 ^ 20; decide), fun v hv H4 b4 bt4 => ?_⟩
        have lv : LowV v := by
          simp only [List.mem_cons, List.not_mem_nil, or_false] at hv
          rcases hv with rfl | rfl | rfl | rfl
          · exact lowV_of (by decide) (by decide)
          · exact lowV_of (by decide) (by decide)
          · exact lowV_of (by decide) (by decide)
          · refine ⟨_, rfl, by rw [List.length_append, List.length_take, List.length_singleton]; omega, fun c hc => ?_⟩
            rcases List.mem_append.mp hc with q | q
            · exact nz.low c (List.mem_of_mem_take q)
            · rw [List.mem_singleton.mp q]; exact ⟨by decide, by decide⟩
        obtain ⟨t, rfl, ht, hlow⟩ := lv
        walk_at "rd"
        refine ⟨_, _, rfl, b, 40, rfl, rfl, b4, by decide, by decide, fun j H5 j0 j1 b5 bt5 => ?_⟩
        obtain ⟨j, rfl⟩ : ∃ m : Nat, j = m := ⟨j.toNat, by omega⟩
        walk_at "rd"
        refine ⟨_, _, rfl, t, j, rfl, rfl, by omega, ht, ?_⟩
        exact hF _ H5 ((same_new hp _).but.trans (bt4.trans bt5)) b5 ⟨_, rfl, wl_len (Nat.le_trans (ltr_len4 (by omega)) (by decide)), wl_low hlow⟩
      · intro H3 ys bt3 b3 hD3' l3 p3
        have hD2 : H3 D2 = some (.lst x2) := bt3 _ _ nD2 hD2'
        refine ⟨D2, D3, x2, ys, rfl, rfl, hD2, hD3', ?_, fun R hR => ?_⟩
        · rw [l3]
          exact Nat.le_trans (by omega : x2.length + 5 ≤ 805) (by decide)
        · have nR : R ≠ b := b3.ne hR
          have bt03 : But b H (upd H3 R (.lst (x2 ++ ys))) := (s12.but.trans bt3).new hR
          have b03 := b3.new (o := .lst (x2 ++ ys)) hR
          have p4 : ∀ v ∈ x2 ++ ys, LowV v := fun v hv => (List.mem_append.mp hv).elim (p2 v) (p3 v)
          have l4 : (x2 ++ ys).length ≤ n + 5 := by rw [List.length_append, l3]; omega
          generalize x2 ++ ys = x4 at *
          walk_at "rd"
          refine ⟨R, rfl, ⟨_, sq_upd⟩, fun D5 hD5 => ?_⟩
          refine lcP (walk_list (K := K) (a := R)) rfl yat_list hD5 (fun H' s => SqL.of (s _ _ upd_same)) (Nat.lt_of_le_of_lt l4 (Nat.lt_of_le_of_lt (by omega : n + 5 ≤ 805) (by decide))) (fun v => match v with | .str y => isName y.cps.toList | _ => false) id ?_ ?_
          · intro i v Hc hv sm F N hF hN
            obtain ⟨t, rfl, ht, hlow⟩ := p4 v (List.mem_of_getElem? hv)
            walk_at "rd"
            refine ⟨rfl, ?_⟩
            walk_at "rd"
            refine ⟨_, rfl, t, rfl, Nat.le_trans ht (by decide), hlow, fun H' s' => ?_⟩
            refine rd_blV ?_
            refine rd_tie (fun c => ?_) (fun c => ?_)
            · walk_at "rd"
              exact hF c _ s'
            · exact hN c _ s'
          · intro H5 s5 hD5'
            rw [List.map_id] at hD5'
            obtain ⟨x5, ex5⟩ : ∃ xs, xs = x4.filter (fun v => match v with | .str y => isName y.cps.toList | _ => false) := ⟨_, rfl⟩
            rw [← ex5] at hD5'
            have p5 : ∀ v ∈ x5, NmV v := fun v hv => by
              rw [ex5] at hv
              obtain ⟨q1, q2⟩ := List.mem_filter.mp hv
              obtain ⟨t, rfl, _, _⟩ := p4 v q1
              exact ⟨t, rfl, isName_iff.mp q2⟩
            have l5 : x5.length ≤ n + 5 := by rw [ex5]; exact Nat.le_trans (List.length_filter_le _ _) l4
            have b5 : Box H5 b := b03.same s5
            have nD5 : D5 ≠ b := b03.ne hD5
            have bt5 : But b H H5 := bt03.same s5
            have f5 : H D5 = none := bt03.free nD5 hD5
            dsimp only
            refine rd_seqG (fun σ' H' => ∃ xs, σ' = [some (.ref b), some (.str (mk z)), some (.int n), some (.ref D5), none, none, none, none] ∧ H' D5 = some (.lst xs) ∧ (∀ v ∈ xs, NmV v) ∧ xs.length ≤ n + 5 ∧ Box H' b ∧ But b H H') ?_ ?_
            · intro N hN
              walk_at "rd"
              refine ⟨_, _, rfl, b, 3, rfl, rfl, b5, by decide, by decide, fun j H6 j0 j1 b6 bt6 => ?_⟩
              have h6 := bt6 _ _ nD5 hD5'
              walk_at "rd"
              refine rd_tid (fun e0 => ?_) (fun e0 => ?_)
              · walk_at "rd"
                refine rd_tid (fun e1 => ?_) (fun e1 => ?_)
                · walk_at "rd"
                  refine ⟨_, _, rfl, b, _, rfl, rfl, b6, by omega, by omega, fun q H7 q0 q1 b7 bt7 => ?_⟩
                  obtain ⟨m, rfl⟩ : ∃ m : Nat, q = m := ⟨q.toNat, by omega⟩
                  have hm : m < x5.length := by omega
                  walk_at "rd"
                  refine rd_popAt (bt7 _ _ nD5 h6) (by omega) (by omega) (seq_nat hm) (List.getElem?_eq_getElem hm) ?_
                  walk_at "rd"
                  refine hN _ _ ⟨x5.eraseIdx m, rfl, upd_same, fun v hv => p5 v (List.mem_of_mem_eraseIdx hv), by rw [List.length_eraseIdx]; split <;> omega, b7.up nD5, ((bt5.trans bt6).trans bt7).mut f5⟩
                · walk_at "rd"
                  exact hN _ _ ⟨x5, rfl, h6, p5, l5, b6, bt5.trans bt6⟩
              · walk_at "rd"
                exact hN _ _ ⟨x5, rfl, h6, p5, l5, b6, bt5.trans bt6⟩
            · rintro σ' H6 ⟨x6, rfl, h6, p6, l6, b6, bt6⟩
              walk_at "rd"
              refine ⟨_, _, rfl, b, 3, rfl, rfl, b6, by decide, by decide, fun j H7 j0 j1 b7 bt7 => ?_⟩
              have h7 := bt7 _ _ nD5 h6
              walk_at "rd"
              refine rd_slL (SqL.of h7) (fun l hl => ?_)
              walk_at "rd"
              have lc := cutV_length x6 none (some j)
              have n5l : D5 ≠ l := ne_of_none h7 hl
              refine ⟨D5, l, x6, _, rfl, rfl, by rw [upd_ne n5l]; exact h7, upd_same, ?_, fun r hr' => ?_⟩
              · exact Nat.le_trans (Nat.add_le_add l6 (Nat.le_trans lc l6)) (Nat.le_trans (by omega : _ ≤ 1610) (by decide))
              have b8 : Box (upd (upd H7 l (.lst (cutV x6 none (some j)))) r (.lst (x6 ++ cutV x6 none (some j)))) b := (b7.new hl).new hr'
              have bt8 : But b H (upd (upd H7 l (.lst (cutV x6 none (some j)))) r (.lst (x6 ++ cutV x6 none (some j)))) := ((bt6.trans bt7).new hl).new hr'
              have nr : r ≠ b := (b7.new hl).ne hr'
              have fr : H r = none := ((bt6.trans bt7).new hl).free nr hr'
              have p8 : ∀ v ∈ x6 ++ cutV x6 none (some j), NmV v := fun v hv => (List.mem_append.mp hv).elim (p6 v) fun q => p6 v (mem_cut q)
              have l8 : (x6 ++ cutV x6 none (some j)).length ≤ 2 * (n + 5) := by rw [List.length_append]; omega
              have h8 : upd (upd H7 l (.lst (cutV x6 none (some j)))) r (.lst (x6 ++ cutV x6 none (some j))) r = some (.lst (x6 ++ cutV x6 none (some j))) := upd_same
              generalize x6 ++ cutV x6 none (some j) = x8 at *
              generalize upd (upd H7 l (.lst (cutV x6 none (some j)))) r (.lst x8) = H8 at *
              walk_at "rd"
              refine rd_tid (fun c80 => ?_) (fun c80 => ?_)
              · walk_at "rd"
                refine ⟨_, _, rfl, b, r, x8, rfl, rfl, b8, SqL.of h8, nr, Nat.lt_of_le_of_lt (by omega : _ ≤ 1610) (by decide), fun p ys H9 hp pm h9 b9 bt9 => ?_⟩
                obtain ⟨L, rfl, nL⟩ := nm_txts (xs := ys) fun v hv => p8 v (pm.mem_iff.mp hv)
                have lL : L.length = x8.length := by rw [← pm.length_eq]; unfold txts; rw [List.length_map]
                exact k p L H9 (bt8.free (b8.ne hp) hp) h9 nL (by omega) b9 (bt8.trans bt9)
              · walk_at "rd"
                refine ⟨_, _, rfl, b, _, rfl, rfl, b8, by omega, by omega, fun at' H9 a0 a1 b9 bt9 => ?_⟩
                have h9 := bt9 _ _ nr h8
                walk_at "rd"
                refine rd_revL ?_
                walk_at "rd"
                refine rd_slL (SqL.of h9) (fun l1 hl1 => ?_)
                have nr1 : r ≠ l1 := ne_of_none h9 hl1
                refine ⟨l1, _, rfl, SqL.of upd_same, fun l2 hl2 => ?_⟩
                have h92 : upd (upd H9 l1 (.lst (cutV x8 (some at') none))) l2 (.lst (cutV x8 (some at') none).reverse) r = some (.lst x8) := (same_new hl2 _) _ _ (by rw [upd_ne nr1]; exact h9)
                have bt92 := ((bt8.trans bt9).new (o := .lst (cutV x8 (some at') none)) hl1).new (o := .lst (cutV x8 (some at') none).reverse) hl2
                have b92 := (b9.new (o := .lst (cutV x8 (some at') none)) hl1).new (o := .lst (cutV x8 (some at') none).reverse) hl2
                have nl2 : l2 ≠ b := (b9.new hl1).ne hl2
                walk_at "rd"
                refine rd_slL (SqL.of h92) (fun l3 hl3 => ?_)
                have n23 : l2 ≠ l3 := ne_of_none upd_same hl3
                have lr : (cutV x8 (some at') none).reverse.length ≤ x8.length := by rw [List.length_reverse]; exact cutV_length _ _ _
                have lc3 := cutV_length x8 none (some at')
                refine ⟨l2, l3, _, _, rfl, rfl, by rw [upd_ne n23]; exact upd_same, upd_same, Nat.le_trans (Nat.add_le_add lr lc3) (Nat.le_trans (by omega : _ ≤ 3220) (by decide)), fun q hq => ?_⟩
                obtain ⟨L, eL, nL⟩ := nm_txts (xs := (cutV x8 (some at') none).reverse ++ cutV x8 none (some at')) fun v hv => p8 v ((List.mem_append.mp hv).elim (fun z => mem_cut (List.mem_reverse.mp z)) mem_cut)
                have lL : L.length ≤ 4 * (n + 5) := by
                  have e : (txts L).length = L.length := by unfold txts; rw [List.length_map]
                  rw [← e, ← eL, List.length_append]
                  omega
                rw [eL]
                have b93 := b92.new (o := .lst (cutV x8 none (some at'))) hl3
                have bt93 := bt92.new (o := .lst (cutV x8 none (some at'))) hl3
                exact k q L _ (bt93.free (b93.ne hq) hq) upd_same nL lL (b93.new hq) (bt93.new hq)
end
end K01
set_option Elab.async false
set_option linter.all false
set_option maxRecDepth 100000
set_option maxHeartbeats 4000000

namespace K01
open PySem L2 My
theorem rd_exG {te : TE} {σ : L2.St} {H : Hp} {Q : VK} (G : V → Hp → Prop) (h : ∀ R : VK, (∀ v H', G v H' → R v H') → te σ H R) (h2 : ∀ v H', G v H' → Q v H') : te σ H Q := h Q h2
theorem Free.congr {z : List Nat} {T U : List Nat → Prop} {n : Nat} (e : ∀ x, T x ↔ U x) (h : Free z T n) : Free z U n := ⟨fun q => h.1 ((e _).mpr q), fun m hm => (e _).mp (h.2 m hm)⟩
theorem wl_nm {z : List Nat} {n : Nat} (nz : Nm z) (hn : n ≤ 400000) (nw : wl z n ∉ W) : Nm (wl z n) :=
  ⟨wl_ne nz.ne (Nat.le_trans (ltr_len4 hn) (by decide)), wl_len (Nat.le_trans (ltr_len4 hn) (by decide)), wl_low nz.low, nw⟩
theorem lit_told : Str.ofString "told" = mk [116, 111, 108, 100] := by decide +kernel
/-- pairs made of the items -/
abbrev RelP (D : Addr) : Hp → V → V → Prop := fun H x y => ∃ q, y = .ref q ∧ q ≠ D ∧ H q = some (.tup [x, .bl true])
theorem relP_mono {D : Addr} : ∀ (H H' : Hp) (x y : V), But D H H' → RelP D H x y → RelP D H' x y := fun H H' x y bt ⟨q, e, n, h⟩ => ⟨q, e, n, bt _ _ n h⟩
theorem pairs_of {K : PySem.W.Frag} {D : Addr} {H : Hp} : ∀ {L : List (List Nat)} {ys : List V}, Paired (RelP D H) (txts L) ys → ∃ ps : List Addr, ys = ps.map V.ref ∧ Paired (fun p (kv : Key × V) => SqT K H p [kV kv.1, kv.2]) ps (L.map fun z => ((Sum.inr (mk z) : Key), V.bl true))
  | [], _, h => by cases h; exact ⟨[], rfl, .nil⟩
  | z :: L, _, h => by
    cases h with
    | cons r t =>
      obtain ⟨q, rfl, _, hq⟩ := r
      obtain ⟨ps, rfl, pr⟩ := pairs_of (K := K) t
      exact ⟨q :: ps, rfl, .cons (SqT.of hq) pr⟩
section
variable {P : Program} {w : World} {K : PySem.W.Frag} {mg : Str → Option Value} {base : Heap}
def sp_row : Sp := Sp4 fun x y m f H Q _ => ∃ (b : Addr) (z : List Nat) (n : Nat) (g : Bool), x = .ref b ∧ y = .str (mk z) ∧ m = .int n ∧ f = .bl g ∧ Box H b ∧ Nm z ∧ n ≤ 800 ∧
  ∀ H', Box H' b → But b H H' → Q (.bl true) H'
theorem ok_law_row_right (T : Txt K mg) : FnOk P w K mg base CX0 6 T.f_law_row_right T.fd_law_row_right ["box", "name", "most", "named"] sp_row := by
  refine T.F_law_row_right.ok sc_law_row_right Sp4.len (fun cdv A outer s H vs Q E hr h => ?_)
  obtain ⟨_, _, _, _, rfl, b, z, n, g, rfl, rfl, rfl, rfl, hb, nz, hn, k⟩ := h
  refine ⟨_, (pss_cons (ps_set (i := 4) sc_law_row_right.nd rfl (.inl rfl) (pe_call (ok_law_names T) (hr.mono (by decide)) rfl T.m_law_names T.F_law_names.kp T.b_law_names .nil pass0 (pa_cons (pv 0) (pa_cons (pv 1) (pa_cons (pv 2) pa_nil)))))
      (pss_cons (ps_set (i := 5) sc_law_row_right.nd rfl (.inl rfl) (pe_callTy (call_dictP rfl) rfl T.n_dict (by decide +kernel) (pa_cons (pe_lc (own := [("one", 9)]) rfl sc_law_row_right.nd (pi_list (pv 4)) (blkOk_by (own := [("one", 9)]) (N := N_law_row_right) (sc := defScope s_law_row_right) (by decide +kernel)) (fun _ _ _ _ _ => (pg_name (i := 9) sc_law_row_right.nd rfl (Or.inl rfl))) (fun _ _ _ _ _ => pts_nil) (fun _ _ _ _ _ => (pe_tup (pa_cons (pv 9) (pa_cons pe_bl pa_nil))))) pa_nil)))
      (pss_cons (ps_for PassesOwn.never rfl (pi_range1 rfl T.n_range (pa_cons (pe_ifExp (pt_cmpR op_lt (pv 2) pe_int (nomark _)) (pe_call (ok_law_pick T) (hr.mono (by decide)) rfl T.m_law_pick T.F_law_pick.kp T.b_law_pick .nil pass0 (pa_cons (pv 0) (pa_cons (pe_lst (pa_cons pe_int (pa_cons pe_int (pa_cons pe_int pa_nil)))) pa_nil))) pe_int) pa_nil)) (pg_name (i := 6) sc_law_row_right.nd rfl (.inl rfl)) (pss_cons (ps_set (i := 7) sc_law_row_right.nd rfl (.inl rfl) (pe_call (ok_law_free T) (hr.mono (by decide)) rfl T.m_law_free T.F_law_free.kp T.b_law_free .nil pass0 (pa_cons (pv 1) (pa_cons (pv 5) pa_nil))))
      (pss_cons (ps_set (i := 8) sc_law_row_right.nd rfl (.inl rfl) (pe_ifExp (pt_cmpR op_eq (pe_call (ok_law_take T) (hr.mono (by decide)) rfl T.m_law_take T.F_law_take.kp T.b_law_take .nil pass0 (pa_cons (pv 0) (pa_cons pe_int pa_nil))) pe_int (nomark _)) (pe_callTy call_tuple_of rfl T.n_tuple (by decide +kernel) (pa_cons (pv 4) pa_nil)) (pe_callTy call_list_of rfl T.n_list (by decide +kernel) (pa_cons (pv 4) pa_nil))))
      (pss_cons (ps_if (PW.pt (pw_or (pt_not (pt_val (pe_call (ok_law_same T) (hr.mono (by decide)) rfl T.m_law_same T.F_law_same.kp T.b_law_same .nil pass0 (pa_cons (pe_call (ok_law_asked T) (hr.mono (by decide)) rfl T.m_law_asked T.F_law_asked.kp T.b_law_asked .nil pass0 (pa_cons (pv 1) (pa_cons (pv 8) (pa_cons (pv 3) pa_nil)))) (pa_cons (pe_lst (pa_cons pe_str (pa_cons (pv 7) pa_nil))) pa_nil))))) (pw_or1 (pt_not (pt_val (pe_call (ok_law_same T) (hr.mono (by decide)) rfl T.m_law_same T.F_law_same.kp T.b_law_same .nil pass0 (pa_cons (pe_lst (pa_cons (pe_callN0 (ok_is_name T) (hr.mono (by decide)) rfl T.m_is_name T.F_is_name.kp T.k_is_name_0_value pass0 (pk_cons (pv 7) pk_nil)) (pa_cons (pe_call (ok_is_word T) (hr.mono (by decide)) rfl T.m_is_word T.F_is_word.kp T.b_is_word .nil pass0 (pa_cons (pv 7) pa_nil)) pa_nil))) (pa_cons (pe_lst (pa_cons pe_bl (pa_cons pe_bl pa_nil))) pa_nil)))))))) (pss_one (ps_ret pe_bl)) pss_nil)
      (pss_cons (ps_expr (pe_bm PySem.F.plainAttrs_list PySem.F.slot_list_insert PySem.F.type_list_insert mt_insert (pv 4) (pa_cons (pe_call (ok_law_take T) (hr.mono (by decide)) rfl T.m_law_take T.F_law_take.kp T.b_law_take .nil pass0 (pa_cons (pv 0) (pa_cons (pe_op op_add (pe_callB call_len_seq rfl T.n_len (by decide +kernel) (pa_cons (pv 4) pa_nil)) pe_int) pa_nil))) (pa_cons (pv 7) pa_nil))))
      (pss_cons (ps_dput (hu_of hr) (pv 5) (pv 7) pe_bl rfl)
      (pss_one (ps_set (i := 3) sc_law_row_right.nd rfl (.inl rfl) (pe_not (pv 3))))))))))
      (pss_one (ps_ret pe_bl))))), ?_⟩
  walk_at "rd0"
  refine ⟨_, _, _, rfl, b, z, n, rfl, rfl, rfl, hb, nz, hn, fun p L H1 fp hp nL lL b1 bt1 => ?_⟩
  have npb : p ≠ b := hb.ne fp
  walk_at "rd"
  refine ⟨p, rfl, ⟨_, SqL.of hp⟩, fun D hD => ?_⟩
  have lT : (txts L).length = L.length := by unfold txts; rw [List.length_map]
  refine lcR (walk_list (K := K) (a := p)) rfl yat_list hD (fun H' s => SqL.of (s _ _ hp)) (by rw [lT]; exact Nat.lt_of_le_of_lt (by omega : _ ≤ 3220) (by decide)) (fun _ => true) (RelP D) relP_mono ?_ ?_
  · intro i v Hc hv sm ⟨lc, hDc⟩ F N hF hN
    walk_at "rd"
    refine ⟨rfl, ?_⟩
    walk_at "rd"
    refine ⟨by show 2 ≤ sizeLine; decide, fun q hq => ?_⟩
    exact hF rfl _ _ (same_new hq _) ⟨q, rfl, (ne_of_none hDc hq).symm, upd_same⟩
  · intro H2 ys s2 hD2 pr
    rw [List.filter_eq_self.mpr (fun _ _ => rfl)] at pr
    obtain ⟨ps, rfl, pp⟩ := pairs_of (K := K) pr
    walk_at "rd"
    refine ⟨D, ps, _, rfl, SqL.of hD2, pp, fun d hd => ?_⟩
    have b2 : Box H2 b := b1.same s2
    have ndb : d ≠ b := b2.ne hd
    have hp2 := s2 _ _ hp
    have npd : p ≠ d := ne_of_none hp2 hd
    have bt2 : But b H H2 := bt1.same s2
    have fd : H d = none := bt2.free ndb hd
    have bt3 : But b H (upd H2 d (.dK (dictOf L))) := bt2.new hd
    have b3 : Box (upd H2 d (.dK (dictOf L))) b := b2.new hd
    have hp3 : upd H2 d (.dK (dictOf L)) p = some (.lst (txts L)) := by rw [upd_ne npd]; exact hp2
    have hd3 : upd H2 d (.dK (dictOf L)) d = some (.dK (dictOf L)) := upd_same
    have eK : mergeK [] (L.map fun z => ((Sum.inr (mk z) : Key), V.bl true)) = dictOf L := rfl
    rw [eK]
    generalize upd H2 d (.dK (dictOf L)) = H3 at *
    dsimp only
    refine rd_seq (rd_for (rd_iR1 (rd_cons ?_)))
    refine rd_exG (fun v H' => ∃ jn : Nat, v = .int jn ∧ jn ≤ 30 ∧ Box H' b ∧ But b H3 H') (fun R hR => ?_) ?_
    · walk_at "rd"
      refine rd_tid (fun c => ?_) (fun c => ?_)
      · walk_at "rd"
        refine ⟨by show 3 ≤ sizeLine; decide, fun q hq => ?_⟩
        walk_at "rd"
        refine ⟨_, _, rfl, b, q, _, rfl, rfl, b3.new hq, sq_upd, b3.ne hq, by decide, by decide, fun v hv H4 b4 bt4 => ?_⟩
        have bt := (same_new hq (.lst [V.int 2, V.int 3, V.int 30])).but.trans bt4
        simp only [List.mem_cons, List.not_mem_nil, or_false] at hv
        rcases hv with rfl | rfl | rfl
        · exact hR _ _ ⟨2, rfl, by decide, b4, bt⟩
        · exact hR _ _ ⟨3, rfl, by decide, b4, bt⟩
        · exact hR _ _ ⟨30, rfl, by decide, b4, bt⟩
      · walk_at "rd"
        exact hR _ _ ⟨4, rfl, by decide, b3, But.refl H3⟩
    rintro v H4 ⟨jn, rfl, hj, b4, bt4⟩
    walk_at "rd"
    refine ⟨by omega, by omega, forR (n := jn) rfl (fun i σ H' => ∃ (L' M : List (List Nat)) (f : Bool) (v1 v2 v3 : Option V), σ = [some (.ref b), some (.str (mk z)), some (.int n), some (.bl f), some (.ref p), some (.ref d), v1, v2, v3, none] ∧ Box H' b ∧ But b H H' ∧
      H' p = some (.lst (txts L')) ∧ H' d = some (.dK (dictOf M)) ∧ (∀ x, x ∈ M ↔ x ∈ L') ∧ (∀ l ∈ L', Nm l) ∧ L'.length ≤ 3220 + i ∧ M.length ≤ 3220 + i) ?_ ?_ ?_⟩
    · exact ⟨L, L, g, none, none, none, rfl, b4, bt3.trans bt4, bt4 _ _ npb hp3, bt4 _ _ ndb hd3, fun _ => Iff.rfl, nL, by omega, by omega⟩
    · rintro i σ H5 hi ⟨L', M, f, v1, v2, v3, rfl, b5, bt5, h5p, h5d, hM, nL', lL', lM⟩
      have hex : ∃ m, Free z (fun x => x ∈ M ∨ x ∈ W) m := by
        obtain ⟨m, _, hm⟩ := free_ex z M W (by have : W.length = 23 := by decide
                                               omega)
        exact ⟨m, hm⟩
      obtain ⟨m, hm⟩ := hex
      have hm9 : m ≤ 400000 := by
        have := free_low (by omega) hm
        have := dictOf_len M
        omega
      have hmL : Free z (fun x => x ∈ L' ∨ x ∈ W) m := hm.congr fun x => by rw [hM]
      have nm : Nm (wl z m) := wl_nm nz hm9 (fun q => hm.1 (.inr q))
      have nwW : wl z m ∉ W := nm.nw
      walk_at "rd"
      refine ⟨_, _, rfl, z, d, M, m, rfl, rfl, h5d, nz.len, by omega, hm, fun H6 s6 => ?_⟩
      generalize hdue : wl z m = due at *
      have b6 := b5.same s6
      have h6p := s6 _ _ h5p
      have h6d := s6 _ _ h5d
      dsimp only
      refine rd_seq (rd_setN ?_)
      refine rd_exG (fun v H' => ∃ q, v = .ref q ∧ LT H' q (txts L') ∧ Box H' b ∧ But b H6 H') (fun R hR => ?_) ?_
      · walk_at "rd"
        refine ⟨_, _, rfl, b, 2, rfl, rfl, b6, by decide, by decide, fun j H7 j0 j1 b7 bt7 => ?_⟩
        have h7p := bt7 _ _ npb h6p
        walk_at "rd"
        refine rd_tid (fun c => ?_) (fun c => ?_)
        · walk_at "rd"
          refine ⟨p, _, rfl, .inl ⟨SqL.of h7p, fun q hq => ?_⟩⟩
          exact hR _ _ ⟨q, rfl, .inr upd_same, b7.new hq, bt7.new hq⟩
        · walk_at "rd"
          exact fun q hq => hR _ _ ⟨q, rfl, .inl upd_same, b7.new hq, bt7.new hq⟩
      rintro v H7 ⟨q, rfl, lt, b7, bt7⟩
      have h7p := bt7 _ _ npb h6p
      have h7d := bt7 _ _ ndb h6d
      walk_at "rd"
      refine ⟨_, _, _, rfl, f, rfl, .inl ⟨z, L', q, m, rfl, rfl, lt, nz, nL', by omega, hmL, fun p1 H8 hp1 s8 h81 => ?_⟩⟩
      rw [hdue] at h81
      walk_at "rd"
      refine ⟨by show 2 ≤ sizeLine; decide, fun p2 hp2' => ?_⟩
      have s9 := s8.trans (same_new hp2' (.lst [V.str (Str.ofString "told"), V.str (mk due)]))
      have ld : due.length ≤ 1000 := Nat.le_trans nm.len (by decide)
      have rel : ∀ {H : Hp} {a : Addr}, H a = some (.lst [V.str (Str.ofString "told"), V.str (mk due)]) → Rp H 3 Any (.ref a) (.lst [.str [116, 111, 108, 100], .str due]) := fun {H a} h => by
        rw [lit_told] at h
        exact ⟨a, _, rfl, trivial, h, (by show 2 ≤ 1000; decide), .cons ⟨rfl, by decide⟩ (.cons ⟨rfl, ld⟩ .nil)⟩
      walk_at "rd"
      refine ⟨_, _, rfl, _, ?_, rel (same_new hp2' _ _ _ h81), rel upd_same, fun H10 s10 => ?_⟩
      · intro d' hd'
        simp only [List.mem_cons, List.not_mem_nil, or_false] at hd'
        rcases hd' with rfl | rfl <;> trivial
      have s710 := s9.trans s10
      walk_at "rd"
      refine rd_callN0 ?_
      walk_at "rd"
      refine ⟨rfl, _, rfl, .inl ⟨due, rfl, ld, fun H11 s11 => ?_⟩⟩
      rw [isName_iff.mpr nm]
      walk_at "rd"
      refine ⟨_, rfl, due, rfl, ?_⟩
      rw [decide_eq_false nwW]
      walk_at "rd"
      refine ⟨by show 2 ≤ sizeLine; decide, fun p3 hp3' => ?_⟩
      walk_at "rd"
      refine ⟨by show 2 ≤ sizeLine; decide, fun p4 hp4 => ?_⟩
      have relB : ∀ {H : Hp} {a : Addr}, H a = some (.lst [V.bl true, V.bl false]) → Rp H 3 Any (.ref a) (.lst [.bl true, .bl false]) := fun {H a} h =>
        ⟨a, _, rfl, trivial, h, (by show 2 ≤ 1000; decide), .cons rfl (.cons rfl .nil)⟩
      walk_at "rd"
      refine ⟨_, _, rfl, _, ?_, relB (same_new hp4 _ _ _ upd_same), relB upd_same, fun H12 s12 => ?_⟩
      · intro d' hd'
        simp only [List.mem_cons, List.not_mem_nil, or_false] at hd'
        rcases hd' with rfl | rfl <;> trivial
      have s712 : Same H7 H12 := ((((s710.trans s11).trans (same_new hp3' _)).trans (same_new hp4 _)).trans s12)
      have b12 := b7.same s712
      have h12p := s712 _ _ h7p
      have h12d := s712 _ _ h7d
      have bt12 : But b H H12 := ((bt5.same s6).trans bt7).same s712
      walk_at "rd"
      have lT' : (txts L').length = L'.length := by unfold txts; rw [List.length_map]
      refine ⟨_, _, rfl, b, _, rfl, rfl, b12, by omega, by omega, fun j H13 j0 j1 b13 bt13 => ?_⟩
      have h13p := bt13 _ _ npb h12p
      have h13d := bt13 _ _ ndb h12d
      walk_at "rd"
      refine ⟨p, _, j, _, rfl, rfl, h13p, Nat.lt_of_le_of_lt (by omega : _ ≤ 3250) (by decide), j0, by omega, ?_⟩
      walk_at "rd"
      refine rd_dput ?_
      walk_at "rd"
      have h14d : upd H13 p (.lst ((txts L').take j.toNat ++ [V.str (mk due)] ++ (txts L').drop j.toNat)) d = some (.dK (dictOf M)) := by rw [upd_ne npd.symm]; exact h13d
      have ldM := dictOf_len M
      refine ⟨d, _, rfl, DPut.k (k := Sum.inr (mk due)) h14d (Nat.lt_of_le_of_lt (by omega : _ ≤ 3250) (by decide)), ?_⟩
      rw [← dictOf_snoc]
      walk_at "rd"
      have ein : (txts L').take j.toNat ++ [V.str (mk due)] ++ (txts L').drop j.toNat = txts (L'.take j.toNat ++ [due] ++ L'.drop j.toNat) := by
        unfold txts
        rw [List.map_append, List.map_append, List.map_take, List.map_drop]
        rfl
      rw [ein]
      refine ⟨L'.take j.toNat ++ [due] ++ L'.drop j.toNat, M ++ [due], !f, _, _, _, rfl, ?_, ?_, ?_, upd_same, ?_, ?_, ?_, ?_⟩
      · exact (b13.up npb).up ndb
      · exact ((bt12.trans bt13).mut fp).mut fd
      · rw [upd_ne npd]; exact upd_same
      · intro x
        rw [List.mem_append, List.mem_append, List.mem_append, hM]
        have e := List.take_append_drop j.toNat L'
        conv => lhs; rw [← e]
        rw [List.mem_append]
        constructor
        · rintro ((a | a) | a)
          · exact .inl (.inl a)
          · exact .inr a
          · exact .inl (.inr a)
        · rintro ((a | a) | a)
          · exact .inl (.inl a)
          · exact .inr a
          · exact .inl (.inr a)
      · intro l hl
        rcases List.mem_append.mp hl with q | q
        · rcases List.mem_append.mp q with q | q
          · exact nL' l (List.mem_of_mem_take q)
          · rw [List.mem_singleton.mp q]; exact nm
        · exact nL' l (List.mem_of_mem_drop q)
      · rw [List.length_append, List.length_append, List.length_take, List.length_drop, List.length_singleton]
        omega
      · rw [List.length_append, List.length_singleton]
        omega
    · rintro σ H5 ⟨L', M, f, v1, v2, v3, rfl, b5, bt5, _⟩
      walk_at "rd"
      exact k H5 b5 bt5
end
end K01
set_option Elab.async false
set_option linter.all false
set_option maxRecDepth 100000
set_option maxHeartbeats 4000000

namespace K01
open PySem L2 My
theorem walk_rng2 (lo n : Nat) : Walk (Itr (lo : Int) n) n (fun _ => True) (YAt ((List.range n).map fun i => V.int ((lo + i : Nat) : Int))) :=
  (walk_range (lo := (lo : Int)) (n := n)).mono (fun _ h => h) (fun i H x H' hi _ y => ⟨y.1, by
    rw [List.getElem?_map, List.getElem?_range hi, y.2]
    rfl⟩)
theorem W_facts : ∀ wd ∈ W, 2 ≤ wd.length ∧ wd.length ≤ 8 ∧ wd.all lowB = true := by decide
theorem rd_gT2 {K : PySem.W.Frag} {n i j : Nat} {σ : L2.St} {H : Hp} {S : L2.St → Hp → Prop} {a : Addr} {x y : V} (h : SqT K H a [x, y]) (q : S ((σ.set i (some x)).set j (some y)) H) (hn : n = 2 := by rfl) : gTup K n (gCons (gName i) (gCons (gName j) gNil)) (.ref a) σ H S :=
  ⟨a, [x, y], rfl, h, hn.symm, x, [y], rfl, y, [], rfl, rfl, q⟩
structure Good (wd : List Nat) (c : Nat) : Prop where
  w : wd ∈ W
  lo : 1 ≤ c
  hi : c < wd.length
  nm : isName (wd.take c) = true
  small : num (wd.drop c) < 1500
theorem Good.again {wd : List Nat} {c : Nat} (g : Good wd c) : wl (wd.take c) (num (wd.drop c)) = wd := by
  obtain ⟨h2, h8, hl⟩ := W_facts wd g.w
  have e : ltr (num (wd.drop c)) = wd.drop c := ltr_num _ _ rfl fun x hx => lowB_iff.mp (List.all_eq_true.mp hl x (List.mem_of_mem_drop hx))
  unfold wl
  have := g.hi
  rw [e, List.take_of_length_le (by rw [List.length_take, List.length_drop]; omega), List.take_append_drop]
def PairV (H : Hp) (y : V) : Prop := ∃ q wd c, y = .ref q ∧ H q = some (.tup [.str (mk wd), .int ((c : Nat) : Int)]) ∧ Good wd c
section
variable {P : Program} {w : World} {K : PySem.W.Frag} {mg : Str → Option Value} {base : Heap}
def sp_words_right : Sp := Sp2 fun x f H Q _ => ∃ (b : Addr) (g : Bool), x = .ref b ∧ f = .bl g ∧ Box H b ∧ ∀ H', Box H' b → But b H H' → Q (.bl true) H'
theorem ok_law_words_right (T : Txt K mg) : FnOk P w K mg base CX0 6 T.f_law_words_right T.fd_law_words_right ["box", "named"] sp_words_right := by
  refine T.F_law_words_right.ok sc_law_words_right Sp2.len (fun cdv A outer s H vs Q E hr h => ?_)
  obtain ⟨_, _, rfl, b, g, rfl, rfl, hb, k⟩ := h
  refine ⟨_, (pss_cons (ps_set (i := 2) sc_law_words_right.nd rfl (.inl rfl) (pe_lst pa_nil))
      (pss_cons (ps_for PassesOwn.never rfl (pi_list (pe_call0 (ok_law_words T) (hr.mono (by decide)) rfl T.m_law_words T.F_law_words.kp T.b_law_words .nil pass0)) (pg_name (i := 3) sc_law_words_right.nd rfl (.inr rfl)) (pss_one (ps_expr (pe_bm PySem.F.plainAttrs_list PySem.F.slot_list_extend PySem.F.type_list_extend mt_extend (pv 2) (pa_cons (pe_lc (own := [("k", 10)]) (tt := _) rfl sc_law_words_right.nd (pi_range2 rfl T.n_range (pa_cons (pe_callB (call_max2 rfl) rfl T.n_max (by decide +kernel) (pa_cons pe_int (pa_cons (pe_op op_sub (pe_callB call_len_str rfl T.n_len (by decide +kernel) (pa_cons (pv 3) pa_nil)) pe_int) pa_nil))) (pa_cons (pe_callB call_len_str rfl T.n_len (by decide +kernel) (pa_cons (pv 3) pa_nil)) pa_nil))) (blkOk_by (own := [("k", 10)]) (N := N_law_words_right) (sc := defScope s_law_words_right) (by decide +kernel)) (fun _ _ _ _ _ => (pg_name (i := 10) sc_law_words_right.nd rfl (Or.inl rfl))) (fun _ _ _ _ _ => (pts_one (PW.pt (pw_and (pt_val (pe_call (ok_law_is_name T) (hr.mono (by decide)) rfl T.m_law_is_name T.F_law_is_name.kp T.b_law_is_name .nil pass0 (pa_cons (pe_slice sl_str (pv 3) po_none (po_some (pv 10))) pa_nil))) (pw_and1 (pt_cmpR op_lt (pe_call (ok_law_number T) (hr.mono (by decide)) rfl T.m_law_number T.F_law_number.kp T.b_law_number .nil pass0 (pa_cons (pe_slice sl_str (pv 3) (po_some (pv 10)) po_none) pa_nil)) pe_int (nomark _))))))) (fun _ _ _ _ _ => (pe_tup (pa_cons (pv 3) (pa_cons (pv 10) pa_nil))))) pa_nil)))))
      (pss_cons (ps_asg (pe_call (ok_law_pick T) (hr.mono (by decide)) rfl T.m_law_pick T.F_law_pick.kp T.b_law_pick .nil pass0 (pa_cons (pv 0) (pa_cons (pv 2) pa_nil))) (pg_tup rfl (pgs_cons (pg_name (i := 4) sc_law_words_right.nd rfl (.inl rfl)) (pgs_cons (pg_name (i := 5) sc_law_words_right.nd rfl (.inl rfl)) pgs_nil))))
      (pss_cons (ps_asg (pe_tup (pa_cons (pe_slice sl_str (pv 4) po_none (po_some (pv 5))) (pa_cons (pe_call (ok_law_number T) (hr.mono (by decide)) rfl T.m_law_number T.F_law_number.kp T.b_law_number .nil pass0 (pa_cons (pe_slice sl_str (pv 4) (po_some (pv 5)) po_none) pa_nil)) pa_nil))) (pg_tup rfl (pgs_cons (pg_name (i := 6) sc_law_words_right.nd rfl (.inr rfl)) (pgs_cons (pg_name (i := 7) sc_law_words_right.nd rfl (.inl rfl)) pgs_nil))))
      (pss_cons (ps_setLc (i := 8) (own := [("k", 10)]) rfl sc_law_words_right.nd rfl rfl (sw_true rfl rfl rfl (by decide +kernel)) (pi_range1 rfl T.n_range (pa_cons (pv 7) pa_nil)) (blkOk_by (own := [("k", 10)]) (N := N_law_words_right) (sc := defScope s_law_words_right) (by decide +kernel)) (fun _ _ _ _ _ => (pg_name (i := 10) sc_law_words_right.nd rfl (Or.inl rfl))) (fun _ _ _ _ _ => pts_nil) (fun _ _ _ _ _ => (pe_call (ok_law_longer T) (hr.mono (by decide)) rfl T.m_law_longer T.F_law_longer.kp T.b_law_longer .nil pass0 (pa_cons (pv 6) (pa_cons (pv 10) pa_nil)))))
      (pss_cons (ps_setLc (i := 8) (own := [("one", 3)]) (tt := _) rfl sc_law_words_right.nd rfl rfl (sw_true rfl rfl rfl (by decide +kernel)) (pi_list (pv 8)) (blkOk_by (own := [("one", 3)]) (N := N_law_words_right) (sc := defScope s_law_words_right) (by decide +kernel)) (fun _ _ _ _ _ => (pg_name (i := 3) sc_law_words_right.nd rfl (Or.inl rfl))) (fun _ _ _ _ _ => (pts_one (pt_cmpR (show OpR _ _ (rIn K true) from op_notIn_seq) (pv 3) (pe_call0 (ok_law_words T) (hr.mono (by decide)) rfl T.m_law_words T.F_law_words.kp T.b_law_words .nil pass0) rfl))) (fun _ _ _ _ _ => (pv 3)))
      (pss_cons (ps_set (i := 9) sc_law_words_right.nd rfl (.inl rfl) (pe_call (ok_law_free T) (hr.mono (by decide)) rfl T.m_law_free T.F_law_free.kp T.b_law_free .nil pass0 (pa_cons (pv 6) (pa_cons (pe_callTy (call_dictP rfl) rfl T.n_dict (by decide +kernel) (pa_cons (pe_lc (own := [("one", 3)]) rfl sc_law_words_right.nd (pi_list (pv 8)) (blkOk_by (own := [("one", 3)]) (N := N_law_words_right) (sc := defScope s_law_words_right) (by decide +kernel)) (fun _ _ _ _ _ => (pg_name (i := 3) sc_law_words_right.nd rfl (Or.inl rfl))) (fun _ _ _ _ _ => pts_nil) (fun _ _ _ _ _ => (pe_tup (pa_cons (pv 3) (pa_cons pe_bl pa_nil))))) pa_nil)) pa_nil))))
      (pss_cons (ps_if (PW.pt (pw_or (pt_cmpR op_ne (pe_call (ok_law_longer T) (hr.mono (by decide)) rfl T.m_law_longer T.F_law_longer.kp T.b_law_longer .nil pass0 (pa_cons (pv 6) (pa_cons (pv 7) pa_nil))) (pv 4) (nomark _)) (pw_or1 (pt_cmpR op_eq (pv 9) (pv 4) (nomark _))))) (pss_one (ps_ret pe_bl)) pss_nil)
      (pss_one (ps_ret (pe_call (ok_law_same T) (hr.mono (by decide)) rfl T.m_law_same T.F_law_same.kp T.b_law_same .nil pass0 (pa_cons (pe_lst (pa_cons (pe_call (ok_law_asked T) (hr.mono (by decide)) rfl T.m_law_asked T.F_law_asked.kp T.b_law_asked .nil pass0 (pa_cons (pv 6) (pa_cons (pe_revL (pv 8)) (pa_cons (pv 1) pa_nil)))) (pa_cons (pe_call (ok_is_word T) (hr.mono (by decide)) rfl T.m_is_word T.F_is_word.kp T.b_is_word .nil pass0 (pa_cons (pv 4) pa_nil)) (pa_cons (pe_callN0 (ok_is_name T) (hr.mono (by decide)) rfl T.m_is_name T.F_is_name.kp T.k_is_name_0_value pass0 (pk_cons (pv 4) pk_nil)) pa_nil)))) (pa_cons (pe_lst (pa_cons (pe_lst (pa_cons pe_str (pa_cons (pv 9) pa_nil))) (pa_cons pe_bl (pa_cons pe_bl pa_nil)))) pa_nil))))))))))))), ?_⟩
  walk_at "rd0"
  refine ⟨Nat.zero_le _, fun a fa => ?_⟩
  have nab : a ≠ b := hb.ne fa
  walk_at "rd"
  refine ⟨rfl, fun p0 fp0 => ?_⟩
  have nap0 : a ≠ p0 := ne_of_none upd_same fp0
  have s0 : Same H (upd (upd H a (.lst [])) p0 (.lst wordsV)) := (same_new fa _).trans (same_new fp0 _)
  walk_at "rd"
  refine ⟨p0, rfl, ⟨_, sq_upd⟩, ?_⟩
  refine forL (xs := wordsV) (fun i σ H' => ∃ (ys : List V) (v : Option V), σ = [some (.ref b), some (.bl g), some (.ref a), v, none, none, none, none, none, none, none] ∧ H' a = some (.lst ys) ∧ H' p0 = some (.lst wordsV) ∧ But a (upd H a (.lst [])) H' ∧ (∀ y ∈ ys, PairV H' y) ∧ ys.length ≤ 8 * i ∧ (0 < i → ys ≠ [])) ?_ ?_ ?_ ?_
  · exact ⟨[], none, rfl, by rw [upd_ne nap0]; exact upd_same, upd_same, (same_new fp0 _).but, (fun y h => by cases h), Nat.le_refl _, (fun h => by cases h)⟩
  · rintro i σ H' hi ⟨ys, v, rfl, h1, h2, _⟩
    exact SqL.of h2
  · rintro i x σ H1 hx ⟨ys, v, rfl, h1, h2, bt1, py, ly, ne⟩
    unfold wordsV at hx
    rw [List.getElem?_map] at hx
    obtain ⟨wd, hwd, rfl⟩ := Option.map_eq_some_iff.mp hx
    have hwW := List.mem_of_getElem? hwd
    obtain ⟨w2, w8, wl'⟩ := W_facts wd hwW
    have wlow : ∀ c ∈ wd, low c := fun c hc => lowB_iff.mp (List.all_eq_true.mp wl' c hc)
    have wsz : (mk wd).length ≤ sizeLine := by rw [mk_len]; exact Nat.le_trans w8 (by decide)
    walk_at "rd"
    refine rd_lenS wsz ?_
    rw [mk_len]
    walk_at "rd"
    have elo : (if (wd.length : Int) - 3 > 1 then (wd.length : Int) - 3 else 1) = ((max 1 (wd.length - 3) : Nat) : Int) := by split <;> omega
    rw [elo]
    obtain ⟨lo, hlo⟩ : ∃ lo, lo = max 1 (wd.length - 3) := ⟨_, rfl⟩
    rw [← hlo]
    refine rd_lenS wsz ?_
    rw [mk_len]
    walk_at "rd"
    refine ⟨⟨by omega, by omega, by omega, by omega⟩, fun D hD => ?_⟩
    have en : ((wd.length : Int) - (lo : Int)).toNat = wd.length - lo := by omega
    rw [en]
    refine lcR (walk_rng2 lo (wd.length - lo)) (by rw [List.length_map, List.length_range]) yat_list hD (fun _ _ => trivial) (by rw [List.length_map, List.length_range]; exact Nat.lt_of_le_of_lt (by omega : _ ≤ 8) (by decide)) (fun v => match v with | .int c => isName (wd.take c.toNat) && decide (num (wd.drop c.toNat) < 1500) | _ => false)
      (fun H x y => ∃ q, y = .ref q ∧ q ≠ D ∧ H q = some (.tup [.str (mk wd), x])) (fun H H' x y bt ⟨q, e, n, h⟩ => ⟨q, e, n, bt _ _ n h⟩) ?_ ?_
    · intro j v' Hc hv sm ⟨lc, hDc⟩ F N hF hN
      rw [List.getElem?_map] at hv
      obtain ⟨j', hj, rfl⟩ := Option.map_eq_some_iff.mp hv
      obtain ⟨hj1, rfl⟩ := List.getElem?_eq_some_iff.mp hj
      rw [List.length_range] at hj1
      rw [List.getElem_range] at *
      have hc : lo + j ≤ wd.length := by omega
      generalize lo + j = c at *
      walk_at "rd"
      refine ⟨rfl, ?_⟩
      walk_at "rd"
      refine rd_slS wsz ?_
      walk_at "rd"
      rw [mk_take]
      refine ⟨_, rfl, wd.take c, rfl, Nat.le_trans (by rw [List.length_take]; omega : _ ≤ 8) (by decide), fun x hx => wlow x (List.mem_of_mem_take hx), fun H2 s2 => ?_⟩
      walk_at "rd"
      refine rd_tie (fun e1 => ?_) (fun e1 => ?_)
      · walk_at "rd"
        refine rd_slS wsz ?_
        walk_at "rd"
        rw [mk_drop]
        refine ⟨_, rfl, wd.drop c, rfl, Nat.le_trans (by rw [List.length_drop]; omega : _ ≤ 8) (by decide), fun x hx => wlow x (List.mem_of_mem_drop hx), ?_⟩
        walk_at "rd"
        refine rd_tid (fun e2 => ?_) (fun e2 => ?_)
        · walk_at "rd"
          refine ⟨by show 2 ≤ sizeLine; decide, fun q hq => ?_⟩
          refine hF ?_ _ _ (s2.trans (same_new hq _)) ⟨q, rfl, (ne_of_none (s2 _ _ hDc) hq).symm, upd_same⟩
          show (isName (wd.take c) && decide (num (wd.drop c) < 1500)) = true
          rw [e1, decide_eq_true (by omega)]; rfl
        · refine hN ?_ _ s2
          show (isName (wd.take c) && decide (num (wd.drop c) < 1500)) = false
          rw [decide_eq_false (by omega), Bool.and_false]
      · refine hN ?_ _ s2
        show (isName (wd.take c) && decide (num (wd.drop c) < 1500)) = false
        rw [e1]; rfl
    · intro H2 zs s2 hD2 pr
      have h12 := s2 _ _ h1
      have good : ∀ {src : List V} {zs : List V}, Paired (fun x y => ∃ q, y = V.ref q ∧ q ≠ D ∧ H2 q = some (.tup [.str (mk wd), x])) src zs → (∀ x ∈ src, ∃ c, x = V.int ((c : Nat) : Int) ∧ Good wd c) → ∀ y ∈ zs, PairV H2 y := by
        intro src zs pr
        induction pr with
        | nil => intro _ y hy; cases hy
        | cons r t ih =>
          intro hs y hy
          cases hy with
          | head =>
            obtain ⟨q, e, _, hq⟩ := r
            obtain ⟨c, rfl, gc⟩ := hs _ (List.mem_cons_self ..)
            exact ⟨q, wd, c, e, hq, gc⟩
          | tail _ hy => exact ih (fun x hx => hs x (List.mem_cons_of_mem _ hx)) y hy
      have pz := good pr fun x hx => by
        obtain ⟨hx1, hx2⟩ := List.mem_filter.mp hx
        obtain ⟨j, hj, rfl⟩ := List.mem_map.mp hx1
        have hj' := List.mem_range.mp hj
        have hx3 : (isName (wd.take (lo + j)) && decide (num (wd.drop (lo + j)) < 1500)) = true := hx2
        rw [Bool.and_eq_true] at hx3
        exact ⟨lo + j, rfl, hwW, by omega, by omega, hx3.1, of_decide_eq_true hx3.2⟩
      have lz : zs.length ≤ 8 := by
        rw [← pr.length]
        refine Nat.le_trans (List.length_filter_le _ _) ?_
        rw [List.length_map, List.length_range]; omega
      walk_at "rd"
      refine ⟨a, D, ys, zs, rfl, rfl, h12, hD2, ?_, ?_⟩
      · have : i < W.length := (List.getElem?_eq_some_iff.mp hwd).1
        have w23 : W.length = 23 := by decide
        exact Nat.le_trans (by omega : _ ≤ 192) (by decide)
      · walk_at "rd"
        refine ⟨ys ++ zs, _, rfl, upd_same, by rw [upd_ne nap0.symm]; exact s2 _ _ h2, (bt1.same s2).upd, ?_, ?_, ?_⟩
        · intro y hy
          have keep : ∀ y, PairV H2 y → PairV (upd H2 a (.lst (ys ++ zs))) y := fun y ⟨q, wd', c, e, hq, gc⟩ => ⟨q, wd', c, e, by rw [upd_ne (fun e => by rw [e, h12] at hq; cases hq)]; exact hq, gc⟩
          rcases List.mem_append.mp hy with q | q
          · obtain ⟨q', wd', c, e, hq, gc⟩ := py y q
            exact keep y ⟨q', wd', c, e, s2 _ _ hq, gc⟩
          · exact keep y (pz y q)
        · rw [List.length_append]; omega
        · intro _ e
          by_cases hi0 : 0 < i
          · exact ne hi0 (List.append_eq_nil_iff.mp e).1
          · have e0 : i = 0 := by omega
            have ez := (List.append_eq_nil_iff.mp e).2
            have ewd : wd = [97, 110, 100] := by
              rw [e0] at hwd
              exact (Option.some.inj hwd).symm
            have : V.int ((1 : Nat) : Int) ∈ ((List.range (wd.length - lo)).map fun i => V.int ((lo + i : Nat) : Int)).filter (fun v => match v with | .int c => isName (wd.take c.toNat) && decide (num (wd.drop c.toNat) < 1500) | _ => false) := by
              have elo' : lo = 1 := by rw [hlo, ewd]; rfl
              refine List.mem_filter.mpr ⟨?_, ?_⟩
              · rw [elo', ewd]; exact List.mem_map.mpr ⟨0, by decide, rfl⟩
              · rw [ewd]; decide
            have l0 := pr.length
            rw [ez] at l0
            have := List.length_pos_of_mem this
            rw [l0] at this
            exact Nat.lt_irrefl 0 this
  · rintro σ H1 ⟨ys, v, rfl, h1, h2, bt1, py, ly, ne⟩
    have ly' : ys.length ≤ 8 * 23 := ly
    have lne : 0 < ys.length := List.length_pos_iff.mpr (ne (by decide))
    have b1 : Box H1 b := by
      obtain ⟨i, f, j, n, e, r⟩ := hb
      exact ⟨i, f, j, n, bt1 _ _ nab.symm (same_new fa _ _ _ e), r⟩
    have bt01 : But b H H1 := fun c o nc e => bt1 c o (ne_of_none e fa) (same_new fa _ _ _ e)
    walk_at "rd"
    refine rd_asg ?_
    walk_at "rd"
    refine ⟨_, _, rfl, b, a, ys, rfl, rfl, b1, SqL.of h1, nab, lne, Nat.lt_of_le_of_lt ly' (by decide), fun y hy H2 b2 bt2 => ?_⟩
    obtain ⟨q, word, cut, rfl, hq, gd⟩ := py y hy
    have nqb : q ≠ b := by
      obtain ⟨i, f, j, n, e, r⟩ := b1
      intro e2; rw [e2, e] at hq; cases hq
    have hq2 := bt2 _ _ nqb hq
    refine rd_gT2 (SqT.of hq2) ?_
    dsimp only
    refine rd_seq (rd_asg ?_)
    have hwW := gd.w
    obtain ⟨w2, w8, wl'⟩ := W_facts word hwW
    have wlow : ∀ c ∈ word, low c := fun c hc => lowB_iff.mp (List.all_eq_true.mp wl' c hc)
    have wsz : (mk word).length ≤ sizeLine := by rw [mk_len]; exact Nat.le_trans w8 (by decide)
    have nnm : Nm (word.take cut) := isName_iff.mp gd.nm
    have hlt := gd.small
    have again := gd.again
    walk_at "rd"
    refine rd_slS wsz ?_
    walk_at "rd"
    refine rd_slS wsz ?_
    walk_at "rd"
    rw [mk_take, mk_drop]
    refine ⟨_, rfl, word.drop cut, rfl, Nat.le_trans (by rw [List.length_drop]; omega : _ ≤ 8) (by decide), fun x hx => wlow x (List.mem_of_mem_drop hx), ?_⟩
    generalize hname : word.take cut = name at *
    generalize hnum : num (word.drop cut) = nr at *
    walk_at "rd"
    refine ⟨by show 2 ≤ sizeLine; decide, fun q2 hq2' => ?_⟩
    refine rd_gT2 (SqT.of upd_same) ?_
    have b3 := b2.new (o := .tup [V.str (mk name), V.int ((nr : Nat) : Int)]) hq2'
    have bt3 := (bt01.trans bt2).new (o := .tup [V.str (mk name), V.int ((nr : Nat) : Int)]) hq2'
    generalize upd H2 q2 (.tup [V.str (mk name), V.int ((nr : Nat) : Int)]) = H3 at *
    walk_at "rd"
    refine ⟨by omega, by omega, fun D hD => ?_⟩
    refine lcP (walk_rng nr) (by rw [List.length_map, List.length_range]) yat_list hD (fun _ _ => trivial) (by rw [List.length_map, List.length_range]; exact Nat.lt_trans hlt (by decide)) (fun _ => true) (fun v => match v with | .int i => .str (mk (wl name i.toNat)) | _ => .non) ?_ ?_
    · intro i v' Hc hv sm F N hF hN
      rw [List.getElem?_map] at hv
      obtain ⟨j, hj, rfl⟩ := Option.map_eq_some_iff.mp hv
      obtain ⟨hj1, rfl⟩ := List.getElem?_eq_some_iff.mp hj
      rw [List.length_range] at hj1
      rw [List.getElem_range]
      rw [List.getElem_range] at hF
      walk_at "rd"
      refine ⟨rfl, ?_⟩
      walk_at "rd"
      refine ⟨_, _, rfl, name, i, rfl, rfl, by omega, nnm.len, ?_⟩
      exact hF rfl Hc (Same.refl Hc)
    · intro H4 s4 hD1
      rw [List.filter_eq_self.mpr (fun _ _ => rfl)] at hD1
      obtain ⟨x1, ex1⟩ : ∃ xs, xs = (((List.range nr).map fun i => V.int (i : Nat)).map fun v => match v with | .int i => V.str (mk (wl name i.toNat)) | _ => .non) := ⟨_, rfl⟩
      rw [← ex1] at hD1
      have p1 : ∀ v ∈ x1, ∃ t, v = .str (mk t) ∧ (t ∉ W → Nm t) := fun v hv => by
        rw [ex1] at hv
        obtain ⟨u, hu, rfl⟩ := List.mem_map.mp hv
        obtain ⟨i, hi, rfl⟩ := List.mem_map.mp hu
        have hi' := List.mem_range.mp hi
        exact ⟨_, rfl, fun nw => wl_nm nnm (by show ((i : Nat) : Int).toNat ≤ _; omega) nw⟩
      have l1 : x1.length = nr := by rw [ex1, List.length_map, List.length_map, List.length_range]
      walk_at "rd"
      refine ⟨D, rfl, ⟨_, SqL.of hD1⟩, fun D2 hD2 => ?_⟩
      refine lcP (walk_list (K := K) (a := D)) rfl yat_list hD2 (fun H' s => SqL.of (s _ _ hD1)) (by rw [l1]; exact Nat.lt_trans hlt (by decide)) (fun v => match v with | .str y => !decide (y.cps.toList ∈ W) | _ => false) id ?_ ?_
      · intro i v Hc hv sm F N hF hN
        obtain ⟨t, rfl, _⟩ := p1 v (List.mem_of_getElem? hv)
        walk_at "rd"
        refine ⟨rfl, ?_⟩
        walk_at "rd"
        refine ⟨rfl, fun p hp => ?_⟩
        walk_at "rd"
        refine ⟨p, _, rfl, .inl (SqL.of upd_same), rfl, flat_strs W, ?_⟩
        rw [if_pos rfl]
        unfold wordsV
        rw [in_strs]
        by_cases c : t ∈ W
        · rw [decide_eq_true c]
          walk_at "rd"
          exact hN (by show (!decide (t ∈ W)) = false; rw [decide_eq_true c]; rfl) _ (same_new hp _)
        · rw [decide_eq_false c]
          walk_at "rd"
          exact hF (by show (!decide (t ∈ W)) = true; rw [decide_eq_false c]; rfl) _ (same_new hp _)
      · intro H5 s5 hD2'
        rw [List.map_id] at hD2'
        obtain ⟨x2, ex2⟩ : ∃ xs, xs = x1.filter (fun v => match v with | .str y => !decide (y.cps.toList ∈ W) | _ => false) := ⟨_, rfl⟩
        rw [← ex2] at hD2'
        have p2 : ∀ v ∈ x2, NmV v := fun v hv => by
          rw [ex2] at hv
          obtain ⟨q1, q2⟩ := List.mem_filter.mp hv
          obtain ⟨t, rfl, ht⟩ := p1 v q1
          have q3 : (!decide (t ∈ W)) = true := q2
          exact ⟨t, rfl, ht (by simpa using q3)⟩
        have l2 : x2.length ≤ nr := by rw [ex2, ← l1]; exact List.length_filter_le _ _
        obtain ⟨R, rfl, nR⟩ := nm_txts p2
        have lT : (txts R).length = R.length := by unfold txts; rw [List.length_map]
        walk_at "rd"
        refine ⟨D2, rfl, ⟨_, SqL.of hD2'⟩, fun D3 hD3 => ?_⟩
        have lR : R.length < 1500 := by omega
        refine lcR (walk_list (K := K) (a := D2)) rfl yat_list hD3 (fun H' s => SqL.of (s _ _ hD2')) (by rw [lT]; exact Nat.lt_trans lR (by decide)) (fun _ => true) (RelP D3) relP_mono ?_ ?_
        · intro i v' Hc hv sm ⟨lc, hDc⟩ F N hF hN
          walk_at "rd"
          refine ⟨rfl, ?_⟩
          walk_at "rd"
          refine ⟨by show 2 ≤ sizeLine; decide, fun q hq => ?_⟩
          exact hF rfl _ _ (same_new hq _) ⟨q, rfl, (ne_of_none hDc hq).symm, upd_same⟩
        · intro H6 ys6 s6 hD6 pr
          rw [List.filter_eq_self.mpr (fun _ _ => rfl)] at pr
          obtain ⟨ps, rfl, pp⟩ := pairs_of (K := K) pr
          walk_at "rd"
          refine ⟨D3, ps, _, rfl, SqL.of hD6, pp, fun d hd => ?_⟩
          have eK : mergeK [] (R.map fun z => ((Sum.inr (mk z) : Key), V.bl true)) = dictOf R := rfl
          rw [eK]
          have s36 := (s4.trans s5).trans s6
          have s7 := s36.trans (same_new hd (.dK (dictOf R)))
          have hex : ∃ m, Free name (fun x => x ∈ R ∨ x ∈ W) m := by
            obtain ⟨m, _, hm⟩ := free_ex name R W (by have : W.length = 23 := by decide
                                                      omega)
            exact ⟨m, hm⟩
          obtain ⟨m, hm⟩ := hex
          have hm9 : m ≤ 400000 := by
            have := free_low (by omega) hm
            have := dictOf_len R
            omega
          have hmL : Free name (fun x => x ∈ R.reverse ∨ x ∈ W) m := hm.congr fun x => by rw [List.mem_reverse]
          have nm : Nm (wl name m) := wl_nm nnm hm9 (fun q => hm.1 (.inr q))
          walk_at "rd"
          refine ⟨_, _, rfl, name, d, R, m, rfl, rfl, upd_same, nnm.len, by omega, hm, fun H8 s8 => ?_⟩
          have nwW : wl name m ∉ W := nm.nw
          generalize hdue : wl name m = due at *
          have h8R := s8 _ _ (same_new hd (.dK (dictOf R)) _ _ (s6 _ _ hD2'))
          have b8 := (b3.same s7).same s8
          have bt8 := (bt3.same s7).same s8
          walk_at "rd"
          refine ⟨_, _, rfl, name, nr, rfl, rfl, by omega, nnm.len, ?_⟩
          rw [again]
          walk_at "rd"
          rw [decide_eq_true rfl]
          walk_at "rd"
          rw [decide_eq_false (fun e => nwW (by rw [mk_inj (V.str.inj e)]; exact hwW))]
          walk_at "rd"
          refine rd_revL ?_
          walk_at "rd"
          refine ⟨D2, _, rfl, SqL.of h8R, fun r hr' => ?_⟩
          have er : (txts R).reverse = txts R.reverse := by unfold txts; rw [List.map_reverse]
          rw [er]
          have s9 : Same H8 (upd H8 r (.lst (txts R.reverse))) := same_new hr' _
          walk_at "rd"
          refine ⟨_, _, _, rfl, g, rfl, .inl ⟨name, R.reverse, r, m, rfl, rfl, .inl upd_same, nnm, fun l hl => nR l (List.mem_reverse.mp hl), by rw [List.length_reverse]; omega, hmL, fun t1 H10 ht1 s10 h10 => ?_⟩⟩
          rw [hdue] at h10
          walk_at "rd"
          refine ⟨_, rfl, word, rfl, ?_⟩
          rw [decide_eq_true hwW]
          walk_at "rd"
          refine rd_callN0 ?_
          walk_at "rd"
          refine ⟨rfl, _, rfl, .inl ⟨word, rfl, Nat.le_trans w8 (by decide), fun H11 s11 => ?_⟩⟩
          have nw : isName word = false := by
            unfold isName
            rw [decide_eq_true hwW]
            simp
          rw [nw]
          walk_at "rd"
          refine ⟨by show 3 ≤ sizeLine; decide, fun p2 hp2 => ?_⟩
          walk_at "rd"
          refine ⟨by show 2 ≤ sizeLine; decide, fun p3 hp3 => ?_⟩
          walk_at "rd"
          refine ⟨by show 3 ≤ sizeLine; decide, fun p4 hp4 => ?_⟩
          have ld : due.length ≤ 1000 := Nat.le_trans nm.len (by decide)
          have h10b := s11 _ _ h10
          have relT : ∀ {n : Nat} {H : Hp} {S : Addr → Prop} {x : Addr}, S x → H x = some (.lst [V.str (Str.ofString "told"), V.str (mk due)]) → Rp H (n + 1) S (.ref x) (.lst [.str [116, 111, 108, 100], .str due]) := fun {n H S x} hs h => by
            rw [lit_told] at h
            refine ⟨x, _, rfl, hs, h, (by show 2 ≤ 1000; decide), .cons ?_ (.cons ?_ .nil)⟩
            · cases n <;> exact ⟨rfl, by decide⟩
            · cases n <;> exact ⟨rfl, ld⟩
          have relO : ∀ {H : Hp} {x y : Addr}, y ≠ x → H x = some (.lst [V.ref y, .bl true, .bl false]) → H y = some (.lst [V.str (Str.ofString "told"), V.str (mk due)]) → Rp H 3 Any (.ref x) (.lst [.lst [.str [116, 111, 108, 100], .str due], .bl true, .bl false]) := fun {H x y} nxy h h' =>
            ⟨x, _, rfl, trivial, h, (by show 3 ≤ 1000; decide), .cons (relT ⟨trivial, nxy⟩ h') (.cons rfl (.cons rfl .nil))⟩
          have n12 : t1 ≠ p2 := ne_of_none h10b hp2
          have h10c := same_new hp2 (.lst [V.ref t1, .bl true, .bl false]) _ _ h10b
          have h10d := same_new hp3 (.lst [V.str (Str.ofString "told"), V.str (mk due)]) _ _ h10c
          have h10e := same_new hp4 (.lst [V.ref p3, .bl true, .bl false]) _ _ h10d
          have hp2c := same_new hp4 (.lst [V.ref p3, .bl true, .bl false]) _ _ (same_new hp3 (.lst [V.str (Str.ofString "told"), V.str (mk due)]) _ _ (upd_same (H := H11) (a := p2) (o := .lst [V.ref t1, .bl true, .bl false])))
          have n34 : p3 ≠ p4 := ne_of_none upd_same hp4
          have hp3c := same_new hp4 (.lst [V.ref p3, .bl true, .bl false]) _ _ (upd_same (H := upd H11 p2 (.lst [V.ref t1, .bl true, .bl false])) (a := p3) (o := .lst [V.str (Str.ofString "told"), V.str (mk due)]))
          walk_at "rd"
          refine ⟨_, _, rfl, _, ?_, relO n12 hp2c h10e, relO n34 upd_same hp3c, fun H12 s12 => ?_⟩
          · intro d' hd'
            simp only [List.mem_cons, List.not_mem_nil, or_false] at hd'
            rcases hd' with rfl | rfl | rfl
            · intro d2 hd2
              simp only [List.mem_cons, List.not_mem_nil, or_false] at hd2
              rcases hd2 with rfl | rfl <;> trivial
            · trivial
            · trivial
          · have s812 : Same H8 H12 := (((((s9.trans s10).trans s11).trans (same_new hp2 _)).trans (same_new hp3 _)).trans (same_new hp4 _)).trans s12
            exact k H12 (b8.same s812) (bt8.same s812)
end
end K01
set_option Elab.async false
set_option linter.all false
set_option maxRecDepth 100000
set_option maxHeartbeats 4000000

namespace K01
open PySem L2 My
theorem lit_a : Str.ofString "a" = mk [97] := by decide +kernel
theorem dic_a : mergeK [] [((Sum.inr (Str.ofString "a") : Key), V.int 1)] = dicOf true := by
  rw [lit_a]; rfl
theorem rd_dnew {σ : L2.St} {H : Hp} {Q : VK} (h : ∀ p, H p = none → Q (.ref p) (upd H p (.dK []))) : tDNewK σ H Q := h
theorem rd_disp {trs : List (TE × TE)} {σ : L2.St} {H : Hp} {Q : VK} (h : ∀ p, H p = none → tPairs trs σ (upd H p (.dK [])) fun ps H2 => H2 p = some (.dK []) ∧ ∃ kvs : List (Key × V), ps = kvs.map (fun kv => (kV kv.1, kv.2)) ∧ kvs.length ≤ 15 ∧ Q (.ref p) (upd H2 p (.dK (mergeK [] kvs)))) : tDisp trs σ H Q := h
theorem Rp.alive {H : Hp} {n : Nat} {S : Addr → Prop} {c : Addr} {d : D} (h : Rp H n S (.ref c) d) : S c ∧ ∃ o, H c = some o := by
  cases d with
  | non => cases n <;> cases (show V.ref c = V.non from h)
  | bl b => cases n <;> cases (show V.ref c = V.bl b from h)
  | int i => cases n <;> cases (show V.ref c = V.int i from h)
  | str z => cases n <;> cases (show V.ref c = V.str (mk z) ∧ _ from h).1
  | dic m => cases n <;> (obtain ⟨a, e, s, q⟩ := h; cases e; exact ⟨s, _, q⟩)
  | lst l => cases n with
    | zero => exact h.elim
    | succ n => obtain ⟨a, xs, e, s, q, _⟩ := h; cases e; exact ⟨s, _, q⟩
  | tup l => cases n with
    | zero => exact h.elim
    | succ n => obtain ⟨a, xs, e, s, q, _⟩ := h; cases e; exact ⟨s, _, q⟩
/-- a value that may be copied, and has the mark g -/
def Menu (g : D → Bool) (t : Bool) (H : Hp) (S : Addr → Prop) (v : V) : Prop := ∃ d, Rp H 3 S v d ∧ Copies 3 d ∧ Lt9 d ∧ g d = t
theorem Menu.go {g : D → Bool} {t : Bool} {H H' : Hp} {S S' : Addr → Prop} {v : V} (hS : ∀ b, S b → S' b) (hH : ∀ b o, S b → H b = some o → H' b = some o) (h : Menu g t H S v) : Menu g t H' S' v := by
  obtain ⟨d, r, c, l, e⟩ := h
  exact ⟨d, Rp.go 3 S S' v d hS hH r, c, l, e⟩
section
variable {H : Hp} {S : Addr → Prop} {g : D → Bool} {t : Bool} {q : Addr}
theorem Menu.non (e : g .non = t) : Menu g t H S .non := ⟨.non, rfl, .inl trivial, trivial, e⟩
theorem Menu.int {i : Int} (e : g (.int i) = t) : Menu g t H S (.int i) := ⟨.int i, rfl, .inl trivial, trivial, e⟩
theorem Menu.bl {b : Bool} (e : g (.bl b) = t) : Menu g t H S (.bl b) := ⟨.bl b, rfl, .inl trivial, trivial, e⟩
theorem Menu.str {s : Str} (l : s.cps.toList.length ≤ 1000) (e : g (.str s.cps.toList) = t) : Menu g t H S (.str s) := ⟨.str s.cps.toList, ⟨rfl, l⟩, .inl trivial, trivial, e⟩
theorem Menu.dic {m : Bool} (s : S q) (h : H q = some (.dK (dicOf m))) (e : g (.dic m) = t) : Menu g t H S (.ref q) := ⟨.dic m, ⟨q, rfl, s, h⟩, .inr ⟨m, rfl, by decide⟩, trivial, e⟩
theorem Menu.lst {xs : List V} {l : List D} (s : S q) (h : H q = some (.lst xs)) (p : Paired (Rp H 2 fun b => S b ∧ b ≠ q) xs l) (nd : Nd 3 (.lst l)) (hl : l.length ≤ 900) (e : g (.lst l) = t) : Menu g t H S (.ref q) :=
  ⟨.lst l, ⟨q, xs, rfl, s, h, by rw [p.length]; omega, p⟩, .inl nd, hl, e⟩
theorem Menu.tup {xs : List V} {l : List D} (s : S q) (h : H q = some (.tup xs)) (p : Paired (Rp H 2 fun b => S b ∧ b ≠ q) xs l) (nd : Nd 3 (.tup l)) (hl : l.length ≤ 900) (e : g (.tup l) = t) : Menu g t H S (.ref q) :=
  ⟨.tup l, ⟨q, xs, rfl, s, h, by rw [p.length]; omega, p⟩, .inl nd, trivial, e⟩
end
section
variable {P : Program} {w : World} {K : PySem.W.Frag} {mg : Str → Option Value} {base : Heap}
theorem ok_law_copy (T : Txt K mg) : FnOk P w K mg base CX0 4 T.f_law_copy T.fd_law_copy ["value"] (sp_copy 4) := ok_copy T 4
def sp_refused : Sp := Sp3 fun x y f H Q _ => ∃ (b : Addr) (z : List Nat) (g : Bool), x = .ref b ∧ y = .str (mk z) ∧ f = .bl g ∧ Box H b ∧ Nm z ∧ ∀ H', Box H' b → But b H H' → Q (.bl true) H'
theorem ok_law_refused_right (T : Txt K mg) : FnOk P w K mg base CX0 6 T.f_law_refused_right T.fd_law_refused_right ["box", "name", "named"] sp_refused := by
  refine T.F_law_refused_right.ok sc_law_refused_right Sp3.len (fun cdv A outer s H vs Q E hr h => ?_)
  obtain ⟨_, _, _, rfl, b, z, g, rfl, rfl, rfl, hb, nz, k⟩ := h
  refine ⟨_, (pss_cons (ps_set (i := 3) sc_law_refused_right.nd rfl (.inl rfl) (pe_call (ok_law_copy T) (hr.mono (by decide)) rfl T.m_law_copy T.F_law_copy.kp T.b_law_copy .nil pass0 (pa_cons (pe_call (ok_law_pick T) (hr.mono (by decide)) rfl T.m_law_pick T.F_law_pick.kp T.b_law_pick .nil pass0 (pa_cons (pv 0) (pa_cons (pe_lst (pa_cons pe_str (pa_cons pe_str (pa_cons pe_str (pa_cons pe_str (pa_cons pe_str (pa_cons pe_str (pa_cons pe_non (pa_cons pe_int (pa_cons pe_bl (pa_cons (pe_lst (pa_cons pe_str pa_nil)) (pa_cons (pe_tup (pa_cons pe_str pa_nil)) (pa_cons pe_dnewK (pa_cons pe_str (pa_cons pe_str pa_nil))))))))))))))) pa_nil))) pa_nil)))
      (pss_cons (ps_set (i := 4) sc_law_refused_right.nd rfl (.inl rfl) (pe_call (ok_law_copy T) (hr.mono (by decide)) rfl T.m_law_copy T.F_law_copy.kp T.b_law_copy .nil pass0 (pa_cons (pe_call (ok_law_pick T) (hr.mono (by decide)) rfl T.m_law_pick T.F_law_pick.kp T.b_law_pick .nil pass0 (pa_cons (pv 0) (pa_cons (pe_lst (pa_cons pe_non (pa_cons pe_str (pa_cons pe_int (pa_cons pe_dnewK (pa_cons (pe_lst (pa_cons pe_str (pa_cons pe_str pa_nil))) (pa_cons (pe_lst (pa_cons pe_str pa_nil)) (pa_cons (pe_lst (pa_cons pe_str pa_nil)) (pa_cons (pe_lst (pa_cons pe_non pa_nil)) (pa_cons (pe_lst (pa_cons (pe_lst (pa_cons pe_str pa_nil)) pa_nil)) (pa_cons (pe_tup (pa_cons pe_str (pa_cons pe_int pa_nil))) (pa_cons (pe_lst (pa_cons pe_str pa_nil)) (pa_cons (pe_disp (pps_cons pe_str pe_int pps_nil) rfl rfl (fun z => by cases z) (by decide)) pa_nil))))))))))))) pa_nil))) pa_nil)))
      (pss_cons (ps_set (i := 5) sc_law_refused_right.nd rfl (.inl rfl) (pe_call (ok_law_asked T) (hr.mono (by decide)) rfl T.m_law_asked T.F_law_asked.kp T.b_law_asked .nil pass0 (pa_cons (pv 3) (pa_cons (pe_call (ok_law_pick T) (hr.mono (by decide)) rfl T.m_law_pick T.F_law_pick.kp T.b_law_pick .nil pass0 (pa_cons (pv 0) (pa_cons (pe_lst (pa_cons (pv 4) (pa_cons (pe_lst (pa_cons (pv 1) pa_nil)) pa_nil))) pa_nil))) (pa_cons (pv 2) pa_nil)))))
      (pss_cons (ps_if (PW.pt (pw_or (pt_cmpR op_ne (pe_ix (r := rIxL K) ix_list (pv 5) pe_int (fun _ _ => rfl)) pe_str (nomark _)) (pw_or (pt_not (pt_val (pe_call (ok_law_same T) (hr.mono (by decide)) rfl T.m_law_same T.F_law_same.kp T.b_law_same .nil pass0 (pa_cons (pe_ix (r := rIxL K) ix_list (pv 5) pe_int (fun _ _ => rfl)) (pa_cons pe_bl pa_nil))))) (pw_or1 (pt_not (pt_val (pe_call (ok_law_very T) (hr.mono (by decide)) rfl T.m_law_very T.F_law_very.kp T.b_law_very .nil pass0 (pa_cons (pe_ix (r := rIxL K) ix_list (pv 5) pe_int (fun _ _ => rfl)) (pa_cons (pv 3) pa_nil))))))))) (pss_one (ps_ret pe_bl)) pss_nil)
      (pss_cons (ps_set (i := 5) sc_law_refused_right.nd rfl (.inl rfl) (pe_call (ok_law_asked T) (hr.mono (by decide)) rfl T.m_law_asked T.F_law_asked.kp T.b_law_asked .nil pass0 (pa_cons (pv 1) (pa_cons (pv 4) (pa_cons (pe_not (pv 2)) pa_nil)))))
      (pss_one (ps_ret (pe_and (pe_cmpR op_eq (pe_ix (r := rIxL K) ix_list (pv 5) pe_int (fun _ _ => rfl)) pe_str (nomark _)) (pe_and (pe_call (ok_law_same T) (hr.mono (by decide)) rfl T.m_law_same T.F_law_same.kp T.b_law_same .nil pass0 (pa_cons (pe_ix (r := rIxL K) ix_list (pv 5) pe_int (fun _ _ => rfl)) (pa_cons pe_bl pa_nil))) (pe_one (pe_call (ok_law_very T) (hr.mono (by decide)) rfl T.m_law_very T.F_law_very.kp T.b_law_very .nil pass0 (pa_cons (pe_ix (r := rIxL K) ix_list (pv 5) pe_int (fun _ _ => rfl)) (pa_cons (pv 4) pa_nil))))))))))))), ?_⟩
  walk_at "rd0"
  refine ⟨by show 1 ≤ sizeLine; decide, fun q1 f1 => ?_⟩
  walk_at "rd"
  refine ⟨by show 1 ≤ sizeLine; decide, fun q2 f2 => ?_⟩
  walk_at "rd"
  refine rd_dnew fun q3 f3 => ?_
  walk_at "rd"
  refine ⟨by show 14 ≤ sizeLine; decide, fun p fp => ?_⟩
  walk_at "rd"
  have bA := hb.new (o := .lst [V.str (Str.ofString "a")]) f1
  have bB := bA.new (o := .tup [V.str (Str.ofString "a")]) f2
  have bC := bB.new (o := .dK []) f3
  have n1 : q1 ≠ b := hb.ne f1
  have n2 : q2 ≠ b := bA.ne f2
  have n3 : q3 ≠ b := bB.ne f3
  have np : p ≠ b := bC.ne fp
  have s0 : Same H _ := ((same_new f1 (.lst [V.str (Str.ofString "a")])).trans (same_new f2 (.tup [V.str (Str.ofString "a")]))).trans (same_new f3 (.dK []))
  have g1 : upd (upd (upd H q1 (.lst [V.str (Str.ofString "a")])) q2 (.tup [V.str (Str.ofString "a")])) q3 (.dK []) q1 = some (.lst [V.str (Str.ofString "a")]) := same_new f3 _ _ _ (same_new f2 _ _ _ upd_same)
  have g2 : upd (upd (upd H q1 (.lst [V.str (Str.ofString "a")])) q2 (.tup [V.str (Str.ofString "a")])) q3 (.dK []) q2 = some (.tup [V.str (Str.ofString "a")]) := same_new f3 _ _ _ upd_same
  have g3 : upd (upd (upd H q1 (.lst [V.str (Str.ofString "a")])) q2 (.tup [V.str (Str.ofString "a")])) q3 (.dK []) q3 = some (.dK []) := upd_same
  generalize upd (upd (upd H q1 (.lst [V.str (Str.ofString "a")])) q2 (.tup [V.str (Str.ofString "a")])) q3 (.dK []) = HC at *
  refine ⟨_, _, rfl, b, p, _, rfl, rfl, bC.new fp, SqL.of upd_same, np, (by show 0 < 14; decide), (by show 14 < 2 ^ 20; decide), fun v hv H1 b1 bt1 => ?_⟩
  have btC1 : But b HC H1 := (same_new fp _).but.trans bt1
  have mv : Menu D.nm false H1 Any v := by
    refine Menu.go (S := fun c => c ≠ b) (fun _ _ => trivial) btC1 ?_
    simp only [List.mem_cons, List.not_mem_nil, or_false] at hv
    rcases hv with rfl | rfl | rfl | rfl | rfl | rfl | rfl | rfl | rfl | rfl | rfl | rfl | rfl | rfl
    · exact Menu.str (by decide +kernel) (by decide +kernel)
    · exact Menu.str (by decide +kernel) (by decide +kernel)
    · exact Menu.str (by decide +kernel) (by decide +kernel)
    · exact Menu.str (by decide +kernel) (by decide +kernel)
    · exact Menu.str (by decide +kernel) (by decide +kernel)
    · exact Menu.str (by decide +kernel) (by decide +kernel)
    · exact Menu.non rfl
    · exact Menu.int rfl
    · exact Menu.bl rfl
    · exact Menu.lst (l := [.str (Str.ofString "a").cps.toList]) n1 g1 (.cons ⟨rfl, by decide +kernel⟩ .nil) (fun d hd => by rw [List.mem_singleton.mp hd]; trivial) (by show 1 ≤ 900; decide) rfl
    · exact Menu.tup (l := [.str (Str.ofString "a").cps.toList]) n2 g2 (.cons ⟨rfl, by decide +kernel⟩ .nil) (fun d hd => by rw [List.mem_singleton.mp hd]; trivial) (by show 1 ≤ 900; decide) rfl
    · exact Menu.dic (m := false) n3 g3 rfl
    · exact Menu.str (by decide +kernel) (by decide +kernel)
    · exact Menu.str (by decide +kernel) (by decide +kernel)
  obtain ⟨d, rd, cd, l9, ed⟩ := mv
  walk_at "rd"
  refine ⟨_, rfl, ⟨d, rd, cd⟩, fun wv H2 s2 hw => ?_⟩
  have rw2 : Rp H2 3 (fun c => H1 c = none) wv d := hw d rd
  have b2 := b1.same s2
  walk_at "rd"
  refine rd_dnew fun r1 e1 => ?_
  have nr1 : r1 ≠ b := b2.ne e1
  obtain ⟨HH1, eH1⟩ : ∃ X, X = upd H2 r1 (.dK []) := ⟨_, rfl⟩
  have sx1 : Same H2 HH1 := by rw [eH1]; exact same_new e1 _
  have bx1 : Box HH1 b := b2.same sx1
  have k1 : HH1 r1 = some (.dK []) := by rw [eH1]; exact upd_same
  rw [← eH1]
  walk_at "rd"
  refine ⟨by show 2 ≤ sizeLine; decide, fun r2 e2 => ?_⟩
  have nr2 : r2 ≠ b := bx1.ne e2
  obtain ⟨HH2, eH2⟩ : ∃ X, X = upd HH1 r2 (.lst [V.str (Str.ofString "a"), V.str (Str.ofString "A")]) := ⟨_, rfl⟩
  have sx2 : Same HH1 HH2 := by rw [eH2]; exact same_new e2 _
  have bx2 : Box HH2 b := bx1.same sx2
  have k1 := sx2 _ _ k1
  have k2 : HH2 r2 = some (.lst [V.str (Str.ofString "a"), V.str (Str.ofString "A")]) := by rw [eH2]; exact upd_same
  rw [← eH2]
  walk_at "rd"
  refine ⟨by show 1 ≤ sizeLine; decide, fun r3 e3 => ?_⟩
  have nr3 : r3 ≠ b := bx2.ne e3
  obtain ⟨HH3, eH3⟩ : ∃ X, X = upd HH2 r3 (.lst [V.str (Str.ofString "by")]) := ⟨_, rfl⟩
  have sx3 : Same HH2 HH3 := by rw [eH3]; exact same_new e3 _
  have bx3 : Box HH3 b := bx2.same sx3
  have k1 := sx3 _ _ k1
  have k2 := sx3 _ _ k2
  have k3 : HH3 r3 = some (.lst [V.str (Str.ofString "by")]) := by rw [eH3]; exact upd_same
  rw [← eH3]
  walk_at "rd"
  refine ⟨by show 1 ≤ sizeLine; decide, fun r4 e4 => ?_⟩
  have nr4 : r4 ≠ b := bx3.ne e4
  obtain ⟨HH4, eH4⟩ : ∃ X, X = upd HH3 r4 (.lst [V.str (Str.ofString "")]) := ⟨_, rfl⟩
  have sx4 : Same HH3 HH4 := by rw [eH4]; exact same_new e4 _
  have bx4 : Box HH4 b := bx3.same sx4
  have k1 := sx4 _ _ k1
  have k2 := sx4 _ _ k2
  have k3 := sx4 _ _ k3
  have k4 : HH4 r4 = some (.lst [V.str (Str.ofString "")]) := by rw [eH4]; exact upd_same
  rw [← eH4]
  walk_at "rd"
  refine ⟨by show 1 ≤ sizeLine; decide, fun r5 e5 => ?_⟩
  have nr5 : r5 ≠ b := bx4.ne e5
  obtain ⟨HH5, eH5⟩ : ∃ X, X = upd HH4 r5 (.lst [V.non]) := ⟨_, rfl⟩
  have sx5 : Same HH4 HH5 := by rw [eH5]; exact same_new e5 _
  have bx5 : Box HH5 b := bx4.same sx5
  have k1 := sx5 _ _ k1
  have k2 := sx5 _ _ k2
  have k3 := sx5 _ _ k3
  have k4 := sx5 _ _ k4
  have k5 : HH5 r5 = some (.lst [V.non]) := by rw [eH5]; exact upd_same
  rw [← eH5]
  walk_at "rd"
  refine ⟨by show 1 ≤ sizeLine; decide, fun r6 e6 => ?_⟩
  have nr6 : r6 ≠ b := bx5.ne e6
  obtain ⟨HH6, eH6⟩ : ∃ X, X = upd HH5 r6 (.lst [V.str (Str.ofString "a")]) := ⟨_, rfl⟩
  have sx6 : Same HH5 HH6 := by rw [eH6]; exact same_new e6 _
  have bx6 : Box HH6 b := bx5.same sx6
  have k1 := sx6 _ _ k1
  have k2 := sx6 _ _ k2
  have k3 := sx6 _ _ k3
  have k4 := sx6 _ _ k4
  have k5 := sx6 _ _ k5
  have k6 : HH6 r6 = some (.lst [V.str (Str.ofString "a")]) := by rw [eH6]; exact upd_same
  rw [← eH6]
  walk_at "rd"
  refine ⟨by show 1 ≤ sizeLine; decide, fun r7 e7 => ?_⟩
  have nr7 : r7 ≠ b := bx6.ne e7
  obtain ⟨HH7, eH7⟩ : ∃ X, X = upd HH6 r7 (.lst [V.ref r6]) := ⟨_, rfl⟩
  have sx7 : Same HH6 HH7 := by rw [eH7]; exact same_new e7 _
  have bx7 : Box HH7 b := bx6.same sx7
  have k1 := sx7 _ _ k1
  have k2 := sx7 _ _ k2
  have k3 := sx7 _ _ k3
  have k4 := sx7 _ _ k4
  have k5 := sx7 _ _ k5
  have k6 := sx7 _ _ k6
  have n67 : r6 ≠ r7 := ne_of_none (by assumption) e7
  have k7 : HH7 r7 = some (.lst [V.ref r6]) := by rw [eH7]; exact upd_same
  rw [← eH7]
  walk_at "rd"
  refine ⟨by show 2 ≤ sizeLine; decide, fun r8 e8 => ?_⟩
  have nr8 : r8 ≠ b := bx7.ne e8
  obtain ⟨HH8, eH8⟩ : ∃ X, X = upd HH7 r8 (.tup [V.str (Str.ofString "a"), V.int 1]) := ⟨_, rfl⟩
  have sx8 : Same HH7 HH8 := by rw [eH8]; exact same_new e8 _
  have bx8 : Box HH8 b := bx7.same sx8
  have k1 := sx8 _ _ k1
  have k2 := sx8 _ _ k2
  have k3 := sx8 _ _ k3
  have k4 := sx8 _ _ k4
  have k5 := sx8 _ _ k5
  have k6 := sx8 _ _ k6
  have k7 := sx8 _ _ k7
  have k8 : HH8 r8 = some (.tup [V.str (Str.ofString "a"), V.int 1]) := by rw [eH8]; exact upd_same
  rw [← eH8]
  walk_at "rd"
  refine ⟨by show 1 ≤ sizeLine; decide, fun r9 e9 => ?_⟩
  have nr9 : r9 ≠ b := bx8.ne e9
  obtain ⟨HH9, eH9⟩ : ∃ X, X = upd HH8 r9 (.lst [V.str (Str.ofString "abcdefghi")]) := ⟨_, rfl⟩
  have sx9 : Same HH8 HH9 := by rw [eH9]; exact same_new e9 _
  have bx9 : Box HH9 b := bx8.same sx9
  have k1 := sx9 _ _ k1
  have k2 := sx9 _ _ k2
  have k3 := sx9 _ _ k3
  have k4 := sx9 _ _ k4
  have k5 := sx9 _ _ k5
  have k6 := sx9 _ _ k6
  have k7 := sx9 _ _ k7
  have k8 := sx9 _ _ k8
  have k9 : HH9 r9 = some (.lst [V.str (Str.ofString "abcdefghi")]) := by rw [eH9]; exact upd_same
  rw [← eH9]
  walk_at "rd"
  refine rd_disp fun r10 e10 => ?_
  refine ⟨upd_same, [(Sum.inr (Str.ofString "a"), .int 1)], rfl, (by show 1 ≤ 15; decide), ?_⟩
  rw [dic_a, upd_upd]
  have nr10 : r10 ≠ b := bx9.ne e10
  obtain ⟨HH10, eH10⟩ : ∃ X, X = upd HH9 r10 (.dK (dicOf true)) := ⟨_, rfl⟩
  have sx10 : Same HH9 HH10 := by rw [eH10]; exact same_new e10 _
  have bx10 : Box HH10 b := bx9.same sx10
  have k1 := sx10 _ _ k1
  have k2 := sx10 _ _ k2
  have k3 := sx10 _ _ k3
  have k4 := sx10 _ _ k4
  have k5 := sx10 _ _ k5
  have k6 := sx10 _ _ k6
  have k7 := sx10 _ _ k7
  have k8 := sx10 _ _ k8
  have k9 := sx10 _ _ k9
  have k10 : HH10 r10 = some (.dK (dicOf true)) := by rw [eH10]; exact upd_same
  rw [← eH10]
  walk_at "rd"
  refine ⟨by show 12 ≤ sizeLine; decide, fun pp epp => ?_⟩
  walk_at "rd"
  have npp : pp ≠ b := bx10.ne epp
  have sA : Same H2 HH10 := ((((((((sx1.trans sx2).trans sx3).trans sx4).trans sx5).trans sx6).trans sx7).trans sx8).trans sx9).trans sx10
  clear sx1 sx2 sx3 sx4 sx5 sx6 sx7 sx8 sx9 sx10 eH1 eH2 eH3 eH4 eH5 eH6 eH7 eH8 eH9 eH10
  refine ⟨_, _, rfl, b, pp, _, rfl, rfl, bx10.new epp, SqL.of upd_same, npp, (by show 0 < 12; decide), (by show 12 < 2 ^ 20; decide), fun ov hov H3 b3 bt3 => ?_⟩
  have btC3 : But b HH10 H3 := (same_new epp _).but.trans bt3
  have mo : Menu D.noNames true H3 Any ov := by
    refine Menu.go (S := fun c => c ≠ b) (fun _ _ => trivial) btC3 ?_
    simp only [List.mem_cons, List.not_mem_nil, or_false] at hov
    have nd1 : ∀ {z : List Nat}, Nd 3 (.lst [.str z]) := fun {z} d hd => by rw [List.mem_singleton.mp hd]; trivial
    rcases hov with rfl | rfl | rfl | rfl | rfl | rfl | rfl | rfl | rfl | rfl | rfl | rfl
    · exact Menu.non rfl
    · exact Menu.str (by decide +kernel) rfl
    · exact Menu.int rfl
    · exact Menu.dic (m := false) nr1 k1 rfl
    · refine Menu.lst (l := [.str (Str.ofString "a").cps.toList, .str (Str.ofString "A").cps.toList]) nr2 k2 (.cons ⟨rfl, by decide +kernel⟩ (.cons ⟨rfl, by decide +kernel⟩ .nil)) (fun d hd => ?_) (by show 2 ≤ 900; decide) (by decide +kernel)
      simp only [List.mem_cons, List.not_mem_nil, or_false] at hd
      rcases hd with rfl | rfl <;> trivial
    · exact Menu.lst (l := [.str (Str.ofString "by").cps.toList]) nr3 k3 (.cons ⟨rfl, by decide +kernel⟩ .nil) nd1 (by show 1 ≤ 900; decide) (by decide +kernel)
    · exact Menu.lst (l := [.str (Str.ofString "").cps.toList]) nr4 k4 (.cons ⟨rfl, by decide +kernel⟩ .nil) nd1 (by show 1 ≤ 900; decide) (by decide +kernel)
    · exact Menu.lst (l := [.non]) nr5 k5 (.cons rfl .nil) (fun d hd => by rw [List.mem_singleton.mp hd]; trivial) (by show 1 ≤ 900; decide) rfl
    · refine Menu.lst (l := [.lst [.str (Str.ofString "a").cps.toList]]) nr7 k7 (.cons ⟨r6, _, rfl, ⟨nr6, n67⟩, k6, (by show 1 ≤ 1000; decide), .cons ⟨rfl, by decide +kernel⟩ .nil⟩ .nil) (fun d hd => ?_) (by show 1 ≤ 900; decide) rfl
      rw [List.mem_singleton.mp hd]
      intro d' hd'
      rw [List.mem_singleton.mp hd']; trivial
    · refine Menu.tup (l := [.str (Str.ofString "a").cps.toList, .int 1]) nr8 k8 (.cons ⟨rfl, by decide +kernel⟩ (.cons rfl .nil)) (fun d hd => ?_) (by show 2 ≤ 900; decide) (by decide +kernel)
      simp only [List.mem_cons, List.not_mem_nil, or_false] at hd
      rcases hd with rfl | rfl <;> trivial
    · exact Menu.lst (l := [.str (Str.ofString "abcdefghi").cps.toList]) nr9 k9 (.cons ⟨rfl, by decide +kernel⟩ .nil) nd1 (by show 1 ≤ 900; decide) (by decide +kernel)
    · exact Menu.dic (m := true) nr10 k10 rfl
  obtain ⟨e, re, ce, le, ee⟩ := mo
  walk_at "rd"
  refine ⟨_, rfl, ⟨e, re, ce⟩, fun wo H4 s4 ho => ?_⟩
  have ro4 : Rp H4 3 (fun c => H3 c = none) wo e := ho e re
  have b4 := b3.same s4
  have bt24 : But b H2 H4 := (sA.but.trans btC3).trans s4.but
  have freeB : ∀ {Hx : Hp} {c : Addr}, Box Hx b → Hx c = none → c ≠ b := fun {Hx c} bx e => bx.ne e
  have rw4 : Rp H4 3 (fun c => H1 c = none) wv d := Rp.go 3 _ _ wv d (fun _ q => q) (fun c o hc q => bt24 c o (freeB b1 hc) q) rw2
  walk_at "rd"
  refine ⟨by show 1 ≤ sizeLine; decide, fun u1 hu1 => ?_⟩
  walk_at "rd"
  refine ⟨by show 2 ≤ sizeLine; decide, fun u2 hu2 => ?_⟩
  have sU := (same_new hu1 (.lst [V.str (mk z)])).trans (same_new hu2 (.lst [wo, V.ref u1]))
  have bU := (b4.new (o := .lst [V.str (mk z)]) hu1).new (o := .lst [wo, V.ref u1]) hu2
  have nu2 : u2 ≠ b := (b4.new hu1).ne hu2
  walk_at "rd"
  refine ⟨_, _, rfl, b, u2, _, rfl, rfl, bU, SqL.of upd_same, nu2, (by show 0 < 2; decide), (by show 2 < 2 ^ 20; decide), fun v' _ H5 b5 bt5 => ?_⟩
  have bt45 : But b H4 H5 := sU.but.trans bt5
  have rw5 : Rp H5 3 (fun c => H1 c = none) wv d := Rp.go 3 _ _ wv d (fun _ q => q) (fun c o hc q => bt45 c o (freeB b1 hc) q) rw4
  walk_at "rd"
  refine ⟨_, _, _, rfl, g, rfl, .inr (.inl ⟨rw5.askB ed, fun t H6 ht s6 h6 => ?_⟩)⟩
  walk_at "rd"
  rw [decide_eq_true rfl]
  walk_at "rd"
  refine ⟨_, _, rfl, .bl true, trivial, rfl, rfl, fun H7 s7 => ?_⟩
  have h7 := s7 _ _ h6
  walk_at "rd"
  have s57 := s6.trans s7
  have rw7 : Rp H7 3 Any wv d := (rw5.same s57).any
  refine ⟨_, _, rfl, rfl, d, rw7, cd, l9, fun H8 bt8 => ?_⟩
  have b7 := b5.same s57
  have nwb : wv ≠ .ref b := fun ew => by
    rw [ew] at rw5
    exact freeB b1 rw5.alive.1 rfl
  have b8 : Box H8 b := by
    obtain ⟨i, f, j, n, e1, r1⟩ := b7
    exact ⟨i, f, j, n, bt8 _ _ nwb e1, r1⟩
  have bt48 : ∀ c o, c ≠ b → wv ≠ .ref c → H4 c = some o → H8 c = some o := fun c o nc nw q => bt8 c o nw (s57 _ _ (bt45 c o nc q))
  have ro8 : Rp H8 3 (fun c => H3 c = none) wo e := Rp.go 3 _ _ wo e (fun _ q => q) (fun c o hc q => by
    refine bt48 c o (freeB b3 hc) (fun ew => ?_) q
    rw [ew] at rw2
    obtain ⟨_, o2, h2⟩ := rw2.alive
    have := (sA.but.trans btC3) c o2 (freeB b3 hc) h2
    rw [hc] at this
    cases this) ro4
  walk_at "rd"
  refine ⟨_, _, _, rfl, !g, rfl, .inr (.inr ⟨ro8.askC ee ⟨.inl ⟨z, rfl, Nat.le_trans nz.len (by decide)⟩, isName_iff.mpr nz⟩, fun t2 H9 ht2 s9 h9 => ?_⟩)⟩
  walk_at "rd"
  rw [decide_eq_true rfl]
  walk_at "rd"
  refine ⟨_, _, rfl, .bl true, trivial, rfl, rfl, fun H10 s10 => ?_⟩
  have h10 := s10 _ _ h9
  walk_at "rd"
  have s810 := s9.trans s10
  have ro10 : Rp H10 3 Any wo e := (ro8.same s810).any
  refine ⟨_, _, rfl, rfl, e, ro10, ce, le, fun H11 bt11 => ?_⟩
  have nob : wo ≠ .ref b := fun ew => by
    rw [ew] at ro4
    exact freeB b3 ro4.alive.1 rfl
  refine k H11 ?_ fun c o nc hc => ?_
  · obtain ⟨i, f, j, n, e1, r1⟩ := b8.same s810
    exact ⟨i, f, j, n, bt11 _ _ nob e1, r1⟩
  · have c1 : H1 c = some o := btC1 c o nc (s0 _ _ hc)
    have c2 : H2 c = some o := s2 _ _ c1
    have c3 : H3 c = some o := btC3 c o nc (sA _ _ c2)
    have c4 : H4 c = some o := s4 _ _ c3
    have c8 : H8 c = some o := bt48 c o nc (fun ew => by
      rw [ew] at rw2
      have := rw2.alive.1
      rw [c1] at this
      cases this) c4
    exact bt11 c o (fun ew => by
      rw [ew] at ro4
      have := ro4.alive.1
      rw [c3] at this
      cases this) (s810 _ _ c8)
end
end K01
set_option Elab.async false
set_option linter.all false
set_option maxRecDepth 100000
set_option maxHeartbeats 4000000
set_option pp.maxSteps 600

namespace K01
open PySem L2 My
theorem _root_.My.But.seqN {K : PySem.W.Frag} {b a : Addr} {xs : List V} {H H' : Hp} (e : But b H H') (hb : H b = none) (h : SqL K H a xs) : SqL K H' a xs := by
  by_cases n : a = b
  · subst n
    rcases h with h | h
    · exfalso
      rcases h with h | ⟨o, h⟩ <;> (rw [hb] at h; cases h)
    · exact .inr h
  · exact e.seq n h
def rMulS : R2 := fun x y H Q => ∃ (z : List Nat) (n : Nat), x = .str (mk z) ∧ y = .int n ∧ 2 ≤ n ∧ n ≤ 1000 ∧ z.length ≤ 1000 ∧ z ≠ [] ∧ Q (.str (mk (List.replicate n z).flatten)) H ∨ x = .str (mk z) ∧ y = .int n ∧ n = 1 ∧ Q (.str (mk z)) H
theorem mulU {n : Nat} {Q : VK} {H : Hp} (hn : n ≤ 100) (q : Q (.str (mk (List.replicate (1 + n) [117]).flatten)) H) : rMulS (V.str (Str.ofString "u")) (V.int (1 + (n : Int))) H Q := by
  have e : (1 + (n : Int)) = ((1 + n : Nat) : Int) := by omega
  rw [lit_u, e]
  refine ⟨[117], 1 + n, ?_⟩
  by_cases h : n = 0
  · subst h
    exact .inr ⟨rfl, rfl, rfl, q⟩
  · exact .inl ⟨rfl, rfl, by omega, by omega, by decide, by decide, q⟩
theorem u_names : ∀ n ∈ [1, 2, 3, 4, 5, 6, 7, 8], isName (List.replicate n [117]).flatten = true := by decide
theorem part_names : ∀ n ∈ [1, 2, 3, 4], isName ([112, 97, 114, 116] ++ [115, 97, 98, 99].take n) = true := by decide
theorem lit_part : Str.ofString "part" = mk [112, 97, 114, 116] := by decide +kernel
theorem lit_sabc : Str.ofString "sabc" = mk [115, 97, 98, 99] := by decide +kernel
theorem lit_ann : Str.ofString "ann" = mk [97, 110, 110] := by decide +kernel
theorem nmV_of {s : Str} (h : isName s.cps.toList = true) : NmV (.str s) := ⟨s.cps.toList, rfl, isName_iff.mp h⟩
section
variable {P : Program} {w : World} {K : PySem.W.Frag} {mg : Str → Option Value} {base : Heap}
def spLaw (K : PySem.W.Frag) : Sp := Sp1 fun x H Q _ => ∃ (a : Addr) (ns : List Int), x = .ref a ∧ SqL K H a (ns.map V.int) ∧ ns.length < sizeLine ∧ ∀ H', Q (.bl true) H'
theorem ok_law (T : Txt K mg) : FnOk P w K mg base CX0 7 T.f_law T.fd_law ["script"] (spLaw K) := by
  refine T.F_law.ok sc_law Sp1.len (fun cdv A outer s H vs Q E hr h => ?_)
  obtain ⟨_, rfl, a, ns, rfl, hS, hl, k⟩ := h
  refine ⟨_, (pss_cons (ps_for PassesOwn.never rfl (pi_range1 rfl T.n_range (pa_cons (pe_callB (call_max2 rfl) rfl T.n_max (by decide +kernel) (pa_cons pe_int (pa_cons (pe_callB (call_min2 rfl) rfl T.n_min (by decide +kernel) (pa_cons pe_int (pa_cons (pe_callB call_len_seq rfl T.n_len (by decide +kernel) (pa_cons (pv 0) pa_nil)) pa_nil))) pa_nil))) pa_nil)) (pg_name (i := 1) sc_law.nd rfl (.inl rfl)) (pss_cons (ps_set (i := 2) sc_law.nd rfl (.inl rfl) (pe_call (ok_law_box T) (hr.mono (by decide)) rfl T.m_law_box T.F_law_box.kp T.b_law_box .nil pass0 (pa_cons (pe_call (ok_law_cell T) (hr.mono (by decide)) rfl T.m_law_cell T.F_law_cell.kp T.b_law_cell .nil pass0 (pa_cons (pv 0) (pa_cons (pv 1) pa_nil))) pa_nil)))
      (pss_cons (ps_set (i := 3) sc_law.nd rfl (.inl rfl) (pe_cmpR op_eq (pe_call (ok_law_take T) (hr.mono (by decide)) rfl T.m_law_take T.F_law_take.kp T.b_law_take .nil pass0 (pa_cons (pv 2) (pa_cons pe_int pa_nil))) pe_int (nomark _)))
      (pss_cons (ps_for PassesOwn.never rfl (pi_list (pe_lst (pa_cons (pe_call (ok_law_take T) (hr.mono (by decide)) rfl T.m_law_take T.F_law_take.kp T.b_law_take .nil pass0 (pa_cons (pv 2) (pa_cons pe_int pa_nil))) (pa_cons (pe_op op_add pe_int (pe_call (ok_law_take T) (hr.mono (by decide)) rfl T.m_law_take T.F_law_take.kp T.b_law_take .nil pass0 (pa_cons (pv 2) (pa_cons pe_int pa_nil)))) (pa_cons (pe_call (ok_law_pick T) (hr.mono (by decide)) rfl T.m_law_pick T.F_law_pick.kp T.b_law_pick .nil pass0 (pa_cons (pv 2) (pa_cons (pe_lst (pa_cons (pe_op op_add pe_int (pe_call (ok_law_take T) (hr.mono (by decide)) rfl T.m_law_take T.F_law_take.kp T.b_law_take .nil pass0 (pa_cons (pv 2) (pa_cons pe_int pa_nil)))) (pa_cons (pe_op op_add pe_int (pe_call (ok_law_take T) (hr.mono (by decide)) rfl T.m_law_take T.F_law_take.kp T.b_law_take .nil pass0 (pa_cons (pv 2) (pa_cons pe_int pa_nil)))) (pa_cons (pe_op op_add pe_int (pe_call (ok_law_take T) (hr.mono (by decide)) rfl T.m_law_take T.F_law_take.kp T.b_law_take .nil pass0 (pa_cons (pv 2) (pa_cons pe_int pa_nil)))) (pa_cons pe_int pa_nil))))) pa_nil))) pa_nil))))) (pg_name (i := 4) sc_law.nd rfl (.inl rfl)) (pss_cons (ps_set (i := 5) sc_law.nd rfl (.inl rfl) (pe_call (ok_law_pick T) (hr.mono (by decide)) rfl T.m_law_pick T.F_law_pick.kp T.b_law_pick .nil pass0 (pa_cons (pv 2) (pa_cons (pe_lst (pa_cons pe_str (pa_cons pe_str (pa_cons pe_str (pa_cons pe_str (pa_cons pe_str (pa_cons pe_str (pa_cons pe_str (pa_cons pe_str (pa_cons pe_str (pa_cons pe_str (pa_cons (pe_op (show OpR _ _ rMulS from op_mulS) pe_str (pe_op op_add pe_int (pe_call (ok_law_take T) (hr.mono (by decide)) rfl T.m_law_take T.F_law_take.kp T.b_law_take .nil pass0 (pa_cons (pv 2) (pa_cons pe_int pa_nil))))) (pa_cons (pe_op op_add_str pe_str (pe_slice sl_str pe_str po_none (po_some (pe_op op_add pe_int (pe_call (ok_law_take T) (hr.mono (by decide)) rfl T.m_law_take T.F_law_take.kp T.b_law_take .nil pass0 (pa_cons (pv 2) (pa_cons pe_int pa_nil))))))) pa_nil))))))))))))) pa_nil))))
      (pss_cons (ps_if (pt_not (pt_val (pe_call (ok_law_row_right T) (hr.mono (by decide)) rfl T.m_law_row_right T.F_law_row_right.kp T.b_law_row_right .nil pass0 (pa_cons (pv 2) (pa_cons (pv 5) (pa_cons (pv 4) (pa_cons (pv 3) pa_nil))))))) (pss_one (ps_ret pe_bl)) pss_nil)
      (pss_one (ps_set (i := 3) sc_law.nd rfl (.inl rfl) (pe_not (pv 3)))))))
      (pss_one (ps_if (PW.pt (pw_or (pt_not (pt_val (pe_call (ok_law_words_right T) (hr.mono (by decide)) rfl T.m_law_words_right T.F_law_words_right.kp T.b_law_words_right .nil pass0 (pa_cons (pv 2) (pa_cons (pv 3) pa_nil))))) (pw_or1 (pt_not (pt_val (pe_call (ok_law_refused_right T) (hr.mono (by decide)) rfl T.m_law_refused_right T.F_law_refused_right.kp T.b_law_refused_right .nil pass0 (pa_cons (pv 2) (pa_cons pe_str (pa_cons (pe_not (pv 3)) pa_nil))))))))) (pss_one (ps_ret pe_bl)) pss_nil))))))
      (pss_one (ps_ret pe_bl))), ?_⟩
  walk_at "rd0"
  obtain ⟨nn, hnn, hn3⟩ : ∃ nn : Nat, (if (if ((ns.map V.int).length : Int) < 3 then ((ns.map V.int).length : Int) else 3) > 2 then (if ((ns.map V.int).length : Int) < 3 then ((ns.map V.int).length : Int) else 3) else 2) = (nn : Int) ∧ nn ≤ 3 := by
    refine ⟨(if (if ((ns.map V.int).length : Int) < 3 then ((ns.map V.int).length : Int) else 3) > 2 then (if ((ns.map V.int).length : Int) < 3 then ((ns.map V.int).length : Int) else 3) else 2).toNat, ?_, ?_⟩
    · split <;> split <;> omega
    · split <;> split <;> omega
  rw [hnn]
  refine ⟨by omega, by omega, forR (n := nn) rfl (fun i σ H' => ∃ v1 v2 v3 v4 v5 : Option V, σ = [some (.ref a), v1, v2, v3, v4, v5] ∧ SqL K H' a (ns.map V.int)) ?_ ?_ ?_⟩
  · exact ⟨none, none, none, none, none, rfl, hS⟩
  · rintro i σ H0 hi ⟨v1, v2, v3, v4, v5, rfl, hS0⟩
    walk_at "rd"
    refine ⟨_, _, rfl, a, ns, i, rfl, rfl, hS0, by omega, by omega, fun gr H1 s1 => ?_⟩
    have hS1 := s1.seq hS0
    walk_at "rd"
    refine ⟨_, rfl, gr, rfl, fun b H2 fb s2 b2 => ?_⟩
    have hS2 := s2.seq hS1
    walk_at "rd"
    refine ⟨_, _, rfl, b, 2, rfl, rfl, b2, by decide, by decide, fun q H3 _ _ b3 bt3 => ?_⟩
    walk_at "rd"
    generalize decide (V.int q = V.int 0) = nm
    refine ⟨_, _, rfl, b, 5, rfl, rfl, b3, by decide, by decide, fun m1 H4 p1 q1 b4 bt4 => ?_⟩
    walk_at "rd"
    refine ⟨_, _, rfl, b, 12, rfl, rfl, b4, by decide, by decide, fun m2 H5 p2 q2 b5 bt5 => ?_⟩
    walk_at "rd"
    refine ⟨_, _, rfl, b, 300, rfl, rfl, b5, by decide, by decide, fun m3 H6 p3 q3 b6 bt6 => ?_⟩
    walk_at "rd"
    refine ⟨_, _, rfl, b, 300, rfl, rfl, b6, by decide, by decide, fun m4 H7 p4 q4 b7 bt7 => ?_⟩
    walk_at "rd"
    refine ⟨_, _, rfl, b, 60, rfl, rfl, b7, by decide, by decide, fun m5 H8 p5 q5 b8 bt8 => ?_⟩
    walk_at "rd"
    refine ⟨by show 4 ≤ sizeLine; decide, fun l1 hl1 => ?_⟩
    walk_at "rd"
    refine ⟨_, _, rfl, b, l1, _, rfl, rfl, b8.new hl1, SqL.of upd_same, b8.ne hl1, (by show 0 < 4; decide), (by show 4 < 2 ^ 20; decide), fun v hv H9 b9 bt9 => ?_⟩
    have hv' : ∃ m : Nat, v = .int m ∧ m ≤ 800 := by
      simp only [List.mem_cons, List.not_mem_nil, or_false] at hv
      rcases hv with rfl | rfl | rfl | rfl
      · exact ⟨(60 + m3).toNat, by congr 1; omega, by omega⟩
      · exact ⟨(60 + m4).toNat, by congr 1; omega, by omega⟩
      · exact ⟨(700 + m5).toNat, by congr 1; omega, by omega⟩
      · exact ⟨30, rfl, by omega⟩
    obtain ⟨m6, rfl, hm6⟩ := hv'
    obtain ⟨m1, rfl⟩ : ∃ m : Nat, m1 = m := ⟨m1.toNat, by omega⟩
    obtain ⟨m2, rfl⟩ : ∃ m : Nat, m2 = m := ⟨m2.toNat, by omega⟩
    have bt29 : But b H2 H9 := ((((((bt3.trans bt4).trans bt5).trans bt6).trans bt7).trans bt8).new hl1).trans bt9
    walk_at "rd"
    refine ⟨by show 3 ≤ sizeLine; decide, fun pl hpl => ?_⟩
    have hm2 : (20 + (m2 : Int)) = ((20 + m2 : Nat) : Int) := by omega
    rw [hm2]
    have npl : pl ≠ b := b9.ne hpl
    have b10 := b9.new (o := .lst [V.int (m1 : Int), V.int ((20 + m2 : Nat) : Int), V.int (m6 : Int)]) hpl
    have bt10 := bt29.new (o := .lst [V.int (m1 : Int), V.int ((20 + m2 : Nat) : Int), V.int (m6 : Int)]) hpl
    walk_at "rd"
    refine ⟨pl, rfl, ⟨_, SqL.of upd_same⟩, ?_⟩
    have hP10 : upd H9 pl (.lst [V.int (m1 : Int), V.int ((20 + m2 : Nat) : Int), V.int (m6 : Int)]) pl = some (.lst [V.int (m1 : Int), V.int ((20 + m2 : Nat) : Int), V.int (m6 : Int)]) := upd_same
    generalize upd H9 pl (.lst [V.int (m1 : Int), V.int ((20 + m2 : Nat) : Int), V.int (m6 : Int)]) = H10 at *
    have hpl10 : H10 pl = some (.lst [V.int (m1 : Int), V.int ((20 + m2 : Nat) : Int), V.int (m6 : Int)]) := hP10
    refine forL (xs := [V.int (m1 : Int), V.int ((20 + m2 : Nat) : Int), V.int (m6 : Int)]) (fun _ σ H' => ∃ (f : Bool) (v4 v5 : Option V), σ = [some (.ref a), some (.int i), some (.ref b), some (.bl f), v4, v5] ∧ Box H' b ∧ But b H10 H') ?_ ?_ ?_ ?_
    · exact ⟨nm, _, _, rfl, b10, But.refl H10⟩
    · rintro j σ H' _ ⟨f, v4, v5, rfl, _, bt⟩
      exact SqL.of (bt _ _ npl hpl10)
    · rintro j x σ H11 hx ⟨f, v4, v5, rfl, b11, bt11⟩
      have hx' : ∃ m : Nat, x = .int m ∧ m ≤ 800 := by
        have := List.mem_of_getElem? hx
        simp only [List.mem_cons, List.not_mem_nil, or_false] at this
        rcases this with rfl | rfl | rfl
        · exact ⟨m1, rfl, by omega⟩
        · exact ⟨20 + m2, rfl, by omega⟩
        · exact ⟨m6, rfl, hm6⟩
      obtain ⟨m, rfl, hm⟩ := hx'
      walk_at "rd"
      refine ⟨_, _, rfl, b, 8, rfl, rfl, b11, by decide, by decide, fun n1 H12 c0 c1 b12 bt12 => ?_⟩
      obtain ⟨n1, rfl⟩ : ∃ m : Nat, n1 = m := ⟨n1.toNat, by omega⟩
      walk_at "rd"
      refine mulU (n := n1) (by omega) ?_
      walk_at "rd"
      refine ⟨_, _, rfl, b, 4, rfl, rfl, b12, by decide, by decide, fun n2 H13 d0 d1 b13 bt13 => ?_⟩
      obtain ⟨n2, rfl⟩ : ∃ m : Nat, n2 = m := ⟨n2.toNat, by omega⟩
      walk_at "rd"
      refine rd_slS (by decide +kernel) ?_
      walk_at "rd"
      have e2 : (1 + (n2 : Int)) = ((1 + n2 : Nat) : Int) := by omega
      rw [e2, lit_sabc, mk_take, lit_part]
      walk_at "rd"
      refine ⟨by rw [mk_len, mk_len, List.length_take]; exact Nat.le_trans (Nat.add_le_add_left (Nat.min_le_right _ _) _) (by decide), ?_⟩
      rw [mk_app]
      walk_at "rd"
      refine ⟨by show 12 ≤ sizeLine; decide, fun l2 hl2 => ?_⟩
      walk_at "rd"
      refine ⟨_, _, rfl, b, l2, _, rfl, rfl, b13.new hl2, SqL.of upd_same, b13.ne hl2, (by show 0 < 12; decide), (by show 12 < 2 ^ 20; decide), fun v hv H14 b14 bt14 => ?_⟩
      have nv : NmV v := by
        simp only [List.mem_cons, List.not_mem_nil, or_false] at hv
        rcases hv with rfl | rfl | rfl | rfl | rfl | rfl | rfl | rfl | rfl | rfl | rfl | rfl
        · exact nmV_of (by decide +kernel)
        · exact nmV_of (by decide +kernel)
        · exact nmV_of (by decide +kernel)
        · exact nmV_of (by decide +kernel)
        · exact nmV_of (by decide +kernel)
        · exact nmV_of (by decide +kernel)
        · exact nmV_of (by decide +kernel)
        · exact nmV_of (by decide +kernel)
        · exact nmV_of (by decide +kernel)
        · exact nmV_of (by decide +kernel)
        · refine ⟨_, rfl, isName_iff.mp (u_names _ ?_)⟩
          simp only [List.mem_cons, List.not_mem_nil, or_false]
          omega
        · refine ⟨_, rfl, isName_iff.mp (part_names _ ?_)⟩
          simp only [List.mem_cons, List.not_mem_nil, or_false]
          omega
      obtain ⟨name, rfl, nname⟩ := nv
      walk_at "rd"
      refine ⟨_, _, _, _, rfl, b, name, m, f, rfl, rfl, rfl, rfl, b14, nname, hm, fun H15 b15 bt15 => ?_⟩
      walk_at "rd"
      refine ⟨!f, _, _, rfl, b15, ?_⟩
      exact (((bt11.trans bt12).trans bt13).new hl2).trans (bt14.trans bt15)
    · rintro σ H11 ⟨f, v4, v5, rfl, b11, bt11⟩
      walk_at "rd"
      refine ⟨_, _, rfl, b, f, rfl, rfl, b11, fun H12 b12 bt12 => ?_⟩
      walk_at "rd"
      rw [lit_ann]
      refine ⟨_, _, _, rfl, b, [97, 110, 110], !f, rfl, rfl, rfl, b12, isName_iff.mp (by decide), fun H13 b13 bt13 => ?_⟩
      walk_at "rd"
      refine ⟨_, _, _, _, _, rfl, ?_⟩
      exact (s2.but.trans (((bt10.trans bt11).trans bt12).trans bt13)).seqN fb hS1
  · rintro σ H0 ⟨v1, v2, v3, v4, v5, rfl, hS0⟩
    walk_at "rd"
    exact k H0
end
end K01
set_option Elab.async false
set_option linter.all false
set_option maxRecDepth 100000
set_option maxHeartbeats 8000000
set_option pp.maxSteps 600

namespace K01
open PySem L2 My PyProof.Rows
theorem kit_cls {K : PySem.W.Frag} {C : Addr} {t : Value} (hdct : PySem.W.hasDictIn K C = true) (ht : PySem.W.typeIn K (.ref C) = some (.type "type")) (h : PySem.W.subIn K t (.ref C) = some true) : PySem.W.kitOne K t (.ref C) = some true := by
  obtain ⟨cd, hc, _⟩ := PySem.W.any_some hdct
  have e2 : ((PySem.W.clsIn K C).isSome && PySem.W.typeIn K (.ref C) == some (.type "type")) = true := by rw [hc, ht] <;> rfl
  unfold PySem.W.kitOne
  split
  · rfl
  · show (if ((PySem.W.clsIn K C).isSome && PySem.W.typeIn K (.ref C) == some (.type "type")) = true then PySem.W.subIn K t (.ref C) else none) = some true
    rw [if_pos e2]
    exact h
theorem swap_rel {vs : List V} {us : List Value} {zs : List V} {ws : List Value} : Vals vs us → Vals zs ws → Vals (gSwap vs zs) (gSwap us ws)
  | _, .nil => .nil
  | _, .cons _ .nil => .nil
  | _, .cons r (.cons r' .nil) => .cons r' (.cons r .nil)
  | _, .cons _ (.cons _ (.cons _ _)) => .nil
theorem all_mk {P : Program} {w : World} {K : PySem.W.Frag} {h : Heap} {mg : Str → Option Value} {fa : Addr} (X : K.In h) (G : h.Ns mainGlobals mg) (hfa : mg "law" = some (.ref fa))
    {f_law_cell : Addr} {oc_law_cell kV_law_cell dc_law_cell pm_law_cell cd_law_cell ct_law_cell : Value} {od_law_cell an_law_cell : Option Addr} {sl_law_cell : Array (Option Value)}
    {f_law_box : Addr} {oc_law_box kV_law_box dc_law_box pm_law_box cd_law_box ct_law_box : Value} {od_law_box an_law_box : Option Addr} {sl_law_box : Array (Option Value)}
    {f_law_take : Addr} {oc_law_take kV_law_take dc_law_take pm_law_take cd_law_take ct_law_take : Value} {od_law_take an_law_take : Option Addr} {sl_law_take : Array (Option Value)}
    {f_law_pick : Addr} {oc_law_pick kV_law_pick dc_law_pick pm_law_pick cd_law_pick ct_law_pick : Value} {od_law_pick an_law_pick : Option Addr} {sl_law_pick : Array (Option Value)}
    {f_law_mixed : Addr} {oc_law_mixed kV_law_mixed dc_law_mixed pm_law_mixed cd_law_mixed ct_law_mixed : Value} {od_law_mixed an_law_mixed : Option Addr} {sl_law_mixed : Array (Option Value)}
    {f_law_behind : Addr} {oc_law_behind kV_law_behind dc_law_behind pm_law_behind cd_law_behind ct_law_behind : Value} {od_law_behind an_law_behind : Option Addr} {sl_law_behind : Array (Option Value)}
    {f_law_longer : Addr} {oc_law_longer kV_law_longer dc_law_longer pm_law_longer cd_law_longer ct_law_longer : Value} {od_law_longer an_law_longer : Option Addr} {sl_law_longer : Array (Option Value)}
    {f_law_words : Addr} {oc_law_words kV_law_words dc_law_words pm_law_words cd_law_words ct_law_words : Value} {od_law_words an_law_words : Option Addr} {sl_law_words : Array (Option Value)}
    {f_letters_at : Addr} {oc_letters_at kV_letters_at dc_letters_at pm_letters_at cd_letters_at ct_letters_at : Value} {od_letters_at an_letters_at : Option Addr} {sl_letters_at : Array (Option Value)}
    {f_with_letters : Addr} {oc_with_letters kV_with_letters dc_with_letters pm_with_letters cd_with_letters ct_with_letters : Value} {od_with_letters an_with_letters : Option Addr} {sl_with_letters : Array (Option Value)}
    {f_is_list : Addr} {oc_is_list kV_is_list dc_is_list pm_is_list cd_is_list ct_is_list : Value} {od_is_list an_is_list : Option Addr} {sl_is_list : Array (Option Value)}
    {f_is_word : Addr} {oc_is_word kV_is_word dc_is_word pm_is_word cd_is_word ct_is_word : Value} {od_is_word an_is_word : Option Addr} {sl_is_word : Array (Option Value)}
    {f_is_name : Addr} {oc_is_name kV_is_name dc_is_name pm_is_name cd_is_name ct_is_name : Value} {od_is_name an_is_name : Option Addr} {sl_is_name : Array (Option Value)}
    {f_free_from : Addr} {oc_free_from kV_free_from dc_free_from pm_free_from cd_free_from ct_free_from : Value} {od_free_from an_free_from : Option Addr} {sl_free_from : Array (Option Value)}
    {f_law_free : Addr} {oc_law_free kV_law_free dc_law_free pm_law_free cd_law_free ct_law_free : Value} {od_law_free an_law_free : Option Addr} {sl_law_free : Array (Option Value)}
    {f_law_is_name : Addr} {oc_law_is_name kV_law_is_name dc_law_is_name pm_law_is_name cd_law_is_name ct_law_is_name : Value} {od_law_is_name an_law_is_name : Option Addr} {sl_law_is_name : Array (Option Value)}
    {f_law_number : Addr} {oc_law_number kV_law_number dc_law_number pm_law_number cd_law_number ct_law_number : Value} {od_law_number an_law_number : Option Addr} {sl_law_number : Array (Option Value)}
    {f_free_name : Addr} {oc_free_name kV_free_name dc_free_name pm_free_name cd_free_name ct_free_name : Value} {od_free_name an_free_name : Option Addr} {sl_free_name : Array (Option Value)}
    {f_law_asked : Addr} {oc_law_asked kV_law_asked dc_law_asked pm_law_asked cd_law_asked ct_law_asked : Value} {od_law_asked an_law_asked : Option Addr} {sl_law_asked : Array (Option Value)}
    {f_law_same : Addr} {oc_law_same kV_law_same dc_law_same pm_law_same cd_law_same ct_law_same : Value} {od_law_same an_law_same : Option Addr} {sl_law_same : Array (Option Value)}
    {f_law_copy : Addr} {oc_law_copy kV_law_copy dc_law_copy pm_law_copy cd_law_copy ct_law_copy : Value} {od_law_copy an_law_copy : Option Addr} {sl_law_copy : Array (Option Value)}
    {f_law_very : Addr} {oc_law_very kV_law_very dc_law_very pm_law_very cd_law_very ct_law_very : Value} {od_law_very an_law_very : Option Addr} {sl_law_very : Array (Option Value)}
    {f_law_names : Addr} {oc_law_names kV_law_names dc_law_names pm_law_names cd_law_names ct_law_names : Value} {od_law_names an_law_names : Option Addr} {sl_law_names : Array (Option Value)}
    {f_law_row_right : Addr} {oc_law_row_right kV_law_row_right dc_law_row_right pm_law_row_right cd_law_row_right ct_law_row_right : Value} {od_law_row_right an_law_row_right : Option Addr} {sl_law_row_right : Array (Option Value)}
    {f_law_words_right : Addr} {oc_law_words_right kV_law_words_right dc_law_words_right pm_law_words_right cd_law_words_right ct_law_words_right : Value} {od_law_words_right an_law_words_right : Option Addr} {sl_law_words_right : Array (Option Value)}
    {f_law_refused_right : Addr} {oc_law_refused_right kV_law_refused_right dc_law_refused_right pm_law_refused_right cd_law_refused_right ct_law_refused_right : Value} {od_law_refused_right an_law_refused_right : Option Addr} {sl_law_refused_right : Array (Option Value)}
    {f_law : Addr} {oc_law kV_law dc_law pm_law cd_law ct_law : Value} {od_law an_law : Option Addr} {sl_law : Array (Option Value)}
    {C_InvalidName N_InvalidName : Addr} {nm_InvalidName q_InvalidName : Str} {bs_InvalidName bm_InvalidName su_InvalidName : List Value} {sn_InvalidName : List Str} {ab_InvalidName : Bool} {co_InvalidName : Option Bool} {dd_InvalidName : Option Addr} {x0_InvalidName x1_InvalidName x2_InvalidName x3_InvalidName x5_InvalidName : Option Value}
    {f_iInvalidName : Addr} {oc_iInvalidName kV_iInvalidName dc_iInvalidName pm_iInvalidName cd_iInvalidName ct_iInvalidName : Value} {od_iInvalidName an_iInvalidName : Option Addr} {sl_iInvalidName : Array (Option Value)}
    {C_InvalidNames N_InvalidNames : Addr} {nm_InvalidNames q_InvalidNames : Str} {bs_InvalidNames bm_InvalidNames su_InvalidNames : List Value} {sn_InvalidNames : List Str} {ab_InvalidNames : Bool} {co_InvalidNames : Option Bool} {dd_InvalidNames : Option Addr} {x0_InvalidNames x1_InvalidNames x2_InvalidNames x3_InvalidNames x5_InvalidNames : Option Value}
    {f_iInvalidNames : Addr} {oc_iInvalidNames kV_iInvalidNames dc_iInvalidNames pm_iInvalidNames cd_iInvalidNames ct_iInvalidNames : Value} {od_iInvalidNames an_iInvalidNames : Option Addr} {sl_iInvalidNames : Array (Option Value)}
    {tL tM : Tok} {aW CE : Addr} {dW : Option Addr} {iW : Array Value} {zW : Nat} {slW : Array (Option Value)}
    (l_law_cell : K.lookup f_law_cell = some ⟨oc_law_cell, od_law_cell, .func (PySem.W.fnOf "_law_cell" "_law_cell" (defArgs s_law_cell) (defBody s_law_cell) (defScope s_law_cell) .none kV_law_cell dc_law_cell pm_law_cell an_law_cell cd_law_cell ct_law_cell), sl_law_cell⟩)
    (c_law_cell : PySem.W.codeIn K cd_law_cell "_law_cell" = true)
    (k_law_cell : PySem.W.keepIn K (.ref f_law_cell) = true)
    (a_law_cell : PySem.W.nsIn K mainGlobals "_law_cell" = some (some (.ref f_law_cell)))
    (l_law_box : K.lookup f_law_box = some ⟨oc_law_box, od_law_box, .func (PySem.W.fnOf "_law_box" "_law_box" (defArgs s_law_box) (defBody s_law_box) (defScope s_law_box) .none kV_law_box dc_law_box pm_law_box an_law_box cd_law_box ct_law_box), sl_law_box⟩)
    (c_law_box : PySem.W.codeIn K cd_law_box "_law_box" = true)
    (k_law_box : PySem.W.keepIn K (.ref f_law_box) = true)
    (a_law_box : PySem.W.nsIn K mainGlobals "_law_box" = some (some (.ref f_law_box)))
    (l_law_take : K.lookup f_law_take = some ⟨oc_law_take, od_law_take, .func (PySem.W.fnOf "_law_take" "_law_take" (defArgs s_law_take) (defBody s_law_take) (defScope s_law_take) .none kV_law_take dc_law_take pm_law_take an_law_take cd_law_take ct_law_take), sl_law_take⟩)
    (c_law_take : PySem.W.codeIn K cd_law_take "_law_take" = true)
    (k_law_take : PySem.W.keepIn K (.ref f_law_take) = true)
    (a_law_take : PySem.W.nsIn K mainGlobals "_law_take" = some (some (.ref f_law_take)))
    (l_law_pick : K.lookup f_law_pick = some ⟨oc_law_pick, od_law_pick, .func (PySem.W.fnOf "_law_pick" "_law_pick" (defArgs s_law_pick) (defBody s_law_pick) (defScope s_law_pick) .none kV_law_pick dc_law_pick pm_law_pick an_law_pick cd_law_pick ct_law_pick), sl_law_pick⟩)
    (c_law_pick : PySem.W.codeIn K cd_law_pick "_law_pick" = true)
    (k_law_pick : PySem.W.keepIn K (.ref f_law_pick) = true)
    (a_law_pick : PySem.W.nsIn K mainGlobals "_law_pick" = some (some (.ref f_law_pick)))
    (l_law_mixed : K.lookup f_law_mixed = some ⟨oc_law_mixed, od_law_mixed, .func (PySem.W.fnOf "_law_mixed" "_law_mixed" (defArgs s_law_mixed) (defBody s_law_mixed) (defScope s_law_mixed) .none kV_law_mixed dc_law_mixed pm_law_mixed an_law_mixed cd_law_mixed ct_law_mixed), sl_law_mixed⟩)
    (c_law_mixed : PySem.W.codeIn K cd_law_mixed "_law_mixed" = true)
    (k_law_mixed : PySem.W.keepIn K (.ref f_law_mixed) = true)
    (a_law_mixed : PySem.W.nsIn K mainGlobals "_law_mixed" = some (some (.ref f_law_mixed)))
    (l_law_behind : K.lookup f_law_behind = some ⟨oc_law_behind, od_law_behind, .func (PySem.W.fnOf "_law_behind" "_law_behind" (defArgs s_law_behind) (defBody s_law_behind) (defScope s_law_behind) .none kV_law_behind dc_law_behind pm_law_behind an_law_behind cd_law_behind ct_law_behind), sl_law_behind⟩)
    (c_law_behind : PySem.W.codeIn K cd_law_behind "_law_behind" = true)
    (k_law_behind : PySem.W.keepIn K (.ref f_law_behind) = true)
    (a_law_behind : PySem.W.nsIn K mainGlobals "_law_behind" = some (some (.ref f_law_behind)))
    (l_law_longer : K.lookup f_law_longer = some ⟨oc_law_longer, od_law_longer, .func (PySem.W.fnOf "_law_longer" "_law_longer" (defArgs s_law_longer) (defBody s_law_longer) (defScope s_law_longer) .none kV_law_longer dc_law_longer pm_law_longer an_law_longer cd_law_longer ct_law_longer), sl_law_longer⟩)
    (c_law_longer : PySem.W.codeIn K cd_law_longer "_law_longer" = true)
    (k_law_longer : PySem.W.keepIn K (.ref f_law_longer) = true)
    (a_law_longer : PySem.W.nsIn K mainGlobals "_law_longer" = some (some (.ref f_law_longer)))
    (l_law_words : K.lookup f_law_words = some ⟨oc_law_words, od_law_words, .func (PySem.W.fnOf "_law_words" "_law_words" (defArgs s_law_words) (defBody s_law_words) (defScope s_law_words) .none kV_law_words dc_law_words pm_law_words an_law_words cd_law_words ct_law_words), sl_law_words⟩)
    (c_law_words : PySem.W.codeIn K cd_law_words "_law_words" = true)
    (k_law_words : PySem.W.keepIn K (.ref f_law_words) = true)
    (a_law_words : PySem.W.nsIn K mainGlobals "_law_words" = some (some (.ref f_law_words)))
    (l_letters_at : K.lookup f_letters_at = some ⟨oc_letters_at, od_letters_at, .func (PySem.W.fnOf "letters_at" "letters_at" (defArgs s_letters_at) (defBody s_letters_at) (defScope s_letters_at) .none kV_letters_at dc_letters_at pm_letters_at an_letters_at cd_letters_at ct_letters_at), sl_letters_at⟩)
    (c_letters_at : PySem.W.codeIn K cd_letters_at "letters_at" = true)
    (k_letters_at : PySem.W.keepIn K (.ref f_letters_at) = true)
    (a_letters_at : PySem.W.nsIn K mainGlobals "letters_at" = some (some (.ref f_letters_at)))
    (l_with_letters : K.lookup f_with_letters = some ⟨oc_with_letters, od_with_letters, .func (PySem.W.fnOf "with_letters" "with_letters" (defArgs s_with_letters) (defBody s_with_letters) (defScope s_with_letters) .none kV_with_letters dc_with_letters pm_with_letters an_with_letters cd_with_letters ct_with_letters), sl_with_letters⟩)
    (c_with_letters : PySem.W.codeIn K cd_with_letters "with_letters" = true)
    (k_with_letters : PySem.W.keepIn K (.ref f_with_letters) = true)
    (a_with_letters : PySem.W.nsIn K mainGlobals "with_letters" = some (some (.ref f_with_letters)))
    (l_is_list : K.lookup f_is_list = some ⟨oc_is_list, od_is_list, .func (PySem.W.fnOf "is_list" "is_list" (defArgs s_is_list) (defBody s_is_list) (defScope s_is_list) .none kV_is_list dc_is_list pm_is_list an_is_list cd_is_list ct_is_list), sl_is_list⟩)
    (c_is_list : PySem.W.codeIn K cd_is_list "is_list" = true)
    (k_is_list : PySem.W.keepIn K (.ref f_is_list) = true)
    (a_is_list : PySem.W.nsIn K mainGlobals "is_list" = some (some (.ref f_is_list)))
    (l_is_word : K.lookup f_is_word = some ⟨oc_is_word, od_is_word, .func (PySem.W.fnOf "is_word" "is_word" (defArgs s_is_word) (defBody s_is_word) (defScope s_is_word) .none kV_is_word dc_is_word pm_is_word an_is_word cd_is_word ct_is_word), sl_is_word⟩)
    (c_is_word : PySem.W.codeIn K cd_is_word "is_word" = true)
    (k_is_word : PySem.W.keepIn K (.ref f_is_word) = true)
    (a_is_word : PySem.W.nsIn K mainGlobals "is_word" = some (some (.ref f_is_word)))
    (l_is_name : K.lookup f_is_name = some ⟨oc_is_name, od_is_name, .func (PySem.W.fnOf "is_name" "is_name" (defArgs s_is_name) (defBody s_is_name) (defScope s_is_name) .none kV_is_name dc_is_name pm_is_name an_is_name cd_is_name ct_is_name), sl_is_name⟩)
    (c_is_name : PySem.W.codeIn K cd_is_name "is_name" = true)
    (k_is_name : PySem.W.keepIn K (.ref f_is_name) = true)
    (a_is_name : PySem.W.nsIn K mainGlobals "is_name" = some (some (.ref f_is_name)))
    (l_free_from : K.lookup f_free_from = some ⟨oc_free_from, od_free_from, .func (PySem.W.fnOf "free_from" "free_from" (defArgs s_free_from) (defBody s_free_from) (defScope s_free_from) .none kV_free_from dc_free_from pm_free_from an_free_from cd_free_from ct_free_from), sl_free_from⟩)
    (c_free_from : PySem.W.codeIn K cd_free_from "free_from" = true)
    (k_free_from : PySem.W.keepIn K (.ref f_free_from) = true)
    (a_free_from : PySem.W.nsIn K mainGlobals "free_from" = some (some (.ref f_free_from)))
    (l_law_free : K.lookup f_law_free = some ⟨oc_law_free, od_law_free, .func (PySem.W.fnOf "_law_free" "_law_free" (defArgs s_law_free) (defBody s_law_free) (defScope s_law_free) .none kV_law_free dc_law_free pm_law_free an_law_free cd_law_free ct_law_free), sl_law_free⟩)
    (c_law_free : PySem.W.codeIn K cd_law_free "_law_free" = true)
    (k_law_free : PySem.W.keepIn K (.ref f_law_free) = true)
    (a_law_free : PySem.W.nsIn K mainGlobals "_law_free" = some (some (.ref f_law_free)))
    (l_law_is_name : K.lookup f_law_is_name = some ⟨oc_law_is_name, od_law_is_name, .func (PySem.W.fnOf "_law_is_name" "_law_is_name" (defArgs s_law_is_name) (defBody s_law_is_name) (defScope s_law_is_name) .none kV_law_is_name dc_law_is_name pm_law_is_name an_law_is_name cd_law_is_name ct_law_is_name), sl_law_is_name⟩)
    (c_law_is_name : PySem.W.codeIn K cd_law_is_name "_law_is_name" = true)
    (k_law_is_name : PySem.W.keepIn K (.ref f_law_is_name) = true)
    (a_law_is_name : PySem.W.nsIn K mainGlobals "_law_is_name" = some (some (.ref f_law_is_name)))
    (l_law_number : K.lookup f_law_number = some ⟨oc_law_number, od_law_number, .func (PySem.W.fnOf "_law_number" "_law_number" (defArgs s_law_number) (defBody s_law_number) (defScope s_law_number) .none kV_law_number dc_law_number pm_law_number an_law_number cd_law_number ct_law_number), sl_law_number⟩)
    (c_law_number : PySem.W.codeIn K cd_law_number "_law_number" = true)
    (k_law_number : PySem.W.keepIn K (.ref f_law_number) = true)
    (a_law_number : PySem.W.nsIn K mainGlobals "_law_number" = some (some (.ref f_law_number)))
    (l_free_name : K.lookup f_free_name = some ⟨oc_free_name, od_free_name, .func (PySem.W.fnOf "free_name" "free_name" (defArgs s_free_name) (defBody s_free_name) (defScope s_free_name) .none kV_free_name dc_free_name pm_free_name an_free_name cd_free_name ct_free_name), sl_free_name⟩)
    (c_free_name : PySem.W.codeIn K cd_free_name "free_name" = true)
    (k_free_name : PySem.W.keepIn K (.ref f_free_name) = true)
    (a_free_name : PySem.W.nsIn K mainGlobals "free_name" = some (some (.ref f_free_name)))
    (l_law_asked : K.lookup f_law_asked = some ⟨oc_law_asked, od_law_asked, .func (PySem.W.fnOf "_law_asked" "_law_asked" (defArgs s_law_asked) (defBody s_law_asked) (defScope s_law_asked) .none kV_law_asked dc_law_asked pm_law_asked an_law_asked cd_law_asked ct_law_asked), sl_law_asked⟩)
    (c_law_asked : PySem.W.codeIn K cd_law_asked "_law_asked" = true)
    (k_law_asked : PySem.W.keepIn K (.ref f_law_asked) = true)
    (a_law_asked : PySem.W.nsIn K mainGlobals "_law_asked" = some (some (.ref f_law_asked)))
    (l_law_same : K.lookup f_law_same = some ⟨oc_law_same, od_law_same, .func (PySem.W.fnOf "_law_same" "_law_same" (defArgs s_law_same) (defBody s_law_same) (defScope s_law_same) .none kV_law_same dc_law_same pm_law_same an_law_same cd_law_same ct_law_same), sl_law_same⟩)
    (c_law_same : PySem.W.codeIn K cd_law_same "_law_same" = true)
    (k_law_same : PySem.W.keepIn K (.ref f_law_same) = true)
    (a_law_same : PySem.W.nsIn K mainGlobals "_law_same" = some (some (.ref f_law_same)))
    (l_law_copy : K.lookup f_law_copy = some ⟨oc_law_copy, od_law_copy, .func (PySem.W.fnOf "_law_copy" "_law_copy" (defArgs s_law_copy) (defBody s_law_copy) (defScope s_law_copy) .none kV_law_copy dc_law_copy pm_law_copy an_law_copy cd_law_copy ct_law_copy), sl_law_copy⟩)
    (c_law_copy : PySem.W.codeIn K cd_law_copy "_law_copy" = true)
    (k_law_copy : PySem.W.keepIn K (.ref f_law_copy) = true)
    (a_law_copy : PySem.W.nsIn K mainGlobals "_law_copy" = some (some (.ref f_law_copy)))
    (l_law_very : K.lookup f_law_very = some ⟨oc_law_very, od_law_very, .func (PySem.W.fnOf "_law_very" "_law_very" (defArgs s_law_very) (defBody s_law_very) (defScope s_law_very) .none kV_law_very dc_law_very pm_law_very an_law_very cd_law_very ct_law_very), sl_law_very⟩)
    (c_law_very : PySem.W.codeIn K cd_law_very "_law_very" = true)
    (k_law_very : PySem.W.keepIn K (.ref f_law_very) = true)
    (a_law_very : PySem.W.nsIn K mainGlobals "_law_very" = some (some (.ref f_law_very)))
    (l_law_names : K.lookup f_law_names = some ⟨oc_law_names, od_law_names, .func (PySem.W.fnOf "_law_names" "_law_names" (defArgs s_law_names) (defBody s_law_names) (defScope s_law_names) .none kV_law_names dc_law_names pm_law_names an_law_names cd_law_names ct_law_names), sl_law_names⟩)
    (c_law_names : PySem.W.codeIn K cd_law_names "_law_names" = true)
    (k_law_names : PySem.W.keepIn K (.ref f_law_names) = true)
    (a_law_names : PySem.W.nsIn K mainGlobals "_law_names" = some (some (.ref f_law_names)))
    (l_law_row_right : K.lookup f_law_row_right = some ⟨oc_law_row_right, od_law_row_right, .func (PySem.W.fnOf "_law_row_right" "_law_row_right" (defArgs s_law_row_right) (defBody s_law_row_right) (defScope s_law_row_right) .none kV_law_row_right dc_law_row_right pm_law_row_right an_law_row_right cd_law_row_right ct_law_row_right), sl_law_row_right⟩)
    (c_law_row_right : PySem.W.codeIn K cd_law_row_right "_law_row_right" = true)
    (k_law_row_right : PySem.W.keepIn K (.ref f_law_row_right) = true)
    (a_law_row_right : PySem.W.nsIn K mainGlobals "_law_row_right" = some (some (.ref f_law_row_right)))
    (l_law_words_right : K.lookup f_law_words_right = some ⟨oc_law_words_right, od_law_words_right, .func (PySem.W.fnOf "_law_words_right" "_law_words_right" (defArgs s_law_words_right) (defBody s_law_words_right) (defScope s_law_words_right) .none kV_law_words_right dc_law_words_right pm_law_words_right an_law_words_right cd_law_words_right ct_law_words_right), sl_law_words_right⟩)
    (c_law_words_right : PySem.W.codeIn K cd_law_words_right "_law_words_right" = true)
    (k_law_words_right : PySem.W.keepIn K (.ref f_law_words_right) = true)
    (a_law_words_right : PySem.W.nsIn K mainGlobals "_law_words_right" = some (some (.ref f_law_words_right)))
    (l_law_refused_right : K.lookup f_law_refused_right = some ⟨oc_law_refused_right, od_law_refused_right, .func (PySem.W.fnOf "_law_refused_right" "_law_refused_right" (defArgs s_law_refused_right) (defBody s_law_refused_right) (defScope s_law_refused_right) .none kV_law_refused_right dc_law_refused_right pm_law_refused_right an_law_refused_right cd_law_refused_right ct_law_refused_right), sl_law_refused_right⟩)
    (c_law_refused_right : PySem.W.codeIn K cd_law_refused_right "_law_refused_right" = true)
    (k_law_refused_right : PySem.W.keepIn K (.ref f_law_refused_right) = true)
    (a_law_refused_right : PySem.W.nsIn K mainGlobals "_law_refused_right" = some (some (.ref f_law_refused_right)))
    (l_law : K.lookup f_law = some ⟨oc_law, od_law, .func (PySem.W.fnOf "law" "law" (defArgs s_law) (defBody s_law) (defScope s_law) .none kV_law dc_law pm_law an_law cd_law ct_law), sl_law⟩)
    (c_law : PySem.W.codeIn K cd_law "law" = true)
    (k_law : PySem.W.keepIn K (.ref f_law) = true)
    (a_law : PySem.W.nsIn K mainGlobals "law" = some (some (.ref f_law)))
    (n_abs : PySem.W.nsIn K mainGlobals "abs" = some none)
    (n_all : PySem.W.nsIn K mainGlobals "all" = some none)
    (n_bool : PySem.W.nsIn K mainGlobals "bool" = some none)
    (n_dict : PySem.W.nsIn K mainGlobals "dict" = some none)
    (n_int : PySem.W.nsIn K mainGlobals "int" = some none)
    (n_isinstance : PySem.W.nsIn K mainGlobals "isinstance" = some none)
    (n_len : PySem.W.nsIn K mainGlobals "len" = some none)
    (n_list : PySem.W.nsIn K mainGlobals "list" = some none)
    (n_max : PySem.W.nsIn K mainGlobals "max" = some none)
    (n_min : PySem.W.nsIn K mainGlobals "min" = some none)
    (n_range : PySem.W.nsIn K mainGlobals "range" = some none)
    (n_str : PySem.W.nsIn K mainGlobals "str" = some none)
    (n_sum : PySem.W.nsIn K mainGlobals "sum" = some none)
    (n_tuple : PySem.W.nsIn K mainGlobals "tuple" = some none)
    (l_iInvalidName : K.lookup f_iInvalidName = some ⟨oc_iInvalidName, od_iInvalidName, .func (PySem.W.fnOf "__init__" "InvalidName.__init__" (defArgs (inClass (topS 2) 0)) (defBody (inClass (topS 2) 0)) (defScope (inClass (topS 2) 0)) .none kV_iInvalidName dc_iInvalidName pm_iInvalidName an_iInvalidName cd_iInvalidName ct_iInvalidName), sl_iInvalidName⟩)
    (c_iInvalidName : PySem.W.codeIn K cd_iInvalidName "InvalidName.__init__" = true)
    (k_iInvalidName : PySem.W.keepIn K (.ref f_iInvalidName) = true)
    (a_InvalidName : PySem.W.nsIn K mainGlobals "InvalidName" = some (some (.ref C_InvalidName)))
    (xL_InvalidName : K.lookup C_InvalidName = some (excClassObj nm_InvalidName q_InvalidName C_InvalidName N_InvalidName bs_InvalidName bm_InvalidName true sn_InvalidName su_InvalidName ab_InvalidName co_InvalidName dd_InvalidName x0_InvalidName x1_InvalidName x2_InvalidName x3_InvalidName x5_InvalidName "ValueError.__new__"))
    (rv_InvalidName : PySem.HandSPX.refsVE bm_InvalidName = true)
    (sa_InvalidName : PySem.W.findIn K (.ref C_InvalidName) "__setattr__" = some (some (.builtin "object.__setattr__")))
    (eC_InvalidName : PySem.W.subIn K (.ref C_InvalidName) (.type "BaseException") = some true)
    (tC_InvalidName : PySem.W.typeIn K (.ref C_InvalidName) = some (.type "type"))
    (kC_InvalidName : PySem.W.keepIn K (.ref C_InvalidName) = true)
    (iC_InvalidName : PySem.W.findIn K (.ref C_InvalidName) "__init__" = some (some (.ref f_iInvalidName)))
    (tI_InvalidName : PySem.W.typeIn K (.ref f_iInvalidName) = some (.type "function"))
    (no_InvalidName : PySem.W.findIn K (.ref C_InvalidName) "given" = some none)
    (g0_InvalidName : PySem.W.findIn K (.ref C_InvalidName) "__getattribute__" = some (some (.builtin "BaseException.__getattribute__")))
    (g1_InvalidName : PySem.W.findIn K (.ref C_InvalidName) "__getattr__" = some none)
    (hd_InvalidName : PySem.W.hasDictIn K C_InvalidName = true)
    (cl_InvalidName : PySem.W.findIn K (.ref C_InvalidName) "__class__" = some (some (.builtin "object.__class__")))
    (ob_InvalidName : PySem.W.mroIn K C_InvalidName (.type "object") = some true)
    (l_iInvalidNames : K.lookup f_iInvalidNames = some ⟨oc_iInvalidNames, od_iInvalidNames, .func (PySem.W.fnOf "__init__" "InvalidNames.__init__" (defArgs (inClass (topS 3) 0)) (defBody (inClass (topS 3) 0)) (defScope (inClass (topS 3) 0)) .none kV_iInvalidNames dc_iInvalidNames pm_iInvalidNames an_iInvalidNames cd_iInvalidNames ct_iInvalidNames), sl_iInvalidNames⟩)
    (c_iInvalidNames : PySem.W.codeIn K cd_iInvalidNames "InvalidNames.__init__" = true)
    (k_iInvalidNames : PySem.W.keepIn K (.ref f_iInvalidNames) = true)
    (a_InvalidNames : PySem.W.nsIn K mainGlobals "InvalidNames" = some (some (.ref C_InvalidNames)))
    (xL_InvalidNames : K.lookup C_InvalidNames = some (excClassObj nm_InvalidNames q_InvalidNames C_InvalidNames N_InvalidNames bs_InvalidNames bm_InvalidNames true sn_InvalidNames su_InvalidNames ab_InvalidNames co_InvalidNames dd_InvalidNames x0_InvalidNames x1_InvalidNames x2_InvalidNames x3_InvalidNames x5_InvalidNames "ValueError.__new__"))
    (rv_InvalidNames : PySem.HandSPX.refsVE bm_InvalidNames = true)
    (sa_InvalidNames : PySem.W.findIn K (.ref C_InvalidNames) "__setattr__" = some (some (.builtin "object.__setattr__")))
    (eC_InvalidNames : PySem.W.subIn K (.ref C_InvalidNames) (.type "BaseException") = some true)
    (tC_InvalidNames : PySem.W.typeIn K (.ref C_InvalidNames) = some (.type "type"))
    (kC_InvalidNames : PySem.W.keepIn K (.ref C_InvalidNames) = true)
    (iC_InvalidNames : PySem.W.findIn K (.ref C_InvalidNames) "__init__" = some (some (.ref f_iInvalidNames)))
    (tI_InvalidNames : PySem.W.typeIn K (.ref f_iInvalidNames) = some (.type "function"))
    (no_InvalidNames : PySem.W.findIn K (.ref C_InvalidNames) "given" = some none)
    (g0_InvalidNames : PySem.W.findIn K (.ref C_InvalidNames) "__getattribute__" = some (some (.builtin "BaseException.__getattribute__")))
    (g1_InvalidNames : PySem.W.findIn K (.ref C_InvalidNames) "__getattr__" = some none)
    (hd_InvalidNames : PySem.W.hasDictIn K C_InvalidNames = true)
    (cl_InvalidNames : PySem.W.findIn K (.ref C_InvalidNames) "__class__" = some (some (.builtin "object.__class__")))
    (ob_InvalidNames : PySem.W.mroIn K C_InvalidNames (.type "object") = some true)
    (ge_ : PySem.W.specialIn K (.builtin "object.__class__") "__get__" = some (some (.builtin "getset_descriptor.__get__")))
    (ta_ : PySem.W.takesIn K (.builtin "object.__class__") = some true)
    (gL : PySem.W.nsIn K mainGlobals "LETTERS" = some (some (.str "abcdefghijklmnopqrstuvwxyz" tL)))
    (gM : PySem.W.nsIn K mainGlobals "MOST_NAME" = some (some (.int 8 tM)))
    (gW : PySem.W.nsIn K mainGlobals "WORDS" = some (some (.ref aW)))
    (lW : K.lookup aW = some ⟨.type "tuple", dW, .seq iW zW, slW⟩)
    (aE : PySem.W.nsIn K mainGlobals "CutError" = some (some (.ref CE)))
    (hdE : PySem.W.hasDictIn K CE = true)
    (tE : PySem.W.typeIn K (.ref CE) = some (.type "type"))
    (s11 : PySem.W.subIn K (.ref C_InvalidName) (.ref C_InvalidName) = some true)
    (s21 : PySem.W.subIn K (.ref C_InvalidNames) (.ref C_InvalidName) = some false)
    (s22 : PySem.W.subIn K (.ref C_InvalidNames) (.ref C_InvalidNames) = some true)
    (sE1 : PySem.W.subIn K (.ref C_InvalidName) (.ref CE) = some true)
    (sE2 : PySem.W.subIn K (.ref C_InvalidNames) (.ref CE) = some true)
    (zW1 : iW.size ≤ sizeLine) (zW2 : Vals (K01.W.map fun z => V.str (mk z)) iW.toList) :
    ∃ fd : FuncData, (∀ (s : Shared) (u : Value), BindsTo s fd ⟨[u], []⟩ [("script", u)]) ∧ ∀ base : Heap, K.In base → base.Ns mainGlobals mg → FnOk P w K mg base CX0 7 fa fd ["script"] (spLaw K) := by
  have e := hfa.symm.trans (PySem.W.mg_of X G a_law)
  have e2 : fa = f_law := by
    injection e with e
    injection e
  have F_law_cell := fun_mk (st := s_law_cell) l_law_cell c_law_cell k_law_cell
  have b_law_cell : Binds K _ ["script", "k"] [] := F_law_cell.binds (ps := ["script", "k"]) fun _ _ _ _ _ _ us hl => match us, hl with | [_, _], _ => rfl
  have F_law_box := fun_mk (st := s_law_box) l_law_box c_law_box k_law_box
  have b_law_box : Binds K _ ["great"] [] := F_law_box.binds (ps := ["great"]) fun _ _ _ _ _ _ us hl => match us, hl with | [_], _ => rfl
  have F_law_take := fun_mk (st := s_law_take) l_law_take c_law_take k_law_take
  have b_law_take : Binds K _ ["box", "many"] [] := F_law_take.binds (ps := ["box", "many"]) fun _ _ _ _ _ _ us hl => match us, hl with | [_, _], _ => rfl
  have F_law_pick := fun_mk (st := s_law_pick) l_law_pick c_law_pick k_law_pick
  have b_law_pick : Binds K _ ["box", "some"] [] := F_law_pick.binds (ps := ["box", "some"]) fun _ _ _ _ _ _ us hl => match us, hl with | [_, _], _ => rfl
  have F_law_mixed := fun_mk (st := s_law_mixed) l_law_mixed c_law_mixed k_law_mixed
  have b_law_mixed : Binds K _ ["box", "some"] [] := F_law_mixed.binds (ps := ["box", "some"]) fun _ _ _ _ _ _ us hl => match us, hl with | [_, _], _ => rfl
  have F_law_behind := fun_mk (st := s_law_behind) l_law_behind c_law_behind k_law_behind
  have b_law_behind : Binds K _ ["number"] [] := F_law_behind.binds (ps := ["number"]) fun _ _ _ _ _ _ us hl => match us, hl with | [_], _ => rfl
  have F_law_longer := fun_mk (st := s_law_longer) l_law_longer c_law_longer k_law_longer
  have b_law_longer : Binds K _ ["name", "number"] [] := F_law_longer.binds (ps := ["name", "number"]) fun _ _ _ _ _ _ us hl => match us, hl with | [_, _], _ => rfl
  have F_law_words := fun_mk (st := s_law_words) l_law_words c_law_words k_law_words
  have b_law_words : Binds K _ [] [] := F_law_words.binds (ps := []) fun _ _ _ _ _ _ us hl => match us, hl with | [], _ => rfl
  have F_letters_at := fun_mk (st := s_letters_at) l_letters_at c_letters_at k_letters_at
  have b_letters_at : Binds K _ ["number"] [] := F_letters_at.binds (ps := ["number"]) fun _ _ _ _ _ _ us hl => match us, hl with | [_], _ => rfl
  have F_with_letters := fun_mk (st := s_with_letters) l_with_letters c_with_letters k_with_letters
  have b_with_letters : Binds K _ ["name", "number"] [] := F_with_letters.binds (ps := ["name", "number"]) fun _ _ _ _ _ _ us hl => match us, hl with | [_, _], _ => rfl
  have F_is_list := fun_mk (st := s_is_list) l_is_list c_is_list k_is_list
  have b_is_list : Binds K _ ["value"] [] := F_is_list.binds (ps := ["value"]) fun _ _ _ _ _ _ us hl => match us, hl with | [_], _ => rfl
  have F_is_word := fun_mk (st := s_is_word) l_is_word c_is_word k_is_word
  have b_is_word : Binds K _ ["value"] [] := F_is_word.binds (ps := ["value"]) fun _ _ _ _ _ _ us hl => match us, hl with | [_], _ => rfl
  have F_is_name := fun_mk (st := s_is_name) l_is_name c_is_name k_is_name
  have b_is_name : Binds K _ ["value"] [] := F_is_name.binds (ps := ["value"]) fun _ _ _ _ _ _ us hl => match us, hl with | [_], _ => rfl
  have F_free_from := fun_mk (st := s_free_from) l_free_from c_free_from k_free_from
  have b_free_from : Binds K _ ["name", "names"] [] := F_free_from.binds (ps := ["name", "names"]) fun _ _ _ _ _ _ us hl => match us, hl with | [_, _], _ => rfl
  have F_law_free := fun_mk (st := s_law_free) l_law_free c_law_free k_law_free
  have b_law_free : Binds K _ ["name", "taken"] [] := F_law_free.binds (ps := ["name", "taken"]) fun _ _ _ _ _ _ us hl => match us, hl with | [_, _], _ => rfl
  have F_law_is_name := fun_mk (st := s_law_is_name) l_law_is_name c_law_is_name k_law_is_name
  have b_law_is_name : Binds K _ ["value"] [] := F_law_is_name.binds (ps := ["value"]) fun _ _ _ _ _ _ us hl => match us, hl with | [_], _ => rfl
  have F_law_number := fun_mk (st := s_law_number) l_law_number c_law_number k_law_number
  have b_law_number : Binds K _ ["behind"] [] := F_law_number.binds (ps := ["behind"]) fun _ _ _ _ _ _ us hl => match us, hl with | [_], _ => rfl
  have F_free_name := fun_mk (st := s_free_name) l_free_name c_free_name k_free_name
  have b_free_name : Binds K _ ["name", "names"] [] := F_free_name.binds (ps := ["name", "names"]) fun _ _ _ _ _ _ us hl => match us, hl with | [_, _], _ => rfl
  have F_law_asked := fun_mk (st := s_law_asked) l_law_asked c_law_asked k_law_asked
  have b_law_asked : Binds K _ ["name", "names", "named"] [] := F_law_asked.binds (ps := ["name", "names", "named"]) fun _ _ _ _ _ _ us hl => match us, hl with | [_, _, _], _ => rfl
  have F_law_same := fun_mk (st := s_law_same) l_law_same c_law_same k_law_same
  have b_law_same : Binds K _ ["told", "due"] [] := F_law_same.binds (ps := ["told", "due"]) fun _ _ _ _ _ _ us hl => match us, hl with | [_, _], _ => rfl
  have F_law_copy := fun_mk (st := s_law_copy) l_law_copy c_law_copy k_law_copy
  have b_law_copy : Binds K _ ["value"] [] := F_law_copy.binds (ps := ["value"]) fun _ _ _ _ _ _ us hl => match us, hl with | [_], _ => rfl
  have F_law_very := fun_mk (st := s_law_very) l_law_very c_law_very k_law_very
  have b_law_very : Binds K _ ["told", "value"] [] := F_law_very.binds (ps := ["told", "value"]) fun _ _ _ _ _ _ us hl => match us, hl with | [_, _], _ => rfl
  have F_law_names := fun_mk (st := s_law_names) l_law_names c_law_names k_law_names
  have b_law_names : Binds K _ ["box", "name", "most"] [] := F_law_names.binds (ps := ["box", "name", "most"]) fun _ _ _ _ _ _ us hl => match us, hl with | [_, _, _], _ => rfl
  have F_law_row_right := fun_mk (st := s_law_row_right) l_law_row_right c_law_row_right k_law_row_right
  have b_law_row_right : Binds K _ ["box", "name", "most", "named"] [] := F_law_row_right.binds (ps := ["box", "name", "most", "named"]) fun _ _ _ _ _ _ us hl => match us, hl with | [_, _, _, _], _ => rfl
  have F_law_words_right := fun_mk (st := s_law_words_right) l_law_words_right c_law_words_right k_law_words_right
  have b_law_words_right : Binds K _ ["box", "named"] [] := F_law_words_right.binds (ps := ["box", "named"]) fun _ _ _ _ _ _ us hl => match us, hl with | [_, _], _ => rfl
  have F_law_refused_right := fun_mk (st := s_law_refused_right) l_law_refused_right c_law_refused_right k_law_refused_right
  have b_law_refused_right : Binds K _ ["box", "name", "named"] [] := F_law_refused_right.binds (ps := ["box", "name", "named"]) fun _ _ _ _ _ _ us hl => match us, hl with | [_, _, _], _ => rfl
  have F_law := fun_mk (st := s_law) l_law c_law k_law
  have b_law : Binds K _ ["script"] [] := F_law.binds (ps := ["script"]) fun _ _ _ _ _ _ us hl => match us, hl with | [_], _ => rfl
  have F_iInvalidName := fun_mk (st := (inClass (topS 2) 0)) l_iInvalidName c_iInvalidName k_iInvalidName
  have b_iInvalidName : Binds K _ ["self", "given"] [] := F_iInvalidName.binds (ps := ["self", "given"]) fun _ _ _ _ _ _ us hl => match us, hl with | [_, _], _ => rfl
  have F_iInvalidNames := fun_mk (st := (inClass (topS 3) 0)) l_iInvalidNames c_iInvalidNames k_iInvalidNames
  have b_iInvalidNames : Binds K _ ["self", "given"] [] := F_iInvalidNames.binds (ps := ["self", "given"]) fun _ _ _ _ _ _ us hl => match us, hl with | [_, _], _ => rfl
  let T : Txt K mg := {
    f_law_cell := f_law_cell, fd_law_cell := _, F_law_cell := F_law_cell, m_law_cell := PySem.W.mg_of X G a_law_cell, b_law_cell := b_law_cell,
    f_law_box := f_law_box, fd_law_box := _, F_law_box := F_law_box, m_law_box := PySem.W.mg_of X G a_law_box, b_law_box := b_law_box,
    f_law_take := f_law_take, fd_law_take := _, F_law_take := F_law_take, m_law_take := PySem.W.mg_of X G a_law_take, b_law_take := b_law_take,
    f_law_pick := f_law_pick, fd_law_pick := _, F_law_pick := F_law_pick, m_law_pick := PySem.W.mg_of X G a_law_pick, b_law_pick := b_law_pick,
    f_law_mixed := f_law_mixed, fd_law_mixed := _, F_law_mixed := F_law_mixed, m_law_mixed := PySem.W.mg_of X G a_law_mixed, b_law_mixed := b_law_mixed,
    f_law_behind := f_law_behind, fd_law_behind := _, F_law_behind := F_law_behind, m_law_behind := PySem.W.mg_of X G a_law_behind, b_law_behind := b_law_behind,
    f_law_longer := f_law_longer, fd_law_longer := _, F_law_longer := F_law_longer, m_law_longer := PySem.W.mg_of X G a_law_longer, b_law_longer := b_law_longer,
    f_law_words := f_law_words, fd_law_words := _, F_law_words := F_law_words, m_law_words := PySem.W.mg_of X G a_law_words, b_law_words := b_law_words,
    f_letters_at := f_letters_at, fd_letters_at := _, F_letters_at := F_letters_at, m_letters_at := PySem.W.mg_of X G a_letters_at, b_letters_at := b_letters_at,
    f_with_letters := f_with_letters, fd_with_letters := _, F_with_letters := F_with_letters, m_with_letters := PySem.W.mg_of X G a_with_letters, b_with_letters := b_with_letters,
    f_is_list := f_is_list, fd_is_list := _, F_is_list := F_is_list, m_is_list := PySem.W.mg_of X G a_is_list, b_is_list := b_is_list,
    f_is_word := f_is_word, fd_is_word := _, F_is_word := F_is_word, m_is_word := PySem.W.mg_of X G a_is_word, b_is_word := b_is_word,
    f_is_name := f_is_name, fd_is_name := _, F_is_name := F_is_name, m_is_name := PySem.W.mg_of X G a_is_name, b_is_name := b_is_name,
    f_free_from := f_free_from, fd_free_from := _, F_free_from := F_free_from, m_free_from := PySem.W.mg_of X G a_free_from, b_free_from := b_free_from,
    f_law_free := f_law_free, fd_law_free := _, F_law_free := F_law_free, m_law_free := PySem.W.mg_of X G a_law_free, b_law_free := b_law_free,
    f_law_is_name := f_law_is_name, fd_law_is_name := _, F_law_is_name := F_law_is_name, m_law_is_name := PySem.W.mg_of X G a_law_is_name, b_law_is_name := b_law_is_name,
    f_law_number := f_law_number, fd_law_number := _, F_law_number := F_law_number, m_law_number := PySem.W.mg_of X G a_law_number, b_law_number := b_law_number,
    f_free_name := f_free_name, fd_free_name := _, F_free_name := F_free_name, m_free_name := PySem.W.mg_of X G a_free_name, b_free_name := b_free_name,
    f_law_asked := f_law_asked, fd_law_asked := _, F_law_asked := F_law_asked, m_law_asked := PySem.W.mg_of X G a_law_asked, b_law_asked := b_law_asked,
    f_law_same := f_law_same, fd_law_same := _, F_law_same := F_law_same, m_law_same := PySem.W.mg_of X G a_law_same, b_law_same := b_law_same,
    f_law_copy := f_law_copy, fd_law_copy := _, F_law_copy := F_law_copy, m_law_copy := PySem.W.mg_of X G a_law_copy, b_law_copy := b_law_copy,
    f_law_very := f_law_very, fd_law_very := _, F_law_very := F_law_very, m_law_very := PySem.W.mg_of X G a_law_very, b_law_very := b_law_very,
    f_law_names := f_law_names, fd_law_names := _, F_law_names := F_law_names, m_law_names := PySem.W.mg_of X G a_law_names, b_law_names := b_law_names,
    f_law_row_right := f_law_row_right, fd_law_row_right := _, F_law_row_right := F_law_row_right, m_law_row_right := PySem.W.mg_of X G a_law_row_right, b_law_row_right := b_law_row_right,
    f_law_words_right := f_law_words_right, fd_law_words_right := _, F_law_words_right := F_law_words_right, m_law_words_right := PySem.W.mg_of X G a_law_words_right, b_law_words_right := b_law_words_right,
    f_law_refused_right := f_law_refused_right, fd_law_refused_right := _, F_law_refused_right := F_law_refused_right, m_law_refused_right := PySem.W.mg_of X G a_law_refused_right, b_law_refused_right := b_law_refused_right,
    f_law := f_law, fd_law := _, F_law := F_law, m_law := PySem.W.mg_of X G a_law, b_law := b_law,
    n_abs := PySem.W.mg_none_of X G n_abs,
    n_all := PySem.W.mg_none_of X G n_all,
    n_bool := PySem.W.mg_none_of X G n_bool,
    n_dict := PySem.W.mg_none_of X G n_dict,
    n_int := PySem.W.mg_none_of X G n_int,
    n_isinstance := PySem.W.mg_none_of X G n_isinstance,
    n_len := PySem.W.mg_none_of X G n_len,
    n_list := PySem.W.mg_none_of X G n_list,
    n_max := PySem.W.mg_none_of X G n_max,
    n_min := PySem.W.mg_none_of X G n_min,
    n_range := PySem.W.mg_none_of X G n_range,
    n_str := PySem.W.mg_none_of X G n_str,
    n_sum := PySem.W.mg_none_of X G n_sum,
    n_tuple := PySem.W.mg_none_of X G n_tuple,
    C_InvalidName := C_InvalidName, i_InvalidName := f_iInvalidName, d_InvalidName := _, E_InvalidName := ⟨PySem.W.mg_of X G a_InvalidName, F_iInvalidName, b_iInvalidName, ⟨⟨nm_InvalidName, q_InvalidName, N_InvalidName, bs_InvalidName, bm_InvalidName, sn_InvalidName, su_InvalidName, ab_InvalidName, co_InvalidName, dd_InvalidName, x0_InvalidName, x1_InvalidName, x2_InvalidName, x3_InvalidName, x5_InvalidName, xL_InvalidName, rv_InvalidName⟩, sa_InvalidName, eC_InvalidName, tC_InvalidName, kC_InvalidName⟩, iC_InvalidName, tI_InvalidName, no_InvalidName, ⟨g0_InvalidName, g1_InvalidName, eC_InvalidName, hd_InvalidName, cl_InvalidName, ge_, ta_, ob_InvalidName⟩⟩,
    C_InvalidNames := C_InvalidNames, i_InvalidNames := f_iInvalidNames, d_InvalidNames := _, E_InvalidNames := ⟨PySem.W.mg_of X G a_InvalidNames, F_iInvalidNames, b_iInvalidNames, ⟨⟨nm_InvalidNames, q_InvalidNames, N_InvalidNames, bs_InvalidNames, bm_InvalidNames, sn_InvalidNames, su_InvalidNames, ab_InvalidNames, co_InvalidNames, dd_InvalidNames, x0_InvalidNames, x1_InvalidNames, x2_InvalidNames, x3_InvalidNames, x5_InvalidNames, xL_InvalidNames, rv_InvalidNames⟩, sa_InvalidNames, eC_InvalidNames, tC_InvalidNames, kC_InvalidNames⟩, iC_InvalidNames, tI_InvalidNames, no_InvalidNames, ⟨g0_InvalidNames, g1_InvalidNames, eC_InvalidNames, hd_InvalidNames, cl_InvalidNames, ge_, ta_, ob_InvalidNames⟩⟩,
    g_LETTERS := ⟨_, PySem.W.mg_of X G gL⟩, g_MOST_NAME := ⟨_, PySem.W.mg_of X G gM⟩, a_WORDS := aW, g_WORDS := PySem.W.mg_of X G gW, w_WORDS := fun H => .inr ⟨_, iW, zW, lW, rfl, rfl, zW1, zW2⟩,
    C_CutError := CE, m_CutError := PySem.W.mg_of X G aE,
    x_11 := PySem.W.exm_ref eC_InvalidName hd_InvalidName tC_InvalidName s11, x_21 := PySem.W.exm_ref eC_InvalidName hd_InvalidName tC_InvalidName s21, x_22 := PySem.W.exm_ref eC_InvalidNames hd_InvalidNames tC_InvalidNames s22,
    k_1 := kit_cls hdE tE sE1, k_2 := kit_cls hdE tE sE2,
    k_free_name_0_names_name := kb_mk F_free_name gSwap swap_rel fun _ _ _ _ _ _ us ws h1 h2 => match us, ws, h1, h2 with | [], [_, _], _, _ => rfl,
    k_is_name_0_value := kb_mk F_is_name (fun _ ws => ws) (fun _ r => r) fun _ _ _ _ _ _ us ws h1 h2 => match us, ws, h1, h2 with | [], [_], _, _ => rfl }
  rw [e2]
  exact ⟨T.fd_law, fun s u => .of_eq rfl, fun base _ _ => ok_law T⟩

theorem walk {l : PySem.W.OpenLaw} {q : Program} {loose : List Str} {XP : (Str → Option Value) → Heap → Prop} {YP : World → Heap → Prop} {d : DefRec} {K : Params → PySem.W.Frag} (hn : l.most = some 63) (hdf : d.params.defaults = [])
    (hY : ∀ (w : World) (h : Heap), YP w h → (K w.params).In h)
    (F : ∀ (w : World) (mg : Str → Option Value) (fa : Addr) (h : Heap), (K w.params).In h → h.Ns mainGlobals mg → mg d.name = some (.ref fa) →
      ∃ fd : FuncData, (∀ (s : Shared) (u : Value), BindsTo s fd ⟨[u], []⟩ [("script", u)]) ∧ ∀ base : Heap, (K w.params).In base → base.Ns mainGlobals mg → FnOk l.prog w (K w.params) mg base CX0 7 fa fd ["script"] (spLaw (K w.params))) :
    PySem.W.WalkO q loose XP YP l.row.toRowW d [] (fun f vs => PySem.call f vs) :=
  L2.walk_of (n := 63) (k := 7) (x := "script") (CX := fun _ => CX0) (sp := fun w => spLaw (K w.params)) hn (by decide) hdf ⟨rfl, by decide, by decide⟩ hY F (fun _ _ a ns hl _ hS => ⟨_, rfl, a, ns, rfl, hS, Nat.lt_of_le_of_lt hl (by decide), fun _ => rfl⟩) fun _ _ _ _ _ z => z
end K01
set_option Elab.async false
set_option maxRecDepth 100000
set_option pp.maxSteps 12
open PySem PySem.W PyProof.Rows in
set_option maxRecDepth 100000 in
set_option maxHeartbeats 0 in
theorem PySem.Challenge.cw_cutsure_k01_free_names_far_along_holds : PySem.Challenge.rw_cutsure_k01_free_names_far_along.Holds := by
  w_on; o_law; k_head; (case hw => w_witness2)
  k_fill
  refine K01.walk (l := PySem.Challenge.rw_cutsure_k01_free_names_far_along) rfl rfl (fun w h Y => PySem.W.kIn_of Y) ?F
  case F =>
    intro w mg fa h KX G hmg
    refine' K01.all_mk KX G hmg ?l_law_cell ?c_law_cell ?k_law_cell ?a_law_cell ?l_law_box ?c_law_box ?k_law_box ?a_law_box ?l_law_take ?c_law_take ?k_law_take ?a_law_take ?l_law_pick ?c_law_pick ?k_law_pick ?a_law_pick ?l_law_mixed ?c_law_mixed ?k_law_mixed ?a_law_mixed ?l_law_behind ?c_law_behind ?k_law_behind ?a_law_behind ?l_law_longer ?c_law_longer ?k_law_longer ?a_law_longer ?l_law_words ?c_law_words ?k_law_words ?a_law_words ?l_letters_at ?c_letters_at ?k_letters_at ?a_letters_at ?l_with_letters ?c_with_letters ?k_with_letters ?a_with_letters ?l_is_list ?c_is_list ?k_is_list ?a_is_list ?l_is_word ?c_is_word ?k_is_word ?a_is_word ?l_is_name ?c_is_name ?k_is_name ?a_is_name ?l_free_from ?c_free_from ?k_free_from ?a_free_from ?l_law_free ?c_law_free ?k_law_free ?a_law_free ?l_law_is_name ?c_law_is_name ?k_law_is_name ?a_law_is_name ?l_law_number ?c_law_number ?k_law_number ?a_law_number ?l_free_name ?c_free_name ?k_free_name ?a_free_name ?l_law_asked ?c_law_asked ?k_law_asked ?a_law_asked ?l_law_same ?c_law_same ?k_law_same ?a_law_same ?l_law_copy ?c_law_copy ?k_law_copy ?a_law_copy ?l_law_very ?c_law_very ?k_law_very ?a_law_very ?l_law_names ?c_law_names ?k_law_names ?a_law_names ?l_law_row_right ?c_law_row_right ?k_law_row_right ?a_law_row_right ?l_law_words_right ?c_law_words_right ?k_law_words_right ?a_law_words_right ?l_law_refused_right ?c_law_refused_right ?k_law_refused_right ?a_law_refused_right ?l_law ?c_law ?k_law ?a_law ?n_abs ?n_all ?n_bool ?n_dict ?n_int ?n_isinstance ?n_len ?n_list ?n_max ?n_min ?n_range ?n_str ?n_sum ?n_tuple ?l_iInvalidName ?c_iInvalidName ?k_iInvalidName ?a_InvalidName ?xL_InvalidName ?rv_InvalidName ?sa_InvalidName ?eC_InvalidName ?tC_InvalidName ?kC_InvalidName ?iC_InvalidName ?tI_InvalidName ?no_InvalidName ?g0_InvalidName ?g1_InvalidName ?hd_InvalidName ?cl_InvalidName ?ob_InvalidName ?l_iInvalidNames ?c_iInvalidNames ?k_iInvalidNames ?a_InvalidNames ?xL_InvalidNames ?rv_InvalidNames ?sa_InvalidNames ?eC_InvalidNames ?tC_InvalidNames ?kC_InvalidNames ?iC_InvalidNames ?tI_InvalidNames ?no_InvalidNames ?g0_InvalidNames ?g1_InvalidNames ?hd_InvalidNames ?cl_InvalidNames ?ob_InvalidNames ?ge_ ?ta_ ?gL ?gM ?gW ?lW ?aE ?hdE ?tE ?s11 ?s21 ?s22 ?sE1 ?sE2 ?zW1 ?zW2
    (case a_law_cell => k_is)
    (case a_law_box => k_is)
    (case a_law_take => k_is)
    (case a_law_pick => k_is)
    (case a_law_mixed => k_is)
    (case a_law_behind => k_is)
    (case a_law_longer => k_is)
    (case a_law_words => k_is)
    (case a_letters_at => k_is)
    (case a_with_letters => k_is)
    (case a_is_list => k_is)
    (case a_is_word => k_is)
    (case a_is_name => k_is)
    (case a_free_from => k_is)
    (case a_law_free => k_is)
    (case a_law_is_name => k_is)
    (case a_law_number => k_is)
    (case a_free_name => k_is)
    (case a_law_asked => k_is)
    (case a_law_same => k_is)
    (case a_law_copy => k_is)
    (case a_law_very => k_is)
    (case a_law_names => k_is)
    (case a_law_row_right => k_is)
    (case a_law_words_right => k_is)
    (case a_law_refused_right => k_is)
    (case a_law => k_is)
    (case a_InvalidName => k_is)
    (case a_InvalidNames => k_is)
    (case gL => k_is)
    (case gM => k_is)
    (case gW => k_is)
    (case aE => k_is)
    (case iC_InvalidName => k_is)
    (case iC_InvalidNames => k_is)
    (case l_law_cell => k_is)
    (case l_law_box => k_is)
    (case l_law_take => k_is)
    (case l_law_pick => k_is)
    (case l_law_mixed => k_is)
    (case l_law_behind => k_is)
    (case l_law_longer => k_is)
    (case l_law_words => k_is)
    (case l_letters_at => k_is)
    (case l_with_letters => k_is)
    (case l_is_list => k_is)
    (case l_is_word => k_is)
    (case l_is_name => k_is)
    (case l_free_from => k_is)
    (case l_law_free => k_is)
    (case l_law_is_name => k_is)
    (case l_law_number => k_is)
    (case l_free_name => k_is)
    (case l_law_asked => k_is)
    (case l_law_same => k_is)
    (case l_law_copy => k_is)
    (case l_law_very => k_is)
    (case l_law_names => k_is)
    (case l_law_row_right => k_is)
    (case l_law_words_right => k_is)
    (case l_law_refused_right => k_is)
    (case l_law => k_is)
    (case l_iInvalidName => k_is)
    (case xL_InvalidName => k_is)
    (case l_iInvalidNames => k_is)
    (case xL_InvalidNames => k_is)
    (case lW => k_is)
    (case c_law_cell => k_is)
    (case k_law_cell => k_is)
    (case c_law_box => k_is)
    (case k_law_box => k_is)
    (case c_law_take => k_is)
    (case k_law_take => k_is)
    (case c_law_pick => k_is)
    (case k_law_pick => k_is)
    (case c_law_mixed => k_is)
    (case k_law_mixed => k_is)
    (case c_law_behind => k_is)
    (case k_law_behind => k_is)
    (case c_law_longer => k_is)
    (case k_law_longer => k_is)
    (case c_law_words => k_is)
    (case k_law_words => k_is)
    (case c_letters_at => k_is)
    (case k_letters_at => k_is)
    (case c_with_letters => k_is)
    (case k_with_letters => k_is)
    (case c_is_list => k_is)
    (case k_is_list => k_is)
    (case c_is_word => k_is)
    (case k_is_word => k_is)
    (case c_is_name => k_is)
    (case k_is_name => k_is)
    (case c_free_from => k_is)
    (case k_free_from => k_is)
    (case c_law_free => k_is)
    (case k_law_free => k_is)
    (case c_law_is_name => k_is)
    (case k_law_is_name => k_is)
    (case c_law_number => k_is)
    (case k_law_number => k_is)
    (case c_free_name => k_is)
    (case k_free_name => k_is)
    (case c_law_asked => k_is)
    (case k_law_asked => k_is)
    (case c_law_same => k_is)
    (case k_law_same => k_is)
    (case c_law_copy => k_is)
    (case k_law_copy => k_is)
    (case c_law_very => k_is)
    (case k_law_very => k_is)
    (case c_law_names => k_is)
    (case k_law_names => k_is)
    (case c_law_row_right => k_is)
    (case k_law_row_right => k_is)
    (case c_law_words_right => k_is)
    (case k_law_words_right => k_is)
    (case c_law_refused_right => k_is)
    (case k_law_refused_right => k_is)
    (case c_law => k_is)
    (case k_law => k_is)
    (case n_abs => k_is)
    (case n_all => k_is)
    (case n_bool => k_is)
    (case n_dict => k_is)
    (case n_int => k_is)
    (case n_isinstance => k_is)
    (case n_len => k_is)
    (case n_list => k_is)
    (case n_max => k_is)
    (case n_min => k_is)
    (case n_range => k_is)
    (case n_str => k_is)
    (case n_sum => k_is)
    (case n_tuple => k_is)
    (case c_iInvalidName => k_is)
    (case k_iInvalidName => k_is)
    (case rv_InvalidName => decide +kernel)
    (case sa_InvalidName => k_is)
    (case eC_InvalidName => k_is)
    (case tC_InvalidName => k_is)
    (case kC_InvalidName => k_is)
    (case tI_InvalidName => k_is)
    (case no_InvalidName => k_is)
    (case g0_InvalidName => k_is)
    (case g1_InvalidName => k_is)
    (case hd_InvalidName => k_is)
    (case cl_InvalidName => k_is)
    (case ob_InvalidName => k_is)
    (case c_iInvalidNames => k_is)
    (case k_iInvalidNames => k_is)
    (case rv_InvalidNames => decide +kernel)
    (case sa_InvalidNames => k_is)
    (case eC_InvalidNames => k_is)
    (case tC_InvalidNames => k_is)
    (case kC_InvalidNames => k_is)
    (case tI_InvalidNames => k_is)
    (case no_InvalidNames => k_is)
    (case g0_InvalidNames => k_is)
    (case g1_InvalidNames => k_is)
    (case hd_InvalidNames => k_is)
    (case cl_InvalidNames => k_is)
    (case ob_InvalidNames => k_is)
    (case ge_ => k_is)
    (case ta_ => k_is)
    (case hdE => k_is)
    (case tE => k_is)
    (case s11 => k_is)
    (case s21 => k_is)
    (case s22 => k_is)
    (case sE1 => k_is)
    (case sE2 => k_is)
    (case zW1 => decide)
    (case zW2 => repeat (first | exact .nil | refine .cons ⟨_, rfl⟩ ?_))


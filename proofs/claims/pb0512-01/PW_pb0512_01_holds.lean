import PyProof.Rows.All
import Wide.All
import OpenK.AllK
import Wide.FinOn
import PySem.Challenge.RW_pb0512_01
open PySem PySem.W PyProof.Rows
set_option Elab.async false
set_option maxRecDepth 100000

section
open PySem PySem.W PyProof.Rows
set_option Elab.async false
set_option maxRecDepth 100000
set_option linter.unusedVariables false
namespace Mine
/-- a goal that the walk leaves to the hand -/
noncomputable def Hold (P : Prop) : Prop := P
theorem hold {P : Prop} (h : Hold P) : P := h
theorem held {P : Prop} (h : P) : Hold P := h
theorem room2 {dp a b c R : Nat} (h : dp + c < R) (hab : a + b ≤ c) : dp + a + b < R := by omega
theorem foldQ {α : Type} {M : Model} {A : Around} {t : Sem α} {Q : α → Shared → Prop} {E : Value → Shared → Prop} {s : Shared} (h : let q := Q; wpAny M A t q E s) : wpAny M A t Q E s := h
theorem idw {α : Type} {M : Model} {A : Around} {t : Sem α} {Q : α → Shared → Prop} {E : Value → Shared → Prop} {s : Shared} (h : wpAny M A t Q E s) : wpAny M A t Q E s := h
theorem ltbig {x c d : Int} (h : x ≤ c := by assumption) (hc : c < d := by decide) : x < d := Int.lt_of_le_of_lt h hc
theorem ltbig2 {x c d : Int} (h : x < c := by assumption) (hc : c ≤ d := by decide) : x < d := Int.lt_of_lt_of_le h hc
theorem gtbig {x c d : Int} (h : c ≤ x := by assumption) (hc : d < c := by decide) : d < x := Int.lt_of_lt_of_le hc h
theorem lebig {x c d : Int} (h : x ≤ c := by assumption) (hc : c ≤ d := by decide) : x ≤ d := Int.le_trans h hc
theorem gebig {x c d : Int} (h : c ≤ x := by assumption) (hc : d ≤ c := by decide) : d ≤ x := Int.le_trans hc h
theorem lebigN {x c d : Nat} (h : x ≤ c := by assumption) (hc : c ≤ d := by decide) : x ≤ d := Nat.le_trans h hc
theorem ltbigN {x c d : Nat} (h : x ≤ c := by assumption) (hc : c < d := by decide) : x < d := Nat.lt_of_le_of_lt h hc
theorem eqbigN {x c d : Nat} (h : x = c := by assumption) (hc : c ≤ d := by decide) : x ≤ d := h ▸ hc
theorem ltltN {x c d : Nat} (h : x < c := by assumption) (hc : c ≤ d := by decide) : x < d := Nat.lt_of_lt_of_le h hc
/-- shapes of facts and of goals, for short lines -/
abbrev N0 {a b : Nat} : Prop := a ≠ b
abbrev N1 {a b : Nat} {p : Prop} : Prop := a ≠ b ∧ p
abbrev N2 {a b : Nat} {p q : Prop} : Prop := (a ≠ b ∧ p) ∧ q
abbrev L1 {a b : Nat} {p : Prop} : Prop := a < b ∧ p
section
variable {M : Model} {A : Around} {E : Value → Shared → Prop} {s : Shared} {env : Env} {Q : Value → Shared → Prop}
theorem evC {a b c d} (h : wpAny M A (eval (.Call a b c d) env) Q E s) : wpAny M A (eval (.Call a b c d) env) Q E s := h
theorem evB {a b c d} (h : wpAny M A (eval (.BinOp a b c d) env) Q E s) : wpAny M A (eval (.BinOp a b c d) env) Q E s := h
theorem evM {a b c d} (h : wpAny M A (eval (.Compare a b c d) env) Q E s) : wpAny M A (eval (.Compare a b c d) env) Q E s := h
theorem subRI {a b x i t} (h : wpAny M A (subscriptTail a b (.ref x) (.int i t)) Q E s) : wpAny M A (subscriptTail a b (.ref x) (.int i t)) Q E s := h
theorem subRM {a b x i j k t} (h : wpAny M A (subscriptTail a b (.ref x) (.int (i * j + k) t)) Q E s) : wpAny M A (subscriptTail a b (.ref x) (.int (i * j + k) t)) Q E s := h
theorem calTB {a b t} (h : wpAny M A (call (.type a) [.bytes b t]) Q E s) : wpAny M A (call (.type a) [.bytes b t]) Q E s := h
theorem calR {a vs} (hr : [142, 268, 263, 251, 227, 198, 184, 220, 149].elem a = true) (h : wpAny M A (call (.ref a) vs) Q E s) : wpAny M A (call (.ref a) vs) Q E s := h
theorem calDG {t} (h : wpAny M A (call (.ref 149) [.bytes #[68, 101, 118, 105, 99, 101, 71, 114, 97, 121] t]) Q E s) : wpAny M A (call (.ref 149) [.bytes #[68, 101, 118, 105, 99, 101, 71, 114, 97, 121] t]) Q E s := h
theorem calH {vs} (h : wpAny M A (call (.ref 208) vs) Q E s) : wpAny M A (call (.ref 208) vs) Q E s := h
theorem calS {a b c} (h : wpAny M A (call (.ref 124) [a, b, c]) Q E s) : wpAny M A (call (.ref 124) [a, b, c]) Q E s := h
end
theorem lt_up1 {a b : Nat} (h : a < b) : a < b + 1 := by omega
theorem lt_up2 {a b : Nat} (h : a < b) : a < b + 1 + 1 := by omega
theorem lt_up3 {a b : Nat} (h : a < b) : a < b + 1 + 1 + 1 := by omega
theorem lt_up4 {a b : Nat} (h : a < b) : a < b + 1 + 1 + 1 + 1 := by omega
theorem lt_up5 {a b : Nat} (h : a < b) : a < b + 1 + 1 + 1 + 1 + 1 := by omega
theorem lt_up6 {a b : Nat} (h : a < b) : a < b + 1 + 1 + 1 + 1 + 1 + 1 := by omega
theorem lt_up7 {a b : Nat} (h : a < b) : a < b + 1 + 1 + 1 + 1 + 1 + 1 + 1 := by omega
theorem ex1 {ta : Type} {P : ta → Prop} {G : Prop} (hh : ∃ a, P a) (k : ∀ a, P a → G) : G := by
  obtain ⟨a, hh⟩ := hh
  exact k a hh
theorem ex2 {ta tb : Type} {P : ta → tb → Prop} {G : Prop} (hh : ∃ a b, P a b) (k : ∀ a b, P a b → G) : G := by
  obtain ⟨a, b, hh⟩ := hh
  exact k a b hh
theorem ex3 {ta tb tc : Type} {P : ta → tb → tc → Prop} {G : Prop} (hh : ∃ a b c, P a b c) (k : ∀ a b c, P a b c → G) : G := by
  obtain ⟨a, b, c, hh⟩ := hh
  exact k a b c hh
theorem ex4 {ta tb tc td : Type} {P : ta → tb → tc → td → Prop} {G : Prop} (hh : ∃ a b c d, P a b c d) (k : ∀ a b c d, P a b c d → G) : G := by
  obtain ⟨a, b, c, d, hh⟩ := hh
  exact k a b c d hh
theorem ex5 {ta tb tc td te : Type} {P : ta → tb → tc → td → te → Prop} {G : Prop} (hh : ∃ a b c d e, P a b c d e) (k : ∀ a b c d e, P a b c d e → G) : G := by
  obtain ⟨a, b, c, d, e, hh⟩ := hh
  exact k a b c d e hh
theorem ex6 {ta tb tc td te tf : Type} {P : ta → tb → tc → td → te → tf → Prop} {G : Prop} (hh : ∃ a b c d e f, P a b c d e f) (k : ∀ a b c d e f, P a b c d e f → G) : G := by
  obtain ⟨a, b, c, d, e, f, hh⟩ := hh
  exact k a b c d e f hh
theorem ex7 {ta tb tc td te tf tg : Type} {P : ta → tb → tc → td → te → tf → tg → Prop} {G : Prop} (hh : ∃ a b c d e f g, P a b c d e f g) (k : ∀ a b c d e f g, P a b c d e f g → G) : G := by
  obtain ⟨a, b, c, d, e, f, g, hh⟩ := hh
  exact k a b c d e f g hh
theorem ex8 {ta tb tc td te tf tg th : Type} {P : ta → tb → tc → td → te → tf → tg → th → Prop} {G : Prop} (hh : ∃ a b c d e f g h, P a b c d e f g h) (k : ∀ a b c d e f g h, P a b c d e f g h → G) : G := by
  obtain ⟨a, b, c, d, e, f, g, h, hh⟩ := hh
  exact k a b c d e f g h hh
theorem ex9 {ta tb tc td te tf tg th ti : Type} {P : ta → tb → tc → td → te → tf → tg → th → ti → Prop} {G : Prop} (hh : ∃ a b c d e f g h i, P a b c d e f g h i) (k : ∀ a b c d e f g h i, P a b c d e f g h i → G) : G := by
  obtain ⟨a, b, c, d, e, f, g, h, i, hh⟩ := hh
  exact k a b c d e f g h i hh
theorem and2 {A0 A1 G : Prop} (h : A0 ∧ A1) (k : A0 → A1 → G) : G := by
  obtain ⟨h0, h1⟩ := h
  exact k h0 h1
theorem and3 {A0 A1 A2 G : Prop} (h : A0 ∧ A1 ∧ A2) (k : A0 → A1 → A2 → G) : G := by
  obtain ⟨h0, h1, h2⟩ := h
  exact k h0 h1 h2
theorem and4 {A0 A1 A2 A3 G : Prop} (h : A0 ∧ A1 ∧ A2 ∧ A3) (k : A0 → A1 → A2 → A3 → G) : G := by
  obtain ⟨h0, h1, h2, h3⟩ := h
  exact k h0 h1 h2 h3
theorem and5 {A0 A1 A2 A3 A4 G : Prop} (h : A0 ∧ A1 ∧ A2 ∧ A3 ∧ A4) (k : A0 → A1 → A2 → A3 → A4 → G) : G := by
  obtain ⟨h0, h1, h2, h3, h4⟩ := h
  exact k h0 h1 h2 h3 h4
theorem and6 {A0 A1 A2 A3 A4 A5 G : Prop} (h : A0 ∧ A1 ∧ A2 ∧ A3 ∧ A4 ∧ A5) (k : A0 → A1 → A2 → A3 → A4 → A5 → G) : G := by
  obtain ⟨h0, h1, h2, h3, h4, h5⟩ := h
  exact k h0 h1 h2 h3 h4 h5
theorem and7 {A0 A1 A2 A3 A4 A5 A6 G : Prop} (h : A0 ∧ A1 ∧ A2 ∧ A3 ∧ A4 ∧ A5 ∧ A6) (k : A0 → A1 → A2 → A3 → A4 → A5 → A6 → G) : G := by
  obtain ⟨h0, h1, h2, h3, h4, h5, h6⟩ := h
  exact k h0 h1 h2 h3 h4 h5 h6
theorem and8 {A0 A1 A2 A3 A4 A5 A6 A7 G : Prop} (h : A0 ∧ A1 ∧ A2 ∧ A3 ∧ A4 ∧ A5 ∧ A6 ∧ A7) (k : A0 → A1 → A2 → A3 → A4 → A5 → A6 → A7 → G) : G := by
  obtain ⟨h0, h1, h2, h3, h4, h5, h6, h7⟩ := h
  exact k h0 h1 h2 h3 h4 h5 h6 h7
theorem xm1 {ta : Type} {P : ta → Prop} (a : ta) (hh : P a) : ∃ a, P a := ⟨a, hh⟩
theorem xm2 {ta tb : Type} {P : ta → tb → Prop} (a : ta) (b : tb) (hh : P a b) : ∃ a b, P a b := ⟨a, b, hh⟩
theorem xm3 {ta tb tc : Type} {P : ta → tb → tc → Prop} (a : ta) (b : tb) (c : tc) (hh : P a b c) : ∃ a b c, P a b c := ⟨a, b, c, hh⟩
theorem xm4 {ta tb tc td : Type} {P : ta → tb → tc → td → Prop} (a : ta) (b : tb) (c : tc) (d : td) (hh : P a b c d) : ∃ a b c d, P a b c d := ⟨a, b, c, d, hh⟩
theorem xm5 {ta tb tc td te : Type} {P : ta → tb → tc → td → te → Prop} (a : ta) (b : tb) (c : tc) (d : td) (e : te) (hh : P a b c d e) : ∃ a b c d e, P a b c d e := ⟨a, b, c, d, e, hh⟩
theorem xm6 {ta tb tc td te tf : Type} {P : ta → tb → tc → td → te → tf → Prop} (a : ta) (b : tb) (c : tc) (d : td) (e : te) (f : tf) (hh : P a b c d e f) : ∃ a b c d e f, P a b c d e f := ⟨a, b, c, d, e, f, hh⟩
theorem xm7 {ta tb tc td te tf tg : Type} {P : ta → tb → tc → td → te → tf → tg → Prop} (a : ta) (b : tb) (c : tc) (d : td) (e : te) (f : tf) (g : tg) (hh : P a b c d e f g) : ∃ a b c d e f g, P a b c d e f g := ⟨a, b, c, d, e, f, g, hh⟩
theorem xm8 {ta tb tc td te tf tg th : Type} {P : ta → tb → tc → td → te → tf → tg → th → Prop} (a : ta) (b : tb) (c : tc) (d : td) (e : te) (f : tf) (g : tg) (h : th) (hh : P a b c d e f g h) : ∃ a b c d e f g h, P a b c d e f g h := ⟨a, b, c, d, e, f, g, h, hh⟩
theorem xm9 {ta tb tc td te tf tg th ti : Type} {P : ta → tb → tc → td → te → tf → tg → th → ti → Prop} (a : ta) (b : tb) (c : tc) (d : td) (e : te) (f : tf) (g : tg) (h : th) (i : ti) (hh : P a b c d e f g h i) : ∃ a b c d e f g h i, P a b c d e f g h i := ⟨a, b, c, d, e, f, g, h, i, hh⟩
theorem am2 {A0 A1 : Prop} (h0 : A0) (h1 : A1) : A0 ∧ A1 := ⟨h0, h1⟩
theorem am3 {A0 A1 A2 : Prop} (h0 : A0) (h1 : A1) (h2 : A2) : A0 ∧ A1 ∧ A2 := ⟨h0, h1, h2⟩
theorem am4 {A0 A1 A2 A3 : Prop} (h0 : A0) (h1 : A1) (h2 : A2) (h3 : A3) : A0 ∧ A1 ∧ A2 ∧ A3 := ⟨h0, h1, h2, h3⟩
theorem am5 {A0 A1 A2 A3 A4 : Prop} (h0 : A0) (h1 : A1) (h2 : A2) (h3 : A3) (h4 : A4) : A0 ∧ A1 ∧ A2 ∧ A3 ∧ A4 := ⟨h0, h1, h2, h3, h4⟩
theorem am6 {A0 A1 A2 A3 A4 A5 : Prop} (h0 : A0) (h1 : A1) (h2 : A2) (h3 : A3) (h4 : A4) (h5 : A5) : A0 ∧ A1 ∧ A2 ∧ A3 ∧ A4 ∧ A5 := ⟨h0, h1, h2, h3, h4, h5⟩
theorem am7 {A0 A1 A2 A3 A4 A5 A6 : Prop} (h0 : A0) (h1 : A1) (h2 : A2) (h3 : A3) (h4 : A4) (h5 : A5) (h6 : A6) : A0 ∧ A1 ∧ A2 ∧ A3 ∧ A4 ∧ A5 ∧ A6 := ⟨h0, h1, h2, h3, h4, h5, h6⟩
theorem am8 {A0 A1 A2 A3 A4 A5 A6 A7 : Prop} (h0 : A0) (h1 : A1) (h2 : A2) (h3 : A3) (h4 : A4) (h5 : A5) (h6 : A6) (h7 : A7) : A0 ∧ A1 ∧ A2 ∧ A3 ∧ A4 ∧ A5 ∧ A6 ∧ A7 := ⟨h0, h1, h2, h3, h4, h5, h6, h7⟩
theorem am9 {A0 A1 A2 A3 A4 A5 A6 A7 A8 : Prop} (h0 : A0) (h1 : A1) (h2 : A2) (h3 : A3) (h4 : A4) (h5 : A5) (h6 : A6) (h7 : A7) (h8 : A8) : A0 ∧ A1 ∧ A2 ∧ A3 ∧ A4 ∧ A5 ∧ A6 ∧ A7 ∧ A8 := ⟨h0, h1, h2, h3, h4, h5, h6, h7, h8⟩
theorem am10 {A0 A1 A2 A3 A4 A5 A6 A7 A8 A9 : Prop} (h0 : A0) (h1 : A1) (h2 : A2) (h3 : A3) (h4 : A4) (h5 : A5) (h6 : A6) (h7 : A7) (h8 : A8) (h9 : A9) : A0 ∧ A1 ∧ A2 ∧ A3 ∧ A4 ∧ A5 ∧ A6 ∧ A7 ∧ A8 ∧ A9 := ⟨h0, h1, h2, h3, h4, h5, h6, h7, h8, h9⟩
theorem am11 {A0 A1 A2 A3 A4 A5 A6 A7 A8 A9 A10 : Prop} (h0 : A0) (h1 : A1) (h2 : A2) (h3 : A3) (h4 : A4) (h5 : A5) (h6 : A6) (h7 : A7) (h8 : A8) (h9 : A9) (h10 : A10) : A0 ∧ A1 ∧ A2 ∧ A3 ∧ A4 ∧ A5 ∧ A6 ∧ A7 ∧ A8 ∧ A9 ∧ A10 := ⟨h0, h1, h2, h3, h4, h5, h6, h7, h8, h9, h10⟩
theorem am12 {A0 A1 A2 A3 A4 A5 A6 A7 A8 A9 A10 A11 : Prop} (h0 : A0) (h1 : A1) (h2 : A2) (h3 : A3) (h4 : A4) (h5 : A5) (h6 : A6) (h7 : A7) (h8 : A8) (h9 : A9) (h10 : A10) (h11 : A11) : A0 ∧ A1 ∧ A2 ∧ A3 ∧ A4 ∧ A5 ∧ A6 ∧ A7 ∧ A8 ∧ A9 ∧ A10 ∧ A11 := ⟨h0, h1, h2, h3, h4, h5, h6, h7, h8, h9, h10, h11⟩
theorem and9 {A0 A1 A2 A3 A4 A5 A6 A7 A8 G : Prop} (h : A0 ∧ A1 ∧ A2 ∧ A3 ∧ A4 ∧ A5 ∧ A6 ∧ A7 ∧ A8) (k : A0 → A1 → A2 → A3 → A4 → A5 → A6 → A7 → A8 → G) : G := by
  obtain ⟨h0, h1, h2, h3, h4, h5, h6, h7, h8⟩ := h
  exact k h0 h1 h2 h3 h4 h5 h6 h7 h8
theorem and10 {A0 A1 A2 A3 A4 A5 A6 A7 A8 A9 G : Prop} (h : A0 ∧ A1 ∧ A2 ∧ A3 ∧ A4 ∧ A5 ∧ A6 ∧ A7 ∧ A8 ∧ A9) (k : A0 → A1 → A2 → A3 → A4 → A5 → A6 → A7 → A8 → A9 → G) : G := by
  obtain ⟨h0, h1, h2, h3, h4, h5, h6, h7, h8, h9⟩ := h
  exact k h0 h1 h2 h3 h4 h5 h6 h7 h8 h9
theorem and11 {A0 A1 A2 A3 A4 A5 A6 A7 A8 A9 A10 G : Prop} (h : A0 ∧ A1 ∧ A2 ∧ A3 ∧ A4 ∧ A5 ∧ A6 ∧ A7 ∧ A8 ∧ A9 ∧ A10) (k : A0 → A1 → A2 → A3 → A4 → A5 → A6 → A7 → A8 → A9 → A10 → G) : G := by
  obtain ⟨h0, h1, h2, h3, h4, h5, h6, h7, h8, h9, h10⟩ := h
  exact k h0 h1 h2 h3 h4 h5 h6 h7 h8 h9 h10
theorem and12 {A0 A1 A2 A3 A4 A5 A6 A7 A8 A9 A10 A11 G : Prop} (h : A0 ∧ A1 ∧ A2 ∧ A3 ∧ A4 ∧ A5 ∧ A6 ∧ A7 ∧ A8 ∧ A9 ∧ A10 ∧ A11) (k : A0 → A1 → A2 → A3 → A4 → A5 → A6 → A7 → A8 → A9 → A10 → A11 → G) : G := by
  obtain ⟨h0, h1, h2, h3, h4, h5, h6, h7, h8, h9, h10, h11⟩ := h
  exact k h0 h1 h2 h3 h4 h5 h6 h7 h8 h9 h10 h11
end Mine
end

section
local macro_rules | `(tactic| omega) => `(tactic| first | decide | (with_reducible first | exact Mine.ltbig | exact Mine.ltbig2 | exact Mine.gtbig | exact Mine.lebig | exact Mine.gebig | exact Mine.lebigN | exact Mine.ltbigN | exact Mine.eqbigN | exact Mine.ltltN) | ((repeat ((with_reducible first | rename Mine.N1 => q | rename Mine.N2 => q | rename Mine.N0 => q); clear q)); omega (config := {})))
local macro_rules | `(tactic| walk_at "a ne") => `(tactic| ((repeat ((with_reducible first | rename Mine.N2 => q | rename Mine.N1 => q); first | (simp only [q, ne_eq, not_false_eq_true]; done) | clear q)); done))
local macro_rules | `(tactic| walk_at "a up") => `(tactic| ((repeat (first | exact Nat.lt_succ_self _ | refine Mine.lt_up1 ?_)); done))
local macro_rules | `(tactic| walk_at "a l1") => `(tactic| ((repeat ((with_reducible rename Mine.L1 => q); first | (simp only [q]; done) | clear q)); done))
local macro_rules | `(tactic| walk_at "a lt") => `(tactic| first | walk_at "a l1" | ((repeat refine Mine.lt_up1 ?_); walk_at "a l1"))
local macro_rules | `(tactic| k_ne) => `(tactic| (refine neN ?_; (try dsimp only); first | (with_reducible assumption) | (with_reducible exact Ne.symm (by assumption)) | (refine Nat.ne_of_lt ?_; walk_at "a up") | (refine Nat.ne_of_gt ?_; walk_at "a up") | walk_at "a ne" | (refine Ne.symm ?_; walk_at "a ne") | (refine Nat.ne_of_lt ?_; walk_at "a lt") | (refine Nat.ne_of_gt ?_; walk_at "a lt") | omega))
local macro_rules | `(tactic| ktr_room) => `(tactic| exact Mine.room2 (by with_reducible assumption) (by decide))
local macro_rules | `(tactic| ktr_units) => `(tactic| exact Mine.room2 (by with_reducible assumption) (by decide))
local macro_rules | `(tactic| k_all) => `(tactic| assumption)
local macro_rules | `(tactic| walk_at "room") => `(tactic| ((try simp only [units_under_make, units_in1, units_deeper, Around.mark_units, units_caller, depth_mark, depth_under_make, depth_under_kw, depth_in1, depth_deeper, depth_caller]); (try dsimp only [ktrTop] at *); omega))
local macro_rules | `(tactic| units_room) => `(tactic| walk_at "room")
local macro_rules | `(tactic| k_room) => `(tactic| walk_at "room")
local macro_rules | `(tactic| walk_at "sub") => `(tactic| ((with_unfolding_all refine item_anyK (by is_list) (by l_ints) (by first | assumption | omega) (by first | assumption | omega) (by omega) ?_ (by with_unfolding_all rfl)); k_whole; intro _))
local macro_rules | `(tactic| walk_at "execs cons") => `(tactic| (k_fold; refine wpAny_execs_cons ?_))
local macro_rules | `(tactic| walk1) => `(tactic| ((first | (with_reducible show wpAny _ _ (eval (Expr.Call _ _ _ _) _) _ _ _) | (with_reducible show wpAny _ _ (eval (Expr.BinOp _ _ _ _) _) _ _ _) | (with_reducible show wpAny _ _ (eval (Expr.Compare _ _ _ _) _) _ _ _)); k_fold; walk1))

section
open PySem PySem.W PyProof.Rows
set_option Elab.async false
set_option maxRecDepth 100000
set_option maxHeartbeats 0
set_option linter.unusedVariables false
noncomputable section
namespace Mine
noncomputable abbrev pw : Program := PySem.Challenge.pw_pb0512_01
noncomputable def st (i : Nat) : Stmt := pw.main.body.getD i (.Pass default)
noncomputable def dP : Stmt → Arguments | .FunctionDef _ a .. => a | _ => default
noncomputable def dB : Stmt → List Stmt | .FunctionDef _ _ b .. => b | _ => []
noncomputable def dS : Stmt → Scope | .FunctionDef _ _ _ _ _ _ sc .. => sc | _ => default
noncomputable def cB : Stmt → List Stmt | .ClassDef _ _ _ b .. => b | _ => []
noncomputable def inC (s : Stmt) (j : Nat) : Stmt := (cB s).getD j (.Pass default)
noncomputable def env : Env := { scope := pw.main.scope, locals := mainNs, globals := mainNs, cells := [], code := .ref 13, frame := some 14 }
noncomputable def cE : Code := .body (behindTheImports pw) env
noncomputable def B : List Frame := [topFrame ⟨0, 0, 0, 0⟩]
noncomputable def o11a (P : Params) : Obj := ⟨(.type "tuple"), none, (.seq [].toArray 0), [].toArray⟩
noncomputable def o12a (P : Params) : Obj := ⟨.none, none, (.fields [].toArray), [].toArray⟩
noncomputable def o13a (P : Params) : Obj := ⟨(.type "code"), none, (.fields [(.str (Str.ofString "<module>") 182), (.str (Str.ofString "<module>") 183), (.str (Str.ofString "/claim/cut.py") 184), (.int (1) 0), (.int (0) 0), (.int (0) 0), (.int (0) 0), (.int (0) 0), (.ref 11), (.bool false), (.int (181) 0), (.ref 12), .none, .none, .none, .none, (.int (185) 0), (.int (1) 0), (.str (Str.ofString "/claim/cut.py") 186)].toArray), [].toArray⟩
noncomputable def o14a (P : Params) : Obj := ⟨(.type "frame"), none, .plain, [(some (.ref 13)), (some (.ref 3)), (some (.ref 3)), none, (some (.str (Str.ofString "__main__") 164)), none, (some (.ref 0))].toArray⟩
noncomputable def hpc0 (P : Params) (t : List Obj) : List Obj := boot_o_8 P :: boot_o_9 P :: boot_o_10 P :: o11a P :: o12a P :: o13a P :: o14a P :: t
noncomputable def hpc1 (P : Params) (t : List Obj) : List Obj := boot_o_0 P :: boot_o_1 P :: boot_o_2 P :: boot_o_3 P :: boot_o_4 P :: boot_o_5 P :: boot_o_6 P :: boot_o_7 P :: t
noncomputable def ha (P : Params) : Heap := ⟨⟨(hpc1 P (hpc0 P []))⟩, {}⟩
noncomputable def pa : Pos := ⟨0, 0, 0, 0⟩
noncomputable def ka : Nat := 187
noncomputable def posb : Pos := ⟨0, 0, 0, 0⟩
noncomputable def hpc2 (P : Params) : BT := (.node (boot_o_1 P) (.node (boot_o_3 P) (.node (boot_o_7 P) .nil .nil) (.node (o11a P) .nil .nil)) (.node (boot_o_5 P) (.node (boot_o_9 P) .nil .nil) (.node (o13a P) .nil .nil)))
noncomputable def hpc3 (P : Params) : BT := (.node (boot_o_2 P) (.node (boot_o_4 P) (.node (boot_o_8 P) .nil .nil) (.node (o12a P) .nil .nil)) (.node (boot_o_6 P) (.node (boot_o_10 P) .nil .nil) (.node (o14a P) .nil .nil)))
noncomputable def T0 (P : Params) : BT := (.node (boot_o_0 P) (hpc2 P) (hpc3 P))
noncomputable def S0 (w : World) (os : OsState) : SharedT := ⟨T0 w.params, 15, {}, #[], {}, 187, os⟩
noncomputable def p0 : Pos := ⟨0, 0, 0, 0⟩
noncomputable def o2g1 (P : Params) : Obj := ⟨.none, none, (.dict [⟨(PyData.keyHash P (Str.ofString "type.__subclasses__.Exception.0")), (.str (Str.ofString "type.__subclasses__.Exception.0") 216), (.int (32) 0)⟩, ⟨(PyData.keyHash P (Str.ofString "type.__subclasses__.Exception.n")), (.str (Str.ofString "type.__subclasses__.Exception.n") 217), (.int (1) 0)⟩].toArray 2), [].toArray⟩
noncomputable def hpc4 (P : Params) (t : List DictEntry) : List DictEntry := ⟨(PyData.keyHash P (Str.ofString "__cached__")), (.str (Str.ofString "__cached__") 174), .none⟩ :: ⟨(PyData.keyHash P (Str.ofString "GRAIN")), (.str (Str.ofString "GRAIN") 190), (.int (1000000) 189)⟩ :: ⟨(PyData.keyHash P (Str.ofString "PostError")), (.str (Str.ofString "PostError") 219), (.ref 32)⟩ :: t
noncomputable def hpc5 (P : Params) (t : List DictEntry) : List DictEntry := ⟨(PyData.keyHash P (Str.ofString "__name__")), (.str (Str.ofString "__name__") 165), (.str (Str.ofString "postcore.base") 187)⟩ :: ⟨(PyData.keyHash P (Str.ofString "__doc__")), (.str (Str.ofString "__doc__") 166), .none⟩ :: ⟨(PyData.keyHash P (Str.ofString "__package__")), (.str (Str.ofString "__package__") 167), .none⟩ :: ⟨(PyData.keyHash P (Str.ofString "__loader__")), (.str (Str.ofString "__loader__") 168), (.builtin "__main__.__loader__#opaque")⟩ :: ⟨(PyData.keyHash P (Str.ofString "__spec__")), (.str (Str.ofString "__spec__") 169), .none⟩ :: ⟨(PyData.keyHash P (Str.ofString "__annotations__")), (.str (Str.ofString "__annotations__") 170), (.ref 6)⟩ :: ⟨(PyData.keyHash P (Str.ofString "__builtins__")), (.str (Str.ofString "__builtins__") 171), (.ref 4)⟩ :: ⟨(PyData.keyHash P (Str.ofString "__file__")), (.str (Str.ofString "__file__") 173), (.str (Str.ofString "/claim/cut.py") 172)⟩ :: t
noncomputable def o3g1 (P : Params) : Obj := ⟨(.type "dict"), none, (.dict (hpc5 P (hpc4 P [])).toArray 11), [].toArray⟩
noncomputable def o12g1 (P : Params) : Obj := ⟨.none, none, (.fields [(.int (3) 0), (.int (0) 0), (.ref 20)].toArray), [].toArray⟩
noncomputable def o15g1 (P : Params) : Obj := ⟨(.type "tuple"), none, (.seq [(.type "Exception")].toArray 0), [].toArray⟩
noncomputable def o16g1 (P : Params) : Obj := ⟨(.type "builtin_function_or_method"), none, (.fields [(.builtin "type.__prepare__"), (.type "type")].toArray), [].toArray⟩
noncomputable def o17g1 (P : Params) : Obj := ⟨(.type "dict"), none, (.dict [⟨(PyData.keyHash P (Str.ofString "__module__")), (.str (Str.ofString "__module__") 198), (.str (Str.ofString "postcore.base") 187)⟩, ⟨(PyData.keyHash P (Str.ofString "__qualname__")), (.str (Str.ofString "__qualname__") 200), (.str (Str.ofString "PostError") 199)⟩, ⟨(PyData.keyHash P (Str.ofString "__firstlineno__")), (.str (Str.ofString "__firstlineno__") 202), (.int (3) 201)⟩, ⟨(PyData.keyHash P (Str.ofString "__init__")), (.str (Str.ofString "__init__") 210), (.ref 29)⟩, ⟨(PyData.keyHash P (Str.ofString "__static_attributes__")), (.str (Str.ofString "__static_attributes__") 212), (.ref 30)⟩].toArray 5), [].toArray⟩
noncomputable def o18g1 (P : Params) : Obj := ⟨(.type "tuple"), none, (.seq [].toArray 0), [].toArray⟩
noncomputable def o19g1 (P : Params) : Obj := ⟨.none, none, (.fields [(.int (5) 0), (.int (4) 0), (.ref 28)].toArray), [].toArray⟩
noncomputable def o20g1 (P : Params) : Obj := ⟨(.type "code"), none, (.fields [(.str (Str.ofString "PostError") 193), (.str (Str.ofString "PostError") 194), (.str (Str.ofString "/claim/cut.py") 195), (.int (3) 0), (.int (0) 0), (.int (0) 0), (.int (0) 0), (.int (0) 0), (.ref 18), (.bool false), (.int (181) 0), (.ref 19), .none, .none, .none, .none, (.int (196) 0), (.int (3) 0), (.str (Str.ofString "/claim/cut.py") 197)].toArray), [].toArray⟩
noncomputable def o21g1 (P : Params) : Obj := ⟨(.type "frame"), none, .plain, [(some (.ref 20)), (some (.ref 3)), (some (.ref 17)), none, (some (.str (Str.ofString "postcore.base") 187)), none, (some (.ref 0))].toArray⟩
noncomputable def o22g1 (P : Params) : Obj := ⟨(.type "tuple"), none, (.seq [.none].toArray 0), [].toArray⟩
noncomputable def o23g1 (P : Params) : Obj := ⟨(.type "tuple"), none, (.seq [].toArray 0), [].toArray⟩
noncomputable def o24g1 (P : Params) : Obj := ⟨.none, none, (.fields [].toArray), [].toArray⟩
noncomputable def o25g1 (P : Params) : Obj := ⟨(.type "tuple"), none, (.seq [(.str (Str.ofString "self") 206), (.str (Str.ofString "told") 207)].toArray 0), [].toArray⟩
noncomputable def o26g1 (P : Params) : Obj := ⟨(.type "tuple"), none, (.seq [].toArray 0), [].toArray⟩
noncomputable def o27g1 (P : Params) : Obj := ⟨.none, none, (.func { name := (Str.ofString "__init__"), qualname := (Str.ofString "PostError.__init__"), params := dP (inC (st 2) 0), body := .stmts (dB (inC (st 2) 0)), scope := dS (inC (st 2) 0), globals := 0, closure := [], defaults := .none, kwdefaults := .none, doc := .none, pyModule := .none, annotations := none, code := .none, closureTuple := .none, builtins := 0 }), [].toArray⟩
noncomputable def o28g1 (P : Params) : Obj := ⟨(.type "code"), none, (.fields [(.str (Str.ofString "__init__") 203), (.str (Str.ofString "PostError.__init__") 204), (.str (Str.ofString "/claim/cut.py") 205), (.int (5) 0), (.int (2) 0), (.int (0) 0), (.int (0) 0), (.int (3) 0), (.ref 23), (.bool true), (.int (181) 0), (.ref 24), .none, (.ref 25), (.ref 26), (.ref 27), (.int (208) 0), (.int (5) 0), (.str (Str.ofString "/claim/cut.py") 209)].toArray), [].toArray⟩
noncomputable def o29g1 (P : Params) : Obj := ⟨(.type "function"), none, (.func { name := (Str.ofString "__init__"), qualname := (Str.ofString "PostError.__init__"), params := dP (inC (st 2) 0), body := .stmts (dB (inC (st 2) 0)), scope := dS (inC (st 2) 0), globals := 3, closure := [], defaults := (.ref 22), kwdefaults := .none, doc := .none, pyModule := (.str (Str.ofString "postcore.base") 187), annotations := none, code := (.ref 28), closureTuple := .none, builtins := 0 }), [].toArray⟩
noncomputable def o30g1 (P : Params) : Obj := ⟨(.type "tuple"), none, (.seq [(.str (Str.ofString "told") 211)].toArray 0), [].toArray⟩
noncomputable def o31g1 (P : Params) : Obj := ⟨(.type "dict"), none, (.dict [⟨(PyData.keyHash P (Str.ofString "__module__")), (.str (Str.ofString "__module__") 198), (.str (Str.ofString "postcore.base") 187)⟩, ⟨(PyData.keyHash P (Str.ofString "__firstlineno__")), (.str (Str.ofString "__firstlineno__") 202), (.int (3) 201)⟩, ⟨(PyData.keyHash P (Str.ofString "__init__")), (.str (Str.ofString "__init__") 210), (.ref 29)⟩, ⟨(PyData.keyHash P (Str.ofString "__static_attributes__")), (.str (Str.ofString "__static_attributes__") 212), (.ref 30)⟩, ⟨(PyData.keyHash P (Str.ofString "__weakref__")), (.str (Str.ofString "__weakref__") 214), (.ref 33)⟩, ⟨(PyData.keyHash P (Str.ofString "__doc__")), (.str (Str.ofString "__doc__") 215), .none⟩].toArray 3), [].toArray⟩
noncomputable def o32g1 (P : Params) : Obj := ⟨(.type "type"), none, (.cls { name := (Str.ofString "PostError"), bases := [(.type "Exception")], mro := [(.ref 32), (.type "Exception"), (.type "BaseException"), (.type "object")], ns := 31, qualname := (Str.ofString "PostError"), hasDict := true, slotNames := [], subclasses := [], abstract := false, collection := none, hasDel := false }), [(some (.ref 15)), none, (some (.str (Str.ofString "PostError") 191)), (some (.str (Str.ofString "PostError") 199)), (some (.builtin "Exception.__new__")), (some (.bool true))].toArray⟩
noncomputable def o33g1 (P : Params) : Obj := ⟨(.type "getset_descriptor"), none, (.fields [(.str (Str.ofString "__weakref__") 213), (.ref 32), (.builtin "ExceptionGroup.__weakref__"), .none].toArray), [].toArray⟩
noncomputable def o34g1 (P : Params) : Obj := ⟨(.type "super"), none, (.fields [(.ref 32), (.ref 32), (.ref 32)].toArray), [].toArray⟩
noncomputable def o35g1 (P : Params) : Obj := ⟨(.type "builtin_function_or_method"), none, (.fields [(.builtin "object.__init_subclass__"), (.ref 32)].toArray), [].toArray⟩
noncomputable def hpc6 (P : Params) : BT := (.node (o3g1 P) (.node (boot_o_7 P) (.node (o15g1 P) (.node (o31g1 P) .nil .nil) .nil) (.node (o23g1 P) .nil .nil)) (.node (o11a P) (.node (o19g1 P) (.node (o35g1 P) .nil .nil) .nil) (.node (o27g1 P) .nil .nil)))
noncomputable def hpc7 (P : Params) : BT := (.node (boot_o_5 P) (.node (boot_o_9 P) (.node (o17g1 P) (.node (o33g1 P) .nil .nil) .nil) (.node (o25g1 P) .nil .nil)) (.node (o13a P) (.node (o21g1 P) .nil .nil) (.node (o29g1 P) .nil .nil)))
noncomputable def hpc8 (P : Params) : BT := (.node (boot_o_4 P) (.node (boot_o_8 P) (.node (o16g1 P) (.node (o32g1 P) .nil .nil) .nil) (.node (o24g1 P) .nil .nil)) (.node (o12g1 P) (.node (o20g1 P) .nil .nil) (.node (o28g1 P) .nil .nil)))
noncomputable def hpc9 (P : Params) : BT := (.node (boot_o_6 P) (.node (boot_o_10 P) (.node (o18g1 P) (.node (o34g1 P) .nil .nil) .nil) (.node (o26g1 P) .nil .nil)) (.node (o14a P) (.node (o22g1 P) .nil .nil) (.node (o30g1 P) .nil .nil)))
noncomputable def hpc10 (P : Params) : BT := (.node (boot_o_0 P) (.node (boot_o_1 P) (hpc6 P) (hpc7 P)) (.node (o2g1 P) (hpc8 P) (hpc9 P)))
noncomputable def T1 (P : Params) : BT := (hpc10 P)
noncomputable def S1 (w : World) (os : OsState) : SharedT := ⟨T1 w.params, 36, {}, #[], {}, 220, os⟩
noncomputable def p1 : Pos := ⟨3, 0, 6, 24⟩
noncomputable def s1 : List Stmt := ((behindTheImports pw).drop 0).take 3
noncomputable def g1 : Prop := ∀ (w : World) (os : OsState), segRunT treeTable pw w 11 (some (.ref 6)) 1 248 (S0 w os) (piecesOf s1 env cE p0 B) = some (.next, S1 w os, cE, p1)
noncomputable def hpc11 (P : Params) (t : List DictEntry) : List DictEntry := ⟨(PyData.keyHash P (Str.ofString "__cached__")), (.str (Str.ofString "__cached__") 174), .none⟩ :: ⟨(PyData.keyHash P (Str.ofString "GRAIN")), (.str (Str.ofString "GRAIN") 190), (.int (1000000) 189)⟩ :: ⟨(PyData.keyHash P (Str.ofString "PostError")), (.str (Str.ofString "PostError") 219), (.ref 32)⟩ :: ⟨(PyData.keyHash P (Str.ofString "PsError")), (.str (Str.ofString "PsError") 235), (.ref 45)⟩ :: ⟨(PyData.keyHash P (Str.ofString "divided")), (.str (Str.ofString "divided") 248), (.ref 54)⟩ :: ⟨(PyData.keyHash P (Str.ofString "UNLIMITED")), (.str (Str.ofString "UNLIMITED") 252), (.int (3) 251)⟩ :: t
noncomputable def hpc12 (P : Params) (t : List DictEntry) : List DictEntry := ⟨(PyData.keyHash P (Str.ofString "__name__")), (.str (Str.ofString "__name__") 165), (.str (Str.ofString "postcore.objects") 249)⟩ :: ⟨(PyData.keyHash P (Str.ofString "__doc__")), (.str (Str.ofString "__doc__") 166), .none⟩ :: ⟨(PyData.keyHash P (Str.ofString "__package__")), (.str (Str.ofString "__package__") 167), .none⟩ :: ⟨(PyData.keyHash P (Str.ofString "__loader__")), (.str (Str.ofString "__loader__") 168), (.builtin "__main__.__loader__#opaque")⟩ :: ⟨(PyData.keyHash P (Str.ofString "__spec__")), (.str (Str.ofString "__spec__") 169), .none⟩ :: ⟨(PyData.keyHash P (Str.ofString "__annotations__")), (.str (Str.ofString "__annotations__") 170), (.ref 6)⟩ :: ⟨(PyData.keyHash P (Str.ofString "__builtins__")), (.str (Str.ofString "__builtins__") 171), (.ref 4)⟩ :: ⟨(PyData.keyHash P (Str.ofString "__file__")), (.str (Str.ofString "__file__") 173), (.str (Str.ofString "/claim/cut.py") 172)⟩ :: t
noncomputable def o3g2 (P : Params) : Obj := ⟨(.type "dict"), none, (.dict (hpc12 P (hpc11 P [])).toArray 14), [].toArray⟩
noncomputable def o12g2 (P : Params) : Obj := ⟨.none, none, (.fields [(.int (3) 0), (.int (0) 0), (.ref 20), (.int (7) 0), (.int (0) 0), (.ref 41), (.int (10) 0), (.int (0) 0), (.ref 53)].toArray), [].toArray⟩
noncomputable def o32g2 (P : Params) : Obj := ⟨(.type "type"), none, (.cls { name := (Str.ofString "PostError"), bases := [(.type "Exception")], mro := [(.ref 32), (.type "Exception"), (.type "BaseException"), (.type "object")], ns := 31, qualname := (Str.ofString "PostError"), hasDict := true, slotNames := [], subclasses := [(.ref 45)], abstract := false, collection := none, hasDel := false }), [(some (.ref 15)), none, (some (.str (Str.ofString "PostError") 191)), (some (.str (Str.ofString "PostError") 199)), (some (.builtin "Exception.__new__")), (some (.bool true))].toArray⟩
noncomputable def o36g2 (P : Params) : Obj := ⟨(.type "tuple"), none, (.seq [(.ref 32)].toArray 0), [].toArray⟩
noncomputable def o37g2 (P : Params) : Obj := ⟨(.type "builtin_function_or_method"), none, (.fields [(.builtin "type.__prepare__"), (.type "type")].toArray), [].toArray⟩
noncomputable def o38g2 (P : Params) : Obj := ⟨(.type "dict"), none, (.dict [⟨(PyData.keyHash P (Str.ofString "__module__")), (.str (Str.ofString "__module__") 227), (.str (Str.ofString "postcore.base") 187)⟩, ⟨(PyData.keyHash P (Str.ofString "__qualname__")), (.str (Str.ofString "__qualname__") 229), (.str (Str.ofString "PsError") 228)⟩, ⟨(PyData.keyHash P (Str.ofString "__firstlineno__")), (.str (Str.ofString "__firstlineno__") 231), (.int (7) 230)⟩, ⟨(PyData.keyHash P (Str.ofString "__static_attributes__")), (.str (Str.ofString "__static_attributes__") 232), (.ref 43)⟩].toArray 4), [].toArray⟩
noncomputable def o39g2 (P : Params) : Obj := ⟨(.type "tuple"), none, (.seq [].toArray 0), [].toArray⟩
noncomputable def o40g2 (P : Params) : Obj := ⟨.none, none, (.fields [].toArray), [].toArray⟩
noncomputable def o41g2 (P : Params) : Obj := ⟨(.type "code"), none, (.fields [(.str (Str.ofString "PsError") 222), (.str (Str.ofString "PsError") 223), (.str (Str.ofString "/claim/cut.py") 224), (.int (7) 0), (.int (0) 0), (.int (0) 0), (.int (0) 0), (.int (0) 0), (.ref 39), (.bool false), (.int (181) 0), (.ref 40), .none, .none, .none, .none, (.int (225) 0), (.int (7) 0), (.str (Str.ofString "/claim/cut.py") 226)].toArray), [].toArray⟩
noncomputable def o42g2 (P : Params) : Obj := ⟨(.type "frame"), none, .plain, [(some (.ref 41)), (some (.ref 3)), (some (.ref 38)), none, (some (.str (Str.ofString "postcore.base") 187)), none, (some (.ref 0))].toArray⟩
noncomputable def o43g2 (P : Params) : Obj := ⟨(.type "tuple"), none, (.seq [].toArray 0), [].toArray⟩
noncomputable def o44g2 (P : Params) : Obj := ⟨(.type "dict"), none, (.dict [⟨(PyData.keyHash P (Str.ofString "__module__")), (.str (Str.ofString "__module__") 227), (.str (Str.ofString "postcore.base") 187)⟩, ⟨(PyData.keyHash P (Str.ofString "__firstlineno__")), (.str (Str.ofString "__firstlineno__") 231), (.int (7) 230)⟩, ⟨(PyData.keyHash P (Str.ofString "__static_attributes__")), (.str (Str.ofString "__static_attributes__") 232), (.ref 43)⟩, ⟨(PyData.keyHash P (Str.ofString "__doc__")), (.str (Str.ofString "__doc__") 233), .none⟩].toArray 2), [].toArray⟩
noncomputable def o45g2 (P : Params) : Obj := ⟨(.type "type"), none, (.cls { name := (Str.ofString "PsError"), bases := [(.ref 32)], mro := [(.ref 45), (.ref 32), (.type "Exception"), (.type "BaseException"), (.type "object")], ns := 44, qualname := (Str.ofString "PsError"), hasDict := true, slotNames := [], subclasses := [], abstract := false, collection := none, hasDel := false }), [(some (.ref 36)), none, (some (.str (Str.ofString "PsError") 220)), (some (.str (Str.ofString "PsError") 228)), (some (.builtin "Exception.__new__")), (some (.bool true))].toArray⟩
noncomputable def o46g2 (P : Params) : Obj := ⟨(.type "super"), none, (.fields [(.ref 45), (.ref 45), (.ref 45)].toArray), [].toArray⟩
noncomputable def o47g2 (P : Params) : Obj := ⟨(.type "builtin_function_or_method"), none, (.fields [(.builtin "object.__init_subclass__"), (.ref 45)].toArray), [].toArray⟩
noncomputable def o48g2 (P : Params) : Obj := ⟨(.type "tuple"), none, (.seq [].toArray 0), [].toArray⟩
noncomputable def o49g2 (P : Params) : Obj := ⟨.none, none, (.fields [].toArray), [].toArray⟩
noncomputable def o50g2 (P : Params) : Obj := ⟨(.type "tuple"), none, (.seq [(.str (Str.ofString "number") 241), (.str (Str.ofString "by") 242), (.str (Str.ofString "size") 243), (.str (Str.ofString "parts") 244), (.str (Str.ofString "found") 245)].toArray 0), [].toArray⟩
noncomputable def o51g2 (P : Params) : Obj := ⟨(.type "tuple"), none, (.seq [].toArray 0), [].toArray⟩
noncomputable def o52g2 (P : Params) : Obj := ⟨.none, none, (.func { name := (Str.ofString "divided"), qualname := (Str.ofString "divided"), params := dP (st 5), body := .stmts (dB (st 5)), scope := dS (st 5), globals := 0, closure := [], defaults := .none, kwdefaults := .none, doc := .none, pyModule := .none, annotations := none, code := .none, closureTuple := .none, builtins := 0 }), [].toArray⟩
noncomputable def o53g2 (P : Params) : Obj := ⟨(.type "code"), none, (.fields [(.str (Str.ofString "divided") 238), (.str (Str.ofString "divided") 239), (.str (Str.ofString "/claim/cut.py") 240), (.int (10) 0), (.int (2) 0), (.int (0) 0), (.int (0) 0), (.int (3) 0), (.ref 48), (.bool true), (.int (181) 0), (.ref 49), .none, (.ref 50), (.ref 51), (.ref 52), (.int (246) 0), (.int (10) 0), (.str (Str.ofString "/claim/cut.py") 247)].toArray), [].toArray⟩
noncomputable def o54g2 (P : Params) : Obj := ⟨(.type "function"), none, (.func { name := (Str.ofString "divided"), qualname := (Str.ofString "divided"), params := dP (st 5), body := .stmts (dB (st 5)), scope := dS (st 5), globals := 3, closure := [], defaults := .none, kwdefaults := .none, doc := .none, pyModule := (.str (Str.ofString "postcore.numbers") 236), annotations := none, code := (.ref 53), closureTuple := .none, builtins := 0 }), [].toArray⟩
noncomputable def hpc13 (P : Params) : BT := (.node (o3g2 P) (.node (boot_o_7 P) (.node (o15g1 P) (.node (o31g1 P) .nil .nil) (.node (o47g2 P) .nil .nil)) (.node (o23g1 P) (.node (o39g2 P) .nil .nil) .nil)) (.node (o11a P) (.node (o19g1 P) (.node (o35g1 P) .nil .nil) (.node (o51g2 P) .nil .nil)) (.node (o27g1 P) (.node (o43g2 P) .nil .nil) .nil)))
noncomputable def hpc14 (P : Params) : BT := (.node (boot_o_5 P) (.node (boot_o_9 P) (.node (o17g1 P) (.node (o33g1 P) .nil .nil) (.node (o49g2 P) .nil .nil)) (.node (o25g1 P) (.node (o41g2 P) .nil .nil) .nil)) (.node (o13a P) (.node (o21g1 P) (.node (o37g2 P) .nil .nil) (.node (o53g2 P) .nil .nil)) (.node (o29g1 P) (.node (o45g2 P) .nil .nil) .nil)))
noncomputable def hpc15 (P : Params) : BT := (.node (boot_o_4 P) (.node (boot_o_8 P) (.node (o16g1 P) (.node (o32g2 P) .nil .nil) (.node (o48g2 P) .nil .nil)) (.node (o24g1 P) (.node (o40g2 P) .nil .nil) .nil)) (.node (o12g2 P) (.node (o20g1 P) (.node (o36g2 P) .nil .nil) (.node (o52g2 P) .nil .nil)) (.node (o28g1 P) (.node (o44g2 P) .nil .nil) .nil)))
noncomputable def hpc16 (P : Params) : BT := (.node (boot_o_6 P) (.node (boot_o_10 P) (.node (o18g1 P) (.node (o34g1 P) .nil .nil) (.node (o50g2 P) .nil .nil)) (.node (o26g1 P) (.node (o42g2 P) .nil .nil) .nil)) (.node (o14a P) (.node (o22g1 P) (.node (o38g2 P) .nil .nil) (.node (o54g2 P) .nil .nil)) (.node (o30g1 P) (.node (o46g2 P) .nil .nil) .nil)))
noncomputable def hpc17 (P : Params) : BT := (.node (boot_o_0 P) (.node (boot_o_1 P) (hpc13 P) (hpc14 P)) (.node (o2g1 P) (hpc15 P) (hpc16 P)))
noncomputable def T2 (P : Params) : BT := (hpc17 P)
noncomputable def S2 (w : World) (os : OsState) : SharedT := ⟨T2 w.params, 55, {}, #[], {}, 253, os⟩
noncomputable def p2 : Pos := ⟨15, 0, 15, 9⟩
noncomputable def s2 : List Stmt := ((behindTheImports pw).drop 3).take 5
noncomputable def g2 : Prop := ∀ (w : World) (os : OsState), segRunT treeTable pw w 11 (some (.ref 6)) 1 274 (S1 w os) (piecesOf s2 env cE p1 B) = some (.next, S2 w os, cE, p2)
noncomputable def hpc18 (P : Params) (t : List DictEntry) : List DictEntry := ⟨(PyData.keyHash P (Str.ofString "GRAY")), (.str (Str.ofString "GRAY") 298), (.bytes #[68, 101, 118, 105, 99, 101, 71, 114, 97, 121] 297)⟩ :: ⟨(PyData.keyHash P (Str.ofString "RGB")), (.str (Str.ofString "RGB") 300), (.bytes #[68, 101, 118, 105, 99, 101, 82, 71, 66] 299)⟩ :: ⟨(PyData.keyHash P (Str.ofString "CMYK")), (.str (Str.ofString "CMYK") 302), (.bytes #[68, 101, 118, 105, 99, 101, 67, 77, 89, 75] 301)⟩ :: t
noncomputable def hpc19 (P : Params) (t : List DictEntry) : List DictEntry := ⟨(PyData.keyHash P (Str.ofString "__cached__")), (.str (Str.ofString "__cached__") 174), .none⟩ :: ⟨(PyData.keyHash P (Str.ofString "GRAIN")), (.str (Str.ofString "GRAIN") 190), (.int (1000000) 189)⟩ :: ⟨(PyData.keyHash P (Str.ofString "PostError")), (.str (Str.ofString "PostError") 219), (.ref 32)⟩ :: ⟨(PyData.keyHash P (Str.ofString "PsError")), (.str (Str.ofString "PsError") 235), (.ref 45)⟩ :: ⟨(PyData.keyHash P (Str.ofString "divided")), (.str (Str.ofString "divided") 248), (.ref 54)⟩ :: ⟨(PyData.keyHash P (Str.ofString "UNLIMITED")), (.str (Str.ofString "UNLIMITED") 252), (.int (3) 251)⟩ :: ⟨(PyData.keyHash P (Str.ofString "Thing")), (.str (Str.ofString "Thing") 287), (.ref 72)⟩ :: ⟨(PyData.keyHash P (Str.ofString "things_of_span")), (.str (Str.ofString "things_of_span") 294), (.ref 83)⟩ :: t
noncomputable def hpc20 (P : Params) (t : List DictEntry) : List DictEntry := ⟨(PyData.keyHash P (Str.ofString "__name__")), (.str (Str.ofString "__name__") 165), (.str (Str.ofString "postcore.colours") 295)⟩ :: ⟨(PyData.keyHash P (Str.ofString "__doc__")), (.str (Str.ofString "__doc__") 166), .none⟩ :: ⟨(PyData.keyHash P (Str.ofString "__package__")), (.str (Str.ofString "__package__") 167), .none⟩ :: ⟨(PyData.keyHash P (Str.ofString "__loader__")), (.str (Str.ofString "__loader__") 168), (.builtin "__main__.__loader__#opaque")⟩ :: ⟨(PyData.keyHash P (Str.ofString "__spec__")), (.str (Str.ofString "__spec__") 169), .none⟩ :: ⟨(PyData.keyHash P (Str.ofString "__annotations__")), (.str (Str.ofString "__annotations__") 170), (.ref 6)⟩ :: ⟨(PyData.keyHash P (Str.ofString "__builtins__")), (.str (Str.ofString "__builtins__") 171), (.ref 4)⟩ :: ⟨(PyData.keyHash P (Str.ofString "__file__")), (.str (Str.ofString "__file__") 173), (.str (Str.ofString "/claim/cut.py") 172)⟩ :: t
noncomputable def o3g3 (P : Params) : Obj := ⟨(.type "dict"), none, (.dict (hpc20 P (hpc19 P (hpc18 P []))).toArray 19), [].toArray⟩
noncomputable def o12g3 (P : Params) : Obj := ⟨.none, none, (.fields [(.int (3) 0), (.int (0) 0), (.ref 20), (.int (7) 0), (.int (0) 0), (.ref 41), (.int (10) 0), (.int (0) 0), (.ref 53), (.int (16) 0), (.int (0) 0), (.ref 60), (.int (23) 0), (.int (0) 0), (.ref 82)].toArray), [].toArray⟩
noncomputable def o55g3 (P : Params) : Obj := ⟨(.type "tuple"), none, (.seq [].toArray 0), [].toArray⟩
noncomputable def o56g3 (P : Params) : Obj := ⟨(.type "builtin_function_or_method"), none, (.fields [(.builtin "type.__prepare__"), (.type "type")].toArray), [].toArray⟩
noncomputable def o57g3 (P : Params) : Obj := ⟨(.type "dict"), none, (.dict [⟨(PyData.keyHash P (Str.ofString "__module__")), (.str (Str.ofString "__module__") 260), (.str (Str.ofString "postcore.objects") 249)⟩, ⟨(PyData.keyHash P (Str.ofString "__qualname__")), (.str (Str.ofString "__qualname__") 262), (.str (Str.ofString "Thing") 261)⟩, ⟨(PyData.keyHash P (Str.ofString "__firstlineno__")), (.str (Str.ofString "__firstlineno__") 264), (.int (16) 263)⟩, ⟨(PyData.keyHash P (Str.ofString "__init__")), (.str (Str.ofString "__init__") 275), (.ref 69)⟩, ⟨(PyData.keyHash P (Str.ofString "__static_attributes__")), (.str (Str.ofString "__static_attributes__") 280), (.ref 70)⟩].toArray 5), [].toArray⟩
noncomputable def o58g3 (P : Params) : Obj := ⟨(.type "tuple"), none, (.seq [].toArray 0), [].toArray⟩
noncomputable def o59g3 (P : Params) : Obj := ⟨.none, none, (.fields [(.int (18) 0), (.int (4) 0), (.ref 68)].toArray), [].toArray⟩
noncomputable def o60g3 (P : Params) : Obj := ⟨(.type "code"), none, (.fields [(.str (Str.ofString "Thing") 255), (.str (Str.ofString "Thing") 256), (.str (Str.ofString "/claim/cut.py") 257), (.int (16) 0), (.int (0) 0), (.int (0) 0), (.int (0) 0), (.int (0) 0), (.ref 58), (.bool false), (.int (181) 0), (.ref 59), .none, .none, .none, .none, (.int (258) 0), (.int (16) 0), (.str (Str.ofString "/claim/cut.py") 259)].toArray), [].toArray⟩
noncomputable def o61g3 (P : Params) : Obj := ⟨(.type "frame"), none, .plain, [(some (.ref 60)), (some (.ref 3)), (some (.ref 57)), none, (some (.str (Str.ofString "postcore.objects") 249)), none, (some (.ref 0))].toArray⟩
noncomputable def o62g3 (P : Params) : Obj := ⟨(.type "tuple"), none, (.seq [(.bool false), (.int (3) 251)].toArray 0), [].toArray⟩
noncomputable def o63g3 (P : Params) : Obj := ⟨(.type "tuple"), none, (.seq [].toArray 0), [].toArray⟩
noncomputable def o64g3 (P : Params) : Obj := ⟨.none, none, (.fields [].toArray), [].toArray⟩
noncomputable def o65g3 (P : Params) : Obj := ⟨(.type "tuple"), none, (.seq [(.str (Str.ofString "self") 268), (.str (Str.ofString "kind") 269), (.str (Str.ofString "value") 270), (.str (Str.ofString "is_exec") 271), (.str (Str.ofString "access") 272)].toArray 0), [].toArray⟩
noncomputable def o66g3 (P : Params) : Obj := ⟨(.type "tuple"), none, (.seq [].toArray 0), [].toArray⟩
noncomputable def o67g3 (P : Params) : Obj := ⟨.none, none, (.func { name := (Str.ofString "__init__"), qualname := (Str.ofString "Thing.__init__"), params := dP (inC (st 8) 0), body := .stmts (dB (inC (st 8) 0)), scope := dS (inC (st 8) 0), globals := 0, closure := [], defaults := .none, kwdefaults := .none, doc := .none, pyModule := .none, annotations := none, code := .none, closureTuple := .none, builtins := 0 }), [].toArray⟩
noncomputable def o68g3 (P : Params) : Obj := ⟨(.type "code"), none, (.fields [(.str (Str.ofString "__init__") 265), (.str (Str.ofString "Thing.__init__") 266), (.str (Str.ofString "/claim/cut.py") 267), (.int (18) 0), (.int (5) 0), (.int (0) 0), (.int (0) 0), (.int (3) 0), (.ref 63), (.bool true), (.int (181) 0), (.ref 64), .none, (.ref 65), (.ref 66), (.ref 67), (.int (273) 0), (.int (18) 0), (.str (Str.ofString "/claim/cut.py") 274)].toArray), [].toArray⟩
noncomputable def o69g3 (P : Params) : Obj := ⟨(.type "function"), none, (.func { name := (Str.ofString "__init__"), qualname := (Str.ofString "Thing.__init__"), params := dP (inC (st 8) 0), body := .stmts (dB (inC (st 8) 0)), scope := dS (inC (st 8) 0), globals := 3, closure := [], defaults := (.ref 62), kwdefaults := .none, doc := .none, pyModule := (.str (Str.ofString "postcore.objects") 249), annotations := none, code := (.ref 68), closureTuple := .none, builtins := 0 }), [].toArray⟩
noncomputable def o70g3 (P : Params) : Obj := ⟨(.type "tuple"), none, (.seq [(.str (Str.ofString "access") 276), (.str (Str.ofString "is_exec") 277), (.str (Str.ofString "kind") 278), (.str (Str.ofString "value") 279)].toArray 0), [].toArray⟩
noncomputable def o71g3 (P : Params) : Obj := ⟨(.type "dict"), none, (.dict [⟨(PyData.keyHash P (Str.ofString "__module__")), (.str (Str.ofString "__module__") 260), (.str (Str.ofString "postcore.objects") 249)⟩, ⟨(PyData.keyHash P (Str.ofString "__firstlineno__")), (.str (Str.ofString "__firstlineno__") 264), (.int (16) 263)⟩, ⟨(PyData.keyHash P (Str.ofString "__init__")), (.str (Str.ofString "__init__") 275), (.ref 69)⟩, ⟨(PyData.keyHash P (Str.ofString "__static_attributes__")), (.str (Str.ofString "__static_attributes__") 280), (.ref 70)⟩, ⟨(PyData.keyHash P (Str.ofString "__dict__")), (.str (Str.ofString "__dict__") 282), (.ref 73)⟩, ⟨(PyData.keyHash P (Str.ofString "__weakref__")), (.str (Str.ofString "__weakref__") 284), (.ref 74)⟩, ⟨(PyData.keyHash P (Str.ofString "__doc__")), (.str (Str.ofString "__doc__") 285), .none⟩].toArray 4), [].toArray⟩
noncomputable def o72g3 (P : Params) : Obj := ⟨(.type "type"), none, (.cls { name := (Str.ofString "Thing"), bases := [(.type "object")], mro := [(.ref 72), (.type "object")], ns := 71, qualname := (Str.ofString "Thing"), hasDict := true, slotNames := [], subclasses := [], abstract := false, collection := none, hasDel := false }), [none, none, (some (.str (Str.ofString "Thing") 253)), (some (.str (Str.ofString "Thing") 261)), (some (.builtin "object.__new__")), (some (.bool true))].toArray⟩
noncomputable def o73g3 (P : Params) : Obj := ⟨(.type "getset_descriptor"), none, (.fields [(.str (Str.ofString "__dict__") 281), (.ref 72), (.builtin "function.__dict__"), (.builtin "function.__dict__#set")].toArray), [].toArray⟩
noncomputable def o74g3 (P : Params) : Obj := ⟨(.type "getset_descriptor"), none, (.fields [(.str (Str.ofString "__weakref__") 283), (.ref 72), (.builtin "ExceptionGroup.__weakref__"), .none].toArray), [].toArray⟩
noncomputable def o75g3 (P : Params) : Obj := ⟨(.type "super"), none, (.fields [(.ref 72), (.ref 72), (.ref 72)].toArray), [].toArray⟩
noncomputable def o76g3 (P : Params) : Obj := ⟨(.type "builtin_function_or_method"), none, (.fields [(.builtin "object.__init_subclass__"), (.ref 72)].toArray), [].toArray⟩
noncomputable def o77g3 (P : Params) : Obj := ⟨(.type "tuple"), none, (.seq [].toArray 0), [].toArray⟩
noncomputable def o78g3 (P : Params) : Obj := ⟨.none, none, (.fields [].toArray), [].toArray⟩
noncomputable def o79g3 (P : Params) : Obj := ⟨(.type "tuple"), none, (.seq [(.str (Str.ofString "span") 291)].toArray 0), [].toArray⟩
noncomputable def o80g3 (P : Params) : Obj := ⟨(.type "tuple"), none, (.seq [].toArray 0), [].toArray⟩
noncomputable def o81g3 (P : Params) : Obj := ⟨.none, none, (.func { name := (Str.ofString "things_of_span"), qualname := (Str.ofString "things_of_span"), params := dP (st 9), body := .stmts (dB (st 9)), scope := dS (st 9), globals := 0, closure := [], defaults := .none, kwdefaults := .none, doc := .none, pyModule := .none, annotations := none, code := .none, closureTuple := .none, builtins := 0 }), [].toArray⟩
noncomputable def o82g3 (P : Params) : Obj := ⟨(.type "code"), none, (.fields [(.str (Str.ofString "things_of_span") 288), (.str (Str.ofString "things_of_span") 289), (.str (Str.ofString "/claim/cut.py") 290), (.int (23) 0), (.int (1) 0), (.int (0) 0), (.int (0) 0), (.int (3) 0), (.ref 77), (.bool true), (.int (181) 0), (.ref 78), .none, (.ref 79), (.ref 80), (.ref 81), (.int (292) 0), (.int (23) 0), (.str (Str.ofString "/claim/cut.py") 293)].toArray), [].toArray⟩
noncomputable def o83g3 (P : Params) : Obj := ⟨(.type "function"), none, (.func { name := (Str.ofString "things_of_span"), qualname := (Str.ofString "things_of_span"), params := dP (st 9), body := .stmts (dB (st 9)), scope := dS (st 9), globals := 3, closure := [], defaults := .none, kwdefaults := .none, doc := .none, pyModule := (.str (Str.ofString "postcore.objects") 249), annotations := none, code := (.ref 82), closureTuple := .none, builtins := 0 }), [].toArray⟩
noncomputable def hpc21 (P : Params) : BT := (.node (boot_o_7 P) (.node (o15g1 P) (.node (o31g1 P) (.node (o63g3 P) .nil .nil) .nil) (.node (o47g2 P) (.node (o79g3 P) .nil .nil) .nil)) (.node (o23g1 P) (.node (o39g2 P) (.node (o71g3 P) .nil .nil) .nil) (.node (o55g3 P) .nil .nil)))
noncomputable def hpc22 (P : Params) : BT := (.node (o11a P) (.node (o19g1 P) (.node (o35g1 P) (.node (o67g3 P) .nil .nil) .nil) (.node (o51g2 P) (.node (o83g3 P) .nil .nil) .nil)) (.node (o27g1 P) (.node (o43g2 P) (.node (o75g3 P) .nil .nil) .nil) (.node (o59g3 P) .nil .nil)))
noncomputable def hpc23 (P : Params) : BT := (.node (boot_o_9 P) (.node (o17g1 P) (.node (o33g1 P) (.node (o65g3 P) .nil .nil) .nil) (.node (o49g2 P) (.node (o81g3 P) .nil .nil) .nil)) (.node (o25g1 P) (.node (o41g2 P) (.node (o73g3 P) .nil .nil) .nil) (.node (o57g3 P) .nil .nil)))
noncomputable def hpc24 (P : Params) : BT := (.node (o13a P) (.node (o21g1 P) (.node (o37g2 P) (.node (o69g3 P) .nil .nil) .nil) (.node (o53g2 P) .nil .nil)) (.node (o29g1 P) (.node (o45g2 P) (.node (o77g3 P) .nil .nil) .nil) (.node (o61g3 P) .nil .nil)))
noncomputable def hpc25 (P : Params) : BT := (.node (boot_o_1 P) (.node (o3g3 P) (hpc21 P) (hpc22 P)) (.node (boot_o_5 P) (hpc23 P) (hpc24 P)))
noncomputable def hpc26 (P : Params) : BT := (.node (boot_o_8 P) (.node (o16g1 P) (.node (o32g2 P) (.node (o64g3 P) .nil .nil) .nil) (.node (o48g2 P) (.node (o80g3 P) .nil .nil) .nil)) (.node (o24g1 P) (.node (o40g2 P) (.node (o72g3 P) .nil .nil) .nil) (.node (o56g3 P) .nil .nil)))
noncomputable def hpc27 (P : Params) : BT := (.node (o12g3 P) (.node (o20g1 P) (.node (o36g2 P) (.node (o68g3 P) .nil .nil) .nil) (.node (o52g2 P) .nil .nil)) (.node (o28g1 P) (.node (o44g2 P) (.node (o76g3 P) .nil .nil) .nil) (.node (o60g3 P) .nil .nil)))
noncomputable def hpc28 (P : Params) : BT := (.node (boot_o_10 P) (.node (o18g1 P) (.node (o34g1 P) (.node (o66g3 P) .nil .nil) .nil) (.node (o50g2 P) (.node (o82g3 P) .nil .nil) .nil)) (.node (o26g1 P) (.node (o42g2 P) (.node (o74g3 P) .nil .nil) .nil) (.node (o58g3 P) .nil .nil)))
noncomputable def hpc29 (P : Params) : BT := (.node (o14a P) (.node (o22g1 P) (.node (o38g2 P) (.node (o70g3 P) .nil .nil) .nil) (.node (o54g2 P) .nil .nil)) (.node (o30g1 P) (.node (o46g2 P) (.node (o78g3 P) .nil .nil) .nil) (.node (o62g3 P) .nil .nil)))
noncomputable def hpc30 (P : Params) : BT := (.node (o2g1 P) (.node (boot_o_4 P) (hpc26 P) (hpc27 P)) (.node (boot_o_6 P) (hpc28 P) (hpc29 P)))
noncomputable def T3 (P : Params) : BT := (.node (boot_o_0 P) (hpc25 P) (hpc30 P))
noncomputable def S3 (w : World) (os : OsState) : SharedT := ⟨T3 w.params, 84, {}, #[], {}, 303, os⟩
noncomputable def p3 : Pos := ⟨28, 0, 28, 4⟩
noncomputable def s3 : List Stmt := ((behindTheImports pw).drop 8).take 6
noncomputable def g3 : Prop := ∀ (w : World) (os : OsState), segRunT treeTable pw w 11 (some (.ref 6)) 1 299 (S2 w os) (piecesOf s3 env cE p2 B) = some (.next, S3 w os, cE, p3)
noncomputable def hpc31 (P : Params) (t : List DictEntry) : List DictEntry := ⟨(PyData.keyHash P (Str.ofString "GRAY")), (.str (Str.ofString "GRAY") 298), (.bytes #[68, 101, 118, 105, 99, 101, 71, 114, 97, 121] 297)⟩ :: ⟨(PyData.keyHash P (Str.ofString "RGB")), (.str (Str.ofString "RGB") 300), (.bytes #[68, 101, 118, 105, 99, 101, 82, 71, 66] 299)⟩ :: ⟨(PyData.keyHash P (Str.ofString "CMYK")), (.str (Str.ofString "CMYK") 302), (.bytes #[68, 101, 118, 105, 99, 101, 67, 77, 89, 75] 301)⟩ :: ⟨(PyData.keyHash P (Str.ofString "INDEXED")), (.str (Str.ofString "INDEXED") 304), (.bytes #[73, 110, 100, 101, 120, 101, 100] 303)⟩ :: ⟨(PyData.keyHash P (Str.ofString "SEPARATION")), (.str (Str.ofString "SEPARATION") 306), (.bytes #[83, 101, 112, 97, 114, 97, 116, 105, 111, 110] 305)⟩ :: ⟨(PyData.keyHash P (Str.ofString "PATTERN")), (.str (Str.ofString "PATTERN") 308), (.bytes #[80, 97, 116, 116, 101, 114, 110] 307)⟩ :: t
noncomputable def o3g4 (P : Params) : Obj := ⟨(.type "dict"), none, (.dict (hpc20 P (hpc19 P (hpc31 P []))).toArray 22), [].toArray⟩
noncomputable def hpc32 (P : Params) : BT := (.node (boot_o_1 P) (.node (o3g4 P) (hpc21 P) (hpc22 P)) (.node (boot_o_5 P) (hpc23 P) (hpc24 P)))
noncomputable def T4 (P : Params) : BT := (.node (boot_o_0 P) (hpc32 P) (hpc30 P))
noncomputable def S4 (w : World) (os : OsState) : SharedT := ⟨T4 w.params, 84, {}, #[], {}, 309, os⟩
noncomputable def p4 : Pos := ⟨31, 0, 31, 7⟩
noncomputable def s4 : List Stmt := ((behindTheImports pw).drop 14).take 3
noncomputable def g4 : Prop := ∀ (w : World) (os : OsState), segRunT treeTable pw w 11 (some (.ref 6)) 1 28 (S3 w os) (piecesOf s4 env cE p3 B) = some (.next, S4 w os, cE, p4)
noncomputable def hpc33 (P : Params) (t : List DictEntry) : List DictEntry := ⟨(PyData.keyHash P (Str.ofString "GRAY")), (.str (Str.ofString "GRAY") 298), (.bytes #[68, 101, 118, 105, 99, 101, 71, 114, 97, 121] 297)⟩ :: ⟨(PyData.keyHash P (Str.ofString "RGB")), (.str (Str.ofString "RGB") 300), (.bytes #[68, 101, 118, 105, 99, 101, 82, 71, 66] 299)⟩ :: ⟨(PyData.keyHash P (Str.ofString "CMYK")), (.str (Str.ofString "CMYK") 302), (.bytes #[68, 101, 118, 105, 99, 101, 67, 77, 89, 75] 301)⟩ :: ⟨(PyData.keyHash P (Str.ofString "INDEXED")), (.str (Str.ofString "INDEXED") 304), (.bytes #[73, 110, 100, 101, 120, 101, 100] 303)⟩ :: ⟨(PyData.keyHash P (Str.ofString "SEPARATION")), (.str (Str.ofString "SEPARATION") 306), (.bytes #[83, 101, 112, 97, 114, 97, 116, 105, 111, 110] 305)⟩ :: ⟨(PyData.keyHash P (Str.ofString "PATTERN")), (.str (Str.ofString "PATTERN") 308), (.bytes #[80, 97, 116, 116, 101, 114, 110] 307)⟩ :: ⟨(PyData.keyHash P (Str.ofString "DEVICE_PARTS")), (.str (Str.ofString "DEVICE_PARTS") 315), (.ref 84)⟩ :: t
noncomputable def o3g5 (P : Params) : Obj := ⟨(.type "dict"), none, (.dict (hpc20 P (hpc19 P (hpc33 P []))).toArray 23), [].toArray⟩
noncomputable def o84g5 (P : Params) : Obj := ⟨(.type "dict"), none, (.dict [⟨(PyData.keyHash P ⟨#[68, 101, 118, 105, 99, 101, 71, 114, 97, 121]⟩), (.bytes #[68, 101, 118, 105, 99, 101, 71, 114, 97, 121] 297), (.int (1) 309)⟩, ⟨(PyData.keyHash P ⟨#[68, 101, 118, 105, 99, 101, 82, 71, 66]⟩), (.bytes #[68, 101, 118, 105, 99, 101, 82, 71, 66] 299), (.int (3) 310)⟩, ⟨(PyData.keyHash P ⟨#[68, 101, 118, 105, 99, 101, 67, 77, 89, 75]⟩), (.bytes #[68, 101, 118, 105, 99, 101, 67, 77, 89, 75] 301), (.int (4) 311)⟩].toArray 3), [].toArray⟩
noncomputable def hpc34 (P : Params) : BT := (.node (boot_o_1 P) (.node (o3g5 P) (hpc21 P) (hpc22 P)) (.node (boot_o_5 P) (hpc23 P) (hpc24 P)))
noncomputable def hpc35 (P : Params) : BT := (.node (o12g3 P) (.node (o20g1 P) (.node (o36g2 P) (.node (o68g3 P) .nil .nil) .nil) (.node (o52g2 P) (.node (o84g5 P) .nil .nil) .nil)) (.node (o28g1 P) (.node (o44g2 P) (.node (o76g3 P) .nil .nil) .nil) (.node (o60g3 P) .nil .nil)))
noncomputable def hpc36 (P : Params) : BT := (.node (o2g1 P) (.node (boot_o_4 P) (hpc26 P) (hpc35 P)) (.node (boot_o_6 P) (hpc28 P) (hpc29 P)))
noncomputable def T5 (P : Params) : BT := (.node (boot_o_0 P) (hpc34 P) (hpc36 P))
noncomputable def S5 (w : World) (os : OsState) : SharedT := ⟨T5 w.params, 85, {}, #[], {}, 316, os⟩
noncomputable def p5 : Pos := ⟨32, 0, 32, 12⟩
noncomputable def s5 : List Stmt := ((behindTheImports pw).drop 17).take 1
noncomputable def g5 : Prop := ∀ (w : World) (os : OsState), segRunT treeTable pw w 11 (some (.ref 6)) 1 56 (S4 w os) (piecesOf s5 env cE p4 B) = some (.next, S5 w os, cE, p5)
noncomputable def hpc37 (P : Params) (t : List DictEntry) : List DictEntry := ⟨(PyData.keyHash P (Str.ofString "colour_clamped")), (.str (Str.ofString "colour_clamped") 324), (.ref 91)⟩ :: t
noncomputable def hpc38 (P : Params) (t : List DictEntry) : List DictEntry := ⟨(PyData.keyHash P (Str.ofString "GRAY")), (.str (Str.ofString "GRAY") 298), (.bytes #[68, 101, 118, 105, 99, 101, 71, 114, 97, 121] 297)⟩ :: ⟨(PyData.keyHash P (Str.ofString "RGB")), (.str (Str.ofString "RGB") 300), (.bytes #[68, 101, 118, 105, 99, 101, 82, 71, 66] 299)⟩ :: ⟨(PyData.keyHash P (Str.ofString "CMYK")), (.str (Str.ofString "CMYK") 302), (.bytes #[68, 101, 118, 105, 99, 101, 67, 77, 89, 75] 301)⟩ :: ⟨(PyData.keyHash P (Str.ofString "INDEXED")), (.str (Str.ofString "INDEXED") 304), (.bytes #[73, 110, 100, 101, 120, 101, 100] 303)⟩ :: ⟨(PyData.keyHash P (Str.ofString "SEPARATION")), (.str (Str.ofString "SEPARATION") 306), (.bytes #[83, 101, 112, 97, 114, 97, 116, 105, 111, 110] 305)⟩ :: ⟨(PyData.keyHash P (Str.ofString "PATTERN")), (.str (Str.ofString "PATTERN") 308), (.bytes #[80, 97, 116, 116, 101, 114, 110] 307)⟩ :: ⟨(PyData.keyHash P (Str.ofString "DEVICE_PARTS")), (.str (Str.ofString "DEVICE_PARTS") 315), (.ref 84)⟩ :: ⟨(PyData.keyHash P (Str.ofString "MOST_LEVEL")), (.str (Str.ofString "MOST_LEVEL") 317), (.int (255) 316)⟩ :: t
noncomputable def o3g6 (P : Params) : Obj := ⟨(.type "dict"), none, (.dict (hpc20 P (hpc19 P (hpc38 P (hpc37 P [])))).toArray 25), [].toArray⟩
noncomputable def o12g6 (P : Params) : Obj := ⟨.none, none, (.fields [(.int (3) 0), (.int (0) 0), (.ref 20), (.int (7) 0), (.int (0) 0), (.ref 41), (.int (10) 0), (.int (0) 0), (.ref 53), (.int (16) 0), (.int (0) 0), (.ref 60), (.int (23) 0), (.int (0) 0), (.ref 82), (.int (34) 0), (.int (0) 0), (.ref 90)].toArray), [].toArray⟩
noncomputable def o85g6 (P : Params) : Obj := ⟨(.type "tuple"), none, (.seq [].toArray 0), [].toArray⟩
noncomputable def o86g6 (P : Params) : Obj := ⟨.none, none, (.fields [].toArray), [].toArray⟩
noncomputable def o87g6 (P : Params) : Obj := ⟨(.type "tuple"), none, (.seq [(.str (Str.ofString "part") 321)].toArray 0), [].toArray⟩
noncomputable def o88g6 (P : Params) : Obj := ⟨(.type "tuple"), none, (.seq [].toArray 0), [].toArray⟩
noncomputable def o89g6 (P : Params) : Obj := ⟨.none, none, (.func { name := (Str.ofString "colour_clamped"), qualname := (Str.ofString "colour_clamped"), params := dP (st 19), body := .stmts (dB (st 19)), scope := dS (st 19), globals := 0, closure := [], defaults := .none, kwdefaults := .none, doc := .none, pyModule := .none, annotations := none, code := .none, closureTuple := .none, builtins := 0 }), [].toArray⟩
noncomputable def o90g6 (P : Params) : Obj := ⟨(.type "code"), none, (.fields [(.str (Str.ofString "colour_clamped") 318), (.str (Str.ofString "colour_clamped") 319), (.str (Str.ofString "/claim/cut.py") 320), (.int (34) 0), (.int (1) 0), (.int (0) 0), (.int (0) 0), (.int (3) 0), (.ref 85), (.bool true), (.int (181) 0), (.ref 86), .none, (.ref 87), (.ref 88), (.ref 89), (.int (322) 0), (.int (34) 0), (.str (Str.ofString "/claim/cut.py") 323)].toArray), [].toArray⟩
noncomputable def o91g6 (P : Params) : Obj := ⟨(.type "function"), none, (.func { name := (Str.ofString "colour_clamped"), qualname := (Str.ofString "colour_clamped"), params := dP (st 19), body := .stmts (dB (st 19)), scope := dS (st 19), globals := 3, closure := [], defaults := .none, kwdefaults := .none, doc := .none, pyModule := (.str (Str.ofString "postcore.colours") 295), annotations := none, code := (.ref 90), closureTuple := .none, builtins := 0 }), [].toArray⟩
noncomputable def hpc39 (P : Params) : BT := (.node (boot_o_7 P) (.node (o15g1 P) (.node (o31g1 P) (.node (o63g3 P) .nil .nil) .nil) (.node (o47g2 P) (.node (o79g3 P) .nil .nil) .nil)) (.node (o23g1 P) (.node (o39g2 P) (.node (o71g3 P) .nil .nil) .nil) (.node (o55g3 P) (.node (o87g6 P) .nil .nil) .nil)))
noncomputable def hpc40 (P : Params) : BT := (.node (o11a P) (.node (o19g1 P) (.node (o35g1 P) (.node (o67g3 P) .nil .nil) .nil) (.node (o51g2 P) (.node (o83g3 P) .nil .nil) .nil)) (.node (o27g1 P) (.node (o43g2 P) (.node (o75g3 P) .nil .nil) .nil) (.node (o59g3 P) (.node (o91g6 P) .nil .nil) .nil)))
noncomputable def hpc41 (P : Params) : BT := (.node (boot_o_9 P) (.node (o17g1 P) (.node (o33g1 P) (.node (o65g3 P) .nil .nil) .nil) (.node (o49g2 P) (.node (o81g3 P) .nil .nil) .nil)) (.node (o25g1 P) (.node (o41g2 P) (.node (o73g3 P) .nil .nil) .nil) (.node (o57g3 P) (.node (o89g6 P) .nil .nil) .nil)))
noncomputable def hpc42 (P : Params) : BT := (.node (o13a P) (.node (o21g1 P) (.node (o37g2 P) (.node (o69g3 P) .nil .nil) .nil) (.node (o53g2 P) (.node (o85g6 P) .nil .nil) .nil)) (.node (o29g1 P) (.node (o45g2 P) (.node (o77g3 P) .nil .nil) .nil) (.node (o61g3 P) .nil .nil)))
noncomputable def hpc43 (P : Params) : BT := (.node (boot_o_1 P) (.node (o3g6 P) (hpc39 P) (hpc40 P)) (.node (boot_o_5 P) (hpc41 P) (hpc42 P)))
noncomputable def hpc44 (P : Params) : BT := (.node (boot_o_8 P) (.node (o16g1 P) (.node (o32g2 P) (.node (o64g3 P) .nil .nil) .nil) (.node (o48g2 P) (.node (o80g3 P) .nil .nil) .nil)) (.node (o24g1 P) (.node (o40g2 P) (.node (o72g3 P) .nil .nil) .nil) (.node (o56g3 P) (.node (o88g6 P) .nil .nil) .nil)))
noncomputable def hpc45 (P : Params) : BT := (.node (o12g6 P) (.node (o20g1 P) (.node (o36g2 P) (.node (o68g3 P) .nil .nil) .nil) (.node (o52g2 P) (.node (o84g5 P) .nil .nil) .nil)) (.node (o28g1 P) (.node (o44g2 P) (.node (o76g3 P) .nil .nil) .nil) (.node (o60g3 P) .nil .nil)))
noncomputable def hpc46 (P : Params) : BT := (.node (boot_o_10 P) (.node (o18g1 P) (.node (o34g1 P) (.node (o66g3 P) .nil .nil) .nil) (.node (o50g2 P) (.node (o82g3 P) .nil .nil) .nil)) (.node (o26g1 P) (.node (o42g2 P) (.node (o74g3 P) .nil .nil) .nil) (.node (o58g3 P) (.node (o90g6 P) .nil .nil) .nil)))
noncomputable def hpc47 (P : Params) : BT := (.node (o14a P) (.node (o22g1 P) (.node (o38g2 P) (.node (o70g3 P) .nil .nil) .nil) (.node (o54g2 P) (.node (o86g6 P) .nil .nil) .nil)) (.node (o30g1 P) (.node (o46g2 P) (.node (o78g3 P) .nil .nil) .nil) (.node (o62g3 P) .nil .nil)))
noncomputable def hpc48 (P : Params) : BT := (.node (o2g1 P) (.node (boot_o_4 P) (hpc44 P) (hpc45 P)) (.node (boot_o_6 P) (hpc46 P) (hpc47 P)))
noncomputable def T6 (P : Params) : BT := (.node (boot_o_0 P) (hpc43 P) (hpc48 P))
noncomputable def S6 (w : World) (os : OsState) : SharedT := ⟨T6 w.params, 92, {}, #[], {}, 325, os⟩
noncomputable def p6 : Pos := ⟨34, 0, 35, 35⟩
noncomputable def s6 : List Stmt := ((behindTheImports pw).drop 18).take 2
noncomputable def g6 : Prop := ∀ (w : World) (os : OsState), segRunT treeTable pw w 11 (some (.ref 6)) 1 39 (S5 w os) (piecesOf s6 env cE p5 B) = some (.next, S6 w os, cE, p6)
noncomputable def hpc49 (P : Params) (t : List DictEntry) : List DictEntry := ⟨(PyData.keyHash P (Str.ofString "colour_clamped")), (.str (Str.ofString "colour_clamped") 324), (.ref 91)⟩ :: ⟨(PyData.keyHash P (Str.ofString "Space")), (.str (Str.ofString "Space") 383), (.ref 124)⟩ :: t
noncomputable def o3g7 (P : Params) : Obj := ⟨(.type "dict"), none, (.dict (hpc20 P (hpc19 P (hpc38 P (hpc49 P [])))).toArray 26), [].toArray⟩
noncomputable def o12g7 (P : Params) : Obj := ⟨.none, none, (.fields [(.int (3) 0), (.int (0) 0), (.ref 20), (.int (7) 0), (.int (0) 0), (.ref 41), (.int (10) 0), (.int (0) 0), (.ref 53), (.int (16) 0), (.int (0) 0), (.ref 60), (.int (23) 0), (.int (0) 0), (.ref 82), (.int (34) 0), (.int (0) 0), (.ref 90), (.int (36) 0), (.int (0) 0), (.ref 97)].toArray), [].toArray⟩
noncomputable def o92g7 (P : Params) : Obj := ⟨(.type "tuple"), none, (.seq [].toArray 0), [].toArray⟩
noncomputable def o93g7 (P : Params) : Obj := ⟨(.type "builtin_function_or_method"), none, (.fields [(.builtin "type.__prepare__"), (.type "type")].toArray), [].toArray⟩
noncomputable def o94g7 (P : Params) : Obj := ⟨(.type "dict"), none, (.dict [⟨(PyData.keyHash P (Str.ofString "__module__")), (.str (Str.ofString "__module__") 332), (.str (Str.ofString "postcore.colours") 295)⟩, ⟨(PyData.keyHash P (Str.ofString "__qualname__")), (.str (Str.ofString "__qualname__") 334), (.str (Str.ofString "Space") 333)⟩, ⟨(PyData.keyHash P (Str.ofString "__firstlineno__")), (.str (Str.ofString "__firstlineno__") 336), (.int (36) 335)⟩, ⟨(PyData.keyHash P (Str.ofString "__init__")), (.str (Str.ofString "__init__") 353), (.ref 106)⟩, ⟨(PyData.keyHash P (Str.ofString "many")), (.str (Str.ofString "many") 361), (.ref 114)⟩, ⟨(PyData.keyHash P (Str.ofString "things")), (.str (Str.ofString "things") 368), (.ref 121)⟩, ⟨(PyData.keyHash P (Str.ofString "__static_attributes__")), (.str (Str.ofString "__static_attributes__") 376), (.ref 122)⟩].toArray 7), [].toArray⟩
noncomputable def o95g7 (P : Params) : Obj := ⟨(.type "tuple"), none, (.seq [].toArray 0), [].toArray⟩
noncomputable def o96g7 (P : Params) : Obj := ⟨.none, none, (.fields [(.int (38) 0), (.int (4) 0), (.ref 105), (.int (48) 0), (.int (4) 0), (.ref 112), (.int (51) 0), (.int (4) 0), (.ref 120)].toArray), [].toArray⟩
noncomputable def o97g7 (P : Params) : Obj := ⟨(.type "code"), none, (.fields [(.str (Str.ofString "Space") 327), (.str (Str.ofString "Space") 328), (.str (Str.ofString "/claim/cut.py") 329), (.int (36) 0), (.int (0) 0), (.int (0) 0), (.int (0) 0), (.int (0) 0), (.ref 95), (.bool false), (.int (181) 0), (.ref 96), .none, .none, .none, .none, (.int (330) 0), (.int (36) 0), (.str (Str.ofString "/claim/cut.py") 331)].toArray), [].toArray⟩
noncomputable def o98g7 (P : Params) : Obj := ⟨(.type "frame"), none, .plain, [(some (.ref 97)), (some (.ref 3)), (some (.ref 94)), none, (some (.str (Str.ofString "postcore.colours") 295)), none, (some (.ref 0))].toArray⟩
noncomputable def o99g7 (P : Params) : Obj := ⟨(.type "tuple"), none, (.seq [.none, .none, (.int (0) 337), (.bytes #[] 338), (.bytes #[] 339), .none].toArray 0), [].toArray⟩
noncomputable def o100g7 (P : Params) : Obj := ⟨(.type "tuple"), none, (.seq [].toArray 0), [].toArray⟩
noncomputable def o101g7 (P : Params) : Obj := ⟨.none, none, (.fields [].toArray), [].toArray⟩
noncomputable def o102g7 (P : Params) : Obj := ⟨(.type "tuple"), none, (.seq [(.str (Str.ofString "self") 343), (.str (Str.ofString "name") 344), (.str (Str.ofString "thing") 345), (.str (Str.ofString "base") 346), (.str (Str.ofString "most") 347), (.str (Str.ofString "table") 348), (.str (Str.ofString "ink") 349), (.str (Str.ofString "way") 350)].toArray 0), [].toArray⟩
noncomputable def o103g7 (P : Params) : Obj := ⟨(.type "tuple"), none, (.seq [].toArray 0), [].toArray⟩
noncomputable def o104g7 (P : Params) : Obj := ⟨.none, none, (.func { name := (Str.ofString "__init__"), qualname := (Str.ofString "Space.__init__"), params := dP (inC (st 20) 0), body := .stmts (dB (inC (st 20) 0)), scope := dS (inC (st 20) 0), globals := 0, closure := [], defaults := .none, kwdefaults := .none, doc := .none, pyModule := .none, annotations := none, code := .none, closureTuple := .none, builtins := 0 }), [].toArray⟩
noncomputable def o105g7 (P : Params) : Obj := ⟨(.type "code"), none, (.fields [(.str (Str.ofString "__init__") 340), (.str (Str.ofString "Space.__init__") 341), (.str (Str.ofString "/claim/cut.py") 342), (.int (38) 0), (.int (8) 0), (.int (0) 0), (.int (0) 0), (.int (3) 0), (.ref 100), (.bool true), (.int (181) 0), (.ref 101), .none, (.ref 102), (.ref 103), (.ref 104), (.int (351) 0), (.int (38) 0), (.str (Str.ofString "/claim/cut.py") 352)].toArray), [].toArray⟩
noncomputable def o106g7 (P : Params) : Obj := ⟨(.type "function"), none, (.func { name := (Str.ofString "__init__"), qualname := (Str.ofString "Space.__init__"), params := dP (inC (st 20) 0), body := .stmts (dB (inC (st 20) 0)), scope := dS (inC (st 20) 0), globals := 3, closure := [], defaults := (.ref 99), kwdefaults := .none, doc := .none, pyModule := (.str (Str.ofString "postcore.colours") 295), annotations := none, code := (.ref 105), closureTuple := .none, builtins := 0 }), [].toArray⟩
noncomputable def o107g7 (P : Params) : Obj := ⟨(.type "tuple"), none, (.seq [].toArray 0), [].toArray⟩
noncomputable def o108g7 (P : Params) : Obj := ⟨.none, none, (.fields [].toArray), [].toArray⟩
noncomputable def o109g7 (P : Params) : Obj := ⟨(.type "tuple"), none, (.seq [(.str (Str.ofString "self") 357)].toArray 0), [].toArray⟩
noncomputable def o110g7 (P : Params) : Obj := ⟨(.type "tuple"), none, (.seq [].toArray 0), [].toArray⟩
noncomputable def o111g7 (P : Params) : Obj := ⟨.none, none, (.func { name := (Str.ofString "many"), qualname := (Str.ofString "Space.many"), params := dP (inC (st 20) 1), body := .stmts (dB (inC (st 20) 1)), scope := dS (inC (st 20) 1), globals := 0, closure := [], defaults := .none, kwdefaults := .none, doc := .none, pyModule := .none, annotations := none, code := .none, closureTuple := .none, builtins := 0 }), [].toArray⟩
noncomputable def o112g7 (P : Params) : Obj := ⟨(.type "code"), none, (.fields [(.str (Str.ofString "many") 354), (.str (Str.ofString "Space.many") 355), (.str (Str.ofString "/claim/cut.py") 356), (.int (47) 0), (.int (1) 0), (.int (0) 0), (.int (0) 0), (.int (3) 0), (.ref 107), (.bool true), (.int (181) 0), (.ref 108), .none, (.ref 109), (.ref 110), (.ref 111), (.int (358) 0), (.int (47) 0), (.str (Str.ofString "/claim/cut.py") 359)].toArray), [].toArray⟩
noncomputable def o113g7 (P : Params) : Obj := ⟨(.type "function"), none, (.func { name := (Str.ofString "many"), qualname := (Str.ofString "Space.many"), params := dP (inC (st 20) 1), body := .stmts (dB (inC (st 20) 1)), scope := dS (inC (st 20) 1), globals := 3, closure := [], defaults := .none, kwdefaults := .none, doc := .none, pyModule := (.str (Str.ofString "postcore.colours") 295), annotations := none, code := (.ref 112), closureTuple := .none, builtins := 0 }), [].toArray⟩
noncomputable def o114g7 (P : Params) : Obj := ⟨(.type "property"), none, (.fields [(.ref 113), .none, .none, .none, (.str (Str.ofString "many") 361), (.bool false)].toArray), [].toArray⟩
noncomputable def o115g7 (P : Params) : Obj := ⟨(.type "tuple"), none, (.seq [].toArray 0), [].toArray⟩
noncomputable def o116g7 (P : Params) : Obj := ⟨.none, none, (.fields [].toArray), [].toArray⟩
noncomputable def o117g7 (P : Params) : Obj := ⟨(.type "tuple"), none, (.seq [(.str (Str.ofString "self") 365)].toArray 0), [].toArray⟩
noncomputable def o118g7 (P : Params) : Obj := ⟨(.type "tuple"), none, (.seq [].toArray 0), [].toArray⟩
noncomputable def o119g7 (P : Params) : Obj := ⟨.none, none, (.func { name := (Str.ofString "things"), qualname := (Str.ofString "Space.things"), params := dP (inC (st 20) 2), body := .stmts (dB (inC (st 20) 2)), scope := dS (inC (st 20) 2), globals := 0, closure := [], defaults := .none, kwdefaults := .none, doc := .none, pyModule := .none, annotations := none, code := .none, closureTuple := .none, builtins := 0 }), [].toArray⟩
noncomputable def o120g7 (P : Params) : Obj := ⟨(.type "code"), none, (.fields [(.str (Str.ofString "things") 362), (.str (Str.ofString "Space.things") 363), (.str (Str.ofString "/claim/cut.py") 364), (.int (51) 0), (.int (1) 0), (.int (0) 0), (.int (0) 0), (.int (3) 0), (.ref 115), (.bool true), (.int (181) 0), (.ref 116), .none, (.ref 117), (.ref 118), (.ref 119), (.int (366) 0), (.int (51) 0), (.str (Str.ofString "/claim/cut.py") 367)].toArray), [].toArray⟩
noncomputable def o121g7 (P : Params) : Obj := ⟨(.type "function"), none, (.func { name := (Str.ofString "things"), qualname := (Str.ofString "Space.things"), params := dP (inC (st 20) 2), body := .stmts (dB (inC (st 20) 2)), scope := dS (inC (st 20) 2), globals := 3, closure := [], defaults := .none, kwdefaults := .none, doc := .none, pyModule := (.str (Str.ofString "postcore.colours") 295), annotations := none, code := (.ref 120), closureTuple := .none, builtins := 0 }), [].toArray⟩
noncomputable def o122g7 (P : Params) : Obj := ⟨(.type "tuple"), none, (.seq [(.str (Str.ofString "base") 369), (.str (Str.ofString "ink") 370), (.str (Str.ofString "most") 371), (.str (Str.ofString "name") 372), (.str (Str.ofString "table") 373), (.str (Str.ofString "thing") 374), (.str (Str.ofString "way") 375)].toArray 0), [].toArray⟩
noncomputable def o123g7 (P : Params) : Obj := ⟨(.type "dict"), none, (.dict [⟨(PyData.keyHash P (Str.ofString "__module__")), (.str (Str.ofString "__module__") 332), (.str (Str.ofString "postcore.colours") 295)⟩, ⟨(PyData.keyHash P (Str.ofString "__firstlineno__")), (.str (Str.ofString "__firstlineno__") 336), (.int (36) 335)⟩, ⟨(PyData.keyHash P (Str.ofString "__init__")), (.str (Str.ofString "__init__") 353), (.ref 106)⟩, ⟨(PyData.keyHash P (Str.ofString "many")), (.str (Str.ofString "many") 361), (.ref 114)⟩, ⟨(PyData.keyHash P (Str.ofString "things")), (.str (Str.ofString "things") 368), (.ref 121)⟩, ⟨(PyData.keyHash P (Str.ofString "__static_attributes__")), (.str (Str.ofString "__static_attributes__") 376), (.ref 122)⟩, ⟨(PyData.keyHash P (Str.ofString "__dict__")), (.str (Str.ofString "__dict__") 378), (.ref 125)⟩, ⟨(PyData.keyHash P (Str.ofString "__weakref__")), (.str (Str.ofString "__weakref__") 380), (.ref 126)⟩, ⟨(PyData.keyHash P (Str.ofString "__doc__")), (.str (Str.ofString "__doc__") 381), .none⟩].toArray 4), [].toArray⟩
noncomputable def o124g7 (P : Params) : Obj := ⟨(.type "type"), none, (.cls { name := (Str.ofString "Space"), bases := [(.type "object")], mro := [(.ref 124), (.type "object")], ns := 123, qualname := (Str.ofString "Space"), hasDict := true, slotNames := [], subclasses := [], abstract := false, collection := none, hasDel := false }), [none, none, (some (.str (Str.ofString "Space") 325)), (some (.str (Str.ofString "Space") 333)), (some (.builtin "object.__new__")), (some (.bool true))].toArray⟩
noncomputable def o125g7 (P : Params) : Obj := ⟨(.type "getset_descriptor"), none, (.fields [(.str (Str.ofString "__dict__") 377), (.ref 124), (.builtin "function.__dict__"), (.builtin "function.__dict__#set")].toArray), [].toArray⟩
noncomputable def o126g7 (P : Params) : Obj := ⟨(.type "getset_descriptor"), none, (.fields [(.str (Str.ofString "__weakref__") 379), (.ref 124), (.builtin "ExceptionGroup.__weakref__"), .none].toArray), [].toArray⟩
noncomputable def o127g7 (P : Params) : Obj := ⟨(.type "super"), none, (.fields [(.ref 124), (.ref 124), (.ref 124)].toArray), [].toArray⟩
noncomputable def o128g7 (P : Params) : Obj := ⟨(.type "builtin_function_or_method"), none, (.fields [(.builtin "object.__init_subclass__"), (.ref 124)].toArray), [].toArray⟩
noncomputable def hpc50 (P : Params) : BT := (.node (o15g1 P) (.node (o31g1 P) (.node (o63g3 P) (.node (o127g7 P) .nil .nil) .nil) (.node (o95g7 P) .nil .nil)) (.node (o47g2 P) (.node (o79g3 P) .nil .nil) (.node (o111g7 P) .nil .nil)))
noncomputable def hpc51 (P : Params) : BT := (.node (o23g1 P) (.node (o39g2 P) (.node (o71g3 P) .nil .nil) (.node (o103g7 P) .nil .nil)) (.node (o55g3 P) (.node (o87g6 P) .nil .nil) (.node (o119g7 P) .nil .nil)))
noncomputable def hpc52 (P : Params) : BT := (.node (o19g1 P) (.node (o35g1 P) (.node (o67g3 P) .nil .nil) (.node (o99g7 P) .nil .nil)) (.node (o51g2 P) (.node (o83g3 P) .nil .nil) (.node (o115g7 P) .nil .nil)))
noncomputable def hpc53 (P : Params) : BT := (.node (o27g1 P) (.node (o43g2 P) (.node (o75g3 P) .nil .nil) (.node (o107g7 P) .nil .nil)) (.node (o59g3 P) (.node (o91g6 P) .nil .nil) (.node (o123g7 P) .nil .nil)))
noncomputable def hpc54 (P : Params) : BT := (.node (o3g7 P) (.node (boot_o_7 P) (hpc50 P) (hpc51 P)) (.node (o11a P) (hpc52 P) (hpc53 P)))
noncomputable def hpc55 (P : Params) : BT := (.node (o17g1 P) (.node (o33g1 P) (.node (o65g3 P) .nil .nil) (.node (o97g7 P) .nil .nil)) (.node (o49g2 P) (.node (o81g3 P) .nil .nil) (.node (o113g7 P) .nil .nil)))
noncomputable def hpc56 (P : Params) : BT := (.node (o25g1 P) (.node (o41g2 P) (.node (o73g3 P) .nil .nil) (.node (o105g7 P) .nil .nil)) (.node (o57g3 P) (.node (o89g6 P) .nil .nil) (.node (o121g7 P) .nil .nil)))
noncomputable def hpc57 (P : Params) : BT := (.node (o21g1 P) (.node (o37g2 P) (.node (o69g3 P) .nil .nil) (.node (o101g7 P) .nil .nil)) (.node (o53g2 P) (.node (o85g6 P) .nil .nil) (.node (o117g7 P) .nil .nil)))
noncomputable def hpc58 (P : Params) : BT := (.node (o29g1 P) (.node (o45g2 P) (.node (o77g3 P) .nil .nil) (.node (o109g7 P) .nil .nil)) (.node (o61g3 P) (.node (o93g7 P) .nil .nil) (.node (o125g7 P) .nil .nil)))
noncomputable def hpc59 (P : Params) : BT := (.node (boot_o_5 P) (.node (boot_o_9 P) (hpc55 P) (hpc56 P)) (.node (o13a P) (hpc57 P) (hpc58 P)))
noncomputable def hpc60 (P : Params) : BT := (.node (o16g1 P) (.node (o32g2 P) (.node (o64g3 P) (.node (o128g7 P) .nil .nil) .nil) (.node (o96g7 P) .nil .nil)) (.node (o48g2 P) (.node (o80g3 P) .nil .nil) (.node (o112g7 P) .nil .nil)))
noncomputable def hpc61 (P : Params) : BT := (.node (o24g1 P) (.node (o40g2 P) (.node (o72g3 P) .nil .nil) (.node (o104g7 P) .nil .nil)) (.node (o56g3 P) (.node (o88g6 P) .nil .nil) (.node (o120g7 P) .nil .nil)))
noncomputable def hpc62 (P : Params) : BT := (.node (o20g1 P) (.node (o36g2 P) (.node (o68g3 P) .nil .nil) (.node (o100g7 P) .nil .nil)) (.node (o52g2 P) (.node (o84g5 P) .nil .nil) (.node (o116g7 P) .nil .nil)))
noncomputable def hpc63 (P : Params) : BT := (.node (o28g1 P) (.node (o44g2 P) (.node (o76g3 P) .nil .nil) (.node (o108g7 P) .nil .nil)) (.node (o60g3 P) (.node (o92g7 P) .nil .nil) (.node (o124g7 P) .nil .nil)))
noncomputable def hpc64 (P : Params) : BT := (.node (boot_o_4 P) (.node (boot_o_8 P) (hpc60 P) (hpc61 P)) (.node (o12g7 P) (hpc62 P) (hpc63 P)))
noncomputable def hpc65 (P : Params) : BT := (.node (o18g1 P) (.node (o34g1 P) (.node (o66g3 P) .nil .nil) (.node (o98g7 P) .nil .nil)) (.node (o50g2 P) (.node (o82g3 P) .nil .nil) (.node (o114g7 P) .nil .nil)))
noncomputable def hpc66 (P : Params) : BT := (.node (o26g1 P) (.node (o42g2 P) (.node (o74g3 P) .nil .nil) (.node (o106g7 P) .nil .nil)) (.node (o58g3 P) (.node (o90g6 P) .nil .nil) (.node (o122g7 P) .nil .nil)))
noncomputable def hpc67 (P : Params) : BT := (.node (o22g1 P) (.node (o38g2 P) (.node (o70g3 P) .nil .nil) (.node (o102g7 P) .nil .nil)) (.node (o54g2 P) (.node (o86g6 P) .nil .nil) (.node (o118g7 P) .nil .nil)))
noncomputable def hpc68 (P : Params) : BT := (.node (o30g1 P) (.node (o46g2 P) (.node (o78g3 P) .nil .nil) (.node (o110g7 P) .nil .nil)) (.node (o62g3 P) (.node (o94g7 P) .nil .nil) (.node (o126g7 P) .nil .nil)))
noncomputable def hpc69 (P : Params) : BT := (.node (boot_o_6 P) (.node (boot_o_10 P) (hpc65 P) (hpc66 P)) (.node (o14a P) (hpc67 P) (hpc68 P)))
noncomputable def hpc70 (P : Params) : BT := (.node (boot_o_0 P) (.node (boot_o_1 P) (hpc54 P) (hpc59 P)) (.node (o2g1 P) (hpc64 P) (hpc69 P)))
noncomputable def T7 (P : Params) : BT := (hpc70 P)
noncomputable def S7 (w : World) (os : OsState) : SharedT := ⟨T7 w.params, 129, {}, #[], {}, 384, os⟩
noncomputable def p7 : Pos := ⟨36, 0, 54, 48⟩
noncomputable def s7 : List Stmt := ((behindTheImports pw).drop 20).take 1
noncomputable def g7 : Prop := ∀ (w : World) (os : OsState), segRunT treeTable pw w 11 (some (.ref 6)) 1 359 (S6 w os) (piecesOf s7 env cE p6 B) = some (.next, S7 w os, cE, p7)
noncomputable def hpc71 (P : Params) (t : List DictEntry) : List DictEntry := ⟨(PyData.keyHash P (Str.ofString "colour_clamped")), (.str (Str.ofString "colour_clamped") 324), (.ref 91)⟩ :: ⟨(PyData.keyHash P (Str.ofString "Space")), (.str (Str.ofString "Space") 383), (.ref 124)⟩ :: ⟨(PyData.keyHash P (Str.ofString "space_many")), (.str (Str.ofString "space_many") 390), (.ref 135)⟩ :: ⟨(PyData.keyHash P (Str.ofString "is_special_space")), (.str (Str.ofString "is_special_space") 397), (.ref 142)⟩ :: ⟨(PyData.keyHash P (Str.ofString "device_space")), (.str (Str.ofString "device_space") 404), (.ref 149)⟩ :: ⟨(PyData.keyHash P (Str.ofString "transferred")), (.str (Str.ofString "transferred") 415), (.ref 156)⟩ :: t
noncomputable def o3g8 (P : Params) : Obj := ⟨(.type "dict"), none, (.dict (hpc20 P (hpc19 P (hpc38 P (hpc71 P [])))).toArray 30), [].toArray⟩
noncomputable def o12g8 (P : Params) : Obj := ⟨.none, none, (.fields [(.int (3) 0), (.int (0) 0), (.ref 20), (.int (7) 0), (.int (0) 0), (.ref 41), (.int (10) 0), (.int (0) 0), (.ref 53), (.int (16) 0), (.int (0) 0), (.ref 60), (.int (23) 0), (.int (0) 0), (.ref 82), (.int (34) 0), (.int (0) 0), (.ref 90), (.int (36) 0), (.int (0) 0), (.ref 97), (.int (55) 0), (.int (0) 0), (.ref 134), (.int (61) 0), (.int (0) 0), (.ref 141), (.int (63) 0), (.int (0) 0), (.ref 148), (.int (65) 0), (.int (0) 0), (.ref 155)].toArray), [].toArray⟩
noncomputable def o129g8 (P : Params) : Obj := ⟨(.type "tuple"), none, (.seq [].toArray 0), [].toArray⟩
noncomputable def o130g8 (P : Params) : Obj := ⟨.none, none, (.fields [].toArray), [].toArray⟩
noncomputable def o131g8 (P : Params) : Obj := ⟨(.type "tuple"), none, (.seq [(.str (Str.ofString "space") 387)].toArray 0), [].toArray⟩
noncomputable def o132g8 (P : Params) : Obj := ⟨(.type "tuple"), none, (.seq [].toArray 0), [].toArray⟩
noncomputable def o133g8 (P : Params) : Obj := ⟨.none, none, (.func { name := (Str.ofString "space_many"), qualname := (Str.ofString "space_many"), params := dP (st 21), body := .stmts (dB (st 21)), scope := dS (st 21), globals := 0, closure := [], defaults := .none, kwdefaults := .none, doc := .none, pyModule := .none, annotations := none, code := .none, closureTuple := .none, builtins := 0 }), [].toArray⟩
noncomputable def o134g8 (P : Params) : Obj := ⟨(.type "code"), none, (.fields [(.str (Str.ofString "space_many") 384), (.str (Str.ofString "space_many") 385), (.str (Str.ofString "/claim/cut.py") 386), (.int (55) 0), (.int (1) 0), (.int (0) 0), (.int (0) 0), (.int (3) 0), (.ref 129), (.bool true), (.int (181) 0), (.ref 130), .none, (.ref 131), (.ref 132), (.ref 133), (.int (388) 0), (.int (55) 0), (.str (Str.ofString "/claim/cut.py") 389)].toArray), [].toArray⟩
noncomputable def o135g8 (P : Params) : Obj := ⟨(.type "function"), none, (.func { name := (Str.ofString "space_many"), qualname := (Str.ofString "space_many"), params := dP (st 21), body := .stmts (dB (st 21)), scope := dS (st 21), globals := 3, closure := [], defaults := .none, kwdefaults := .none, doc := .none, pyModule := (.str (Str.ofString "postcore.colours") 295), annotations := none, code := (.ref 134), closureTuple := .none, builtins := 0 }), [].toArray⟩
noncomputable def o136g8 (P : Params) : Obj := ⟨(.type "tuple"), none, (.seq [].toArray 0), [].toArray⟩
noncomputable def o137g8 (P : Params) : Obj := ⟨.none, none, (.fields [].toArray), [].toArray⟩
noncomputable def o138g8 (P : Params) : Obj := ⟨(.type "tuple"), none, (.seq [(.str (Str.ofString "space") 394)].toArray 0), [].toArray⟩
noncomputable def o139g8 (P : Params) : Obj := ⟨(.type "tuple"), none, (.seq [].toArray 0), [].toArray⟩
noncomputable def o140g8 (P : Params) : Obj := ⟨.none, none, (.func { name := (Str.ofString "is_special_space"), qualname := (Str.ofString "is_special_space"), params := dP (st 22), body := .stmts (dB (st 22)), scope := dS (st 22), globals := 0, closure := [], defaults := .none, kwdefaults := .none, doc := .none, pyModule := .none, annotations := none, code := .none, closureTuple := .none, builtins := 0 }), [].toArray⟩
noncomputable def o141g8 (P : Params) : Obj := ⟨(.type "code"), none, (.fields [(.str (Str.ofString "is_special_space") 391), (.str (Str.ofString "is_special_space") 392), (.str (Str.ofString "/claim/cut.py") 393), (.int (61) 0), (.int (1) 0), (.int (0) 0), (.int (0) 0), (.int (3) 0), (.ref 136), (.bool true), (.int (181) 0), (.ref 137), .none, (.ref 138), (.ref 139), (.ref 140), (.int (395) 0), (.int (61) 0), (.str (Str.ofString "/claim/cut.py") 396)].toArray), [].toArray⟩
noncomputable def o142g8 (P : Params) : Obj := ⟨(.type "function"), none, (.func { name := (Str.ofString "is_special_space"), qualname := (Str.ofString "is_special_space"), params := dP (st 22), body := .stmts (dB (st 22)), scope := dS (st 22), globals := 3, closure := [], defaults := .none, kwdefaults := .none, doc := .none, pyModule := (.str (Str.ofString "postcore.colours") 295), annotations := none, code := (.ref 141), closureTuple := .none, builtins := 0 }), [].toArray⟩
noncomputable def o143g8 (P : Params) : Obj := ⟨(.type "tuple"), none, (.seq [].toArray 0), [].toArray⟩
noncomputable def o144g8 (P : Params) : Obj := ⟨.none, none, (.fields [].toArray), [].toArray⟩
noncomputable def o145g8 (P : Params) : Obj := ⟨(.type "tuple"), none, (.seq [(.str (Str.ofString "name") 401)].toArray 0), [].toArray⟩
noncomputable def o146g8 (P : Params) : Obj := ⟨(.type "tuple"), none, (.seq [].toArray 0), [].toArray⟩
noncomputable def o147g8 (P : Params) : Obj := ⟨.none, none, (.func { name := (Str.ofString "device_space"), qualname := (Str.ofString "device_space"), params := dP (st 23), body := .stmts (dB (st 23)), scope := dS (st 23), globals := 0, closure := [], defaults := .none, kwdefaults := .none, doc := .none, pyModule := .none, annotations := none, code := .none, closureTuple := .none, builtins := 0 }), [].toArray⟩
noncomputable def o148g8 (P : Params) : Obj := ⟨(.type "code"), none, (.fields [(.str (Str.ofString "device_space") 398), (.str (Str.ofString "device_space") 399), (.str (Str.ofString "/claim/cut.py") 400), (.int (63) 0), (.int (1) 0), (.int (0) 0), (.int (0) 0), (.int (3) 0), (.ref 143), (.bool true), (.int (181) 0), (.ref 144), .none, (.ref 145), (.ref 146), (.ref 147), (.int (402) 0), (.int (63) 0), (.str (Str.ofString "/claim/cut.py") 403)].toArray), [].toArray⟩
noncomputable def o149g8 (P : Params) : Obj := ⟨(.type "function"), none, (.func { name := (Str.ofString "device_space"), qualname := (Str.ofString "device_space"), params := dP (st 23), body := .stmts (dB (st 23)), scope := dS (st 23), globals := 3, closure := [], defaults := .none, kwdefaults := .none, doc := .none, pyModule := (.str (Str.ofString "postcore.colours") 295), annotations := none, code := (.ref 148), closureTuple := .none, builtins := 0 }), [].toArray⟩
noncomputable def o150g8 (P : Params) : Obj := ⟨(.type "tuple"), none, (.seq [].toArray 0), [].toArray⟩
noncomputable def o151g8 (P : Params) : Obj := ⟨.none, none, (.fields [].toArray), [].toArray⟩
noncomputable def o152g8 (P : Params) : Obj := ⟨(.type "tuple"), none, (.seq [(.str (Str.ofString "part") 408), (.str (Str.ofString "points") 409), (.str (Str.ofString "place") 410), (.str (Str.ofString "number") 411), (.str (Str.ofString "rest") 412)].toArray 0), [].toArray⟩
noncomputable def o153g8 (P : Params) : Obj := ⟨(.type "tuple"), none, (.seq [].toArray 0), [].toArray⟩
noncomputable def o154g8 (P : Params) : Obj := ⟨.none, none, (.func { name := (Str.ofString "transferred"), qualname := (Str.ofString "transferred"), params := dP (st 24), body := .stmts (dB (st 24)), scope := dS (st 24), globals := 0, closure := [], defaults := .none, kwdefaults := .none, doc := .none, pyModule := .none, annotations := none, code := .none, closureTuple := .none, builtins := 0 }), [].toArray⟩
noncomputable def o155g8 (P : Params) : Obj := ⟨(.type "code"), none, (.fields [(.str (Str.ofString "transferred") 405), (.str (Str.ofString "transferred") 406), (.str (Str.ofString "/claim/cut.py") 407), (.int (65) 0), (.int (2) 0), (.int (0) 0), (.int (0) 0), (.int (3) 0), (.ref 150), (.bool true), (.int (181) 0), (.ref 151), .none, (.ref 152), (.ref 153), (.ref 154), (.int (413) 0), (.int (65) 0), (.str (Str.ofString "/claim/cut.py") 414)].toArray), [].toArray⟩
noncomputable def o156g8 (P : Params) : Obj := ⟨(.type "function"), none, (.func { name := (Str.ofString "transferred"), qualname := (Str.ofString "transferred"), params := dP (st 24), body := .stmts (dB (st 24)), scope := dS (st 24), globals := 3, closure := [], defaults := .none, kwdefaults := .none, doc := .none, pyModule := (.str (Str.ofString "postcore.colours") 295), annotations := none, code := (.ref 155), closureTuple := .none, builtins := 0 }), [].toArray⟩
noncomputable def hpc72 (P : Params) : BT := (.node (o15g1 P) (.node (o31g1 P) (.node (o63g3 P) (.node (o127g7 P) .nil .nil) .nil) (.node (o95g7 P) .nil .nil)) (.node (o47g2 P) (.node (o79g3 P) (.node (o143g8 P) .nil .nil) .nil) (.node (o111g7 P) .nil .nil)))
noncomputable def hpc73 (P : Params) : BT := (.node (o23g1 P) (.node (o39g2 P) (.node (o71g3 P) (.node (o135g8 P) .nil .nil) .nil) (.node (o103g7 P) .nil .nil)) (.node (o55g3 P) (.node (o87g6 P) (.node (o151g8 P) .nil .nil) .nil) (.node (o119g7 P) .nil .nil)))
noncomputable def hpc74 (P : Params) : BT := (.node (o19g1 P) (.node (o35g1 P) (.node (o67g3 P) (.node (o131g8 P) .nil .nil) .nil) (.node (o99g7 P) .nil .nil)) (.node (o51g2 P) (.node (o83g3 P) (.node (o147g8 P) .nil .nil) .nil) (.node (o115g7 P) .nil .nil)))
noncomputable def hpc75 (P : Params) : BT := (.node (o27g1 P) (.node (o43g2 P) (.node (o75g3 P) (.node (o139g8 P) .nil .nil) .nil) (.node (o107g7 P) .nil .nil)) (.node (o59g3 P) (.node (o91g6 P) (.node (o155g8 P) .nil .nil) .nil) (.node (o123g7 P) .nil .nil)))
noncomputable def hpc76 (P : Params) : BT := (.node (o3g8 P) (.node (boot_o_7 P) (hpc72 P) (hpc73 P)) (.node (o11a P) (hpc74 P) (hpc75 P)))
noncomputable def hpc77 (P : Params) : BT := (.node (o17g1 P) (.node (o33g1 P) (.node (o65g3 P) (.node (o129g8 P) .nil .nil) .nil) (.node (o97g7 P) .nil .nil)) (.node (o49g2 P) (.node (o81g3 P) (.node (o145g8 P) .nil .nil) .nil) (.node (o113g7 P) .nil .nil)))
noncomputable def hpc78 (P : Params) : BT := (.node (o25g1 P) (.node (o41g2 P) (.node (o73g3 P) (.node (o137g8 P) .nil .nil) .nil) (.node (o105g7 P) .nil .nil)) (.node (o57g3 P) (.node (o89g6 P) (.node (o153g8 P) .nil .nil) .nil) (.node (o121g7 P) .nil .nil)))
noncomputable def hpc79 (P : Params) : BT := (.node (o21g1 P) (.node (o37g2 P) (.node (o69g3 P) (.node (o133g8 P) .nil .nil) .nil) (.node (o101g7 P) .nil .nil)) (.node (o53g2 P) (.node (o85g6 P) (.node (o149g8 P) .nil .nil) .nil) (.node (o117g7 P) .nil .nil)))
noncomputable def hpc80 (P : Params) : BT := (.node (o29g1 P) (.node (o45g2 P) (.node (o77g3 P) (.node (o141g8 P) .nil .nil) .nil) (.node (o109g7 P) .nil .nil)) (.node (o61g3 P) (.node (o93g7 P) .nil .nil) (.node (o125g7 P) .nil .nil)))
noncomputable def hpc81 (P : Params) : BT := (.node (boot_o_5 P) (.node (boot_o_9 P) (hpc77 P) (hpc78 P)) (.node (o13a P) (hpc79 P) (hpc80 P)))
noncomputable def hpc82 (P : Params) : BT := (.node (o16g1 P) (.node (o32g2 P) (.node (o64g3 P) (.node (o128g7 P) .nil .nil) .nil) (.node (o96g7 P) .nil .nil)) (.node (o48g2 P) (.node (o80g3 P) (.node (o144g8 P) .nil .nil) .nil) (.node (o112g7 P) .nil .nil)))
noncomputable def hpc83 (P : Params) : BT := (.node (o24g1 P) (.node (o40g2 P) (.node (o72g3 P) (.node (o136g8 P) .nil .nil) .nil) (.node (o104g7 P) .nil .nil)) (.node (o56g3 P) (.node (o88g6 P) (.node (o152g8 P) .nil .nil) .nil) (.node (o120g7 P) .nil .nil)))
noncomputable def hpc84 (P : Params) : BT := (.node (o20g1 P) (.node (o36g2 P) (.node (o68g3 P) (.node (o132g8 P) .nil .nil) .nil) (.node (o100g7 P) .nil .nil)) (.node (o52g2 P) (.node (o84g5 P) (.node (o148g8 P) .nil .nil) .nil) (.node (o116g7 P) .nil .nil)))
noncomputable def hpc85 (P : Params) : BT := (.node (o28g1 P) (.node (o44g2 P) (.node (o76g3 P) (.node (o140g8 P) .nil .nil) .nil) (.node (o108g7 P) .nil .nil)) (.node (o60g3 P) (.node (o92g7 P) (.node (o156g8 P) .nil .nil) .nil) (.node (o124g7 P) .nil .nil)))
noncomputable def hpc86 (P : Params) : BT := (.node (boot_o_4 P) (.node (boot_o_8 P) (hpc82 P) (hpc83 P)) (.node (o12g8 P) (hpc84 P) (hpc85 P)))
noncomputable def hpc87 (P : Params) : BT := (.node (o18g1 P) (.node (o34g1 P) (.node (o66g3 P) (.node (o130g8 P) .nil .nil) .nil) (.node (o98g7 P) .nil .nil)) (.node (o50g2 P) (.node (o82g3 P) (.node (o146g8 P) .nil .nil) .nil) (.node (o114g7 P) .nil .nil)))
noncomputable def hpc88 (P : Params) : BT := (.node (o26g1 P) (.node (o42g2 P) (.node (o74g3 P) (.node (o138g8 P) .nil .nil) .nil) (.node (o106g7 P) .nil .nil)) (.node (o58g3 P) (.node (o90g6 P) (.node (o154g8 P) .nil .nil) .nil) (.node (o122g7 P) .nil .nil)))
noncomputable def hpc89 (P : Params) : BT := (.node (o22g1 P) (.node (o38g2 P) (.node (o70g3 P) (.node (o134g8 P) .nil .nil) .nil) (.node (o102g7 P) .nil .nil)) (.node (o54g2 P) (.node (o86g6 P) (.node (o150g8 P) .nil .nil) .nil) (.node (o118g7 P) .nil .nil)))
noncomputable def hpc90 (P : Params) : BT := (.node (o30g1 P) (.node (o46g2 P) (.node (o78g3 P) (.node (o142g8 P) .nil .nil) .nil) (.node (o110g7 P) .nil .nil)) (.node (o62g3 P) (.node (o94g7 P) .nil .nil) (.node (o126g7 P) .nil .nil)))
noncomputable def hpc91 (P : Params) : BT := (.node (boot_o_6 P) (.node (boot_o_10 P) (hpc87 P) (hpc88 P)) (.node (o14a P) (hpc89 P) (hpc90 P)))
noncomputable def hpc92 (P : Params) : BT := (.node (boot_o_0 P) (.node (boot_o_1 P) (hpc76 P) (hpc81 P)) (.node (o2g1 P) (hpc86 P) (hpc91 P)))
noncomputable def T8 (P : Params) : BT := (hpc92 P)
noncomputable def S8 (w : World) (os : OsState) : SharedT := ⟨T8 w.params, 157, {}, #[], {}, 416, os⟩
noncomputable def p8 : Pos := ⟨65, 0, 72, 102⟩
noncomputable def s8 : List Stmt := ((behindTheImports pw).drop 21).take 4
noncomputable def g8 : Prop := ∀ (w : World) (os : OsState), segRunT treeTable pw w 11 (some (.ref 6)) 1 121 (S7 w os) (piecesOf s8 env cE p7 B) = some (.next, S8 w os, cE, p8)
noncomputable def hpc93 (P : Params) (t : List DictEntry) : List DictEntry := ⟨(PyData.keyHash P (Str.ofString "gray_level")), (.str (Str.ofString "gray_level") 464), (.ref 191)⟩ :: t
noncomputable def hpc94 (P : Params) (t : List DictEntry) : List DictEntry := ⟨(PyData.keyHash P (Str.ofString "colour_clamped")), (.str (Str.ofString "colour_clamped") 324), (.ref 91)⟩ :: ⟨(PyData.keyHash P (Str.ofString "Space")), (.str (Str.ofString "Space") 383), (.ref 124)⟩ :: ⟨(PyData.keyHash P (Str.ofString "space_many")), (.str (Str.ofString "space_many") 390), (.ref 135)⟩ :: ⟨(PyData.keyHash P (Str.ofString "is_special_space")), (.str (Str.ofString "is_special_space") 397), (.ref 142)⟩ :: ⟨(PyData.keyHash P (Str.ofString "device_space")), (.str (Str.ofString "device_space") 404), (.ref 149)⟩ :: ⟨(PyData.keyHash P (Str.ofString "transferred")), (.str (Str.ofString "transferred") 415), (.ref 156)⟩ :: ⟨(PyData.keyHash P (Str.ofString "Halftone")), (.str (Str.ofString "Halftone") 448), (.ref 173)⟩ :: ⟨(PyData.keyHash P (Str.ofString "threshold_halftone")), (.str (Str.ofString "threshold_halftone") 457), (.ref 184)⟩ :: t
noncomputable def o3g9 (P : Params) : Obj := ⟨(.type "dict"), none, (.dict (hpc20 P (hpc19 P (hpc38 P (hpc94 P (hpc93 P []))))).toArray 33), [].toArray⟩
noncomputable def o12g9 (P : Params) : Obj := ⟨.none, none, (.fields [(.int (3) 0), (.int (0) 0), (.ref 20), (.int (7) 0), (.int (0) 0), (.ref 41), (.int (10) 0), (.int (0) 0), (.ref 53), (.int (16) 0), (.int (0) 0), (.ref 60), (.int (23) 0), (.int (0) 0), (.ref 82), (.int (34) 0), (.int (0) 0), (.ref 90), (.int (36) 0), (.int (0) 0), (.ref 97), (.int (55) 0), (.int (0) 0), (.ref 134), (.int (61) 0), (.int (0) 0), (.ref 141), (.int (63) 0), (.int (0) 0), (.ref 148), (.int (65) 0), (.int (0) 0), (.ref 155), (.int (73) 0), (.int (0) 0), (.ref 162), (.int (79) 0), (.int (0) 0), (.ref 183), (.int (83) 0), (.int (0) 0), (.ref 190)].toArray), [].toArray⟩
noncomputable def o157g9 (P : Params) : Obj := ⟨(.type "tuple"), none, (.seq [].toArray 0), [].toArray⟩
noncomputable def o158g9 (P : Params) : Obj := ⟨(.type "builtin_function_or_method"), none, (.fields [(.builtin "type.__prepare__"), (.type "type")].toArray), [].toArray⟩
noncomputable def o159g9 (P : Params) : Obj := ⟨(.type "dict"), none, (.dict [⟨(PyData.keyHash P (Str.ofString "__module__")), (.str (Str.ofString "__module__") 423), (.str (Str.ofString "postcore.colours") 295)⟩, ⟨(PyData.keyHash P (Str.ofString "__qualname__")), (.str (Str.ofString "__qualname__") 425), (.str (Str.ofString "Halftone") 424)⟩, ⟨(PyData.keyHash P (Str.ofString "__firstlineno__")), (.str (Str.ofString "__firstlineno__") 427), (.int (73) 426)⟩, ⟨(PyData.keyHash P (Str.ofString "__init__")), (.str (Str.ofString "__init__") 437), (.ref 170)⟩, ⟨(PyData.keyHash P (Str.ofString "__static_attributes__")), (.str (Str.ofString "__static_attributes__") 441), (.ref 171)⟩].toArray 5), [].toArray⟩
noncomputable def o160g9 (P : Params) : Obj := ⟨(.type "tuple"), none, (.seq [].toArray 0), [].toArray⟩
noncomputable def o161g9 (P : Params) : Obj := ⟨.none, none, (.fields [(.int (75) 0), (.int (4) 0), (.ref 169)].toArray), [].toArray⟩
noncomputable def o162g9 (P : Params) : Obj := ⟨(.type "code"), none, (.fields [(.str (Str.ofString "Halftone") 418), (.str (Str.ofString "Halftone") 419), (.str (Str.ofString "/claim/cut.py") 420), (.int (73) 0), (.int (0) 0), (.int (0) 0), (.int (0) 0), (.int (0) 0), (.ref 160), (.bool false), (.int (181) 0), (.ref 161), .none, .none, .none, .none, (.int (421) 0), (.int (73) 0), (.str (Str.ofString "/claim/cut.py") 422)].toArray), [].toArray⟩
noncomputable def o163g9 (P : Params) : Obj := ⟨(.type "frame"), none, .plain, [(some (.ref 162)), (some (.ref 3)), (some (.ref 159)), none, (some (.str (Str.ofString "postcore.colours") 295)), none, (some (.ref 0))].toArray⟩
noncomputable def o164g9 (P : Params) : Obj := ⟨(.type "tuple"), none, (.seq [].toArray 0), [].toArray⟩
noncomputable def o165g9 (P : Params) : Obj := ⟨.none, none, (.fields [].toArray), [].toArray⟩
noncomputable def o166g9 (P : Params) : Obj := ⟨(.type "tuple"), none, (.seq [(.str (Str.ofString "self") 431), (.str (Str.ofString "width") 432), (.str (Str.ofString "height") 433), (.str (Str.ofString "thresholds") 434)].toArray 0), [].toArray⟩
noncomputable def o167g9 (P : Params) : Obj := ⟨(.type "tuple"), none, (.seq [].toArray 0), [].toArray⟩
noncomputable def o168g9 (P : Params) : Obj := ⟨.none, none, (.func { name := (Str.ofString "__init__"), qualname := (Str.ofString "Halftone.__init__"), params := dP (inC (st 25) 0), body := .stmts (dB (inC (st 25) 0)), scope := dS (inC (st 25) 0), globals := 0, closure := [], defaults := .none, kwdefaults := .none, doc := .none, pyModule := .none, annotations := none, code := .none, closureTuple := .none, builtins := 0 }), [].toArray⟩
noncomputable def o169g9 (P : Params) : Obj := ⟨(.type "code"), none, (.fields [(.str (Str.ofString "__init__") 428), (.str (Str.ofString "Halftone.__init__") 429), (.str (Str.ofString "/claim/cut.py") 430), (.int (75) 0), (.int (4) 0), (.int (0) 0), (.int (0) 0), (.int (3) 0), (.ref 164), (.bool true), (.int (181) 0), (.ref 165), .none, (.ref 166), (.ref 167), (.ref 168), (.int (435) 0), (.int (75) 0), (.str (Str.ofString "/claim/cut.py") 436)].toArray), [].toArray⟩
noncomputable def o170g9 (P : Params) : Obj := ⟨(.type "function"), none, (.func { name := (Str.ofString "__init__"), qualname := (Str.ofString "Halftone.__init__"), params := dP (inC (st 25) 0), body := .stmts (dB (inC (st 25) 0)), scope := dS (inC (st 25) 0), globals := 3, closure := [], defaults := .none, kwdefaults := .none, doc := .none, pyModule := (.str (Str.ofString "postcore.colours") 295), annotations := none, code := (.ref 169), closureTuple := .none, builtins := 0 }), [].toArray⟩
noncomputable def o171g9 (P : Params) : Obj := ⟨(.type "tuple"), none, (.seq [(.str (Str.ofString "height") 438), (.str (Str.ofString "thresholds") 439), (.str (Str.ofString "width") 440)].toArray 0), [].toArray⟩
noncomputable def o172g9 (P : Params) : Obj := ⟨(.type "dict"), none, (.dict [⟨(PyData.keyHash P (Str.ofString "__module__")), (.str (Str.ofString "__module__") 423), (.str (Str.ofString "postcore.colours") 295)⟩, ⟨(PyData.keyHash P (Str.ofString "__firstlineno__")), (.str (Str.ofString "__firstlineno__") 427), (.int (73) 426)⟩, ⟨(PyData.keyHash P (Str.ofString "__init__")), (.str (Str.ofString "__init__") 437), (.ref 170)⟩, ⟨(PyData.keyHash P (Str.ofString "__static_attributes__")), (.str (Str.ofString "__static_attributes__") 441), (.ref 171)⟩, ⟨(PyData.keyHash P (Str.ofString "__dict__")), (.str (Str.ofString "__dict__") 443), (.ref 174)⟩, ⟨(PyData.keyHash P (Str.ofString "__weakref__")), (.str (Str.ofString "__weakref__") 445), (.ref 175)⟩, ⟨(PyData.keyHash P (Str.ofString "__doc__")), (.str (Str.ofString "__doc__") 446), .none⟩].toArray 4), [].toArray⟩
noncomputable def o173g9 (P : Params) : Obj := ⟨(.type "type"), none, (.cls { name := (Str.ofString "Halftone"), bases := [(.type "object")], mro := [(.ref 173), (.type "object")], ns := 172, qualname := (Str.ofString "Halftone"), hasDict := true, slotNames := [], subclasses := [], abstract := false, collection := none, hasDel := false }), [none, none, (some (.str (Str.ofString "Halftone") 416)), (some (.str (Str.ofString "Halftone") 424)), (some (.builtin "object.__new__")), (some (.bool true))].toArray⟩
noncomputable def o174g9 (P : Params) : Obj := ⟨(.type "getset_descriptor"), none, (.fields [(.str (Str.ofString "__dict__") 442), (.ref 173), (.builtin "function.__dict__"), (.builtin "function.__dict__#set")].toArray), [].toArray⟩
noncomputable def o175g9 (P : Params) : Obj := ⟨(.type "getset_descriptor"), none, (.fields [(.str (Str.ofString "__weakref__") 444), (.ref 173), (.builtin "ExceptionGroup.__weakref__"), .none].toArray), [].toArray⟩
noncomputable def o176g9 (P : Params) : Obj := ⟨(.type "super"), none, (.fields [(.ref 173), (.ref 173), (.ref 173)].toArray), [].toArray⟩
noncomputable def o177g9 (P : Params) : Obj := ⟨(.type "builtin_function_or_method"), none, (.fields [(.builtin "object.__init_subclass__"), (.ref 173)].toArray), [].toArray⟩
noncomputable def o178g9 (P : Params) : Obj := ⟨(.type "tuple"), none, (.seq [].toArray 0), [].toArray⟩
noncomputable def o179g9 (P : Params) : Obj := ⟨.none, none, (.fields [].toArray), [].toArray⟩
noncomputable def o180g9 (P : Params) : Obj := ⟨(.type "tuple"), none, (.seq [(.str (Str.ofString "width") 452), (.str (Str.ofString "height") 453), (.str (Str.ofString "thresholds") 454)].toArray 0), [].toArray⟩
noncomputable def o181g9 (P : Params) : Obj := ⟨(.type "tuple"), none, (.seq [].toArray 0), [].toArray⟩
noncomputable def o182g9 (P : Params) : Obj := ⟨.none, none, (.func { name := (Str.ofString "threshold_halftone"), qualname := (Str.ofString "threshold_halftone"), params := dP (st 26), body := .stmts (dB (st 26)), scope := dS (st 26), globals := 0, closure := [], defaults := .none, kwdefaults := .none, doc := .none, pyModule := .none, annotations := none, code := .none, closureTuple := .none, builtins := 0 }), [].toArray⟩
noncomputable def o183g9 (P : Params) : Obj := ⟨(.type "code"), none, (.fields [(.str (Str.ofString "threshold_halftone") 449), (.str (Str.ofString "threshold_halftone") 450), (.str (Str.ofString "/claim/cut.py") 451), (.int (79) 0), (.int (3) 0), (.int (0) 0), (.int (0) 0), (.int (3) 0), (.ref 178), (.bool true), (.int (181) 0), (.ref 179), .none, (.ref 180), (.ref 181), (.ref 182), (.int (455) 0), (.int (79) 0), (.str (Str.ofString "/claim/cut.py") 456)].toArray), [].toArray⟩
noncomputable def o184g9 (P : Params) : Obj := ⟨(.type "function"), none, (.func { name := (Str.ofString "threshold_halftone"), qualname := (Str.ofString "threshold_halftone"), params := dP (st 26), body := .stmts (dB (st 26)), scope := dS (st 26), globals := 3, closure := [], defaults := .none, kwdefaults := .none, doc := .none, pyModule := (.str (Str.ofString "postcore.colours") 295), annotations := none, code := (.ref 183), closureTuple := .none, builtins := 0 }), [].toArray⟩
noncomputable def o185g9 (P : Params) : Obj := ⟨(.type "tuple"), none, (.seq [].toArray 0), [].toArray⟩
noncomputable def o186g9 (P : Params) : Obj := ⟨.none, none, (.fields [].toArray), [].toArray⟩
noncomputable def o187g9 (P : Params) : Obj := ⟨(.type "tuple"), none, (.seq [(.str (Str.ofString "gray") 461)].toArray 0), [].toArray⟩
noncomputable def o188g9 (P : Params) : Obj := ⟨(.type "tuple"), none, (.seq [].toArray 0), [].toArray⟩
noncomputable def o189g9 (P : Params) : Obj := ⟨.none, none, (.func { name := (Str.ofString "gray_level"), qualname := (Str.ofString "gray_level"), params := dP (st 27), body := .stmts (dB (st 27)), scope := dS (st 27), globals := 0, closure := [], defaults := .none, kwdefaults := .none, doc := .none, pyModule := .none, annotations := none, code := .none, closureTuple := .none, builtins := 0 }), [].toArray⟩
noncomputable def o190g9 (P : Params) : Obj := ⟨(.type "code"), none, (.fields [(.str (Str.ofString "gray_level") 458), (.str (Str.ofString "gray_level") 459), (.str (Str.ofString "/claim/cut.py") 460), (.int (83) 0), (.int (1) 0), (.int (0) 0), (.int (0) 0), (.int (3) 0), (.ref 185), (.bool true), (.int (181) 0), (.ref 186), .none, (.ref 187), (.ref 188), (.ref 189), (.int (462) 0), (.int (83) 0), (.str (Str.ofString "/claim/cut.py") 463)].toArray), [].toArray⟩
noncomputable def o191g9 (P : Params) : Obj := ⟨(.type "function"), none, (.func { name := (Str.ofString "gray_level"), qualname := (Str.ofString "gray_level"), params := dP (st 27), body := .stmts (dB (st 27)), scope := dS (st 27), globals := 3, closure := [], defaults := .none, kwdefaults := .none, doc := .none, pyModule := (.str (Str.ofString "postcore.colours") 295), annotations := none, code := (.ref 190), closureTuple := .none, builtins := 0 }), [].toArray⟩
noncomputable def hpc95 (P : Params) : BT := (.node (o15g1 P) (.node (o31g1 P) (.node (o63g3 P) (.node (o127g7 P) .nil .nil) (.node (o191g9 P) .nil .nil)) (.node (o95g7 P) (.node (o159g9 P) .nil .nil) .nil)) (.node (o47g2 P) (.node (o79g3 P) (.node (o143g8 P) .nil .nil) .nil) (.node (o111g7 P) (.node (o175g9 P) .nil .nil) .nil)))
noncomputable def hpc96 (P : Params) : BT := (.node (o23g1 P) (.node (o39g2 P) (.node (o71g3 P) (.node (o135g8 P) .nil .nil) .nil) (.node (o103g7 P) (.node (o167g9 P) .nil .nil) .nil)) (.node (o55g3 P) (.node (o87g6 P) (.node (o151g8 P) .nil .nil) .nil) (.node (o119g7 P) (.node (o183g9 P) .nil .nil) .nil)))
noncomputable def hpc97 (P : Params) : BT := (.node (o19g1 P) (.node (o35g1 P) (.node (o67g3 P) (.node (o131g8 P) .nil .nil) .nil) (.node (o99g7 P) (.node (o163g9 P) .nil .nil) .nil)) (.node (o51g2 P) (.node (o83g3 P) (.node (o147g8 P) .nil .nil) .nil) (.node (o115g7 P) (.node (o179g9 P) .nil .nil) .nil)))
noncomputable def hpc98 (P : Params) : BT := (.node (o27g1 P) (.node (o43g2 P) (.node (o75g3 P) (.node (o139g8 P) .nil .nil) .nil) (.node (o107g7 P) (.node (o171g9 P) .nil .nil) .nil)) (.node (o59g3 P) (.node (o91g6 P) (.node (o155g8 P) .nil .nil) .nil) (.node (o123g7 P) (.node (o187g9 P) .nil .nil) .nil)))
noncomputable def hpc99 (P : Params) : BT := (.node (o3g9 P) (.node (boot_o_7 P) (hpc95 P) (hpc96 P)) (.node (o11a P) (hpc97 P) (hpc98 P)))
noncomputable def hpc100 (P : Params) : BT := (.node (o17g1 P) (.node (o33g1 P) (.node (o65g3 P) (.node (o129g8 P) .nil .nil) .nil) (.node (o97g7 P) (.node (o161g9 P) .nil .nil) .nil)) (.node (o49g2 P) (.node (o81g3 P) (.node (o145g8 P) .nil .nil) .nil) (.node (o113g7 P) (.node (o177g9 P) .nil .nil) .nil)))
noncomputable def hpc101 (P : Params) : BT := (.node (o25g1 P) (.node (o41g2 P) (.node (o73g3 P) (.node (o137g8 P) .nil .nil) .nil) (.node (o105g7 P) (.node (o169g9 P) .nil .nil) .nil)) (.node (o57g3 P) (.node (o89g6 P) (.node (o153g8 P) .nil .nil) .nil) (.node (o121g7 P) (.node (o185g9 P) .nil .nil) .nil)))
noncomputable def hpc102 (P : Params) : BT := (.node (o21g1 P) (.node (o37g2 P) (.node (o69g3 P) (.node (o133g8 P) .nil .nil) .nil) (.node (o101g7 P) (.node (o165g9 P) .nil .nil) .nil)) (.node (o53g2 P) (.node (o85g6 P) (.node (o149g8 P) .nil .nil) .nil) (.node (o117g7 P) (.node (o181g9 P) .nil .nil) .nil)))
noncomputable def hpc103 (P : Params) : BT := (.node (o29g1 P) (.node (o45g2 P) (.node (o77g3 P) (.node (o141g8 P) .nil .nil) .nil) (.node (o109g7 P) (.node (o173g9 P) .nil .nil) .nil)) (.node (o61g3 P) (.node (o93g7 P) (.node (o157g9 P) .nil .nil) .nil) (.node (o125g7 P) (.node (o189g9 P) .nil .nil) .nil)))
noncomputable def hpc104 (P : Params) : BT := (.node (boot_o_5 P) (.node (boot_o_9 P) (hpc100 P) (hpc101 P)) (.node (o13a P) (hpc102 P) (hpc103 P)))
noncomputable def hpc105 (P : Params) : BT := (.node (o16g1 P) (.node (o32g2 P) (.node (o64g3 P) (.node (o128g7 P) .nil .nil) .nil) (.node (o96g7 P) (.node (o160g9 P) .nil .nil) .nil)) (.node (o48g2 P) (.node (o80g3 P) (.node (o144g8 P) .nil .nil) .nil) (.node (o112g7 P) (.node (o176g9 P) .nil .nil) .nil)))
noncomputable def hpc106 (P : Params) : BT := (.node (o24g1 P) (.node (o40g2 P) (.node (o72g3 P) (.node (o136g8 P) .nil .nil) .nil) (.node (o104g7 P) (.node (o168g9 P) .nil .nil) .nil)) (.node (o56g3 P) (.node (o88g6 P) (.node (o152g8 P) .nil .nil) .nil) (.node (o120g7 P) (.node (o184g9 P) .nil .nil) .nil)))
noncomputable def hpc107 (P : Params) : BT := (.node (o20g1 P) (.node (o36g2 P) (.node (o68g3 P) (.node (o132g8 P) .nil .nil) .nil) (.node (o100g7 P) (.node (o164g9 P) .nil .nil) .nil)) (.node (o52g2 P) (.node (o84g5 P) (.node (o148g8 P) .nil .nil) .nil) (.node (o116g7 P) (.node (o180g9 P) .nil .nil) .nil)))
noncomputable def hpc108 (P : Params) : BT := (.node (o28g1 P) (.node (o44g2 P) (.node (o76g3 P) (.node (o140g8 P) .nil .nil) .nil) (.node (o108g7 P) (.node (o172g9 P) .nil .nil) .nil)) (.node (o60g3 P) (.node (o92g7 P) (.node (o156g8 P) .nil .nil) .nil) (.node (o124g7 P) (.node (o188g9 P) .nil .nil) .nil)))
noncomputable def hpc109 (P : Params) : BT := (.node (boot_o_4 P) (.node (boot_o_8 P) (hpc105 P) (hpc106 P)) (.node (o12g9 P) (hpc107 P) (hpc108 P)))
noncomputable def hpc110 (P : Params) : BT := (.node (o18g1 P) (.node (o34g1 P) (.node (o66g3 P) (.node (o130g8 P) .nil .nil) .nil) (.node (o98g7 P) (.node (o162g9 P) .nil .nil) .nil)) (.node (o50g2 P) (.node (o82g3 P) (.node (o146g8 P) .nil .nil) .nil) (.node (o114g7 P) (.node (o178g9 P) .nil .nil) .nil)))
noncomputable def hpc111 (P : Params) : BT := (.node (o26g1 P) (.node (o42g2 P) (.node (o74g3 P) (.node (o138g8 P) .nil .nil) .nil) (.node (o106g7 P) (.node (o170g9 P) .nil .nil) .nil)) (.node (o58g3 P) (.node (o90g6 P) (.node (o154g8 P) .nil .nil) .nil) (.node (o122g7 P) (.node (o186g9 P) .nil .nil) .nil)))
noncomputable def hpc112 (P : Params) : BT := (.node (o22g1 P) (.node (o38g2 P) (.node (o70g3 P) (.node (o134g8 P) .nil .nil) .nil) (.node (o102g7 P) (.node (o166g9 P) .nil .nil) .nil)) (.node (o54g2 P) (.node (o86g6 P) (.node (o150g8 P) .nil .nil) .nil) (.node (o118g7 P) (.node (o182g9 P) .nil .nil) .nil)))
noncomputable def hpc113 (P : Params) : BT := (.node (o30g1 P) (.node (o46g2 P) (.node (o78g3 P) (.node (o142g8 P) .nil .nil) .nil) (.node (o110g7 P) (.node (o174g9 P) .nil .nil) .nil)) (.node (o62g3 P) (.node (o94g7 P) (.node (o158g9 P) .nil .nil) .nil) (.node (o126g7 P) (.node (o190g9 P) .nil .nil) .nil)))
noncomputable def hpc114 (P : Params) : BT := (.node (boot_o_6 P) (.node (boot_o_10 P) (hpc110 P) (hpc111 P)) (.node (o14a P) (hpc112 P) (hpc113 P)))
noncomputable def hpc115 (P : Params) : BT := (.node (boot_o_0 P) (.node (boot_o_1 P) (hpc99 P) (hpc104 P)) (.node (o2g1 P) (hpc109 P) (hpc114 P)))
noncomputable def T9 (P : Params) : BT := (hpc115 P)
noncomputable def S9 (w : World) (os : OsState) : SharedT := ⟨T9 w.params, 192, {}, #[], {}, 465, os⟩
noncomputable def p9 : Pos := ⟨83, 0, 84, 44⟩
noncomputable def s9 : List Stmt := ((behindTheImports pw).drop 25).take 3
noncomputable def g9 : Prop := ∀ (w : World) (os : OsState), segRunT treeTable pw w 11 (some (.ref 6)) 1 287 (S8 w os) (piecesOf s9 env cE p8 B) = some (.next, S9 w os, cE, p9)
noncomputable def hpc116 (P : Params) (t : List DictEntry) : List DictEntry := ⟨(PyData.keyHash P (Str.ofString "_law_is_refused")), (.str (Str.ofString "_law_is_refused") 536), (.ref 241)⟩ :: ⟨(PyData.keyHash P (Str.ofString "_law_levels_right")), (.str (Str.ofString "_law_levels_right") 542), (.ref 246)⟩ :: t
noncomputable def hpc117 (P : Params) (t : List DictEntry) : List DictEntry := ⟨(PyData.keyHash P (Str.ofString "gray_level")), (.str (Str.ofString "gray_level") 464), (.ref 191)⟩ :: ⟨(PyData.keyHash P (Str.ofString "halftone_is_white")), (.str (Str.ofString "halftone_is_white") 475), (.ref 198)⟩ :: ⟨(PyData.keyHash P (Str.ofString "halftone_rows")), (.str (Str.ofString "halftone_rows") 481), (.ref 203)⟩ :: ⟨(PyData.keyHash P (Str.ofString "spot_order")), (.str (Str.ofString "spot_order") 487), (.ref 208)⟩ :: ⟨(PyData.keyHash P (Str.ofString "spot_halftone")), (.str (Str.ofString "spot_halftone") 499), (.ref 215)⟩ :: ⟨(PyData.keyHash P (Str.ofString "_law_deck")), (.str (Str.ofString "_law_deck") 507), (.ref 220)⟩ :: ⟨(PyData.keyHash P (Str.ofString "_law_draw")), (.str (Str.ofString "_law_draw") 517), (.ref 227)⟩ :: ⟨(PyData.keyHash P (Str.ofString "_law_gray")), (.str (Str.ofString "_law_gray") 525), (.ref 234)⟩ :: t
noncomputable def hpc118 (P : Params) (t : List DictEntry) : List DictEntry := ⟨(PyData.keyHash P (Str.ofString "__name__")), (.str (Str.ofString "__name__") 165), (.str (Str.ofString "law_pb0512_01") 500)⟩ :: ⟨(PyData.keyHash P (Str.ofString "__doc__")), (.str (Str.ofString "__doc__") 166), .none⟩ :: ⟨(PyData.keyHash P (Str.ofString "__package__")), (.str (Str.ofString "__package__") 167), .none⟩ :: ⟨(PyData.keyHash P (Str.ofString "__loader__")), (.str (Str.ofString "__loader__") 168), (.builtin "__main__.__loader__#opaque")⟩ :: ⟨(PyData.keyHash P (Str.ofString "__spec__")), (.str (Str.ofString "__spec__") 169), .none⟩ :: ⟨(PyData.keyHash P (Str.ofString "__annotations__")), (.str (Str.ofString "__annotations__") 170), (.ref 6)⟩ :: ⟨(PyData.keyHash P (Str.ofString "__builtins__")), (.str (Str.ofString "__builtins__") 171), (.ref 4)⟩ :: ⟨(PyData.keyHash P (Str.ofString "__file__")), (.str (Str.ofString "__file__") 173), (.str (Str.ofString "/claim/cut.py") 172)⟩ :: t
noncomputable def o3g10 (P : Params) : Obj := ⟨(.type "dict"), none, (.dict (hpc118 P (hpc19 P (hpc38 P (hpc94 P (hpc117 P (hpc116 P [])))))).toArray 42), [].toArray⟩
noncomputable def o12g10 (P : Params) : Obj := ⟨.none, none, (.fields [(.int (3) 0), (.int (0) 0), (.ref 20), (.int (7) 0), (.int (0) 0), (.ref 41), (.int (10) 0), (.int (0) 0), (.ref 53), (.int (16) 0), (.int (0) 0), (.ref 60), (.int (23) 0), (.int (0) 0), (.ref 82), (.int (34) 0), (.int (0) 0), (.ref 90), (.int (36) 0), (.int (0) 0), (.ref 97), (.int (55) 0), (.int (0) 0), (.ref 134), (.int (61) 0), (.int (0) 0), (.ref 141), (.int (63) 0), (.int (0) 0), (.ref 148), (.int (65) 0), (.int (0) 0), (.ref 155), (.int (73) 0), (.int (0) 0), (.ref 162), (.int (79) 0), (.int (0) 0), (.ref 183), (.int (83) 0), (.int (0) 0), (.ref 190), (.int (85) 0), (.int (0) 0), (.ref 197), (.int (88) 0), (.int (0) 0), (.ref 202), (.int (93) 0), (.int (0) 0), (.ref 207), (.int (95) 0), (.int (0) 0), (.ref 214), (.int (103) 0), (.int (0) 0), (.ref 219), (.int (108) 0), (.int (0) 0), (.ref 226), (.int (120) 0), (.int (0) 0), (.ref 233), (.int (123) 0), (.int (0) 0), (.ref 240), (.int (129) 0), (.int (0) 0), (.ref 245)].toArray), [].toArray⟩
noncomputable def o192g10 (P : Params) : Obj := ⟨(.type "tuple"), none, (.seq [].toArray 0), [].toArray⟩
noncomputable def o193g10 (P : Params) : Obj := ⟨.none, none, (.fields [].toArray), [].toArray⟩
noncomputable def o194g10 (P : Params) : Obj := ⟨(.type "tuple"), none, (.seq [(.str (Str.ofString "halftone") 468), (.str (Str.ofString "x") 469), (.str (Str.ofString "y") 470), (.str (Str.ofString "gray") 471), (.str (Str.ofString "threshold") 472)].toArray 0), [].toArray⟩
noncomputable def o195g10 (P : Params) : Obj := ⟨(.type "tuple"), none, (.seq [].toArray 0), [].toArray⟩
noncomputable def o196g10 (P : Params) : Obj := ⟨.none, none, (.func { name := (Str.ofString "halftone_is_white"), qualname := (Str.ofString "halftone_is_white"), params := dP (st 28), body := .stmts (dB (st 28)), scope := dS (st 28), globals := 0, closure := [], defaults := .none, kwdefaults := .none, doc := .none, pyModule := .none, annotations := none, code := .none, closureTuple := .none, builtins := 0 }), [].toArray⟩
noncomputable def o197g10 (P : Params) : Obj := ⟨(.type "code"), none, (.fields [(.str (Str.ofString "halftone_is_white") 465), (.str (Str.ofString "halftone_is_white") 466), (.str (Str.ofString "/claim/cut.py") 467), (.int (85) 0), (.int (4) 0), (.int (0) 0), (.int (0) 0), (.int (3) 0), (.ref 192), (.bool true), (.int (181) 0), (.ref 193), .none, (.ref 194), (.ref 195), (.ref 196), (.int (473) 0), (.int (85) 0), (.str (Str.ofString "/claim/cut.py") 474)].toArray), [].toArray⟩
noncomputable def o198g10 (P : Params) : Obj := ⟨(.type "function"), none, (.func { name := (Str.ofString "halftone_is_white"), qualname := (Str.ofString "halftone_is_white"), params := dP (st 28), body := .stmts (dB (st 28)), scope := dS (st 28), globals := 3, closure := [], defaults := .none, kwdefaults := .none, doc := .none, pyModule := (.str (Str.ofString "postcore.colours") 295), annotations := none, code := (.ref 197), closureTuple := .none, builtins := 0 }), [].toArray⟩
noncomputable def o199g10 (P : Params) : Obj := ⟨(.type "tuple"), none, (.seq [].toArray 0), [].toArray⟩
noncomputable def o200g10 (P : Params) : Obj := ⟨.none, none, (.fields [].toArray), [].toArray⟩
noncomputable def o201g10 (P : Params) : Obj := ⟨.none, none, (.func { name := (Str.ofString "halftone_rows"), qualname := (Str.ofString "halftone_rows"), params := dP (st 29), body := .stmts (dB (st 29)), scope := dS (st 29), globals := 0, closure := [], defaults := .none, kwdefaults := .none, doc := .none, pyModule := .none, annotations := none, code := .none, closureTuple := .none, builtins := 0 }), [].toArray⟩
noncomputable def o202g10 (P : Params) : Obj := ⟨(.type "code"), none, (.fields [(.str (Str.ofString "halftone_rows") 476), (.str (Str.ofString "halftone_rows") 477), (.str (Str.ofString "/claim/cut.py") 478), (.int (88) 0), (.int (4) 0), (.int (0) 0), (.int (0) 0), (.int (3) 0), (.ref 199), (.bool true), (.int (181) 0), (.ref 200), .none, .none, .none, (.ref 201), (.int (479) 0), (.int (88) 0), (.str (Str.ofString "/claim/cut.py") 480)].toArray), [].toArray⟩
noncomputable def o203g10 (P : Params) : Obj := ⟨(.type "function"), none, (.func { name := (Str.ofString "halftone_rows"), qualname := (Str.ofString "halftone_rows"), params := dP (st 29), body := .stmts (dB (st 29)), scope := dS (st 29), globals := 3, closure := [], defaults := .none, kwdefaults := .none, doc := .none, pyModule := (.str (Str.ofString "postcore.colours") 295), annotations := none, code := (.ref 202), closureTuple := .none, builtins := 0 }), [].toArray⟩
noncomputable def o204g10 (P : Params) : Obj := ⟨(.type "tuple"), none, (.seq [].toArray 0), [].toArray⟩
noncomputable def o205g10 (P : Params) : Obj := ⟨.none, none, (.fields [].toArray), [].toArray⟩
noncomputable def o206g10 (P : Params) : Obj := ⟨.none, none, (.func { name := (Str.ofString "spot_order"), qualname := (Str.ofString "spot_order"), params := dP (st 30), body := .stmts (dB (st 30)), scope := dS (st 30), globals := 0, closure := [], defaults := .none, kwdefaults := .none, doc := .none, pyModule := .none, annotations := none, code := .none, closureTuple := .none, builtins := 0 }), [].toArray⟩
noncomputable def o207g10 (P : Params) : Obj := ⟨(.type "code"), none, (.fields [(.str (Str.ofString "spot_order") 482), (.str (Str.ofString "spot_order") 483), (.str (Str.ofString "/claim/cut.py") 484), (.int (93) 0), (.int (1) 0), (.int (0) 0), (.int (0) 0), (.int (3) 0), (.ref 204), (.bool true), (.int (181) 0), (.ref 205), .none, .none, .none, (.ref 206), (.int (485) 0), (.int (93) 0), (.str (Str.ofString "/claim/cut.py") 486)].toArray), [].toArray⟩
noncomputable def o208g10 (P : Params) : Obj := ⟨(.type "function"), none, (.func { name := (Str.ofString "spot_order"), qualname := (Str.ofString "spot_order"), params := dP (st 30), body := .stmts (dB (st 30)), scope := dS (st 30), globals := 3, closure := [], defaults := .none, kwdefaults := .none, doc := .none, pyModule := (.str (Str.ofString "postcore.colours") 295), annotations := none, code := (.ref 207), closureTuple := .none, builtins := 0 }), [].toArray⟩
noncomputable def o209g10 (P : Params) : Obj := ⟨(.type "tuple"), none, (.seq [].toArray 0), [].toArray⟩
noncomputable def o210g10 (P : Params) : Obj := ⟨.none, none, (.fields [].toArray), [].toArray⟩
noncomputable def o211g10 (P : Params) : Obj := ⟨(.type "tuple"), none, (.seq [(.str (Str.ofString "width") 491), (.str (Str.ofString "height") 492), (.str (Str.ofString "values") 493), (.str (Str.ofString "thresholds") 494), (.str (Str.ofString "rank") 495), (.str (Str.ofString "number") 496)].toArray 0), [].toArray⟩
noncomputable def o212g10 (P : Params) : Obj := ⟨(.type "tuple"), none, (.seq [].toArray 0), [].toArray⟩
noncomputable def o213g10 (P : Params) : Obj := ⟨.none, none, (.func { name := (Str.ofString "spot_halftone"), qualname := (Str.ofString "spot_halftone"), params := dP (st 31), body := .stmts (dB (st 31)), scope := dS (st 31), globals := 0, closure := [], defaults := .none, kwdefaults := .none, doc := .none, pyModule := .none, annotations := none, code := .none, closureTuple := .none, builtins := 0 }), [].toArray⟩
noncomputable def o214g10 (P : Params) : Obj := ⟨(.type "code"), none, (.fields [(.str (Str.ofString "spot_halftone") 488), (.str (Str.ofString "spot_halftone") 489), (.str (Str.ofString "/claim/cut.py") 490), (.int (95) 0), (.int (3) 0), (.int (0) 0), (.int (0) 0), (.int (3) 0), (.ref 209), (.bool true), (.int (181) 0), (.ref 210), .none, (.ref 211), (.ref 212), (.ref 213), (.int (497) 0), (.int (95) 0), (.str (Str.ofString "/claim/cut.py") 498)].toArray), [].toArray⟩
noncomputable def o215g10 (P : Params) : Obj := ⟨(.type "function"), none, (.func { name := (Str.ofString "spot_halftone"), qualname := (Str.ofString "spot_halftone"), params := dP (st 31), body := .stmts (dB (st 31)), scope := dS (st 31), globals := 3, closure := [], defaults := .none, kwdefaults := .none, doc := .none, pyModule := (.str (Str.ofString "postcore.colours") 295), annotations := none, code := (.ref 214), closureTuple := .none, builtins := 0 }), [].toArray⟩
noncomputable def o216g10 (P : Params) : Obj := ⟨(.type "tuple"), none, (.seq [].toArray 0), [].toArray⟩
noncomputable def o217g10 (P : Params) : Obj := ⟨.none, none, (.fields [].toArray), [].toArray⟩
noncomputable def o218g10 (P : Params) : Obj := ⟨.none, none, (.func { name := (Str.ofString "_law_deck"), qualname := (Str.ofString "_law_deck"), params := dP (st 33), body := .stmts (dB (st 33)), scope := dS (st 33), globals := 0, closure := [], defaults := .none, kwdefaults := .none, doc := .none, pyModule := .none, annotations := none, code := .none, closureTuple := .none, builtins := 0 }), [].toArray⟩
noncomputable def o219g10 (P : Params) : Obj := ⟨(.type "code"), none, (.fields [(.str (Str.ofString "_law_deck") 502), (.str (Str.ofString "_law_deck") 503), (.str (Str.ofString "/claim/cut.py") 504), (.int (103) 0), (.int (1) 0), (.int (0) 0), (.int (0) 0), (.int (3) 0), (.ref 216), (.bool true), (.int (181) 0), (.ref 217), .none, .none, .none, (.ref 218), (.int (505) 0), (.int (103) 0), (.str (Str.ofString "/claim/cut.py") 506)].toArray), [].toArray⟩
noncomputable def o220g10 (P : Params) : Obj := ⟨(.type "function"), none, (.func { name := (Str.ofString "_law_deck"), qualname := (Str.ofString "_law_deck"), params := dP (st 33), body := .stmts (dB (st 33)), scope := dS (st 33), globals := 3, closure := [], defaults := .none, kwdefaults := .none, doc := .none, pyModule := (.str (Str.ofString "law_pb0512_01") 500), annotations := none, code := (.ref 219), closureTuple := .none, builtins := 0 }), [].toArray⟩
noncomputable def o221g10 (P : Params) : Obj := ⟨(.type "tuple"), none, (.seq [].toArray 0), [].toArray⟩
noncomputable def o222g10 (P : Params) : Obj := ⟨.none, none, (.fields [].toArray), [].toArray⟩
noncomputable def o223g10 (P : Params) : Obj := ⟨(.type "tuple"), none, (.seq [(.str (Str.ofString "deck") 511), (.str (Str.ofString "below") 512), (.str (Str.ofString "figure") 513), (.str (Str.ofString "cell") 514)].toArray 0), [].toArray⟩
noncomputable def o224g10 (P : Params) : Obj := ⟨(.type "tuple"), none, (.seq [].toArray 0), [].toArray⟩
noncomputable def o225g10 (P : Params) : Obj := ⟨.none, none, (.func { name := (Str.ofString "_law_draw"), qualname := (Str.ofString "_law_draw"), params := dP (st 34), body := .stmts (dB (st 34)), scope := dS (st 34), globals := 0, closure := [], defaults := .none, kwdefaults := .none, doc := .none, pyModule := .none, annotations := none, code := .none, closureTuple := .none, builtins := 0 }), [].toArray⟩
noncomputable def o226g10 (P : Params) : Obj := ⟨(.type "code"), none, (.fields [(.str (Str.ofString "_law_draw") 508), (.str (Str.ofString "_law_draw") 509), (.str (Str.ofString "/claim/cut.py") 510), (.int (108) 0), (.int (2) 0), (.int (0) 0), (.int (0) 0), (.int (3) 0), (.ref 221), (.bool true), (.int (181) 0), (.ref 222), .none, (.ref 223), (.ref 224), (.ref 225), (.int (515) 0), (.int (108) 0), (.str (Str.ofString "/claim/cut.py") 516)].toArray), [].toArray⟩
noncomputable def o227g10 (P : Params) : Obj := ⟨(.type "function"), none, (.func { name := (Str.ofString "_law_draw"), qualname := (Str.ofString "_law_draw"), params := dP (st 34), body := .stmts (dB (st 34)), scope := dS (st 34), globals := 3, closure := [], defaults := .none, kwdefaults := .none, doc := .none, pyModule := (.str (Str.ofString "law_pb0512_01") 500), annotations := none, code := (.ref 226), closureTuple := .none, builtins := 0 }), [].toArray⟩
noncomputable def o228g10 (P : Params) : Obj := ⟨(.type "tuple"), none, (.seq [].toArray 0), [].toArray⟩
noncomputable def o229g10 (P : Params) : Obj := ⟨.none, none, (.fields [].toArray), [].toArray⟩
noncomputable def o230g10 (P : Params) : Obj := ⟨(.type "tuple"), none, (.seq [(.str (Str.ofString "deck") 521), (.str (Str.ofString "pick") 522)].toArray 0), [].toArray⟩
noncomputable def o231g10 (P : Params) : Obj := ⟨(.type "tuple"), none, (.seq [].toArray 0), [].toArray⟩
noncomputable def o232g10 (P : Params) : Obj := ⟨.none, none, (.func { name := (Str.ofString "_law_gray"), qualname := (Str.ofString "_law_gray"), params := dP (st 35), body := .stmts (dB (st 35)), scope := dS (st 35), globals := 0, closure := [], defaults := .none, kwdefaults := .none, doc := .none, pyModule := .none, annotations := none, code := .none, closureTuple := .none, builtins := 0 }), [].toArray⟩
noncomputable def o233g10 (P : Params) : Obj := ⟨(.type "code"), none, (.fields [(.str (Str.ofString "_law_gray") 518), (.str (Str.ofString "_law_gray") 519), (.str (Str.ofString "/claim/cut.py") 520), (.int (120) 0), (.int (1) 0), (.int (0) 0), (.int (0) 0), (.int (3) 0), (.ref 228), (.bool true), (.int (181) 0), (.ref 229), .none, (.ref 230), (.ref 231), (.ref 232), (.int (523) 0), (.int (120) 0), (.str (Str.ofString "/claim/cut.py") 524)].toArray), [].toArray⟩
noncomputable def o234g10 (P : Params) : Obj := ⟨(.type "function"), none, (.func { name := (Str.ofString "_law_gray"), qualname := (Str.ofString "_law_gray"), params := dP (st 35), body := .stmts (dB (st 35)), scope := dS (st 35), globals := 3, closure := [], defaults := .none, kwdefaults := .none, doc := .none, pyModule := (.str (Str.ofString "law_pb0512_01") 500), annotations := none, code := (.ref 233), closureTuple := .none, builtins := 0 }), [].toArray⟩
noncomputable def o235g10 (P : Params) : Obj := ⟨(.type "tuple"), none, (.seq [].toArray 0), [].toArray⟩
noncomputable def o236g10 (P : Params) : Obj := ⟨.none, none, (.fields [].toArray), [].toArray⟩
noncomputable def o237g10 (P : Params) : Obj := ⟨(.type "tuple"), none, (.seq [(.str (Str.ofString "make") 529), (.str (Str.ofString "width") 530), (.str (Str.ofString "height") 531), (.str (Str.ofString "things") 532), (.str (Str.ofString "error") 533)].toArray 0), [].toArray⟩
noncomputable def o238g10 (P : Params) : Obj := ⟨(.type "tuple"), none, (.seq [].toArray 0), [].toArray⟩
noncomputable def o239g10 (P : Params) : Obj := ⟨.none, none, (.func { name := (Str.ofString "_law_is_refused"), qualname := (Str.ofString "_law_is_refused"), params := dP (st 36), body := .stmts (dB (st 36)), scope := dS (st 36), globals := 0, closure := [], defaults := .none, kwdefaults := .none, doc := .none, pyModule := .none, annotations := none, code := .none, closureTuple := .none, builtins := 0 }), [].toArray⟩
noncomputable def o240g10 (P : Params) : Obj := ⟨(.type "code"), none, (.fields [(.str (Str.ofString "_law_is_refused") 526), (.str (Str.ofString "_law_is_refused") 527), (.str (Str.ofString "/claim/cut.py") 528), (.int (123) 0), (.int (4) 0), (.int (0) 0), (.int (0) 0), (.int (3) 0), (.ref 235), (.bool true), (.int (181) 0), (.ref 236), .none, (.ref 237), (.ref 238), (.ref 239), (.int (534) 0), (.int (123) 0), (.str (Str.ofString "/claim/cut.py") 535)].toArray), [].toArray⟩
noncomputable def o241g10 (P : Params) : Obj := ⟨(.type "function"), none, (.func { name := (Str.ofString "_law_is_refused"), qualname := (Str.ofString "_law_is_refused"), params := dP (st 36), body := .stmts (dB (st 36)), scope := dS (st 36), globals := 3, closure := [], defaults := .none, kwdefaults := .none, doc := .none, pyModule := (.str (Str.ofString "law_pb0512_01") 500), annotations := none, code := (.ref 240), closureTuple := .none, builtins := 0 }), [].toArray⟩
noncomputable def o242g10 (P : Params) : Obj := ⟨(.type "tuple"), none, (.seq [].toArray 0), [].toArray⟩
noncomputable def o243g10 (P : Params) : Obj := ⟨.none, none, (.fields [].toArray), [].toArray⟩
noncomputable def o244g10 (P : Params) : Obj := ⟨.none, none, (.func { name := (Str.ofString "_law_levels_right"), qualname := (Str.ofString "_law_levels_right"), params := dP (st 37), body := .stmts (dB (st 37)), scope := dS (st 37), globals := 0, closure := [], defaults := .none, kwdefaults := .none, doc := .none, pyModule := .none, annotations := none, code := .none, closureTuple := .none, builtins := 0 }), [].toArray⟩
noncomputable def o245g10 (P : Params) : Obj := ⟨(.type "code"), none, (.fields [(.str (Str.ofString "_law_levels_right") 537), (.str (Str.ofString "_law_levels_right") 538), (.str (Str.ofString "/claim/cut.py") 539), (.int (129) 0), (.int (1) 0), (.int (0) 0), (.int (0) 0), (.int (3) 0), (.ref 242), (.bool true), (.int (181) 0), (.ref 243), .none, .none, .none, (.ref 244), (.int (540) 0), (.int (129) 0), (.str (Str.ofString "/claim/cut.py") 541)].toArray), [].toArray⟩
noncomputable def o246g10 (P : Params) : Obj := ⟨(.type "function"), none, (.func { name := (Str.ofString "_law_levels_right"), qualname := (Str.ofString "_law_levels_right"), params := dP (st 37), body := .stmts (dB (st 37)), scope := dS (st 37), globals := 3, closure := [], defaults := .none, kwdefaults := .none, doc := .none, pyModule := (.str (Str.ofString "law_pb0512_01") 500), annotations := none, code := (.ref 245), closureTuple := .none, builtins := 0 }), [].toArray⟩
noncomputable def hpc119 (P : Params) : BT := (.node (o31g1 P) (.node (o63g3 P) (.node (o127g7 P) .nil .nil) (.node (o191g9 P) .nil .nil)) (.node (o95g7 P) (.node (o159g9 P) .nil .nil) (.node (o223g10 P) .nil .nil)))
noncomputable def hpc120 (P : Params) : BT := (.node (o47g2 P) (.node (o79g3 P) (.node (o143g8 P) .nil .nil) (.node (o207g10 P) .nil .nil)) (.node (o111g7 P) (.node (o175g9 P) .nil .nil) (.node (o239g10 P) .nil .nil)))
noncomputable def hpc121 (P : Params) : BT := (.node (o39g2 P) (.node (o71g3 P) (.node (o135g8 P) .nil .nil) (.node (o199g10 P) .nil .nil)) (.node (o103g7 P) (.node (o167g9 P) .nil .nil) (.node (o231g10 P) .nil .nil)))
noncomputable def hpc122 (P : Params) : BT := (.node (o23g1 P) (hpc121 P) (.node (o55g3 P) (.node (o87g6 P) (.node (o151g8 P) .nil .nil) (.node (o215g10 P) .nil .nil)) (.node (o119g7 P) (.node (o183g9 P) .nil .nil) .nil)))
noncomputable def hpc123 (P : Params) : BT := (.node (o35g1 P) (.node (o67g3 P) (.node (o131g8 P) .nil .nil) (.node (o195g10 P) .nil .nil)) (.node (o99g7 P) (.node (o163g9 P) .nil .nil) (.node (o227g10 P) .nil .nil)))
noncomputable def hpc124 (P : Params) : BT := (.node (o51g2 P) (.node (o83g3 P) (.node (o147g8 P) .nil .nil) (.node (o211g10 P) .nil .nil)) (.node (o115g7 P) (.node (o179g9 P) .nil .nil) (.node (o243g10 P) .nil .nil)))
noncomputable def hpc125 (P : Params) : BT := (.node (o43g2 P) (.node (o75g3 P) (.node (o139g8 P) .nil .nil) (.node (o203g10 P) .nil .nil)) (.node (o107g7 P) (.node (o171g9 P) .nil .nil) (.node (o235g10 P) .nil .nil)))
noncomputable def hpc126 (P : Params) : BT := (.node (o27g1 P) (hpc125 P) (.node (o59g3 P) (.node (o91g6 P) (.node (o155g8 P) .nil .nil) (.node (o219g10 P) .nil .nil)) (.node (o123g7 P) (.node (o187g9 P) .nil .nil) .nil)))
noncomputable def hpc127 (P : Params) : BT := (.node (o3g10 P) (.node (boot_o_7 P) (.node (o15g1 P) (hpc119 P) (hpc120 P)) (hpc122 P)) (.node (o11a P) (.node (o19g1 P) (hpc123 P) (hpc124 P)) (hpc126 P)))
noncomputable def hpc128 (P : Params) : BT := (.node (o33g1 P) (.node (o65g3 P) (.node (o129g8 P) .nil .nil) (.node (o193g10 P) .nil .nil)) (.node (o97g7 P) (.node (o161g9 P) .nil .nil) (.node (o225g10 P) .nil .nil)))
noncomputable def hpc129 (P : Params) : BT := (.node (o49g2 P) (.node (o81g3 P) (.node (o145g8 P) .nil .nil) (.node (o209g10 P) .nil .nil)) (.node (o113g7 P) (.node (o177g9 P) .nil .nil) (.node (o241g10 P) .nil .nil)))
noncomputable def hpc130 (P : Params) : BT := (.node (o41g2 P) (.node (o73g3 P) (.node (o137g8 P) .nil .nil) (.node (o201g10 P) .nil .nil)) (.node (o105g7 P) (.node (o169g9 P) .nil .nil) (.node (o233g10 P) .nil .nil)))
noncomputable def hpc131 (P : Params) : BT := (.node (o25g1 P) (hpc130 P) (.node (o57g3 P) (.node (o89g6 P) (.node (o153g8 P) .nil .nil) (.node (o217g10 P) .nil .nil)) (.node (o121g7 P) (.node (o185g9 P) .nil .nil) .nil)))
noncomputable def hpc132 (P : Params) : BT := (.node (o37g2 P) (.node (o69g3 P) (.node (o133g8 P) .nil .nil) (.node (o197g10 P) .nil .nil)) (.node (o101g7 P) (.node (o165g9 P) .nil .nil) (.node (o229g10 P) .nil .nil)))
noncomputable def hpc133 (P : Params) : BT := (.node (o53g2 P) (.node (o85g6 P) (.node (o149g8 P) .nil .nil) (.node (o213g10 P) .nil .nil)) (.node (o117g7 P) (.node (o181g9 P) .nil .nil) (.node (o245g10 P) .nil .nil)))
noncomputable def hpc134 (P : Params) : BT := (.node (o45g2 P) (.node (o77g3 P) (.node (o141g8 P) .nil .nil) (.node (o205g10 P) .nil .nil)) (.node (o109g7 P) (.node (o173g9 P) .nil .nil) (.node (o237g10 P) .nil .nil)))
noncomputable def hpc135 (P : Params) : BT := (.node (o29g1 P) (hpc134 P) (.node (o61g3 P) (.node (o93g7 P) (.node (o157g9 P) .nil .nil) (.node (o221g10 P) .nil .nil)) (.node (o125g7 P) (.node (o189g9 P) .nil .nil) .nil)))
noncomputable def hpc136 (P : Params) : BT := (.node (boot_o_5 P) (.node (boot_o_9 P) (.node (o17g1 P) (hpc128 P) (hpc129 P)) (hpc131 P)) (.node (o13a P) (.node (o21g1 P) (hpc132 P) (hpc133 P)) (hpc135 P)))
noncomputable def hpc137 (P : Params) : BT := (.node (o32g2 P) (.node (o64g3 P) (.node (o128g7 P) .nil .nil) (.node (o192g10 P) .nil .nil)) (.node (o96g7 P) (.node (o160g9 P) .nil .nil) (.node (o224g10 P) .nil .nil)))
noncomputable def hpc138 (P : Params) : BT := (.node (o48g2 P) (.node (o80g3 P) (.node (o144g8 P) .nil .nil) (.node (o208g10 P) .nil .nil)) (.node (o112g7 P) (.node (o176g9 P) .nil .nil) (.node (o240g10 P) .nil .nil)))
noncomputable def hpc139 (P : Params) : BT := (.node (o40g2 P) (.node (o72g3 P) (.node (o136g8 P) .nil .nil) (.node (o200g10 P) .nil .nil)) (.node (o104g7 P) (.node (o168g9 P) .nil .nil) (.node (o232g10 P) .nil .nil)))
noncomputable def hpc140 (P : Params) : BT := (.node (o24g1 P) (hpc139 P) (.node (o56g3 P) (.node (o88g6 P) (.node (o152g8 P) .nil .nil) (.node (o216g10 P) .nil .nil)) (.node (o120g7 P) (.node (o184g9 P) .nil .nil) .nil)))
noncomputable def hpc141 (P : Params) : BT := (.node (o36g2 P) (.node (o68g3 P) (.node (o132g8 P) .nil .nil) (.node (o196g10 P) .nil .nil)) (.node (o100g7 P) (.node (o164g9 P) .nil .nil) (.node (o228g10 P) .nil .nil)))
noncomputable def hpc142 (P : Params) : BT := (.node (o52g2 P) (.node (o84g5 P) (.node (o148g8 P) .nil .nil) (.node (o212g10 P) .nil .nil)) (.node (o116g7 P) (.node (o180g9 P) .nil .nil) (.node (o244g10 P) .nil .nil)))
noncomputable def hpc143 (P : Params) : BT := (.node (o44g2 P) (.node (o76g3 P) (.node (o140g8 P) .nil .nil) (.node (o204g10 P) .nil .nil)) (.node (o108g7 P) (.node (o172g9 P) .nil .nil) (.node (o236g10 P) .nil .nil)))
noncomputable def hpc144 (P : Params) : BT := (.node (o28g1 P) (hpc143 P) (.node (o60g3 P) (.node (o92g7 P) (.node (o156g8 P) .nil .nil) (.node (o220g10 P) .nil .nil)) (.node (o124g7 P) (.node (o188g9 P) .nil .nil) .nil)))
noncomputable def hpc145 (P : Params) : BT := (.node (boot_o_4 P) (.node (boot_o_8 P) (.node (o16g1 P) (hpc137 P) (hpc138 P)) (hpc140 P)) (.node (o12g10 P) (.node (o20g1 P) (hpc141 P) (hpc142 P)) (hpc144 P)))
noncomputable def hpc146 (P : Params) : BT := (.node (o34g1 P) (.node (o66g3 P) (.node (o130g8 P) .nil .nil) (.node (o194g10 P) .nil .nil)) (.node (o98g7 P) (.node (o162g9 P) .nil .nil) (.node (o226g10 P) .nil .nil)))
noncomputable def hpc147 (P : Params) : BT := (.node (o50g2 P) (.node (o82g3 P) (.node (o146g8 P) .nil .nil) (.node (o210g10 P) .nil .nil)) (.node (o114g7 P) (.node (o178g9 P) .nil .nil) (.node (o242g10 P) .nil .nil)))
noncomputable def hpc148 (P : Params) : BT := (.node (o42g2 P) (.node (o74g3 P) (.node (o138g8 P) .nil .nil) (.node (o202g10 P) .nil .nil)) (.node (o106g7 P) (.node (o170g9 P) .nil .nil) (.node (o234g10 P) .nil .nil)))
noncomputable def hpc149 (P : Params) : BT := (.node (o26g1 P) (hpc148 P) (.node (o58g3 P) (.node (o90g6 P) (.node (o154g8 P) .nil .nil) (.node (o218g10 P) .nil .nil)) (.node (o122g7 P) (.node (o186g9 P) .nil .nil) .nil)))
noncomputable def hpc150 (P : Params) : BT := (.node (o38g2 P) (.node (o70g3 P) (.node (o134g8 P) .nil .nil) (.node (o198g10 P) .nil .nil)) (.node (o102g7 P) (.node (o166g9 P) .nil .nil) (.node (o230g10 P) .nil .nil)))
noncomputable def hpc151 (P : Params) : BT := (.node (o54g2 P) (.node (o86g6 P) (.node (o150g8 P) .nil .nil) (.node (o214g10 P) .nil .nil)) (.node (o118g7 P) (.node (o182g9 P) .nil .nil) (.node (o246g10 P) .nil .nil)))
noncomputable def hpc152 (P : Params) : BT := (.node (o46g2 P) (.node (o78g3 P) (.node (o142g8 P) .nil .nil) (.node (o206g10 P) .nil .nil)) (.node (o110g7 P) (.node (o174g9 P) .nil .nil) (.node (o238g10 P) .nil .nil)))
noncomputable def hpc153 (P : Params) : BT := (.node (o30g1 P) (hpc152 P) (.node (o62g3 P) (.node (o94g7 P) (.node (o158g9 P) .nil .nil) (.node (o222g10 P) .nil .nil)) (.node (o126g7 P) (.node (o190g9 P) .nil .nil) .nil)))
noncomputable def hpc154 (P : Params) : BT := (.node (boot_o_6 P) (.node (boot_o_10 P) (.node (o18g1 P) (hpc146 P) (hpc147 P)) (hpc149 P)) (.node (o14a P) (.node (o22g1 P) (hpc150 P) (hpc151 P)) (hpc153 P)))
noncomputable def hpc155 (P : Params) : BT := (.node (boot_o_0 P) (.node (boot_o_1 P) (hpc127 P) (hpc136 P)) (.node (o2g1 P) (hpc145 P) (hpc154 P)))
noncomputable def T10 (P : Params) : BT := (hpc155 P)
noncomputable def S10 (w : World) (os : OsState) : SharedT := ⟨T10 w.params, 247, {}, #[], {}, 543, os⟩
noncomputable def p10 : Pos := ⟨129, 0, 134, 91⟩
noncomputable def s10 : List Stmt := ((behindTheImports pw).drop 28).take 10
noncomputable def g10 : Prop := ∀ (w : World) (os : OsState), segRunT treeTable pw w 11 (some (.ref 6)) 1 276 (S9 w os) (piecesOf s10 env cE p9 B) = some (.next, S10 w os, cE, p10)
noncomputable def hpc156 (P : Params) (t : List DictEntry) : List DictEntry := ⟨(PyData.keyHash P (Str.ofString "_law_is_refused")), (.str (Str.ofString "_law_is_refused") 536), (.ref 241)⟩ :: ⟨(PyData.keyHash P (Str.ofString "_law_levels_right")), (.str (Str.ofString "_law_levels_right") 542), (.ref 246)⟩ :: ⟨(PyData.keyHash P (Str.ofString "_law_cell_right")), (.str (Str.ofString "_law_cell_right") 548), (.ref 251)⟩ :: ⟨(PyData.keyHash P (Str.ofString "_law_order")), (.str (Str.ofString "_law_order") 559), (.ref 258)⟩ :: ⟨(PyData.keyHash P (Str.ofString "_law_spots_right")), (.str (Str.ofString "_law_spots_right") 565), (.ref 263)⟩ :: ⟨(PyData.keyHash P (Str.ofString "_law_transfer_right")), (.str (Str.ofString "_law_transfer_right") 571), (.ref 268)⟩ :: ⟨(PyData.keyHash P (Str.ofString "law")), (.str (Str.ofString "law") 577), (.ref 273)⟩ :: t
noncomputable def o3g11 (P : Params) : Obj := ⟨(.type "dict"), none, (.dict (hpc118 P (hpc19 P (hpc38 P (hpc94 P (hpc117 P (hpc156 P [])))))).toArray 47), [].toArray⟩
noncomputable def o12g11 (P : Params) : Obj := ⟨.none, none, (.fields [(.int (3) 0), (.int (0) 0), (.ref 20), (.int (7) 0), (.int (0) 0), (.ref 41), (.int (10) 0), (.int (0) 0), (.ref 53), (.int (16) 0), (.int (0) 0), (.ref 60), (.int (23) 0), (.int (0) 0), (.ref 82), (.int (34) 0), (.int (0) 0), (.ref 90), (.int (36) 0), (.int (0) 0), (.ref 97), (.int (55) 0), (.int (0) 0), (.ref 134), (.int (61) 0), (.int (0) 0), (.ref 141), (.int (63) 0), (.int (0) 0), (.ref 148), (.int (65) 0), (.int (0) 0), (.ref 155), (.int (73) 0), (.int (0) 0), (.ref 162), (.int (79) 0), (.int (0) 0), (.ref 183), (.int (83) 0), (.int (0) 0), (.ref 190), (.int (85) 0), (.int (0) 0), (.ref 197), (.int (88) 0), (.int (0) 0), (.ref 202), (.int (93) 0), (.int (0) 0), (.ref 207), (.int (95) 0), (.int (0) 0), (.ref 214), (.int (103) 0), (.int (0) 0), (.ref 219), (.int (108) 0), (.int (0) 0), (.ref 226), (.int (120) 0), (.int (0) 0), (.ref 233), (.int (123) 0), (.int (0) 0), (.ref 240), (.int (129) 0), (.int (0) 0), (.ref 245), (.int (135) 0), (.int (0) 0), (.ref 250), (.int (157) 0), (.int (0) 0), (.ref 257), (.int (167) 0), (.int (0) 0), (.ref 262), (.int (180) 0), (.int (0) 0), (.ref 267), (.int (194) 0), (.int (0) 0), (.ref 272)].toArray), [].toArray⟩
noncomputable def o247g11 (P : Params) : Obj := ⟨(.type "tuple"), none, (.seq [].toArray 0), [].toArray⟩
noncomputable def o248g11 (P : Params) : Obj := ⟨.none, none, (.fields [].toArray), [].toArray⟩
noncomputable def o249g11 (P : Params) : Obj := ⟨.none, none, (.func { name := (Str.ofString "_law_cell_right"), qualname := (Str.ofString "_law_cell_right"), params := dP (st 38), body := .stmts (dB (st 38)), scope := dS (st 38), globals := 0, closure := [], defaults := .none, kwdefaults := .none, doc := .none, pyModule := .none, annotations := none, code := .none, closureTuple := .none, builtins := 0 }), [].toArray⟩
noncomputable def o250g11 (P : Params) : Obj := ⟨(.type "code"), none, (.fields [(.str (Str.ofString "_law_cell_right") 543), (.str (Str.ofString "_law_cell_right") 544), (.str (Str.ofString "/claim/cut.py") 545), (.int (135) 0), (.int (3) 0), (.int (0) 0), (.int (0) 0), (.int (3) 0), (.ref 247), (.bool true), (.int (181) 0), (.ref 248), .none, .none, .none, (.ref 249), (.int (546) 0), (.int (135) 0), (.str (Str.ofString "/claim/cut.py") 547)].toArray), [].toArray⟩
noncomputable def o251g11 (P : Params) : Obj := ⟨(.type "function"), none, (.func { name := (Str.ofString "_law_cell_right"), qualname := (Str.ofString "_law_cell_right"), params := dP (st 38), body := .stmts (dB (st 38)), scope := dS (st 38), globals := 3, closure := [], defaults := .none, kwdefaults := .none, doc := .none, pyModule := (.str (Str.ofString "law_pb0512_01") 500), annotations := none, code := (.ref 250), closureTuple := .none, builtins := 0 }), [].toArray⟩
noncomputable def o252g11 (P : Params) : Obj := ⟨(.type "tuple"), none, (.seq [].toArray 0), [].toArray⟩
noncomputable def o253g11 (P : Params) : Obj := ⟨.none, none, (.fields [].toArray), [].toArray⟩
noncomputable def o254g11 (P : Params) : Obj := ⟨(.type "tuple"), none, (.seq [(.str (Str.ofString "values") 552), (.str (Str.ofString "found") 553), (.str (Str.ofString "left") 554), (.str (Str.ofString "best") 555), (.str (Str.ofString "number") 556)].toArray 0), [].toArray⟩
noncomputable def o255g11 (P : Params) : Obj := ⟨(.type "tuple"), none, (.seq [].toArray 0), [].toArray⟩
noncomputable def o256g11 (P : Params) : Obj := ⟨.none, none, (.func { name := (Str.ofString "_law_order"), qualname := (Str.ofString "_law_order"), params := dP (st 39), body := .stmts (dB (st 39)), scope := dS (st 39), globals := 0, closure := [], defaults := .none, kwdefaults := .none, doc := .none, pyModule := .none, annotations := none, code := .none, closureTuple := .none, builtins := 0 }), [].toArray⟩
noncomputable def o257g11 (P : Params) : Obj := ⟨(.type "code"), none, (.fields [(.str (Str.ofString "_law_order") 549), (.str (Str.ofString "_law_order") 550), (.str (Str.ofString "/claim/cut.py") 551), (.int (157) 0), (.int (1) 0), (.int (0) 0), (.int (0) 0), (.int (3) 0), (.ref 252), (.bool true), (.int (181) 0), (.ref 253), .none, (.ref 254), (.ref 255), (.ref 256), (.int (557) 0), (.int (157) 0), (.str (Str.ofString "/claim/cut.py") 558)].toArray), [].toArray⟩
noncomputable def o258g11 (P : Params) : Obj := ⟨(.type "function"), none, (.func { name := (Str.ofString "_law_order"), qualname := (Str.ofString "_law_order"), params := dP (st 39), body := .stmts (dB (st 39)), scope := dS (st 39), globals := 3, closure := [], defaults := .none, kwdefaults := .none, doc := .none, pyModule := (.str (Str.ofString "law_pb0512_01") 500), annotations := none, code := (.ref 257), closureTuple := .none, builtins := 0 }), [].toArray⟩
noncomputable def o259g11 (P : Params) : Obj := ⟨(.type "tuple"), none, (.seq [].toArray 0), [].toArray⟩
noncomputable def o260g11 (P : Params) : Obj := ⟨.none, none, (.fields [].toArray), [].toArray⟩
noncomputable def o261g11 (P : Params) : Obj := ⟨.none, none, (.func { name := (Str.ofString "_law_spots_right"), qualname := (Str.ofString "_law_spots_right"), params := dP (st 40), body := .stmts (dB (st 40)), scope := dS (st 40), globals := 0, closure := [], defaults := .none, kwdefaults := .none, doc := .none, pyModule := .none, annotations := none, code := .none, closureTuple := .none, builtins := 0 }), [].toArray⟩
noncomputable def o262g11 (P : Params) : Obj := ⟨(.type "code"), none, (.fields [(.str (Str.ofString "_law_spots_right") 560), (.str (Str.ofString "_law_spots_right") 561), (.str (Str.ofString "/claim/cut.py") 562), (.int (167) 0), (.int (3) 0), (.int (0) 0), (.int (0) 0), (.int (3) 0), (.ref 259), (.bool true), (.int (181) 0), (.ref 260), .none, .none, .none, (.ref 261), (.int (563) 0), (.int (167) 0), (.str (Str.ofString "/claim/cut.py") 564)].toArray), [].toArray⟩
noncomputable def o263g11 (P : Params) : Obj := ⟨(.type "function"), none, (.func { name := (Str.ofString "_law_spots_right"), qualname := (Str.ofString "_law_spots_right"), params := dP (st 40), body := .stmts (dB (st 40)), scope := dS (st 40), globals := 3, closure := [], defaults := .none, kwdefaults := .none, doc := .none, pyModule := (.str (Str.ofString "law_pb0512_01") 500), annotations := none, code := (.ref 262), closureTuple := .none, builtins := 0 }), [].toArray⟩
noncomputable def o264g11 (P : Params) : Obj := ⟨(.type "tuple"), none, (.seq [].toArray 0), [].toArray⟩
noncomputable def o265g11 (P : Params) : Obj := ⟨.none, none, (.fields [].toArray), [].toArray⟩
noncomputable def o266g11 (P : Params) : Obj := ⟨.none, none, (.func { name := (Str.ofString "_law_transfer_right"), qualname := (Str.ofString "_law_transfer_right"), params := dP (st 41), body := .stmts (dB (st 41)), scope := dS (st 41), globals := 0, closure := [], defaults := .none, kwdefaults := .none, doc := .none, pyModule := .none, annotations := none, code := .none, closureTuple := .none, builtins := 0 }), [].toArray⟩
noncomputable def o267g11 (P : Params) : Obj := ⟨(.type "code"), none, (.fields [(.str (Str.ofString "_law_transfer_right") 566), (.str (Str.ofString "_law_transfer_right") 567), (.str (Str.ofString "/claim/cut.py") 568), (.int (180) 0), (.int (1) 0), (.int (0) 0), (.int (0) 0), (.int (3) 0), (.ref 264), (.bool true), (.int (181) 0), (.ref 265), .none, .none, .none, (.ref 266), (.int (569) 0), (.int (180) 0), (.str (Str.ofString "/claim/cut.py") 570)].toArray), [].toArray⟩
noncomputable def o268g11 (P : Params) : Obj := ⟨(.type "function"), none, (.func { name := (Str.ofString "_law_transfer_right"), qualname := (Str.ofString "_law_transfer_right"), params := dP (st 41), body := .stmts (dB (st 41)), scope := dS (st 41), globals := 3, closure := [], defaults := .none, kwdefaults := .none, doc := .none, pyModule := (.str (Str.ofString "law_pb0512_01") 500), annotations := none, code := (.ref 267), closureTuple := .none, builtins := 0 }), [].toArray⟩
noncomputable def o269g11 (P : Params) : Obj := ⟨(.type "tuple"), none, (.seq [].toArray 0), [].toArray⟩
noncomputable def o270g11 (P : Params) : Obj := ⟨.none, none, (.fields [].toArray), [].toArray⟩
noncomputable def o271g11 (P : Params) : Obj := ⟨.none, none, (.func { name := (Str.ofString "law"), qualname := (Str.ofString "law"), params := dP (st 42), body := .stmts (dB (st 42)), scope := dS (st 42), globals := 0, closure := [], defaults := .none, kwdefaults := .none, doc := .none, pyModule := .none, annotations := none, code := .none, closureTuple := .none, builtins := 0 }), [].toArray⟩
noncomputable def o272g11 (P : Params) : Obj := ⟨(.type "code"), none, (.fields [(.str (Str.ofString "law") 572), (.str (Str.ofString "law") 573), (.str (Str.ofString "/claim/cut.py") 574), (.int (194) 0), (.int (1) 0), (.int (0) 0), (.int (0) 0), (.int (3) 0), (.ref 269), (.bool true), (.int (181) 0), (.ref 270), .none, .none, .none, (.ref 271), (.int (575) 0), (.int (194) 0), (.str (Str.ofString "/claim/cut.py") 576)].toArray), [].toArray⟩
noncomputable def o273g11 (P : Params) : Obj := ⟨(.type "function"), none, (.func { name := (Str.ofString "law"), qualname := (Str.ofString "law"), params := dP (st 42), body := .stmts (dB (st 42)), scope := dS (st 42), globals := 3, closure := [], defaults := .none, kwdefaults := .none, doc := .none, pyModule := (.str (Str.ofString "law_pb0512_01") 500), annotations := none, code := (.ref 272), closureTuple := .none, builtins := 0 }), [].toArray⟩
noncomputable def hpc157 (P : Params) : BT := (.node (o31g1 P) (.node (o63g3 P) (.node (o127g7 P) (.node (o255g11 P) .nil .nil) .nil) (.node (o191g9 P) .nil .nil)) (.node (o95g7 P) (.node (o159g9 P) .nil .nil) (.node (o223g10 P) .nil .nil)))
noncomputable def hpc158 (P : Params) : BT := (.node (o47g2 P) (.node (o79g3 P) (.node (o143g8 P) (.node (o271g11 P) .nil .nil) .nil) (.node (o207g10 P) .nil .nil)) (.node (o111g7 P) (.node (o175g9 P) .nil .nil) (.node (o239g10 P) .nil .nil)))
noncomputable def hpc159 (P : Params) : BT := (.node (o39g2 P) (.node (o71g3 P) (.node (o135g8 P) (.node (o263g11 P) .nil .nil) .nil) (.node (o199g10 P) .nil .nil)) (.node (o103g7 P) (.node (o167g9 P) .nil .nil) (.node (o231g10 P) .nil .nil)))
noncomputable def hpc160 (P : Params) : BT := (.node (o55g3 P) (.node (o87g6 P) (.node (o151g8 P) .nil .nil) (.node (o215g10 P) .nil .nil)) (.node (o119g7 P) (.node (o183g9 P) .nil .nil) (.node (o247g11 P) .nil .nil)))
noncomputable def hpc161 (P : Params) : BT := (.node (boot_o_7 P) (.node (o15g1 P) (hpc157 P) (hpc158 P)) (.node (o23g1 P) (hpc159 P) (hpc160 P)))
noncomputable def hpc162 (P : Params) : BT := (.node (o35g1 P) (.node (o67g3 P) (.node (o131g8 P) (.node (o259g11 P) .nil .nil) .nil) (.node (o195g10 P) .nil .nil)) (.node (o99g7 P) (.node (o163g9 P) .nil .nil) (.node (o227g10 P) .nil .nil)))
noncomputable def hpc163 (P : Params) : BT := (.node (o43g2 P) (.node (o75g3 P) (.node (o139g8 P) (.node (o267g11 P) .nil .nil) .nil) (.node (o203g10 P) .nil .nil)) (.node (o107g7 P) (.node (o171g9 P) .nil .nil) (.node (o235g10 P) .nil .nil)))
noncomputable def hpc164 (P : Params) : BT := (.node (o59g3 P) (.node (o91g6 P) (.node (o155g8 P) .nil .nil) (.node (o219g10 P) .nil .nil)) (.node (o123g7 P) (.node (o187g9 P) .nil .nil) (.node (o251g11 P) .nil .nil)))
noncomputable def hpc165 (P : Params) : BT := (.node (o11a P) (.node (o19g1 P) (hpc162 P) (hpc124 P)) (.node (o27g1 P) (hpc163 P) (hpc164 P)))
noncomputable def hpc166 (P : Params) : BT := (.node (o33g1 P) (.node (o65g3 P) (.node (o129g8 P) (.node (o257g11 P) .nil .nil) .nil) (.node (o193g10 P) .nil .nil)) (.node (o97g7 P) (.node (o161g9 P) .nil .nil) (.node (o225g10 P) .nil .nil)))
noncomputable def hpc167 (P : Params) : BT := (.node (o49g2 P) (.node (o81g3 P) (.node (o145g8 P) (.node (o273g11 P) .nil .nil) .nil) (.node (o209g10 P) .nil .nil)) (.node (o113g7 P) (.node (o177g9 P) .nil .nil) (.node (o241g10 P) .nil .nil)))
noncomputable def hpc168 (P : Params) : BT := (.node (o41g2 P) (.node (o73g3 P) (.node (o137g8 P) (.node (o265g11 P) .nil .nil) .nil) (.node (o201g10 P) .nil .nil)) (.node (o105g7 P) (.node (o169g9 P) .nil .nil) (.node (o233g10 P) .nil .nil)))
noncomputable def hpc169 (P : Params) : BT := (.node (o57g3 P) (.node (o89g6 P) (.node (o153g8 P) .nil .nil) (.node (o217g10 P) .nil .nil)) (.node (o121g7 P) (.node (o185g9 P) .nil .nil) (.node (o249g11 P) .nil .nil)))
noncomputable def hpc170 (P : Params) : BT := (.node (boot_o_9 P) (.node (o17g1 P) (hpc166 P) (hpc167 P)) (.node (o25g1 P) (hpc168 P) (hpc169 P)))
noncomputable def hpc171 (P : Params) : BT := (.node (o37g2 P) (.node (o69g3 P) (.node (o133g8 P) (.node (o261g11 P) .nil .nil) .nil) (.node (o197g10 P) .nil .nil)) (.node (o101g7 P) (.node (o165g9 P) .nil .nil) (.node (o229g10 P) .nil .nil)))
noncomputable def hpc172 (P : Params) : BT := (.node (o45g2 P) (.node (o77g3 P) (.node (o141g8 P) (.node (o269g11 P) .nil .nil) .nil) (.node (o205g10 P) .nil .nil)) (.node (o109g7 P) (.node (o173g9 P) .nil .nil) (.node (o237g10 P) .nil .nil)))
noncomputable def hpc173 (P : Params) : BT := (.node (o61g3 P) (.node (o93g7 P) (.node (o157g9 P) .nil .nil) (.node (o221g10 P) .nil .nil)) (.node (o125g7 P) (.node (o189g9 P) .nil .nil) (.node (o253g11 P) .nil .nil)))
noncomputable def hpc174 (P : Params) : BT := (.node (o13a P) (.node (o21g1 P) (hpc171 P) (hpc133 P)) (.node (o29g1 P) (hpc172 P) (hpc173 P)))
noncomputable def hpc175 (P : Params) : BT := (.node (boot_o_1 P) (.node (o3g11 P) (hpc161 P) (hpc165 P)) (.node (boot_o_5 P) (hpc170 P) (hpc174 P)))
noncomputable def hpc176 (P : Params) : BT := (.node (o32g2 P) (.node (o64g3 P) (.node (o128g7 P) (.node (o256g11 P) .nil .nil) .nil) (.node (o192g10 P) .nil .nil)) (.node (o96g7 P) (.node (o160g9 P) .nil .nil) (.node (o224g10 P) .nil .nil)))
noncomputable def hpc177 (P : Params) : BT := (.node (o48g2 P) (.node (o80g3 P) (.node (o144g8 P) (.node (o272g11 P) .nil .nil) .nil) (.node (o208g10 P) .nil .nil)) (.node (o112g7 P) (.node (o176g9 P) .nil .nil) (.node (o240g10 P) .nil .nil)))
noncomputable def hpc178 (P : Params) : BT := (.node (o40g2 P) (.node (o72g3 P) (.node (o136g8 P) (.node (o264g11 P) .nil .nil) .nil) (.node (o200g10 P) .nil .nil)) (.node (o104g7 P) (.node (o168g9 P) .nil .nil) (.node (o232g10 P) .nil .nil)))
noncomputable def hpc179 (P : Params) : BT := (.node (o56g3 P) (.node (o88g6 P) (.node (o152g8 P) .nil .nil) (.node (o216g10 P) .nil .nil)) (.node (o120g7 P) (.node (o184g9 P) .nil .nil) (.node (o248g11 P) .nil .nil)))
noncomputable def hpc180 (P : Params) : BT := (.node (boot_o_8 P) (.node (o16g1 P) (hpc176 P) (hpc177 P)) (.node (o24g1 P) (hpc178 P) (hpc179 P)))
noncomputable def hpc181 (P : Params) : BT := (.node (o36g2 P) (.node (o68g3 P) (.node (o132g8 P) (.node (o260g11 P) .nil .nil) .nil) (.node (o196g10 P) .nil .nil)) (.node (o100g7 P) (.node (o164g9 P) .nil .nil) (.node (o228g10 P) .nil .nil)))
noncomputable def hpc182 (P : Params) : BT := (.node (o44g2 P) (.node (o76g3 P) (.node (o140g8 P) (.node (o268g11 P) .nil .nil) .nil) (.node (o204g10 P) .nil .nil)) (.node (o108g7 P) (.node (o172g9 P) .nil .nil) (.node (o236g10 P) .nil .nil)))
noncomputable def hpc183 (P : Params) : BT := (.node (o60g3 P) (.node (o92g7 P) (.node (o156g8 P) .nil .nil) (.node (o220g10 P) .nil .nil)) (.node (o124g7 P) (.node (o188g9 P) .nil .nil) (.node (o252g11 P) .nil .nil)))
noncomputable def hpc184 (P : Params) : BT := (.node (o12g11 P) (.node (o20g1 P) (hpc181 P) (hpc142 P)) (.node (o28g1 P) (hpc182 P) (hpc183 P)))
noncomputable def hpc185 (P : Params) : BT := (.node (o34g1 P) (.node (o66g3 P) (.node (o130g8 P) (.node (o258g11 P) .nil .nil) .nil) (.node (o194g10 P) .nil .nil)) (.node (o98g7 P) (.node (o162g9 P) .nil .nil) (.node (o226g10 P) .nil .nil)))
noncomputable def hpc186 (P : Params) : BT := (.node (o42g2 P) (.node (o74g3 P) (.node (o138g8 P) (.node (o266g11 P) .nil .nil) .nil) (.node (o202g10 P) .nil .nil)) (.node (o106g7 P) (.node (o170g9 P) .nil .nil) (.node (o234g10 P) .nil .nil)))
noncomputable def hpc187 (P : Params) : BT := (.node (o58g3 P) (.node (o90g6 P) (.node (o154g8 P) .nil .nil) (.node (o218g10 P) .nil .nil)) (.node (o122g7 P) (.node (o186g9 P) .nil .nil) (.node (o250g11 P) .nil .nil)))
noncomputable def hpc188 (P : Params) : BT := (.node (boot_o_10 P) (.node (o18g1 P) (hpc185 P) (hpc147 P)) (.node (o26g1 P) (hpc186 P) (hpc187 P)))
noncomputable def hpc189 (P : Params) : BT := (.node (o38g2 P) (.node (o70g3 P) (.node (o134g8 P) (.node (o262g11 P) .nil .nil) .nil) (.node (o198g10 P) .nil .nil)) (.node (o102g7 P) (.node (o166g9 P) .nil .nil) (.node (o230g10 P) .nil .nil)))
noncomputable def hpc190 (P : Params) : BT := (.node (o46g2 P) (.node (o78g3 P) (.node (o142g8 P) (.node (o270g11 P) .nil .nil) .nil) (.node (o206g10 P) .nil .nil)) (.node (o110g7 P) (.node (o174g9 P) .nil .nil) (.node (o238g10 P) .nil .nil)))
noncomputable def hpc191 (P : Params) : BT := (.node (o62g3 P) (.node (o94g7 P) (.node (o158g9 P) .nil .nil) (.node (o222g10 P) .nil .nil)) (.node (o126g7 P) (.node (o190g9 P) .nil .nil) (.node (o254g11 P) .nil .nil)))
noncomputable def hpc192 (P : Params) : BT := (.node (o14a P) (.node (o22g1 P) (hpc189 P) (hpc151 P)) (.node (o30g1 P) (hpc190 P) (hpc191 P)))
noncomputable def hpc193 (P : Params) : BT := (.node (o2g1 P) (.node (boot_o_4 P) (hpc180 P) (hpc184 P)) (.node (boot_o_6 P) (hpc188 P) (hpc192 P)))
noncomputable def T11 (P : Params) : BT := (.node (boot_o_0 P) (hpc175 P) (hpc193 P))
noncomputable def S11 (w : World) (os : OsState) : SharedT := ⟨T11 w.params, 274, {}, #[], {}, 578, os⟩
noncomputable def p11 : Pos := ⟨194, 0, 205, 88⟩
noncomputable def s11 : List Stmt := ((behindTheImports pw).drop 38).take 5
noncomputable def g11 : Prop := ∀ (w : World) (os : OsState), segRunT treeTable pw w 11 (some (.ref 6)) 1 138 (S10 w os) (piecesOf s11 env cE p10 B) = some (.next, S11 w os, cE, p11)
noncomputable def hpc194 (P : Params) (t : List Obj) : List Obj := o272g11 P :: o273g11 P :: t
noncomputable def hpc195 (P : Params) (t : List Obj) : List Obj := o264g11 P :: o265g11 P :: o266g11 P :: o267g11 P :: o268g11 P :: o269g11 P :: o270g11 P :: o271g11 P :: t
noncomputable def hpc196 (P : Params) (t : List Obj) : List Obj := o256g11 P :: o257g11 P :: o258g11 P :: o259g11 P :: o260g11 P :: o261g11 P :: o262g11 P :: o263g11 P :: t
noncomputable def hpc197 (P : Params) (t : List Obj) : List Obj := o248g11 P :: o249g11 P :: o250g11 P :: o251g11 P :: o252g11 P :: o253g11 P :: o254g11 P :: o255g11 P :: t
noncomputable def hpc198 (P : Params) (t : List Obj) : List Obj := o240g10 P :: o241g10 P :: o242g10 P :: o243g10 P :: o244g10 P :: o245g10 P :: o246g10 P :: o247g11 P :: t
noncomputable def hpc199 (P : Params) (t : List Obj) : List Obj := o232g10 P :: o233g10 P :: o234g10 P :: o235g10 P :: o236g10 P :: o237g10 P :: o238g10 P :: o239g10 P :: t
noncomputable def hpc200 (P : Params) (t : List Obj) : List Obj := o224g10 P :: o225g10 P :: o226g10 P :: o227g10 P :: o228g10 P :: o229g10 P :: o230g10 P :: o231g10 P :: t
noncomputable def hpc201 (P : Params) (t : List Obj) : List Obj := o216g10 P :: o217g10 P :: o218g10 P :: o219g10 P :: o220g10 P :: o221g10 P :: o222g10 P :: o223g10 P :: t
noncomputable def hpc202 (P : Params) (t : List Obj) : List Obj := o208g10 P :: o209g10 P :: o210g10 P :: o211g10 P :: o212g10 P :: o213g10 P :: o214g10 P :: o215g10 P :: t
noncomputable def hpc203 (P : Params) (t : List Obj) : List Obj := o200g10 P :: o201g10 P :: o202g10 P :: o203g10 P :: o204g10 P :: o205g10 P :: o206g10 P :: o207g10 P :: t
noncomputable def hpc204 (P : Params) (t : List Obj) : List Obj := o192g10 P :: o193g10 P :: o194g10 P :: o195g10 P :: o196g10 P :: o197g10 P :: o198g10 P :: o199g10 P :: t
noncomputable def hpc205 (P : Params) (t : List Obj) : List Obj := o184g9 P :: o185g9 P :: o186g9 P :: o187g9 P :: o188g9 P :: o189g9 P :: o190g9 P :: o191g9 P :: t
noncomputable def hpc206 (P : Params) (t : List Obj) : List Obj := o176g9 P :: o177g9 P :: o178g9 P :: o179g9 P :: o180g9 P :: o181g9 P :: o182g9 P :: o183g9 P :: t
noncomputable def hpc207 (P : Params) (t : List Obj) : List Obj := o168g9 P :: o169g9 P :: o170g9 P :: o171g9 P :: o172g9 P :: o173g9 P :: o174g9 P :: o175g9 P :: t
noncomputable def hpc208 (P : Params) (t : List Obj) : List Obj := o160g9 P :: o161g9 P :: o162g9 P :: o163g9 P :: o164g9 P :: o165g9 P :: o166g9 P :: o167g9 P :: t
noncomputable def hpc209 (P : Params) (t : List Obj) : List Obj := o152g8 P :: o153g8 P :: o154g8 P :: o155g8 P :: o156g8 P :: o157g9 P :: o158g9 P :: o159g9 P :: t
noncomputable def hpc210 (P : Params) (t : List Obj) : List Obj := o144g8 P :: o145g8 P :: o146g8 P :: o147g8 P :: o148g8 P :: o149g8 P :: o150g8 P :: o151g8 P :: t
noncomputable def hpc211 (P : Params) (t : List Obj) : List Obj := o136g8 P :: o137g8 P :: o138g8 P :: o139g8 P :: o140g8 P :: o141g8 P :: o142g8 P :: o143g8 P :: t
noncomputable def hpc212 (P : Params) (t : List Obj) : List Obj := o128g7 P :: o129g8 P :: o130g8 P :: o131g8 P :: o132g8 P :: o133g8 P :: o134g8 P :: o135g8 P :: t
noncomputable def hpc213 (P : Params) (t : List Obj) : List Obj := o120g7 P :: o121g7 P :: o122g7 P :: o123g7 P :: o124g7 P :: o125g7 P :: o126g7 P :: o127g7 P :: t
noncomputable def hpc214 (P : Params) (t : List Obj) : List Obj := o112g7 P :: o113g7 P :: o114g7 P :: o115g7 P :: o116g7 P :: o117g7 P :: o118g7 P :: o119g7 P :: t
noncomputable def hpc215 (P : Params) (t : List Obj) : List Obj := o104g7 P :: o105g7 P :: o106g7 P :: o107g7 P :: o108g7 P :: o109g7 P :: o110g7 P :: o111g7 P :: t
noncomputable def hpc216 (P : Params) (t : List Obj) : List Obj := o96g7 P :: o97g7 P :: o98g7 P :: o99g7 P :: o100g7 P :: o101g7 P :: o102g7 P :: o103g7 P :: t
noncomputable def hpc217 (P : Params) (t : List Obj) : List Obj := o88g6 P :: o89g6 P :: o90g6 P :: o91g6 P :: o92g7 P :: o93g7 P :: o94g7 P :: o95g7 P :: t
noncomputable def hpc218 (P : Params) (t : List Obj) : List Obj := o80g3 P :: o81g3 P :: o82g3 P :: o83g3 P :: o84g5 P :: o85g6 P :: o86g6 P :: o87g6 P :: t
noncomputable def hpc219 (P : Params) (t : List Obj) : List Obj := o72g3 P :: o73g3 P :: o74g3 P :: o75g3 P :: o76g3 P :: o77g3 P :: o78g3 P :: o79g3 P :: t
noncomputable def hpc220 (P : Params) (t : List Obj) : List Obj := o64g3 P :: o65g3 P :: o66g3 P :: o67g3 P :: o68g3 P :: o69g3 P :: o70g3 P :: o71g3 P :: t
noncomputable def hpc221 (P : Params) (t : List Obj) : List Obj := o56g3 P :: o57g3 P :: o58g3 P :: o59g3 P :: o60g3 P :: o61g3 P :: o62g3 P :: o63g3 P :: t
noncomputable def hpc222 (P : Params) (t : List Obj) : List Obj := o48g2 P :: o49g2 P :: o50g2 P :: o51g2 P :: o52g2 P :: o53g2 P :: o54g2 P :: o55g3 P :: t
noncomputable def hpc223 (P : Params) (t : List Obj) : List Obj := o40g2 P :: o41g2 P :: o42g2 P :: o43g2 P :: o44g2 P :: o45g2 P :: o46g2 P :: o47g2 P :: t
noncomputable def hpc224 (P : Params) (t : List Obj) : List Obj := o32g2 P :: o33g1 P :: o34g1 P :: o35g1 P :: o36g2 P :: o37g2 P :: o38g2 P :: o39g2 P :: t
noncomputable def hpc225 (P : Params) (t : List Obj) : List Obj := o24g1 P :: o25g1 P :: o26g1 P :: o27g1 P :: o28g1 P :: o29g1 P :: o30g1 P :: o31g1 P :: t
noncomputable def hpc226 (P : Params) (t : List Obj) : List Obj := o16g1 P :: o17g1 P :: o18g1 P :: o19g1 P :: o20g1 P :: o21g1 P :: o22g1 P :: o23g1 P :: t
noncomputable def hpc227 (P : Params) (t : List Obj) : List Obj := boot_o_8 P :: boot_o_9 P :: boot_o_10 P :: o11a P :: o12g11 P :: o13a P :: o14a P :: o15g1 P :: t
noncomputable def hpc228 (P : Params) (t : List Obj) : List Obj := boot_o_0 P :: boot_o_1 P :: o2g1 P :: o3g11 P :: boot_o_4 P :: boot_o_5 P :: boot_o_6 P :: boot_o_7 P :: t
noncomputable def hz (P : Params) : Heap := ⟨⟨(hpc228 P (hpc227 P (hpc226 P (hpc225 P (hpc224 P (hpc223 P (hpc222 P (hpc221 P (hpc220 P (hpc219 P (hpc218 P (hpc217 P (hpc216 P (hpc215 P (hpc214 P (hpc213 P (hpc212 P (hpc211 P (hpc210 P (hpc209 P (hpc208 P (hpc207 P (hpc206 P (hpc205 P (hpc204 P (hpc203 P (hpc202 P (hpc201 P (hpc200 P (hpc199 P (hpc198 P (hpc197 P (hpc196 P (hpc195 P (hpc194 P [])))))))))))))))))))))))))))))))))))⟩, {}⟩
-- fin steps 1 gens 0 toks 578 drawn PySem.Drawn.mk (OfNat.ofNat.{0} Nat 0 (instOfNatNat 0)) (OfNat.ofNat.{0} Nat 0 (instOfNatNat 0)) (OfNat.ofNat.{0} Nat 0 (instOfNatNat 0)) (OfNat.ofNat.{0} Nat 0 (instOfNatNat 0))
noncomputable def qg (pw : Program) (S0 S1 : World → OsState → SharedT) (f c n : Nat) (p0 p1 : Pos) : Prop := ∀ (w : World) (os : OsState), segRunT treeTable pw w 11 (some (.ref 6)) 1 n (S0 w os) (piecesOf (((behindTheImports pw).drop f).take c) ({ scope := pw.main.scope, locals := mainNs, globals := mainNs, cells := [], code := .ref 13, frame := some 14 } : Env) (Code.body (behindTheImports pw) ({ scope := pw.main.scope, locals := mainNs, globals := mainNs, cells := [], code := .ref 13, frame := some 14 } : Env)) p0 ([topFrame ⟨0, 0, 0, 0⟩] : List Frame)) = some (.next, S1 w os, (Code.body (behindTheImports pw) ({ scope := pw.main.scope, locals := mainNs, globals := mainNs, cells := [], code := .ref 13, frame := some 14 } : Env)), p1)
theorem qg_tw : (fun _ : Program → (World → OsState → SharedT) → (World → OsState → SharedT) → Nat → Nat → Nat → Pos → Pos → Prop => true) qg = true := by k_qdec
theorem g1_is : g1 := by
  show qg pw S0 S1 0 3 248 p0 p1
  rw [PySem.W.Fast.te14976327576794293414]
  intro w os
  kernel_rfl
theorem g2_is : g2 := by
  show qg pw S1 S2 3 5 274 p1 p2
  rw [PySem.W.Fast.te14976327576794293414]
  intro w os
  kernel_rfl
theorem g3_is : g3 := by
  show qg pw S2 S3 8 6 299 p2 p3
  rw [PySem.W.Fast.te14976327576794293414]
  intro w os
  kernel_rfl
theorem g4_is : g4 := by
  show qg pw S3 S4 14 3 28 p3 p4
  rw [PySem.W.Fast.te14976327576794293414]
  intro w os
  kernel_rfl
theorem g6_is : g6 := by
  show qg pw S5 S6 18 2 39 p5 p6
  rw [PySem.W.Fast.te14976327576794293414]
  intro w os
  kernel_rfl
theorem g7_is : g7 := by
  show qg pw S6 S7 20 1 359 p6 p7
  rw [PySem.W.Fast.te14976327576794293414]
  intro w os
  kernel_rfl
theorem g8_is : g8 := by
  show qg pw S7 S8 21 4 121 p7 p8
  rw [PySem.W.Fast.te14976327576794293414]
  intro w os
  kernel_rfl
theorem g9_is : g9 := by
  show qg pw S8 S9 25 3 287 p8 p9
  rw [PySem.W.Fast.te14976327576794293414]
  intro w os
  kernel_rfl
theorem g10_is : g10 := by
  show qg pw S9 S10 28 10 276 p9 p10
  rw [PySem.W.Fast.te14976327576794293414]
  intro w os
  kernel_rfl
theorem g11_is : g11 := by
  show qg pw S10 S11 38 5 138 p10 p11
  rw [PySem.W.Fast.te14976327576794293414]
  intro w os
  kernel_rfl
noncomputable def keep : List Nat := [1,2,3,5,7,8,9,11,12,13,14,15,16,17,18,19,20,21,22,23,24,25,26,27,28,29,30,31,33,34,35,36,37,38,39,40,41,42]
noncomputable def vw : Program := view pw keep
noncomputable def loose : List Str := ["PostError", "Thing", "DEVICE_PARTS", "Space"]
noncomputable def mods : List Str := importedModules pw.main.body
noncomputable def Xt (s : Shared) : Bool := xlAt vw [] s && recOk (RowW.records PySem.Challenge.rw_pb0512_01.row.toRowW) s
noncomputable def sz (w : World) (os : OsState) : Shared := ⟨hz w.params, #[], {}, 578, os⟩
noncomputable def gpre : Prop := ∀ (w : World) (os : OsState), topGo treeTable pw w 11 (some (.ref 6)) 12 ⟨boot_heap w.params, #[], boot_drawn, boot_toks, os⟩ (topStub pw) = some ((⟨ha w.params, #[], {}, 187, os⟩ : Shared), (⟨denote treeTable cE, cE, pa, B⟩ : Thread))
noncomputable def gblock : Prop := ∀ (w : World) (os : OsState), segRun treeTable pw w 11 (some (.ref 6)) 1 1 ⟨ha w.params, #[], {}, 187, os⟩ (blockOf (behindTheImports pw) env cE pa B) = some (.next, (S0 w os).abs, cE, p0)
noncomputable def gfin : Prop := ∀ (w : World) (os : OsState), topRun treeTable pw w 11 (some (.ref 6)) 2 (S11 w os).abs ⟨doneF .next, cE, p11, B⟩ = some (sz w os)
noncomputable def gsize : Prop := ∀ (w : World) (os : OsState), ((boot_heap w.params).isNs mainGlobals && (#[] : Array GenState).size == 0, (boot_heap w.params).objs.size, (boot_heap w.params).nsMap mainGlobals "__annotations__") = (true, 11, some (.ref 6))
noncomputable def lk0 : Prop := ∀ (w : World) (os : OsState), (staticsOk mods (boot_heap w.params) (hz w.params) && namesBound pw (hz w.params) && gensDone (sz w os) && laidKept (boot_heap w.params) (hz w.params)) = true
noncomputable def lk1 : Prop := ∀ (w : World) (os : OsState), seen ((recsOf vw).map (·.name)) (ownsOf vw) [] { sz w os with gens := #[] } = expectedOf vw
noncomputable def lk2 : Prop := ∀ (w : World) (os : OsState), (sz w os).heap.bltView = bltViewBooted
noncomputable def lk3 : Prop := ∀ (w : World) (os : OsState), ((sz w os).heap.keysOk (looseW vw loose) ((recsOf vw).map (·.name)) ((litsOf vw).map (·.1)) ((clssOf vw (looseW vw loose)).map (·.name)) && (sz w os).heap.accountedOkI mods && (sz w os).heap.isNs mainGlobals && (sz w os).heap.isNs builtinsNs && tablesOk vw (sz w os).heap && Xt (sz w os) && (if true then (sz w os).gens.size == 0 else !leftWithCleanup (sz w os).gens)) = true
noncomputable def lk4 : Prop := ∀ (w : World) (os : OsState), tabsOk vw (sz w os) = true
noncomputable def lk5 : Prop := ∀ (w : World) (os : OsState), pinSeenD vw (drecsOf vw) (sz w os) = pinGoodD (drecsOf vw)
noncomputable def lk6 : Prop := ∀ (w : World) (os : OsState), plainSeenE vw (looseW vw loose) (sz w os) = plainGoodE vw (looseW vw loose)
noncomputable def lk7 : Prop := ∀ (w : World) (os : OsState), plainSeenD vw loose (sz w os) = plainGoodD vw loose
noncomputable def lk8 : Prop := ∀ (w : World) (os : OsState), wideSeen vw (sz w os) = wideGood vw
noncomputable def lk9 : Prop := ∀ (w : World) (os : OsState), clsSeenW vw loose (sz w os) = clsGoodW vw loose
noncomputable def qgpre (pw : Program) (keep : List Nat) (loose : List Str) (recs : WRecords) (ha hz : Params → Heap) (sz : World → OsState → Shared) (S0 S11 : World → OsState → SharedT) (pa p0 p11 : Pos) : Prop := ∀ (w : World) (os : OsState), topGo treeTable pw w 11 (some (.ref 6)) 12 ⟨boot_heap w.params, #[], boot_drawn, boot_toks, os⟩ (topStub pw) = some ((⟨ha w.params, #[], {}, 187, os⟩ : Shared), (⟨denote treeTable (Code.body (behindTheImports pw) ({ scope := pw.main.scope, locals := mainNs, globals := mainNs, cells := [], code := .ref 13, frame := some 14 } : Env)), (Code.body (behindTheImports pw) ({ scope := pw.main.scope, locals := mainNs, globals := mainNs, cells := [], code := .ref 13, frame := some 14 } : Env)), pa, ([topFrame ⟨0, 0, 0, 0⟩] : List Frame)⟩ : Thread))
theorem qgpre_tw : (fun _ : Program → List Nat → List Str → WRecords → (Params → Heap) → (Params → Heap) → (World → OsState → Shared) → (World → OsState → SharedT) → (World → OsState → SharedT) → Pos → Pos → Pos → Prop => true) qgpre = true := by k_qdec
theorem gpre_is : gpre := by
  show qgpre pw keep loose (RowW.records PySem.Challenge.rw_pb0512_01.row.toRowW) ha hz sz S0 S11 pa p0 p11
  rw [PySem.W.Fast.te769494715157788689]
  intro w os
  kernel_rfl
noncomputable def qgblock (pw : Program) (keep : List Nat) (loose : List Str) (recs : WRecords) (ha hz : Params → Heap) (sz : World → OsState → Shared) (S0 S11 : World → OsState → SharedT) (pa p0 p11 : Pos) : Prop := ∀ (w : World) (os : OsState), segRun treeTable pw w 11 (some (.ref 6)) 1 1 ⟨ha w.params, #[], {}, 187, os⟩ (blockOf (behindTheImports pw) ({ scope := pw.main.scope, locals := mainNs, globals := mainNs, cells := [], code := .ref 13, frame := some 14 } : Env) (Code.body (behindTheImports pw) ({ scope := pw.main.scope, locals := mainNs, globals := mainNs, cells := [], code := .ref 13, frame := some 14 } : Env)) pa ([topFrame ⟨0, 0, 0, 0⟩] : List Frame)) = some (.next, (S0 w os).abs, (Code.body (behindTheImports pw) ({ scope := pw.main.scope, locals := mainNs, globals := mainNs, cells := [], code := .ref 13, frame := some 14 } : Env)), p0)
theorem qgblock_tw : (fun _ : Program → List Nat → List Str → WRecords → (Params → Heap) → (Params → Heap) → (World → OsState → Shared) → (World → OsState → SharedT) → (World → OsState → SharedT) → Pos → Pos → Pos → Prop => true) qgblock = true := by k_qdec
theorem gblock_is : gblock := by
  show qgblock pw keep loose (RowW.records PySem.Challenge.rw_pb0512_01.row.toRowW) ha hz sz S0 S11 pa p0 p11
  rw [PySem.W.Fast.te1691197587079298536]
  intro w os
  kernel_rfl
noncomputable def qgfin (pw : Program) (keep : List Nat) (loose : List Str) (recs : WRecords) (ha hz : Params → Heap) (sz : World → OsState → Shared) (S0 S11 : World → OsState → SharedT) (pa p0 p11 : Pos) : Prop := ∀ (w : World) (os : OsState), topRun treeTable pw w 11 (some (.ref 6)) 2 (S11 w os).abs ⟨doneF .next, (Code.body (behindTheImports pw) ({ scope := pw.main.scope, locals := mainNs, globals := mainNs, cells := [], code := .ref 13, frame := some 14 } : Env)), p11, ([topFrame ⟨0, 0, 0, 0⟩] : List Frame)⟩ = some (sz w os)
theorem qgfin_tw : (fun _ : Program → List Nat → List Str → WRecords → (Params → Heap) → (Params → Heap) → (World → OsState → Shared) → (World → OsState → SharedT) → (World → OsState → SharedT) → Pos → Pos → Pos → Prop => true) qgfin = true := by k_qdec
theorem gfin_is : gfin := by
  show qgfin pw keep loose (RowW.records PySem.Challenge.rw_pb0512_01.row.toRowW) ha hz sz S0 S11 pa p0 p11
  rw [PySem.W.Fast.te1668617289781949262]
  intro w os
  kernel_rfl
noncomputable def qgsize (pw : Program) (keep : List Nat) (loose : List Str) (recs : WRecords) (ha hz : Params → Heap) (sz : World → OsState → Shared) (S0 S11 : World → OsState → SharedT) (pa p0 p11 : Pos) : Prop := ∀ (w : World) (os : OsState), ((boot_heap w.params).isNs mainGlobals && (#[] : Array GenState).size == 0, (boot_heap w.params).objs.size, (boot_heap w.params).nsMap mainGlobals "__annotations__") = (true, 11, some (.ref 6))
theorem qgsize_tw : (fun _ : Program → List Nat → List Str → WRecords → (Params → Heap) → (Params → Heap) → (World → OsState → Shared) → (World → OsState → SharedT) → (World → OsState → SharedT) → Pos → Pos → Pos → Prop => true) qgsize = true := by k_qdec
theorem gsize_is : gsize := by
  show qgsize pw keep loose (RowW.records PySem.Challenge.rw_pb0512_01.row.toRowW) ha hz sz S0 S11 pa p0 p11
  rw [PySem.W.Fast.te13860241422340114808]
  intro w os
  kernel_rfl
noncomputable def qlk0 (pw : Program) (keep : List Nat) (loose : List Str) (recs : WRecords) (ha hz : Params → Heap) (sz : World → OsState → Shared) (S0 S11 : World → OsState → SharedT) (pa p0 p11 : Pos) : Prop := ∀ (w : World) (os : OsState), (staticsOk (importedModules pw.main.body) (boot_heap w.params) (hz w.params) && namesBound pw (hz w.params) && gensDone (sz w os) && laidKept (boot_heap w.params) (hz w.params)) = true
theorem qlk0_tw : (fun _ : Program → List Nat → List Str → WRecords → (Params → Heap) → (Params → Heap) → (World → OsState → Shared) → (World → OsState → SharedT) → (World → OsState → SharedT) → Pos → Pos → Pos → Prop => true) qlk0 = true := by k_qdec
theorem lk0_is : lk0 := by
  show qlk0 pw keep loose (RowW.records PySem.Challenge.rw_pb0512_01.row.toRowW) ha hz sz S0 S11 pa p0 p11
  rw [PySem.W.Fast.te10910672756693705009]
  intro w os
  kernel_rfl
noncomputable def qlk1 (pw : Program) (keep : List Nat) (loose : List Str) (recs : WRecords) (ha hz : Params → Heap) (sz : World → OsState → Shared) (S0 S11 : World → OsState → SharedT) (pa p0 p11 : Pos) : Prop := ∀ (w : World) (os : OsState), seen ((recsOf (view pw keep)).map (·.name)) (ownsOf (view pw keep)) [] { sz w os with gens := #[] } = expectedOf (view pw keep)
theorem qlk1_tw : (fun _ : Program → List Nat → List Str → WRecords → (Params → Heap) → (Params → Heap) → (World → OsState → Shared) → (World → OsState → SharedT) → (World → OsState → SharedT) → Pos → Pos → Pos → Prop => true) qlk1 = true := by k_qdec
theorem lk1_is : lk1 := by
  show qlk1 pw keep loose (RowW.records PySem.Challenge.rw_pb0512_01.row.toRowW) ha hz sz S0 S11 pa p0 p11
  rw [PySem.W.Fast.te14206656658416048375]
  intro w os
  kernel_rfl
theorem lk2_is : lk2 := by
  intro w os
  kernel_rfl
noncomputable def qlk3 (pw : Program) (keep : List Nat) (loose : List Str) (recs : WRecords) (ha hz : Params → Heap) (sz : World → OsState → Shared) (S0 S11 : World → OsState → SharedT) (pa p0 p11 : Pos) : Prop := ∀ (w : World) (os : OsState), ((sz w os).heap.keysOk (looseW (view pw keep) loose) ((recsOf (view pw keep)).map (·.name)) ((litsOf (view pw keep)).map (·.1)) ((clssOf (view pw keep) (looseW (view pw keep) loose)).map (·.name)) && (sz w os).heap.accountedOkI (importedModules pw.main.body) && (sz w os).heap.isNs mainGlobals && (sz w os).heap.isNs builtinsNs && tablesOk (view pw keep) (sz w os).heap && (xlAt (view pw keep) [] (sz w os) && recOk recs (sz w os)) && (if true then (sz w os).gens.size == 0 else !leftWithCleanup (sz w os).gens)) = true
theorem qlk3_tw : (fun _ : Program → List Nat → List Str → WRecords → (Params → Heap) → (Params → Heap) → (World → OsState → Shared) → (World → OsState → SharedT) → (World → OsState → SharedT) → Pos → Pos → Pos → Prop => true) qlk3 = true := by k_qdec
theorem lk3_is : lk3 := by
  show qlk3 pw keep loose (RowW.records PySem.Challenge.rw_pb0512_01.row.toRowW) ha hz sz S0 S11 pa p0 p11
  rw [PySem.W.Fast.te5083838452147976174]
  intro w os
  kernel_rfl
noncomputable def qlk4 (pw : Program) (keep : List Nat) (loose : List Str) (recs : WRecords) (ha hz : Params → Heap) (sz : World → OsState → Shared) (S0 S11 : World → OsState → SharedT) (pa p0 p11 : Pos) : Prop := ∀ (w : World) (os : OsState), tabsOk (view pw keep) (sz w os) = true
theorem qlk4_tw : (fun _ : Program → List Nat → List Str → WRecords → (Params → Heap) → (Params → Heap) → (World → OsState → Shared) → (World → OsState → SharedT) → (World → OsState → SharedT) → Pos → Pos → Pos → Prop => true) qlk4 = true := by k_qdec
theorem lk4_is : lk4 := by
  show qlk4 pw keep loose (RowW.records PySem.Challenge.rw_pb0512_01.row.toRowW) ha hz sz S0 S11 pa p0 p11
  rw [PySem.W.Fast.te13920519219111487583]
  intro w os
  kernel_rfl
noncomputable def qlk5 (pw : Program) (keep : List Nat) (loose : List Str) (recs : WRecords) (ha hz : Params → Heap) (sz : World → OsState → Shared) (S0 S11 : World → OsState → SharedT) (pa p0 p11 : Pos) : Prop := ∀ (w : World) (os : OsState), pinSeenD (view pw keep) (drecsOf (view pw keep)) (sz w os) = pinGoodD (drecsOf (view pw keep))
theorem qlk5_tw : (fun _ : Program → List Nat → List Str → WRecords → (Params → Heap) → (Params → Heap) → (World → OsState → Shared) → (World → OsState → SharedT) → (World → OsState → SharedT) → Pos → Pos → Pos → Prop => true) qlk5 = true := by k_qdec
theorem lk5_is : lk5 := by
  show qlk5 pw keep loose (RowW.records PySem.Challenge.rw_pb0512_01.row.toRowW) ha hz sz S0 S11 pa p0 p11
  rw [PySem.W.Fast.te2996008320380486594]
  intro w os
  kernel_rfl
noncomputable def qlk6 (pw : Program) (keep : List Nat) (loose : List Str) (recs : WRecords) (ha hz : Params → Heap) (sz : World → OsState → Shared) (S0 S11 : World → OsState → SharedT) (pa p0 p11 : Pos) : Prop := ∀ (w : World) (os : OsState), plainSeenE (view pw keep) (looseW (view pw keep) loose) (sz w os) = plainGoodE (view pw keep) (looseW (view pw keep) loose)
theorem qlk6_tw : (fun _ : Program → List Nat → List Str → WRecords → (Params → Heap) → (Params → Heap) → (World → OsState → Shared) → (World → OsState → SharedT) → (World → OsState → SharedT) → Pos → Pos → Pos → Prop => true) qlk6 = true := by k_qdec
theorem lk6_is : lk6 := by
  show qlk6 pw keep loose (RowW.records PySem.Challenge.rw_pb0512_01.row.toRowW) ha hz sz S0 S11 pa p0 p11
  rw [PySem.W.Fast.te14882097290909883921]
  intro w os
  kernel_rfl
noncomputable def qlk7 (pw : Program) (keep : List Nat) (loose : List Str) (recs : WRecords) (ha hz : Params → Heap) (sz : World → OsState → Shared) (S0 S11 : World → OsState → SharedT) (pa p0 p11 : Pos) : Prop := ∀ (w : World) (os : OsState), plainSeenD (view pw keep) loose (sz w os) = plainGoodD (view pw keep) loose
theorem qlk7_tw : (fun _ : Program → List Nat → List Str → WRecords → (Params → Heap) → (Params → Heap) → (World → OsState → Shared) → (World → OsState → SharedT) → (World → OsState → SharedT) → Pos → Pos → Pos → Prop => true) qlk7 = true := by k_qdec
theorem lk7_is : lk7 := by
  show qlk7 pw keep loose (RowW.records PySem.Challenge.rw_pb0512_01.row.toRowW) ha hz sz S0 S11 pa p0 p11
  rw [PySem.W.Fast.te8756717360923671212]
  intro w os
  kernel_rfl
noncomputable def qlk8 (pw : Program) (keep : List Nat) (loose : List Str) (recs : WRecords) (ha hz : Params → Heap) (sz : World → OsState → Shared) (S0 S11 : World → OsState → SharedT) (pa p0 p11 : Pos) : Prop := ∀ (w : World) (os : OsState), wideSeen (view pw keep) (sz w os) = wideGood (view pw keep)
theorem qlk8_tw : (fun _ : Program → List Nat → List Str → WRecords → (Params → Heap) → (Params → Heap) → (World → OsState → Shared) → (World → OsState → SharedT) → (World → OsState → SharedT) → Pos → Pos → Pos → Prop => true) qlk8 = true := by k_qdec
theorem lk8_is : lk8 := by
  show qlk8 pw keep loose (RowW.records PySem.Challenge.rw_pb0512_01.row.toRowW) ha hz sz S0 S11 pa p0 p11
  rw [PySem.W.Fast.te2401357246144931580]
  intro w os
  kernel_rfl
noncomputable def qlk9 (pw : Program) (keep : List Nat) (loose : List Str) (recs : WRecords) (ha hz : Params → Heap) (sz : World → OsState → Shared) (S0 S11 : World → OsState → SharedT) (pa p0 p11 : Pos) : Prop := ∀ (w : World) (os : OsState), clsSeenW (view pw keep) loose (sz w os) = clsGoodW (view pw keep) loose
theorem qlk9_tw : (fun _ : Program → List Nat → List Str → WRecords → (Params → Heap) → (Params → Heap) → (World → OsState → Shared) → (World → OsState → SharedT) → (World → OsState → SharedT) → Pos → Pos → Pos → Prop => true) qlk9 = true := by k_qdec
theorem lk9_is : lk9 := by
  show qlk9 pw keep loose (RowW.records PySem.Challenge.rw_pb0512_01.row.toRowW) ha hz sz S0 S11 pa p0 p11
  rw [PySem.W.Fast.te18436336074630995770]
  intro w os
  kernel_rfl
end Mine
end
end

section
open PySem PySem.W PyProof.Rows
set_option Elab.async false
set_option maxRecDepth 100000
set_option maxHeartbeats 0
set_option linter.unusedVariables false
noncomputable section
namespace Mine
theorem reduceHash_range (i : Int) : -(2 ^ 63 : Int) ≤ reduceHash i ∧ reduceHash i < 2 ^ 63 ∧ reduceHash i ≠ -1 := by
  unfold reduceHash
  split
  · rename_i h
    simp only [Bool.and_eq_true, decide_eq_true_eq] at h
    by_cases e : i = -1
    · subst e; decide
    · have : (i == -1) = false := by simpa using e
      rw [this]; exact ⟨h.1, h.2, e⟩
  · have h1 : 0 ≤ (i.natAbs : Int) % (2 ^ 61 - 1) := Int.emod_nonneg _ (by decide)
    have h2 : (i.natAbs : Int) % (2 ^ 61 - 1) < 2 ^ 61 - 1 := Int.emod_lt_of_pos _ (by decide)
    dsimp only
    generalize (i.natAbs : Int) % (2 ^ 61 - 1) = m at h1 h2 ⊢
    have e63 : (2 ^ 63 : Int) = 9223372036854775808 := by decide
    have e61 : (2 ^ 61 - 1 : Int) = 2305843009213693951 := by decide
    rw [e61] at h2
    rw [e63]
    split <;> split <;> rename_i h3 <;> (try simp only [beq_iff_eq] at *) <;> refine ⟨?_, ?_, ?_⟩ <;> omega
theorem keyHash_range (P : Params) (x : Str) : -(2 ^ 63 : Int) ≤ PyData.keyHash P x ∧ PyData.keyHash P x < 2 ^ 63 ∧ PyData.keyHash P x ≠ -1 := by
  unfold PyData.keyHash
  split
  · decide
  · exact reduceHash_range _
theorem reduced_keyHash (P : Params) (x : Str) : pyHashByItsType.reduced (PyData.keyHash P x) = pure (PyData.keyHash P x) := by
  obtain ⟨a, b, c⟩ := keyHash_range P x
  generalize PyData.keyHash P x = i at a b c
  unfold pyHashByItsType.reduced
  have : (-(2 ^ 63 : Int) ≤ i && i < 2 ^ 63) = true := by simp only [Bool.and_eq_true, decide_eq_true_eq]; exact ⟨a, b⟩
  have h2 : (i == -1) = false := by simpa using c
  rw [h2]
  simp only [a, b, decide_true, Bool.and_self, if_true, Bool.false_eq_true, if_false]
end Mine
end
end

section
open PySem PySem.W PyProof.Rows
set_option Elab.async false
set_option maxRecDepth 100000
set_option maxHeartbeats 0
set_option linter.unusedVariables false
noncomputable section
namespace Mine
section
variable {α β : Type}
noncomputable def Go (bd : Nat) (w : World) (s : SharedT) (p : Pos) (m : Sem α) (a : α) (s' : SharedT) (p' : Pos) : Prop :=
  ∃ c, c ≤ bd ∧ ∀ (gd : Bool → Bool) (lv : List Value → List Value) (K : α → Sem Fin) (H : Value → Sem Fin) (N : Nat) (r : Flow × Shared × Code × Pos),
    segRun treeTable pw w 11 (some (.ref 6)) 1 N s'.abs ⟨K a, cE, p', B⟩ = some r → segRun treeTable pw w 11 (some (.ref 6)) 1 (c + N) s.abs ⟨m.wrap K H gd lv, cE, p, B⟩ = some r
theorem Go.seg {w : World} {s s' : SharedT} {p p' : Pos} {m : Sem α} {a : α} (c : Nat)
    (h : ∀ (gd : Bool → Bool) (lv : List Value → List Value) (K : α → Sem Fin) (H : Value → Sem Fin), segGoT treeTable pw w 11 (some (.ref 6)) 1 c s ⟨m.wrap K H gd lv, cE, p, B⟩ = some (s', ⟨K a, cE, p', B⟩)) : Go c w s p m a s' p' :=
  ⟨c, Nat.le_refl c, fun gd lv K H N r k => seg_go (segGo_of (h gd lv K H)) k⟩
theorem Go.pure {w : World} {s : SharedT} {p : Pos} {a : α} : Go 0 w s p (pure a : Sem α) a s p :=
  ⟨0, Nat.le_refl 0, fun _ _ _ _ N r k => by rw [Nat.zero_add]; exact k⟩
theorem Go.bind {w : World} {s s₁ s' : SharedT} {p p₁ p' : Pos} {m : Sem α} {f : α → Sem β} {a : α} {b : β} {c₁ c₂ : Nat}
    (h₁ : Go c₁ w s p m a s₁ p₁) (h₂ : Go c₂ w s₁ p₁ (f a) b s' p') : Go (c₁ + c₂) w s p (m >>= f) b s' p' := by
  obtain ⟨x, hx, h₁⟩ := h₁
  obtain ⟨y, hy, h₂⟩ := h₂
  refine ⟨x + y, Nat.add_le_add hx hy, fun gd lv K H N r k => ?_⟩
  have e : (m >>= f).wrap K H gd lv = m.wrap (fun a => (f a).wrap K H gd lv) H gd lv := by
    rw [Sem.bind_eq_wrap', Sem.wrap_wrap]; rfl
  rw [e, Nat.add_assoc]
  exact h₁ gd lv _ H (y + N) r (h₂ gd lv K H N r k)
theorem Go.keep {w : World} {s s' : SharedT} {p p' : Pos} {m : Sem α} {a : α} {c : Nat} {vs : List Value} (h : Go c w s p m a s' p') : Go c w s p (m.keep vs) a s' p' := by
  obtain ⟨x, hx, h⟩ := h
  refine ⟨x, hx, fun gd lv K H N r k => ?_⟩
  rw [Sem.keep_eq_wrap, Sem.wrap_wrap]
  exact h _ _ _ _ N r k
theorem Go.holding {w : World} {s s' : SharedT} {p p' : Pos} {m : Sem α} {a : α} {c : Nat} {vs : List Value} (h : Go c w s p m a s' p') : Go c w s p (holding vs m) a s' p' := by
  rw [holding_eq_keep]; exact h.keep
theorem Go.cast {w : World} {s s' : SharedT} {p p' : Pos} {m m' : Sem α} {a : α} {c : Nat} (e : m = m') (h : Go c w s p m' a s' p') : Go c w s p m a s' p' := e ▸ h
theorem Go.mono {w : World} {s s' : SharedT} {p p' : Pos} {m : Sem α} {a : α} {c d : Nat} (h : Go c w s p m a s' p') (l : c ≤ d) : Go d w s p m a s' p' :=
  let ⟨x, hx, h⟩ := h; ⟨x, Nat.le_trans hx l, h⟩
end
noncomputable abbrev gray8 : Array UInt8 := #[68, 101, 118, 105, 99, 101, 71, 114, 97, 121]
noncomputable abbrev rgb8 : Array UInt8 := #[68, 101, 118, 105, 99, 101, 82, 71, 66]
noncomputable abbrev cmyk8 : Array UInt8 := #[68, 101, 118, 105, 99, 101, 67, 77, 89, 75]
noncomputable abbrev grayS : Str := ⟨#[68, 101, 118, 105, 99, 101, 71, 114, 97, 121]⟩
noncomputable abbrev rgbS : Str := ⟨#[68, 101, 118, 105, 99, 101, 82, 71, 66]⟩
noncomputable abbrev cmykS : Str := ⟨#[68, 101, 118, 105, 99, 101, 67, 77, 89, 75]⟩
noncomputable abbrev wf (w : World) (b : Bool) : World := w.withFollow "special-get-raises" b
noncomputable def HashGo (b : Array UInt8) (x : Str) : Prop := ∀ (row : Bool) (w : World) (T : BT) (n : Nat) (life : Life) (gens : Array GenState) (drawn : Drawn) (toks : Nat) (os : OsState) (p : Pos) (t : Tok),
  Go 6 (wf w row) ⟨T, n, life, gens, drawn, toks, os⟩ p (pyHash (.bytes b t)) (PyData.keyHash w.params x) ⟨T, n, life, gens, drawn, toks + 1, os⟩ p
theorem hash_gray : HashGo gray8 grayS := by
  intro row w T n life gens drawn toks os p t
  refine Go.seg 6 fun gd lv K H => Eq.trans (b := some ((⟨T, n, life, gens, drawn, toks + 1, os⟩ : SharedT), (⟨(pyHashByItsType.reduced (PyData.keyHash w.params grayS)).wrap K H gd lv, cE, p, B⟩ : Thread))) ?_ ?_
  · cases row <;> kernel_rfl
  · rw [reduced_keyHash]; rfl
theorem hash_rgb : HashGo rgb8 rgbS := by
  intro row w T n life gens drawn toks os p t
  refine Go.seg 6 fun gd lv K H => Eq.trans (b := some ((⟨T, n, life, gens, drawn, toks + 1, os⟩ : SharedT), (⟨(pyHashByItsType.reduced (PyData.keyHash w.params rgbS)).wrap K H gd lv, cE, p, B⟩ : Thread))) ?_ ?_
  · cases row <;> kernel_rfl
  · rw [reduced_keyHash]; rfl
theorem hash_cmyk : HashGo cmyk8 cmykS := by
  intro row w T n life gens drawn toks os p t
  refine Go.seg 6 fun gd lv K H => Eq.trans (b := some ((⟨T, n, life, gens, drawn, toks + 1, os⟩ : SharedT), (⟨(pyHashByItsType.reduced (PyData.keyHash w.params cmykS)).wrap K H gd lv, cE, p, B⟩ : Thread))) ?_ ?_
  · cases row <;> kernel_rfl
  · rw [reduced_keyHash]; rfl
end Mine
end
end

section
theorem Mine.rstG5e {M : Model} {A : Around} {env : Env} {Q : Flow → Shared → Prop} {E : Value → Shared → Prop} {s : Shared} (h : Q .next s) : wpAny M A (execs [] env) Q E s := by
  w_top off
  walk1
  exact h
open PySem PySem.W PyProof.Rows
set_option Elab.async false
set_option maxRecDepth 100000
set_option maxHeartbeats 0
set_option linter.unusedVariables false
noncomputable section
namespace Mine
noncomputable def dO (es : List DictEntry) (k : Nat) : Obj := { cls := .type "dict", data := .dict es.toArray k }
noncomputable def SD (w : World) (es : List DictEntry) (k toks : Nat) (os : OsState) : SharedT := ⟨(T4 w.params).ins 84 (dO es k), 85, {}, #[], {}, toks, os⟩
-- a lookup that finds nothing, whatever collides
theorem find0 (row : Bool) (w : World) (t : Tok) (b : Array UInt8) (h : Int) (toks : Nat) (os : OsState) (p : Pos) : Go 1 (wf w row) (SD (wf w row) [] 0 toks os) p (dictFind 84 (.bytes b t) h) none (SD (wf w row) [] 0 toks os) p :=
  Go.seg 1 fun gd lv K H => by kernel_rfl
theorem places1 (h₁ h : Int) (k v : Value) : placesWithHash #[({ hash := h₁, key := k, val := v } : DictEntry)].size (fun i => Option.map (fun x => x.hash) #[({ hash := h₁, key := k, val := v } : DictEntry)][i]?) h = if h₁ = h then [0] else [] := by
  by_cases e : h₁ = h
  · rw [if_pos e]; simp [placesWithHash, List.range, List.range.loop, e]
  · rw [if_neg e]; simp [placesWithHash, List.range, List.range.loop, e]
theorem places2 (h₁ h₂ h : Int) (k v k₂ v₂ : Value) : placesWithHash #[({ hash := h₁, key := k, val := v } : DictEntry), { hash := h₂, key := k₂, val := v₂ }].size (fun i => Option.map (fun x => x.hash) #[({ hash := h₁, key := k, val := v } : DictEntry), { hash := h₂, key := k₂, val := v₂ }][i]?) h = (if h₁ = h then [0] else []) ++ (if h₂ = h then [1] else []) := by
  by_cases e : h₁ = h <;> by_cases e₂ : h₂ = h <;> simp [placesWithHash, List.range, List.range.loop, List.filter_cons, e, e₂]

-- one stored key of the same hash that is another key: the walk goes on
theorem walk_one (row : Bool) (w : World) (es : List DictEntry) (k toks : Nat) (os : OsState) (p : Pos) (b₁ b₂ : Array UInt8) (t₁ t₂ : Tok) (i : Nat)
    (he : Go 4 (wf w row) (SD (wf w row) es k toks os) p (eqBool (.bytes b₁ t₁) (.bytes b₂ t₂)) false (SD (wf w row) es k toks os) p) :
    Go 7 (wf w row) (SD (wf w row) es k toks os) p (do
      let before ← dictEpoch 84 (keyPart (Value.bytes b₂ t₂))
      let same ← eqBool (.bytes b₁ t₁) (Value.bytes b₂ t₂)
      let __do_lift ← dictEpoch 84 (keyPart (Value.bytes b₂ t₂))
      if (__do_lift != before) = true then do
          unsupported "dict.changed-during-lookup"
          if same = true then do
              rule "dict.find.hit"
              pure (ForInStep.done (some (some i), ()))
            else do
              rule "dict.find.same-hash-other-key"
              pure (ForInStep.yield (none, ()))
        else
          if same = true then do
            rule "dict.find.hit"
            pure (ForInStep.done (some (some i), ()))
          else do
            rule "dict.find.same-hash-other-key"
            pure (ForInStep.yield (none, ())) : Sem (ForInStep (Option (Option Nat) × Unit))) (ForInStep.yield (none, ())) (SD (wf w row) es k toks os) p := by
  refine Go.bind (c₁ := 1) (c₂ := 6) (a := k) (s₁ := SD (wf w row) es k toks os) (p₁ := p) (Go.seg 1 fun gd lv K H => by kernel_rfl) ?_
  refine Go.bind (c₁ := 4) (c₂ := 2) he ?_
  refine Go.bind (c₁ := 1) (c₂ := 1) (a := k) (s₁ := SD (wf w row) es k toks os) (p₁ := p) (Go.seg 1 fun gd lv K H => by kernel_rfl) ?_
  rw [if_neg (by simp)]
  exact Go.seg 1 fun gd lv K H => by kernel_rfl
theorem eq_gr (row : Bool) (w : World) (s : SharedT) (p : Pos) (t u : Tok) : Go 4 (wf w row) s p (eqBool (.bytes gray8 t) (.bytes rgb8 u)) false s p :=
  Go.seg 4 fun gd lv K H => by cases s; cases row <;> kernel_rfl
theorem eq_gc (row : Bool) (w : World) (s : SharedT) (p : Pos) (t u : Tok) : Go 4 (wf w row) s p (eqBool (.bytes gray8 t) (.bytes cmyk8 u)) false s p :=
  Go.seg 4 fun gd lv K H => by cases s; cases row <;> kernel_rfl
theorem eq_rc (row : Bool) (w : World) (s : SharedT) (p : Pos) (t u : Tok) : Go 4 (wf w row) s p (eqBool (.bytes rgb8 t) (.bytes cmyk8 u)) false s p :=
  Go.seg 4 fun gd lv K H => by cases s; cases row <;> kernel_rfl
theorem find1 (row : Bool) (w : World) (h₁ h : Int) (toks : Nat) (os : OsState) (p : Pos) : Go 60 (wf w row) (SD (wf w row) [⟨h₁, .bytes gray8 297, .int 1 309⟩] 1 toks os) p (dictFind 84 (.bytes rgb8 299) h) none (SD (wf w row) [⟨h₁, .bytes gray8 297, .int 1 309⟩] 1 toks os) p := by
  unfold dictFind
  refine Go.holding ?_
  refine Go.mono (Go.bind (a := #[⟨h₁, .bytes gray8 297, .int 1 309⟩]) (c₁ := 1) (c₂ := 59) (s₁ := SD (wf w row) [⟨h₁, .bytes gray8 297, .int 1 309⟩] 1 toks os) (p₁ := p) ?_ ?_) (by decide)
  · exact Go.seg 1 fun gd lv K H => by kernel_rfl
  · dsimp only
    rw [places1]
    by_cases e : h₁ = h
    · simp only [if_pos e]
      rw [if_pos (by rfl)]
      unfold dictWalkPlain
      simp only [List.forIn_cons, List.forIn_nil]
      rw [show #[({ hash := h₁, key := Value.bytes gray8 297, val := Value.int 1 309 } : DictEntry)][0]? = some { hash := h₁, key := Value.bytes gray8 297, val := Value.int 1 309 } from rfl]
      dsimp only
      rw [if_pos (by simp [e])]
      exact Go.mono (Go.bind (Go.bind (walk_one row w _ _ _ _ _ _ _ _ _ _ (eq_gr ..)) Go.pure) Go.pure) (by decide)
    · simp only [if_neg e]
      rw [if_pos (by rfl)]
      exact Go.mono Go.pure (by decide)
theorem find2 (row : Bool) (w : World) (h₁ h₂ h : Int) (toks : Nat) (os : OsState) (p : Pos) : Go 60 (wf w row) (SD (wf w row) [⟨h₁, .bytes gray8 297, .int 1 309⟩, ⟨h₂, .bytes rgb8 299, .int 3 310⟩] 2 toks os) p (dictFind 84 (.bytes cmyk8 301) h) none (SD (wf w row) [⟨h₁, .bytes gray8 297, .int 1 309⟩, ⟨h₂, .bytes rgb8 299, .int 3 310⟩] 2 toks os) p := by
  unfold dictFind
  refine Go.holding ?_
  refine Go.mono (Go.bind (a := #[⟨h₁, .bytes gray8 297, .int 1 309⟩, ⟨h₂, .bytes rgb8 299, .int 3 310⟩]) (c₁ := 1) (c₂ := 59) (s₁ := SD (wf w row) [⟨h₁, .bytes gray8 297, .int 1 309⟩, ⟨h₂, .bytes rgb8 299, .int 3 310⟩] 2 toks os) (p₁ := p) ?_ ?_) (by decide)
  · exact Go.seg 1 fun gd lv K H => by kernel_rfl
  · dsimp only
    rw [places2]
    have e0 : #[({ hash := h₁, key := Value.bytes gray8 297, val := Value.int 1 309 } : DictEntry), { hash := h₂, key := Value.bytes rgb8 299, val := Value.int 3 310 }][0]? = some { hash := h₁, key := Value.bytes gray8 297, val := Value.int 1 309 } := rfl
    have e1 : #[({ hash := h₁, key := Value.bytes gray8 297, val := Value.int 1 309 } : DictEntry), { hash := h₂, key := Value.bytes rgb8 299, val := Value.int 3 310 }][1]? = some { hash := h₂, key := Value.bytes rgb8 299, val := Value.int 3 310 } := rfl
    by_cases e : h₁ = h <;> by_cases e₂ : h₂ = h
    · simp only [if_pos e, if_pos e₂, List.cons_append, List.nil_append]
      rw [if_pos (by rfl)]
      unfold dictWalkPlain
      simp only [List.forIn_cons, List.forIn_nil, e0, e1]
      rw [if_pos (by simp [e]), if_pos (by simp [e₂])]
      exact Go.mono (Go.bind (Go.bind (walk_one row w _ _ _ _ _ _ _ _ _ _ (eq_gc ..)) (Go.bind (walk_one row w _ _ _ _ _ _ _ _ _ _ (eq_rc ..)) Go.pure)) Go.pure) (by decide)
    · simp only [if_pos e, if_neg e₂, List.cons_append, List.nil_append, List.append_nil]
      rw [if_pos (by rfl)]
      unfold dictWalkPlain
      simp only [List.forIn_cons, List.forIn_nil, e0]
      rw [if_pos (by simp [e])]
      exact Go.mono (Go.bind (Go.bind (walk_one row w _ _ _ _ _ _ _ _ _ _ (eq_gc ..)) Go.pure) Go.pure) (by decide)
    · simp only [if_neg e, if_pos e₂, List.nil_append]
      rw [if_pos (by rfl)]
      unfold dictWalkPlain
      simp only [List.forIn_cons, List.forIn_nil, e1]
      rw [if_pos (by simp [e₂])]
      exact Go.mono (Go.bind (Go.bind (walk_one row w _ _ _ _ _ _ _ _ _ _ (eq_rc ..)) Go.pure) Go.pure) (by decide)
    · simp only [if_neg e, if_neg e₂, List.append_nil]
      rw [if_pos (by rfl)]
      exact Go.mono Go.pure (by decide)
end Mine
end
end

section
open PySem PySem.W PyProof.Rows
set_option Elab.async false
set_option maxRecDepth 100000
set_option maxHeartbeats 0
set_option linter.unusedVariables false
noncomputable section
namespace Mine
noncomputable def asgX : Stmt → Str | .Assign [.Name x _] _ _ => x | _ => default
noncomputable def asgP : Stmt → Pos | .Assign [.Name _ p] _ _ => p | _ => default
noncomputable def asgV : Stmt → Expr | .Assign _ v _ => v | _ => default
noncomputable def asgQ : Stmt → Pos | .Assign _ _ p => p | _ => default
noncomputable def dKs : Expr → List (Option Expr) | .Dict ks _ _ => ks | _ => []
noncomputable def dVs : Expr → List Expr | .Dict _ vs _ => vs | _ => []
noncomputable def dPos : Expr → Pos | .Dict _ _ p => p | _ => default
noncomputable def dpD : Expr := asgV (st 17)
theorem st17 : st 17 = .Assign [.Name (asgX (st 17)) (asgP (st 17))] (.Dict (dKs dpD) (dVs dpD) (dPos dpD)) (asgQ (st 17)) := by rfl
noncomputable def pairs : List (Sem Value × Sem Value) := (((dKs dpD).filterMap id).zip (dVs dpD)).map fun x => (eval x.1 env, do let v ← eval x.2 env; standAt (dPos dpD); pure v)
theorem set_go (row : Bool) (w : World) (os : OsState) (p : Pos) (es : List DictEntry) (k toks : Nat) (b : Array UInt8) (x : Str) (t : Tok) (v : Value) (hv : v.isRef = false) (hh : HashGo b x)
    (hf : ∀ toks, Go 60 (wf w row) (SD (wf w row) es k toks os) p (dictFind 84 (.bytes b t) (PyData.keyHash w.params x)) none (SD (wf w row) es k toks os) p)
    (hu : ∀ toks, Go 4 (wf w row) (SD (wf w row) es k toks os) p (do rule "dict.set.new-key-at-the-end"; updateDictKeys 84 (·.push ⟨PyData.keyHash w.params x, .bytes b t, v⟩) (keyPart (.bytes b t))) () (SD (wf w row) (es ++ [⟨PyData.keyHash w.params x, .bytes b t, v⟩]) (k + 1) toks os) p) :
    Go 70 (wf w row) (SD (wf w row) es k toks os) p (dictSet 84 (.bytes b t) v) () (SD (wf w row) (es ++ [⟨PyData.keyHash w.params x, .bytes b t, v⟩]) (k + 1) (toks + 1) os) p := by
  unfold dictSet
  refine Go.holding (Go.mono (Go.bind (hh row w _ _ _ _ _ _ _ p t) ?_) (by decide : 6 + 64 ≤ 70))
  unfold dictSetHashed
  exact Go.holding (Go.bind (c₁ := 60) (c₂ := 4) (a := (none : Option Nat)) (s₁ := SD (wf w row) es k (toks + 1) os) (p₁ := p) (hf (toks + 1)) (hu (toks + 1)))
noncomputable def ent1 (P : Params) : DictEntry := ⟨PyData.keyHash P grayS, .bytes gray8 297, .int 1 309⟩
noncomputable def ent2 (P : Params) : DictEntry := ⟨PyData.keyHash P rgbS, .bytes rgb8 299, .int 3 310⟩
noncomputable def ent3 (P : Params) : DictEntry := ⟨PyData.keyHash P cmykS, .bytes cmyk8 301, .int 4 311⟩
theorem set1 (row : Bool) (w : World) (os : OsState) (p : Pos) (toks : Nat) :
    Go 70 (wf w row) (SD (wf w row) [] 0 toks os) p (dictSet 84 (.bytes gray8 297) (.int 1 309)) () (SD (wf w row) [ent1 w.params] 1 (toks + 1) os) p :=
  set_go row w os p [] 0 toks gray8 grayS 297 (.int 1 309) rfl hash_gray (fun toks => (find0 row w _ _ _ toks os p).mono (by decide)) fun toks => Go.seg 4 fun gd lv K H => by kernel_rfl
theorem set2 (row : Bool) (w : World) (os : OsState) (p : Pos) (toks : Nat) :
    Go 70 (wf w row) (SD (wf w row) [ent1 w.params] 1 toks os) p (dictSet 84 (.bytes rgb8 299) (.int 3 310)) () (SD (wf w row) [ent1 w.params, ent2 w.params] 2 (toks + 1) os) p :=
  set_go row w os p [ent1 w.params] 1 toks rgb8 rgbS 299 (.int 3 310) rfl hash_rgb (fun toks => find1 row w _ _ toks os p) fun toks => Go.seg 4 fun gd lv K H => by kernel_rfl
theorem set3 (row : Bool) (w : World) (os : OsState) (p : Pos) (toks : Nat) :
    Go 70 (wf w row) (SD (wf w row) [ent1 w.params, ent2 w.params] 2 toks os) p (dictSet 84 (.bytes cmyk8 301) (.int 4 311)) () (SD (wf w row) [ent1 w.params, ent2 w.params, ent3 w.params] 3 (toks + 1) os) p :=
  set_go row w os p [ent1 w.params, ent2 w.params] 2 toks cmyk8 cmykS 301 (.int 4 311) rfl hash_cmyk (fun toks => find2 row w _ _ _ toks os p) fun toks => Go.seg 4 fun gd lv K H => by kernel_rfl
noncomputable def dpVs : List (Value × Value) := [(.bytes gray8 297, .int 1 309), (.bytes rgb8 299, .int 3 310), (.bytes cmyk8 301, .int 4 311)]
theorem pairs_go (row : Bool) (w : World) (os : OsState) : Go 12 (wf w row) (SD (wf w row) [] 0 309 os) (dPos dpD) (evalPairs pairs) dpVs (SD (wf w row) [] 0 312 os) (dPos dpD) :=
  Go.seg 12 fun gd lv K H => by kernel_rfl
theorem dict_go (row : Bool) (w : World) (os : OsState) (p : Pos) : Go 230 (wf w row) (S4 (wf w row) os) p (eval (.Dict (dKs dpD) (dVs dpD) (dPos dpD)) env) (.ref 84) (SD (wf w row) [ent1 w.params, ent2 w.params, ent3 w.params] 3 315 os) (dPos dpD) := by
  rw [arm_eval_Dict, show (evalEachOpt (dKs dpD) env).zip ((evalEach (dVs dpD) env).map fun v => do let x ← v; standAt (dPos dpD); pure x) = pairs.map fun p => (some p.1, p.2) from rfl, dictDisplay_pairs pairs (by intro h; cases h) (by decide)]
  refine Go.mono (Go.bind (c₁ := 1) (c₂ := 224) (s₁ := S4 (wf w row) os) (p₁ := dPos dpD) (a := ()) (Go.seg 1 fun gd lv K H => by kernel_rfl) ?_) (by decide)
  refine Go.bind (c₁ := 224) (c₂ := 0) (a := 84) ?_ Go.pure
  unfold subDict
  refine Go.mono (Go.bind (c₁ := 1) (c₂ := 222) (s₁ := SD (wf w row) [] 0 309 os) (p₁ := dPos dpD) (a := 84) (Go.seg 1 fun gd lv K H => by kernel_rfl) ?_) (by decide)
  refine Go.bind (c₁ := 222) (c₂ := 0) (a := ()) (Go.holding ?_) Go.pure
  rw [if_pos (by decide)]
  refine Go.mono (Go.bind (c₁ := 12) (c₂ := 210) (pairs_go row w os) ?_) (by decide)
  refine Go.holding ?_
  simp only [dpVs, List.forIn_cons, List.forIn_nil]
  refine Go.bind (c₁ := 210) (c₂ := 0) (a := PUnit.unit) ?_ Go.pure
  refine Go.bind (c₁ := 70) (c₂ := 140) (a := ForInStep.yield PUnit.unit) (Go.bind (c₁ := 70) (c₂ := 0) (set1 row w os _ _) Go.pure) ?_
  refine Go.bind (c₁ := 70) (c₂ := 70) (a := ForInStep.yield PUnit.unit) (Go.bind (c₁ := 70) (c₂ := 0) (set2 row w os _ _) Go.pure) ?_
  exact Go.bind (c₁ := 70) (c₂ := 0) (a := ForInStep.yield PUnit.unit) (Go.bind (c₁ := 70) (c₂ := 0) (set3 row w os _ _) Go.pure) Go.pure
theorem bind_go (row : Bool) (w : World) (os : OsState) : Go 7 (wf w row) (SD (wf w row) [ent1 w.params, ent2 w.params, ent3 w.params] 3 315 os) (dPos dpD) (do standAt (asgP (st 17)); bindName env (asgX (st 17)) (.ref 84); pure .next : Sem Flow) Flow.next (S5 (wf w row) os) p5 :=
  Go.seg 7 fun gd lv K H => by kernel_rfl
theorem dp_go (row : Bool) (w : World) (os : OsState) : Go 240 (wf w row) (S4 (wf w row) os) p4 (exec (st 17) env) Flow.next (S5 (wf w row) os) p5 := by
  rw [st17, exec_Assign_Name env _ _ _ _ (by rfl)]
  refine Go.mono (Go.bind (c₁ := 1) (c₂ := 237) (s₁ := S4 (wf w row) os) (p₁ := asgQ (st 17)) (a := ()) (Go.seg 1 fun gd lv K H => by kernel_rfl) ?_) (by decide)
  exact Go.bind (c₁ := 230) (c₂ := 7) (dict_go row w os _) (bind_go row w os)
theorem g5_row (row : Bool) (w : World) (os : OsState) : ∃ c, c ≤ 240 ∧ segRun treeTable pw (wf w row) 11 (some (.ref 6)) 1 (c + 1) (S4 (wf w row) os).abs (piecesOf s5 env cE p4 B) = some (.next, (S5 (wf w row) os).abs, cE, p5) := by
    obtain ⟨c, hc, h⟩ := dp_go row w os
    refine ⟨c, hc, ?_⟩
    have e : piecesOf s5 env cE p4 B = ⟨(exec (st 17) env).wrap (fun f => match f with | .next => (execs [] env).wrap doneF deadEnd id id | f => doneF f) deadEnd id id, cE, p4, B⟩ := by
      show (⟨(execs [st 17] env).wrap doneF deadEnd id id, cE, p4, B⟩ : Thread) = _
      rw [execs_cons_wrap]
      rfl
    rw [e]
    exact h id id _ _ 1 _ rfl
theorem g5_is (w : World) (os : OsState) : ∃ c, c ≤ 240 ∧ segRun treeTable pw w 11 (some (.ref 6)) 1 (c + 1) (S4 w os).abs (piecesOf s5 env cE p4 B) = some (.next, (S5 w os).abs, cE, p5) := by
  refine byRow2 "special-get-raises" (P := fun w => ∃ c, c ≤ 240 ∧ segRun treeTable pw w 11 (some (.ref 6)) 1 (c + 1) (S4 w os).abs (piecesOf s5 env cE p4 B) = some (.next, (S5 w os).abs, cE, p5)) ?_ ?_ w
  · intro w
    exact g5_row false w os
  · intro w
    exact g5_row true w os

end Mine
end
end

section
open PySem PySem.W PyProof.Rows
set_option Elab.async false
set_option maxRecDepth 100000
set_option maxHeartbeats 0
set_option linter.unusedVariables false
noncomputable section
namespace Mine
theorem segRun_mono {tb : String → Option Builtin} {p : Program} {w : World} {n₀ : Nat} {ann : Option Value} {b : Nat} (k : Nat) : ∀ (n : Nat) (s : Shared) (t : Thread) (r : Flow × Shared × Code × Pos), segRun tb p w n₀ ann b n s t = some r → segRun tb p w n₀ ann b (n + k) s t = some r := by
  intro n
  induction n with
  | zero => intro s t r h; simp [segRun] at h
  | succ n ih =>
    intro s t r h
    rw [show n + 1 + k = n + k + 1 by omega]
    unfold segRun at h ⊢
    cases he : endAt b t with
    | some f => rw [he] at h; exact h
    | none =>
      rw [he] at h
      cases hk : stepOk n₀ ann t with
      | false => rw [hk] at h; cases h
      | true =>
        rw [hk] at h
        cases hs : step (denote tb) p w s t with
        | halt o s' => rw [hs] at h; cases h
        | go s' t' => rw [hs] at h; exact ih s' t' r h
theorem g5_at (w : World) (os : OsState) : segRun treeTable pw w 11 (some (.ref 6)) 1 241 (S4 w os).abs (piecesOf s5 env cE p4 B) = some (.next, (S5 w os).abs, cE, p5) := by
  obtain ⟨c, hc, h⟩ := g5_is w os
  have := segRun_mono (240 - c) _ _ _ _ h
  rwa [show c + 1 + (240 - c) = 241 by omega] at this
noncomputable def groups : List Stmt := s1 ++ (s2 ++ (s3 ++ (s4 ++ (s5 ++ (s6 ++ (s7 ++ (s8 ++ (s9 ++ (s10 ++ (s11 ++ []))))))))))
theorem groups_are : groups = behindTheImports pw := by kernel_rfl
theorem top_runs (w : World) (os : OsState) : topRun treeTable pw w 11 (some (.ref 6)) (12 + (1 + (248 + (274 + (299 + (28 + (241 + (39 + (359 + (121 + (287 + (276 + (138 + 2))))))))))))) ⟨boot_heap w.params, #[], boot_drawn, boot_toks, os⟩ (topStub pw) = some (sz w os) := by
  refine go_top (gpre_is w os) (piece_block (gblock_is w os) ?_)
  rw [← groups_are]
  unfold groups
  refine piece_app (segRun_of (g1_is w os)) ?_
  refine piece_app (segRun_of (g2_is w os)) ?_
  refine piece_app (segRun_of (g3_is w os)) ?_
  refine piece_app (segRun_of (g4_is w os)) ?_
  refine piece_app (g5_at w os) ?_
  refine piece_app (segRun_of (g6_is w os)) ?_
  refine piece_app (segRun_of (g7_is w os)) ?_
  refine piece_app (segRun_of (g8_is w os)) ?_
  refine piece_app (segRun_of (g9_is w os)) ?_
  refine piece_app (segRun_of (g10_is w os)) ?_
  refine piece_app (segRun_of (g11_is w os)) ?_
  exact piece_nil (gfin_is w os)
theorem opens : ∀ w : World, (fencedOpening treeTable pw w 4354).map (fun s => (s.heap, s.gens, s.drawn, s.toks)) = some (boot_heap w.params, Array.mk [], boot_drawn, boot_toks) :=
  boot_open rfl rfl fun _ => rfl
theorem left_of {α : Type} (Yf : Shared → α) (Ya : World → α) (hY : ∀ w os, Yf (sz w os) = Ya w) : LeftO pw vw loose Xt Yf Ya 4354 := by
  refine LeftO.of_pieces (H₀ := boot_heap) (H₁ := hz) (gs₀ := #[]) (gs₁ := #[]) (d₀ := boot_drawn) (d₁ := {}) (k₀ := boot_toks) (k₁ := 578) (m₀ := 11) (ann := some (.ref 6)) opens (fun w => gsize_is w default) top_runs (by decide) ?_
  intro w
  funext os
  refine Prod.ext (lk0_is w os) (Prod.ext ?_ (hY w os))
  show openSeen vw loose mods Xt true (sz w os) = openGood vw loose
  unfold openSeen openGood
  exact Prod.ext (lk1_is w os) (Prod.ext (lk2_is w os) (Prod.ext (lk3_is w os) (Prod.ext (lk4_is w os) (Prod.ext (lk5_is w os) (Prod.ext (lk6_is w os) (Prod.ext (lk7_is w os) (Prod.ext (lk8_is w os) (lk9_is w os))))))))
end Mine
end
end

section
theorem Mine.rstHeadW {M : Model} {A : Around} {env : Env} {Q : Flow → Shared → Prop} {E : Value → Shared → Prop} {s : Shared} (h : Q .next s) : wpAny M A (execs [] env) Q E s := by
  w_top off
  walk1
  exact h
open PySem PySem.W PyProof.Rows
set_option Elab.async false
set_option maxRecDepth 100000
set_option linter.unusedVariables false
namespace Mine
/-- what the walk may know of the top: the written part, and the dict of the devices' parts -/
noncomputable def hook (H : Hook) : Hook where
  α := H.α × Option Obj
  obs s := (H.obs s, s.heap.get? 84)
  val w := (H.val w, some (o84g5 w.params))
  says w h := H.says w h ∧ h.get? 84 = some (o84g5 w.params)
  of w s e := ⟨H.of w s (congrArg Prod.fst e), congrArg Prod.snd e⟩
  keeps w h h' x k := ⟨H.keeps w h h' x.1 k, k _ _ x.2⟩
noncomputable def qsaid (l : OpenLaw) : Prop := ∀ _ : Unit, l.wellSaid = true
theorem qsaid_tw : (fun _ : OpenLaw → Prop => true) qsaid = true := by k_qdec
theorem said_ok : PySem.Challenge.rw_pb0512_01.wellSaid = true := by
  suffices h : qsaid PySem.Challenge.rw_pb0512_01 from h ()
  rw [PySem.W.Fast.te11352864940678605366]
  intro _
  kernel_rfl
/-- the head, for any hook -/
noncomputable def opened (H : Hook) (hY : ∀ w os, Hook.obs (hook H) (sz w os) = Hook.val (hook H) w) := fun hw hc => holds_open (r := PySem.Challenge.rw_pb0512_01.row) (q := vw) (loose := loose) (Xt := Xt) (XP := XL vw []) (Yf := Hook.obs (hook H)) (Ya := Hook.val (hook H)) (YP := Hook.says (hook H)) (N := 4354) (left_of _ _ hY) (Hook.of (hook H)) (Hook.keeps (hook H)) (fun s e => xl_of s (Bool.and_eq_true_iff.mp e).1) XL.keeps (by rfl) (by rfl) (by rfl) (fun s e => recFacts_of (Bool.and_eq_true_iff.mp e).2) (by rfl) (row_said said_ok) (by decide +kernel) ⟨rfl, rfl, rfl, rfl, rfl, by decide +kernel⟩ hw hc
end Mine
local macro_rules | `(tactic| o_head $H) => `(tactic| refine Mine.opened $H (fun w os => by kernel_rfl) ?hw ?hc)
set_option maxHeartbeats 8000000
open_top Mine.hd for PySem.Challenge.rw_pb0512_01.row
end

section
open PySem PySem.W PyProof.Rows
set_option Elab.async false
set_option maxRecDepth 100000
set_option linter.unusedVariables false
namespace Mine
noncomputable abbrev VTok := Tok
/-- a contract of a def of the text, called from a def: the value and the ledger behind the call -/
noncomputable def Ct (w : World) (f : Addr) (vs : List Value) (room : Nat) (news : List (Addr × Obj)) (R : Value → List (Addr × Obj) → Prop) : Prop :=
  ∀ (mean : ExcName → Option Value) (mg mb : Str → Option Value) (dp un : Nat) (gd : Option (List Code)) (cn : Str) (cs : Scope) (a : Addr) (ccd : Value) (cl : List (Str × Addr)) (outer : List Env) (A₀ : Around) (base h₀ : Heap) (L : Addr) (m : Str → Option Value) (s : Shared) (Q E : Value → Shared → Prop),
    Below A₀ base outer h₀ → Fr h₀ L s.heap m → (Mine.hd.heap_1 w.params).In h₀ → News h₀ L s.heap news → Top vw (looseW vw loose) mean mg mb h₀ → cs.kind = .function → dp + room < recursionLimit → un + 100 * room < cLine →
    (∀ v news' h' tk', R v news' → Fr h₀ L h' m → News h₀ L h' news' → Q v { s with heap := h', toks := tk' }) →
    wpAny (model PySem.Challenge.rw_pb0512_01.row.prog w) (ktrTop dp un gd cn cs L a ccd cl outer) (call (.ref f) vs) Q E s
theorem Ct.use {w : World} {f : Addr} {vs : List Value} {room : Nat} {news : List (Addr × Obj)} {R : Value → List (Addr × Obj) → Prop} {mean : ExcName → Option Value} {mg mb : Str → Option Value} {dp un : Nat} {gd : Option (List Code)} {cn : Str} {cs : Scope} {a : Addr} {ccd : Value} {cl : List (Str × Addr)} {outer : List Env} {A₀ : Around} {base h₀ : Heap} {L : Addr} {m : Str → Option Value} {s : Shared} {Q E : Value → Shared → Prop}
    (C : Ct w f vs room news R) (B : Below A₀ base outer h₀) (F : Fr h₀ L s.heap m) (X : (Mine.hd.heap_1 w.params).In h₀) (N : News h₀ L s.heap news) (T : Top vw (looseW vw loose) mean mg mb h₀) (hk : cs.kind = .function) (hd : dp + room < recursionLimit) (hu : un + 100 * room < cLine)
    (h : ∀ v news' h' tk', R v news' → Fr h₀ L h' m → News h₀ L h' news' → Q v { s with heap := h', toks := tk' }) :
    wpAny (model PySem.Challenge.rw_pb0512_01.row.prog w) (ktrTop dp un gd cn cs L a ccd cl outer) (call (.ref f) vs) Q E s :=
  C _ _ _ _ _ _ _ _ _ _ _ _ _ _ _ _ _ _ _ _ B F X N T hk hd hu h
noncomputable abbrev Int1 (news : List (Addr × Obj)) (x : Int) (v : Value) (news' : List (Addr × Obj)) : Prop := (∃ t, v = .int x t) ∧ news' = news
noncomputable abbrev Bool1 (news : List (Addr × Obj)) (x : Bool) (v : Value) (news' : List (Addr × Obj)) : Prop := v = .bool x ∧ news' = news
theorem ct_end {h₀ h' : Heap} {L : Addr} {m : Str → Option Value} {led news' : List (Addr × Obj)} {s : Shared} {Q : Value → Shared → Prop} {R : Value → List (Addr × Obj) → Prop} {v : Value} {tk' : Nat}
    (hret : ∀ v news' h' tk', R v news' → Fr h₀ L h' m → News h₀ L h' news' → Q v { s with heap := h', toks := tk' }) (hr : R v news') (F : Fr h₀ L h' m) (N : News h₀ L h' led) (hs : ∀ p ∈ news', p ∈ led) : Q v { s with heap := h', toks := tk' } :=
  hret _ _ _ _ hr F (cb_drop N hs)
end Mine
end

section
theorem Mine.rstC1 {M : Model} {A : Around} {env : Env} {Q : Flow → Shared → Prop} {E : Value → Shared → Prop} {s : Shared} (h : Q .next s) : wpAny M A (execs [] env) Q E s := by
  w_top off
  walk1
  exact h
open PySem PySem.W PyProof.Rows
set_option Elab.async false
set_option maxRecDepth 100000
set_option linter.unusedVariables false
set_option maxHeartbeats 4000000
namespace Mine
section
local macro_rules | `(tactic| walk_at "binaryOp FloorDiv int int") => `(tactic| ((try k_fold); refine hold ?_))
theorem divided_ct (w : World) (news : List (Addr × Obj)) (n b : Int) (t u : Tok) (hn : 0 ≤ n) (hn2 : n < 2 ^ 61) (hb : 0 < b) (hb2 : b < 2 ^ 28) : Ct w 54 [.int n t, .int b u] 1 news (Int1 news ((2 * n + b).fdiv (2 * b))) := by
  unfold Ct
  k_fill
  intro mean mg mb dp un gd cn cs a ccd cl outer A₀ base h₀ L m s Q E B F X N T hk hd hu hret
  refine wpAny_call ?_
  k_dflt cell_enter
  k_steps
  repeat' (refine held ?_; refine floordiv_int (by (repeat' split) <;> omega) ?_ (Or.inl (PyProof.noPylong_small (by (repeat' split) <;> omega))); k_steps)
  · refine ct_end hret ⟨⟨_, by rw [if_neg (by omega), if_neg (by omega)]⟩, rfl⟩ (by k_asm) (by assumption) (by kcj_all)
  · rename ((decide (n < 0) == decide (b < 0)) = false) => ha
    rw [decide_eq_false (by omega), decide_eq_false (by omega)] at ha
    cases ha
end
theorem int1_of {x y : Int} {t : Tok} (h : y = x) : ∃ u, Value.int y t = .int x u := ⟨t, by rw [h]⟩
theorem clamped_ct (w : World) (news : List (Addr × Obj)) (n : Int) (t : Tok) : Ct w 91 [.int n t] 1 news (Int1 news (max 0 (min 1000000 n))) := by
  unfold Ct
  k_fill
  intro mean mg mb dp un gd cn cs a ccd cl outer A₀ base h₀ L m s Q E B F X N T hk hd hu hret
  refine wpAny_call ?_
  k_dflt cell_enter
  k_steps
  all_goals refine ct_end hret ⟨int1_of (by (repeat' split) <;> omega), rfl⟩ (by k_asm) (by assumption) (by kcj_all)
section
local macro_rules | `(tactic| walk_at "call ref") => `(tactic| ((try k_fold); refine hold ?_))
theorem level_ct (w : World) (news : List (Addr × Obj)) (g : Int) (t : Tok) (hg : 0 ≤ g) (hg2 : g ≤ 1000000) : Ct w 191 [.int g t] 2 news (Int1 news ((2 * (g * 255) + 1000000).fdiv (2 * 1000000))) := by
  unfold Ct
  k_fill
  intro mean mg mb dp un gd cn cs a ccd cl outer A₀ base h₀ L m s Q E B F X N T hk hd hu hret
  refine wpAny_call ?_
  k_dflt cell_enter
  k_steps
  refine held ?_
  refine Ct.use (divided_ct _ _ _ _ _ _ (by omega) (by omega) (by omega) (by omega)) (by k_asm) (by k_asm) (by k_asm) (by k_asm) (by k_asm) (by first | exact rfl | assumption) (by ktr_room) (by ktr_units) ?_
  intro v9 news9 h9 tk9 R9 F9 N9
  obtain ⟨⟨t9, e9⟩, e9'⟩ := R9
  subst e9
  subst e9'
  (try dsimp only)
  (try k_fold)
  k_steps
  all_goals refine ct_end hret ⟨int1_of (by (repeat' split) <;> omega), rfl⟩ (by k_asm) (by assumption) (by kcj_all)
end
end Mine
end

section
theorem Mine.rstC2 {M : Model} {A : Around} {env : Env} {Q : Flow → Shared → Prop} {E : Value → Shared → Prop} {s : Shared} (h : Q .next s) : wpAny M A (execs [] env) Q E s := by
  w_top off
  walk1
  exact h
open PySem PySem.W PyProof.Rows
set_option Elab.async false
set_option maxRecDepth 100000
set_option linter.unusedVariables false
set_option maxHeartbeats 4000000
namespace Mine
noncomputable abbrev sK (w : World) := PySem.strKind PySem.Challenge.rw_pb0512_01.row.prog w
noncomputable def deckKvs (l : Addr) (mx tn : Int) (tm tt : Tok) : List (Str × Value) := [("cells", .ref l), ("mixed", .int mx tm), ("turn", .int tn tt)]
/-- the deck: its dict and its list of cells; no more than n draws so far -/
noncomputable def Deck (w : World) (n : Int) (l : Addr) (od ol : Obj) : Prop :=
  ∃ (mx tn : Int) (tm tt : Tok) (vs : List Value) (cells : List Int) (nl : Nat),
    od.IsDictOf (sK w) [("cells", .ref l), ("mixed", .int mx tm), ("turn", .int tn tt)] ∧ ol = listOf vs.toArray nl ∧ IntsAre vs cells ∧ cells.length ≤ 12 ∧ 0 ≤ mx ∧ mx < 2147483648 ∧ 0 ≤ tn ∧ tn ≤ n
noncomputable def DCt (w : World) (f : Addr) (vs : List Value) (room : Nat) (d l : Addr) (n k : Int) (R : Value → Prop) : Prop :=
  ∀ (rest : List (Addr × Obj)) (od ol : Obj), @Ne Nat d l → (∀ p ∈ rest, p.1 ≠ d) → (∀ p ∈ rest, p.1 ≠ l) → Deck w n l od ol →
    Ct w f vs room ((d, od) :: (l, ol) :: rest) (fun v news' => ∃ od' ol', Deck w (n + k) l od' ol' ∧ R v ∧ news' = (d, od') :: (l, ol') :: rest)
section
local macro_rules | `(tactic| walk_at "subscriptTail") => `(tactic| ((try k_fold); refine hold ?_))
local macro_rules | `(tactic| walk_at "setItem ref str") => `(tactic| ((try k_fold); refine hold ?_))
local macro_rules | `(tactic| walk_at "call builtin:list.append") => `(tactic| ((try k_fold); refine hold ?_))
theorem deck_end {w : World} {n' : Int} {d l : Addr} {rest led : List (Addr × Obj)} {od' ol' : Obj} {h₀ h' : Heap} {L : Addr} {m : Str → Option Value} {s : Shared} {Q : Value → Shared → Prop} {R : Value → Prop} {v : Value} {tk' : Nat}
    (hret : ∀ v news' h' tk', (∃ od' ol', Deck w n' l od' ol' ∧ R v ∧ news' = (d, od') :: (l, ol') :: rest) → Fr h₀ L h' m → News h₀ L h' news' → Q v { s with heap := h', toks := tk' })
    (F : Fr h₀ L h' m) (N : News h₀ L h' led) (hd : (d, od') ∈ led) (hl : (l, ol') ∈ led) (hr : ∀ p ∈ rest, p ∈ led) (D : Deck w n' l od' ol') (hR : R v) : Q v { s with heap := h', toks := tk' } :=
  hret _ _ _ _ ⟨od', ol', D, hR, rfl⟩ F (cb_drop N fun p hp => by
    rcases List.mem_cons.mp hp with rfl | hp
    · exact hd
    · rcases List.mem_cons.mp hp with rfl | hp
      · exact hl
      · exact hr p hp)
theorem intsAre_snoc {vs : List Value} {ns : List Int} (h : IntsAre vs ns) (x : Int) (t : Tok) : IntsAre (vs ++ [.int x t]) (ns ++ [x]) := by
  induction h with
  | nil => exact .cons x t .nil
  | cons k u _ ih => exact .cons k u ih
theorem Deck.pushed {w : World} {n' : Int} {l : Addr} {od : Obj} {mx tn : Int} {tm tt : Tok} {vs : List Value} {cells : List Int} {x : Int} {t : Tok} {k : Nat}
    (hod : od.IsDictOf (sK w) [("cells", .ref l), ("mixed", .int mx tm), ("turn", .int tn tt)]) (hI : IntsAre vs cells) (hlen : cells.length ≤ 11) (hm : 0 ≤ mx) (hm2 : mx < 2147483648) (ht : 0 ≤ tn) (ht2 : tn ≤ n') :
    Deck w n' l od (listOf (vs.toArray.push (.int x t)) k) :=
  ⟨mx, tn, tm, tt, vs ++ [.int x t], cells ++ [x], k, hod, by simp, intsAre_snoc hI x t, by simp; omega, hm, hm2, ht, ht2⟩
theorem fmod_in (x : Int) {b : Int} (hb : 0 < b) : 0 ≤ x.fmod b ∧ x.fmod b < b := ⟨fmod_lo _ hb, fmod_hi _ hb⟩
theorem draw_ct (w : World) (d l : Addr) (n : Int) (below : Int) (u : Tok) (hb : 0 < below) (hb2 : below ≤ 1000001) (hn : n < 1000) : DCt w 227 [.ref d, .int below u] 1 d l n 1 (fun v => ∃ x t, v = .int x t ∧ 0 ≤ x ∧ x < below) := by
  intro rest od ol hdl hrd hrl hD
  obtain ⟨mx, tn, tm, tt, vs, cells, nl, hod, rfl, hI, hlen, hm, hm2, ht, ht2⟩ := hD
  unfold Ct
  k_fill
  intro mean mg mb dp un gd cn cs a ccd cl outer A₀ base h₀ L m s Q E B F X N T hk hd hu hret
  refine wpAny_call ?_
  k_dflt cell_enter
  have hvl : vs.length ≤ 12 := by rw [hI.length]; exact hlen
  k_steps
  repeat' (refine held ?_; first
    | (refine kda_item (knd := PySem.strKind _ _) (by k_asm) (by k_mem) (by k_asm) (strKind_is _ _ _ _) (by rfl) ?_; k_steps)
    | (refine' kda_set (knd := PySem.strKind _ _) ?F ?N ?U ?d (strKind_is _ _ _ _) ?z ?_; (case F => k_asm); (case N => k_asm); (case U => k_updF); (case d => k_asm); (case z => kob_size); intro h' o' F' N' hd'; (try kob_lit); (try dsimp only at N'); k_steps)
    | (refine' append_K ?k1 ?k2 ?k3 ?_ ?z; (case k1 => k_asm); (case k2 => k_asm); (case k3 => k_upd); (case z => (rw [PySem.sizeLine_eq]; simp only [List.size_toArray, List.length_dropLast]; omega)); k_whole; intro h' F' N'; k_steps))
  · refine deck_end hret (by k_asm) (by k_asm) (by k_mem) (by k_mem) (by intro p hp; repeat (first | exact hp | refine List.Mem.tail _ ?_)) ⟨_, _, _, _, _, _, _, by assumption, rfl, by assumption, by omega, by omega, by omega, by omega, by omega⟩ ⟨_, _, rfl, fmod_in _ hb⟩
  · rename (decide (cells = []) = false) => hc
    have hne : 0 < vs.length := by
      rw [hI.length]
      cases cells with
      | nil => simp at hc
      | cons => simp
    have hdl2 : cells.dropLast.length ≤ 11 := by rw [List.length_dropLast]; omega
    k_steps
    repeat' (refine held ?_; first
      | (refine kda_item (knd := PySem.strKind _ _) (by k_asm) (by k_mem) (by k_asm) (strKind_is _ _ _ _) (by rfl) ?_; k_steps)
      | (refine' kda_set (knd := PySem.strKind _ _) ?F ?N ?U ?d (strKind_is _ _ _ _) ?z ?_; (case F => k_asm); (case N => k_asm); (case U => k_updF); (case d => k_asm); (case z => kob_size); intro h' o' F' N' hd'; (try kob_lit); (try dsimp only at N'); k_steps)
      | (refine' append_K ?k1 ?k2 ?k3 ?_ ?z; (case k1 => k_asm); (case k2 => k_asm); (case k3 => k_upd); (case z => (rw [PySem.sizeLine_eq]; simp only [List.size_toArray, List.length_dropLast]; omega)); k_whole; intro h' F' N'; k_steps))
    · exact deck_end hret (by k_asm) (by k_asm) (by k_mem) (by k_mem) (by intro p hp; repeat (first | exact hp | refine List.Mem.tail _ ?_)) (Deck.pushed (by assumption) (by assumption) (by omega) (by omega) (by omega) (by omega) (by omega)) ⟨_, _, rfl, fmod_in _ hb⟩
    · refine deck_end hret (by k_asm) (by k_asm) (by k_mem) (by k_mem) (by intro p hp; repeat (first | exact hp | refine List.Mem.tail _ ?_)) ⟨_, _, _, _, _, _, _, by assumption, rfl, by assumption, by omega, by omega, by omega, by omega, by omega⟩ ⟨_, _, rfl, fmod_in _ hb⟩
end
end Mine
end

section
theorem Mine.rstC3 {M : Model} {A : Around} {env : Env} {Q : Flow → Shared → Prop} {E : Value → Shared → Prop} {s : Shared} (h : Q .next s) : wpAny M A (execs [] env) Q E s := by
  w_top off
  walk1
  exact h
open PySem PySem.W PyProof.Rows
set_option Elab.async false
set_option maxRecDepth 100000
set_option linter.unusedVariables false
set_option maxHeartbeats 4000000
namespace Mine
theorem Deck.mono {w : World} {n n' : Int} {l : Addr} {od ol : Obj} (h : Deck w n l od ol) (hn : n ≤ n') : Deck w n' l od ol := by
  obtain ⟨mx, tn, tm, tt, vs, cells, nl, a, b, c, d, e, f, g, i⟩ := h
  exact ⟨mx, tn, tm, tt, vs, cells, nl, a, b, c, d, e, f, g, by omega⟩
theorem DCt.use {w : World} {f : Addr} {vs : List Value} {room : Nat} {d l : Addr} {n k : Int} {R : Value → Prop} {led : List (Addr × Obj)} {od ol : Obj} {g : Obj → List (Addr × Obj)} {kk : Obj → Obj → List (Addr × Obj)}
    {mean : ExcName → Option Value} {mg mb : Str → Option Value} {dp un : Nat} {gd : Option (List Code)} {cn : Str} {cs : Scope} {a : Addr} {ccd : Value} {cl : List (Str × Addr)} {outer : List Env} {A₀ : Around} {base h₀ : Heap} {L : Addr} {m : Str → Option Value} {s : Shared} {Q E : Value → Shared → Prop}
    (N : News h₀ L s.heap led) (D : Deck w n l od ol) (C : DCt w f vs room d l n k R) (U1 : UpdF d od led g) (U2 : ∀ od', UpdF l ol (g od') (kk od')) (hdl : @Ne Nat d l)
    (B : Below A₀ base outer h₀) (F : Fr h₀ L s.heap m) (X : (Mine.hd.heap_1 w.params).In h₀) (T : Top vw (looseW vw loose) mean mg mb h₀) (hk : cs.kind = .function) (hd : dp + room < recursionLimit) (hu : un + 100 * room < cLine)
    (h : ∀ v od' ol' h' tk', R v → Deck w (n + k) l od' ol' → Fr h₀ L h' m → News h₀ L h' (kk od' ol') → Q v { s with heap := h', toks := tk' }) :
    wpAny (model PySem.Challenge.rw_pb0512_01.row.prog w) (ktrTop dp un gd cn cs L a ccd cl outer) (call (.ref f) vs) Q E s := by
  obtain ⟨pre, post, e1, e2, a1, a2⟩ := U1.split
  have hg : g od = led := by rw [e1, e2]
  obtain ⟨pre2, post2, f1, f2, b1, b2⟩ := (U2 od).split
  have inD : (d, od) ∈ led := by rw [e1]; simp
  have inL : (l, ol) ∈ led := by rw [← hg, f1]; simp
  let rest := led.filter fun p => decide (p.1 ≠ d) && decide (p.1 ≠ l)
  have hr : ∀ p ∈ rest, p ∈ led ∧ p.1 ≠ d ∧ p.1 ≠ l := fun p hp => by
    have := List.mem_filter.mp hp
    simpa using this
  have N' : News h₀ L s.heap ((d, od) :: (l, ol) :: rest) := cb_drop N fun p hp => by
    rcases List.mem_cons.mp hp with rfl | hp
    · exact inD
    · rcases List.mem_cons.mp hp with rfl | hp
      · exact inL
      · exact (hr p hp).1
  refine Ct.use (C rest od ol hdl (fun p hp => (hr p hp).2.1) (fun p hp => (hr p hp).2.2) D) B F X N' T hk hd hu ?_
  rintro v news' h' tk' ⟨od', ol', D', hR, rfl⟩ F' N''
  refine h v od' ol' h' tk' hR D' F' (cb_drop N'' fun p hp => ?_)
  obtain ⟨pre3, post3, g1, g2, c1, c2⟩ := (U2 od').split
  rw [g2] at hp
  have key : p.1 ≠ l → p ∈ g od' → p ∈ (d, od') :: (l, ol') :: rest := fun hpl hm => by
    rw [e2] at hm
    rcases List.mem_append.mp hm with q | q
    · exact .tail _ (.tail _ (List.mem_filter.mpr ⟨by rw [e1]; exact List.mem_append_left _ q, by simp [a1 p q, hpl]⟩))
    · rcases List.mem_cons.mp q with rfl | q
      · exact .head _
      · exact .tail _ (.tail _ (List.mem_filter.mpr ⟨by rw [e1]; exact List.mem_append_right _ (.tail _ q), by simp [a2 p q, hpl]⟩))
  rcases List.mem_append.mp hp with q | q
  · exact key (c1 p q) (by rw [g1]; exact List.mem_append_left _ q)
  · rcases List.mem_cons.mp q with rfl | q
    · exact .tail _ (.head _)
    · exact key (c2 p q) (by rw [g1]; exact List.mem_append_right _ (.tail _ q))
theorem DCt.useI {w : World} {f : Addr} {vs : List Value} {room : Nat} {d l : Addr} {n k : Int} {P : Int → Prop} {led : List (Addr × Obj)} {od ol : Obj} {g : Obj → List (Addr × Obj)} {kk : Obj → Obj → List (Addr × Obj)}
    {mean : ExcName → Option Value} {mg mb : Str → Option Value} {dp un : Nat} {gd : Option (List Code)} {cn : Str} {cs : Scope} {a : Addr} {ccd : Value} {cl : List (Str × Addr)} {outer : List Env} {A₀ : Around} {base h₀ : Heap} {L : Addr} {m : Str → Option Value} {s : Shared} {Q E : Value → Shared → Prop}
    (N : News h₀ L s.heap led) (D : Deck w n l od ol) (C : DCt w f vs room d l n k (fun v => ∃ x t, v = .int x t ∧ 0 ≤ x ∧ P x)) (U1 : UpdF d od led g) (U2 : ∀ od', UpdF l ol (g od') (kk od')) (hdl : @Ne Nat d l)
    (B : Below A₀ base outer h₀) (F : Fr h₀ L s.heap m) (X : (Mine.hd.heap_1 w.params).In h₀) (T : Top vw (looseW vw loose) mean mg mb h₀) (hk : cs.kind = .function) (hd : dp + room < recursionLimit) (hu : un + 100 * room < cLine)
    (h : ∀ x t od' ol' h' tk', 0 ≤ x → P x → Deck w (n + k) l od' ol' → Fr h₀ L h' m → News h₀ L h' (kk od' ol') → Q (.int x t) { s with heap := h', toks := tk' }) :
    wpAny (model PySem.Challenge.rw_pb0512_01.row.prog w) (ktrTop dp un gd cn cs L a ccd cl outer) (call (.ref f) vs) Q E s :=
  DCt.use N D C U1 U2 hdl B F X T hk hd hu fun v od' ol' h' tk' r D2 F2 N2 => by
    obtain ⟨x, t, rfl, a, b⟩ := r
    exact h x t od' ol' h' tk' a b D2 F2 N2
section
local macro_rules | `(tactic| walk_at "call ref") => `(tactic| ((try k_fold); refine hold ?_))
theorem menu_gray (i : Nat) : 0 ≤ ([0, 1, 3921, 3922, 500000, 996078, 999999, 1000000] : List Int).getD i 0 ∧ ([0, 1, 3921, 3922, 500000, 996078, 999999, 1000000] : List Int).getD i 0 ≤ 1000000 := by
  by_cases h : i < 8
  · have : ∀ i : Fin 8, 0 ≤ ([0, 1, 3921, 3922, 500000, 996078, 999999, 1000000] : List Int).getD i.1 0 ∧ ([0, 1, 3921, 3922, 500000, 996078, 999999, 1000000] : List Int).getD i.1 0 ≤ 1000000 := by decide
    exact this ⟨i, h⟩
  · rw [List.getD_eq_getElem?_getD, List.getElem?_eq_none (by simp; omega)]; decide
theorem gray_ct (w : World) (d l : Addr) (n : Int) (hn : n < 998) : DCt w 234 [.ref d] 2 d l n 2 (fun v => ∃ x t, v = .int x t ∧ 0 ≤ x ∧ x ≤ 1000000) := by
  intro rest od ol hdl hrd hrl hD
  unfold Ct
  k_fill
  intro mean mg mb dp un gd cn cs a ccd cl outer A₀ base h₀ L m s Q E B F X N T hk hd hu hret
  refine wpAny_call ?_
  k_dflt cell_enter
  k_steps
  repeat' (refine held ?_; refine DCt.use (by k_asm) (by (rename Deck _ _ _ _ _ => kD); exact kD) (draw_ct _ _ _ _ _ _ (by omega) (by omega) (by omega)) (by k_updF) (by (intro _; k_updF)) (by assumption) (by k_asm) (by k_asm) (by k_asm) (by k_asm) (by first | exact rfl | assumption) (by ktr_room) (by ktr_units) ?_; intro v9 od9 ol9 h9 tk9 R9 D9 F9 N9; obtain ⟨x9, t9, e9, lo9, hi9⟩ := R9; subst e9; (try dsimp only at N9 ⊢); k_steps)
  · refine deck_end hret (by k_asm) (by k_asm) (by k_mem) (by k_mem) (by intro p hp; repeat (first | exact hp | refine List.Mem.tail _ ?_)) (Deck.mono (by assumption) (by omega)) ⟨_, _, rfl, menu_gray _⟩
  · refine deck_end hret (by k_asm) (by k_asm) (by k_mem) (by k_mem) (by intro p hp; repeat (first | exact hp | refine List.Mem.tail _ ?_)) (Deck.mono (by assumption) (by omega)) ⟨_, _, rfl, by omega, by omega⟩
end
end Mine
end

section
open PySem PySem.W PyProof.Rows
set_option Elab.async false
set_option maxRecDepth 100000
set_option linter.unusedVariables false
set_option maxHeartbeats 4000000
namespace Mine
theorem bb_look : typeLookup (.type "bytes") "__bytes__" = pure (some (.builtin "bytes.__bytes__")) := by rw [typeLookup_type, builtinLookup_eq_fast]; kernel_rfl
theorem bb_new {prog : Program} {w : World} {A : Around} {E : Value → Shared → Prop} {s : Shared} {b : Array UInt8} {t : Tok} {Q : Value → Shared → Prop} (hQ : Q (.bytes b t) s) :
    codeAny (model prog w) A (.call (.builtin "bytes.__new__") ⟨[.type "bytes", .bytes b t], []⟩) (wants Q E) s := by
  refine codeAny_of_tree ?_
  show wpAny _ A.in1 (do checkBuiltinCall "bytes.__new__" ⟨[.type "bytes", .bytes b t], []⟩; again (.builtin "bytes.__new__" ⟨[.type "bytes", .bytes b t], []⟩)) _ _ s
  refine wpAny_bind (wpAny_of_eq (F.bm_newCall _) (wpAny_pure ⟨plainId_quiet F.bm_plain _, codeAny_builtin F.bm_entry ?_⟩))
  rw [Around.under_plainId F.bm_plain _]
  unfold Builtin.«bytes.__new__»
  refine wpAny_bind (wpAny_of_eq (a := true) rfl ?_)
  refine bm_if_false rfl ?_
  refine wpAny_bind (wpAny_of_eq F.bm_sub ?_)
  refine bm_if_false rfl ?_
  refine wpAny_bind (wpAny_of_eq (F.bm_bind _) ?_)
  refine wpAny_bind (wpAny_of_eq (a := ()) rfl ?_)
  refine wpAny_bind (wpAny_of_eq (a := ()) rfl ?_)
  refine bm_if_false rfl ?_
  refine wpAny_bind (wpAny_specialOf (typeIs_bytes _ _ _) bb_look ?_)
  refine wpAny_bind ?_
  refine wpAny_rule ?_
  refine wpAny_bind (wpAny_of_eq (a := .type "bytes") rfl ?_)
  refine bm_if_true rfl ?_
  first
    | exact wpAny_pure hQ
    | exact wpAny_bind (wpAny_pure (wpAny_pure hQ))
theorem call_bytes_bytes {prog : Program} {w : World} {A : Around} {E : Value → Shared → Prop} {s : Shared} {b : Array UInt8} {t : Tok} {Q : Value → Shared → Prop} (hh : A.handled = none) (hQ : Q (.bytes b t) s) : wpAny (model prog w) A (call (.type "bytes") [.bytes b t]) Q E s := by
  refine callType_codes (Q₁ := fun obj s₁ => s₁.TypeIs obj "bytes" ∧ Q obj s₁) F.bm_called (F.bm_typeCall _) F.entry_object_init
    (bb_new ⟨PySem.W.typeIs_bytes _ _ _, hQ⟩) fun obj s₁ h₁ => ?_
  exact ⟨h₁.1, F.args_object_init_2 obj _, object_init_meets F.bm_called.init.lookup F.bm_called.made (by decide) prog w A.in1 _ s₁ ⟨h₁.1, rfl, h₁.2⟩⟩
end Mine
end

section
theorem Mine.rstC4 {M : Model} {A : Around} {env : Env} {Q : Flow → Shared → Prop} {E : Value → Shared → Prop} {s : Shared} (h : Q .next s) : wpAny M A (execs [] env) Q E s := by
  w_top off
  walk1
  exact h
open PySem PySem.W PyProof.Rows
set_option Elab.async false
set_option maxRecDepth 100000
set_option linter.unusedVariables false
set_option maxHeartbeats 4000000
namespace Mine
noncomputable abbrev htObj (w : World) (wd ht : Int) (t u : Tok) (b : Array UInt8) (tb : Tok) (k1 k2 k3 : Tok) : Obj :=
  dictOf [{ hash := PyData.keyHash w.params (Str.ofString "width"), key := .str (Str.ofString "width") k1, val := .int wd t }, { hash := PyData.keyHash w.params (Str.ofString "height"), key := .str (Str.ofString "height") k2, val := .int ht u }, { hash := PyData.keyHash w.params (Str.ofString "thresholds"), key := .str (Str.ofString "thresholds") k3, val := .bytes b tb }] 3
/-- a halftone made anew, ahead of the ledger -/
noncomputable abbrev HtNew (w : World) (wd ht : Int) (b : Array UInt8) (news : List (Addr × Obj)) (v : Value) (news' : List (Addr × Obj)) : Prop :=
  ∃ (x dx : Addr) (t u tb k1 k2 k3 : Tok), v = .ref x ∧ (∀ p ∈ news, @LT.lt Nat _ p.1 dx) ∧ @LT.lt Nat _ dx x ∧ news' = (x, instObj 173 dx) :: (dx, htObj w wd ht t u b tb k1 k2 k3) :: news
section
local macro_rules | `(tactic| walk_at "call type:bytes") => `(tactic| ((try k_fold); refine hold ?_))
theorem thr_ct (w : World) (news : List (Addr × Obj)) (wd ht : Int) (t u tb : Tok) (b : Array UInt8) (octs : List Int) (hb : KBw.bInts b = octs) (h1 : 1 ≤ wd) (h2 : wd ≤ 4) (h3 : 1 ≤ ht) (h4 : ht ≤ 3) (hl : (octs.length : Int) = wd * ht) (hl2 : octs.length ≤ 13) (hl3 : 1 ≤ octs.length) : Ct w 184 [.int wd t, .int ht u, .bytes b tb] 3 news (HtNew w wd ht b news) := by
  unfold Ct
  k_fill
  intro mean mg mb dp un gd cn cs a ccd cl outer A₀ base h₀ L m s Q E B F X N T hk hd hu hret
  refine wpAny_call ?_
  k_dflt cell_enter
  k_steps
  repeat' (refine held ?_; refine call_bytes_bytes (by rfl) ?_; k_steps)
  · exact absurd hl (by assumption)
  · exact ct_end hret ⟨_, _, _, _, _, _, _, _, rfl, by assumption, by assumption, rfl⟩ (by k_asm) (by assumption) (by kcj_all)
end
end Mine
end

section
theorem Mine.rstC5 {M : Model} {A : Around} {env : Env} {Q : Flow → Shared → Prop} {E : Value → Shared → Prop} {s : Shared} (h : Q .next s) : wpAny M A (execs [] env) Q E s := by
  w_top off
  walk1
  exact h
open PySem PySem.W PyProof.Rows
set_option Elab.async false
set_option maxRecDepth 100000
set_option linter.unusedVariables false
set_option maxHeartbeats 4000000
namespace Mine
/-- the level that a gray comes to -/
noncomputable def lvl (g : Int) : Int := (2 * (g * 255) + 1000000).fdiv (2 * 1000000)
theorem idx_in {x y wd ht : Int} (h1 : 1 ≤ wd) (h3 : 1 ≤ ht) : 0 ≤ y.fmod ht * wd + x.fmod wd ∧ y.fmod ht * wd + x.fmod wd < wd * ht := by
  have a := fmod_lo y (show 0 < ht by omega)
  have b := fmod_hi y (show 0 < ht by omega)
  have c := fmod_lo x (show 0 < wd by omega)
  have d := fmod_hi x (show 0 < wd by omega)
  have e : 0 ≤ y.fmod ht * wd := Int.mul_nonneg a (by omega)
  have f : y.fmod ht * wd ≤ (ht - 1) * wd := Int.mul_le_mul_of_nonneg_right (by omega) (by omega)
  rw [Int.sub_mul, Int.one_mul, Int.mul_comm ht wd] at f
  omega
section
local macro_rules | `(tactic| walk_at "call ref") => `(tactic| ((try k_fold); refine hold ?_))
theorem white_ct (w : World) (rest : List (Addr × Obj)) (ax dx : Addr) (wd ht x y g : Int) (t u tb k1 k2 k3 tx ty tg : Tok) (b : Array UInt8) (octs : List Int) (hb : KBw.bInts b = octs) (h1 : 1 ≤ wd) (h2 : wd ≤ 4) (h3 : 1 ≤ ht) (h4 : ht ≤ 3) (hl : (octs.length : Int) = wd * ht) (hl2 : octs.length ≤ 13) (hg : 0 ≤ g) (hg2 : g ≤ 1000000) (hx : 0 ≤ x) (hx2 : x ≤ 1000) (hy : 0 ≤ y) (hy2 : y ≤ 1000) :
    Ct w 198 [.ref ax, .int x tx, .int y ty, .int g tg] 3 ((ax, instObj 173 dx) :: (dx, htObj w wd ht t u b tb k1 k2 k3) :: rest) (Bool1 ((ax, instObj 173 dx) :: (dx, htObj w wd ht t u b tb k1 k2 k3) :: rest) (decide (max 1 (octs.getD (y.fmod ht * wd + x.fmod wd).toNat 0) ≤ lvl g))) := by
  unfold Ct
  k_fill
  intro mean mg mb dp un gd cn cs a ccd cl outer A₀ base h₀ L m s Q E B F X N T hk hd hu hret
  refine wpAny_call ?_
  k_dflt cell_enter
  obtain ⟨hi0, hi1⟩ := idx_in (x := x) (y := y) h1 h3
  k_steps
  refine held ?_
  refine Ct.use (level_ct _ _ _ _ (by assumption) (by assumption)) (by k_asm) (by k_asm) (by k_asm) (by k_asm) (by k_asm) (by first | exact rfl | assumption) (by ktr_room) (by ktr_units) ?_
  intro v9 news9 h9 tk9 R9 F9 N9
  obtain ⟨⟨t9, e9⟩, e9'⟩ := R9
  subst e9
  subst e9'
  (try dsimp only)
  (try k_fold)
  k_steps
  all_goals exact ct_end hret ⟨by rw [show (if octs.getD (y.fmod ht * wd + x.fmod wd).toNat 0 > 1 then octs.getD (y.fmod ht * wd + x.fmod wd).toNat 0 else 1) = max 1 (octs.getD (y.fmod ht * wd + x.fmod wd).toNat 0) by split <;> omega]; rfl, rfl⟩ (by k_asm) (by assumption) (by kcj_all)
end
end Mine
end

section
open PySem PySem.W PyProof.Rows PySem.Calls PyProof.Rows.LCg
set_option Elab.async false
set_option maxRecDepth 100000
set_option linter.unusedVariables false
set_option maxHeartbeats 4000000
namespace Mine
section
variable {prog : Program} {w : World} {A : Around} {E : Value → Shared → Prop} {s : Shared} {h₀ : Heap} {L : Addr} {m : Str → Option Value} {env : Env}
theorem compEnd_mono {m : Str → Option Value} {s₁ s₂ : Shared} {I C D : Addr} {oI oC oD : Obj} {S : List (Addr × Obj) → Prop} {r r' : Value → List (Addr × Obj) → Prop} {y : Value} (hr : ∀ y l, r y l → r' y l)
    (h : CompEnd h₀ L m s₁ I oI C oC D oD S r y s₂) : CompEnd h₀ L m s₁ I oI C oC D oD S r' y s₂ := by
  obtain ⟨h', tk, n, a, b, c, d, e, f⟩ := h
  exact ⟨h', tk, n, a, b, c, d, e, hr _ _ f⟩
/-- a comprehension without a test, by an invariant of the items so far and the ledger -/
theorem comp_inv {elt : Expr} {x : Str} {scope : Scope} {cl : List (Str × Addr)} {S : List (Addr × Obj) → Prop} {P : Nat → Value → Prop} {Fin : List Value → List (Addr × Obj) → Prop} {n : Nat} {led : List (Addr × Obj)}
    (J : Nat → List Value → List (Addr × Obj) → Prop) (h0 : J 0 [] led)
    (turn : ∀ i ys news v I oI C oC D m₂ h tk (E' : Value → Shared → Prop), i < n → J i ys news → P i v → NsObj oC m₂ → m₂ x = some v → Fr h₀ L h m → News h₀ L h ((I, oI) :: (C, oC) :: (D, lst ys) :: news) → Off3 I C D news → ((@Ne Nat I C) ∧ (@Ne Nat I D) ∧ (@Ne Nat C D)) →
      wpAny (model prog w) A (eval elt (compEnvC scope cl C env)) (CompEnd h₀ L m { s with heap := h, toks := tk } I oI C oC D (lst ys) S (fun y news' => J (i + 1) (ys ++ [y]) news')) E' { s with heap := h, toks := tk })
    (fin : ∀ ys news, J n ys news → Fin ys news) : CompRest prog w A h₀ L m env elt x scope cl s S P Fin n 0 [] led := by
  have go : ∀ k i ys news, i + k = n → J i ys news → CompRest prog w A h₀ L m env elt x scope cl s S P Fin k i ys news := by
    intro k
    induction k with
    | zero => intro i ys news e hJ; subst e; exact CompRest.zero (fin _ _ hJ)
    | succ k ih =>
      intro i ys news e hJ
      refine CompRest.succ fun v I oI C oC D m₂ h tk E' p1 p2 p3 p4 p5 p6 p7 => ?_
      exact wpAny_mono (turn i ys news v I oI C oC D m₂ h tk E' (by omega) hJ p1 p2 p3 p4 p5 p6 p7) (fun y s' q => compEnd_mono (fun y l z => ih (i + 1) _ l (by omega) z) q) fun _ _ e => e
  exact go n 0 [] led (by omega) h0
open PyProof.Rows.LCt in
/-- a comprehension with one test -/
theorem compT_inv {ct elt : Expr} {x : Str} {scope : Scope} {cl : List (Str × Addr)} {S : List (Addr × Obj) → Prop} {P : Nat → Value → Prop} {Fin : List Value → List (Addr × Obj) → Prop} {n : Nat} {led : List (Addr × Obj)}
    (J : Nat → List Value → List (Addr × Obj) → Prop) (h0 : J 0 [] led)
    (turn : ∀ i ys news v I oI C oC D m₂ h tk (E' : Value → Shared → Prop), i < n → J i ys news → P i v → NsObj oC m₂ → m₂ x = some v → Fr h₀ L h m → News h₀ L h ((I, oI) :: (C, oC) :: (D, lst ys) :: news) → Off3 I C D news → ((@Ne Nat I C) ∧ (@Ne Nat I D) ∧ (@Ne Nat C D)) →
      wpAny (model prog w) A (isTrue ct (compEnvC scope cl C env) (eval ct (compEnvC scope cl C env))) (fun ok s' => if ok = true then
        wpAny (model prog w) A (eval elt (compEnvC scope cl C env)) (CompEnd h₀ L m { s with heap := h, toks := tk } I oI C oC D (lst ys) S (fun y news' => J (i + 1) (ys ++ [y]) news')) E' s'
        else CompEnd h₀ L m { s with heap := h, toks := tk } I oI C oC D (lst ys) S (fun _ news' => J (i + 1) ys news') Value.none s') E' { s with heap := h, toks := tk })
    (fin : ∀ ys news, J n ys news → Fin ys news) : CompRestT prog w A h₀ L m env ct elt x scope cl s S P Fin n 0 [] led := by
  have go : ∀ k i ys news, i + k = n → J i ys news → CompRestT prog w A h₀ L m env ct elt x scope cl s S P Fin k i ys news := by
    intro k
    induction k with
    | zero => intro i ys news e hJ; subst e; exact CompRestT.zero (fin _ _ hJ)
    | succ k ih =>
      intro i ys news e hJ
      refine CompRestT.succ fun v I oI C oC D m₂ h tk E' p1 p2 p3 p4 p5 p6 p7 => ?_
      refine wpAny_mono (turn i ys news v I oI C oC D m₂ h tk E' (by omega) hJ p1 p2 p3 p4 p5 p6 p7) (fun ok s' q => ?_) fun _ _ e => e
      split
      · next hk =>
        rw [if_pos hk] at q
        exact wpAny_mono q (fun y s' q => compEnd_mono (fun y l z => ih (i + 1) _ l (by omega) z) q) fun _ _ e => e
      · next hk =>
        rw [if_neg hk] at q
        exact compEnd_mono (fun y l z => ih (i + 1) _ l (by omega) z) q
  exact go n 0 [] led (by omega) h0

/-- where a turn of a for loop ends -/
noncomputable def ForEnd (h₀ : Heap) (L I : Addr) (oI : Obj) (s₁ : Shared) (S : List (Addr × Obj) → Prop) (J : (Str → Option Value) → List (Addr × Obj) → Prop) (s₂ : Shared) : Prop :=
  ∃ h' tk m' led', s₂ = { s₁ with heap := h', toks := tk } ∧ Fr h₀ L h' m' ∧ News h₀ L h' ((I, oI) :: led') ∧ (∀ p ∈ led', p.1 ≠ I) ∧ S led' ∧ J m' led'
theorem ForEnd.intro {I : Addr} {oI : Obj} {s₁ : Shared} {S : List (Addr × Obj) → Prop} {J : (Str → Option Value) → List (Addr × Obj) → Prop} {h' : Heap} {tk : Nat} {m' : Str → Option Value} {all : List (Addr × Obj)} (led' : List (Addr × Obj))
    (F : Fr h₀ L h' m') (N : News h₀ L h' all) (sub : ∀ p ∈ (I, oI) :: led', p ∈ all) (off : ∀ p ∈ led', p.1 ≠ I) (hS : S led') (hJ : J m' led') : ForEnd h₀ L I oI s₁ S J { s₁ with heap := h', toks := tk } :=
  ⟨h', tk, m', led', rfl, F, fun p hp => N p (sub p hp), off, hS, hJ⟩
noncomputable def ForStep (h₀ : Heap) (L I : Addr) (oI : Obj) (s₁ : Shared) (S : List (Addr × Obj) → Prop) (J : (Str → Option Value) → List (Addr × Obj) → Prop) (Q : Flow → Shared → Prop) (f : Flow) (s₂ : Shared) : Prop :=
  match f with
  | .ret v => Q (.ret v) s₂
  | .brk => Q .next s₂
  | .next => ForEnd h₀ L I oI s₁ S J s₂
  | .cont => ForEnd h₀ L I oI s₁ S J s₂
noncomputable def ForTurns (prog : Program) (w : World) (A : Around) (h₀ : Heap) (L : Addr) (env : Env) (target : Expr) (body : List Stmt) (Q : Flow → Shared → Prop) (E : Value → Shared → Prop) (S : List (Addr × Obj) → Prop) (n : Nat) (P : Nat → Value → Prop) (s : Shared) (m₀ : Str → Option Value) (led₀ : List (Addr × Obj)) : Prop :=
  ∃ J : Nat → (Str → Option Value) → List (Addr × Obj) → Prop, J 0 m₀ led₀ ∧
    (∀ i v m led h tk I oI, i < n → P i v → J i m led → S led → Fr h₀ L h m → News h₀ L h ((I, oI) :: led) → (∀ p ∈ led, p.1 ≠ I) →
      wpAny (model prog w) A (assign target env v) (fun _ s₂ => wpAny (model prog w) A (execs body env) (ForStep h₀ L I oI { s with heap := h, toks := tk } S (J (i + 1)) Q) E s₂) E { s with heap := h, toks := tk }) ∧
    ∀ m led h tk, J n m led → S led → Fr h₀ L h m → News h₀ L h led → Q .next { s with heap := h, toks := tk }
theorem ForTurns.intro {prog : Program} {w : World} {A : Around} {h₀ : Heap} {L : Addr} {env : Env} {target : Expr} {body : List Stmt} {Q : Flow → Shared → Prop} {E : Value → Shared → Prop} {S : List (Addr × Obj) → Prop} {n : Nat} {P : Nat → Value → Prop} {s : Shared} {m₀ : Str → Option Value} {led₀ : List (Addr × Obj)}
    (J : Nat → (Str → Option Value) → List (Addr × Obj) → Prop) (h0 : J 0 m₀ led₀)
    (turn : ∀ i v m led h tk I oI, i < n → P i v → J i m led → S led → Fr h₀ L h m → News h₀ L h ((I, oI) :: led) → (∀ p ∈ led, p.1 ≠ I) →
      wpAny (model prog w) A (assign target env v) (fun _ s₂ => wpAny (model prog w) A (execs body env) (ForStep h₀ L I oI { s with heap := h, toks := tk } S (J (i + 1)) Q) E s₂) E { s with heap := h, toks := tk })
    (done : ∀ m led h tk, J n m led → S led → Fr h₀ L h m → News h₀ L h led → Q .next { s with heap := h, toks := tk }) :
    ForTurns prog w A h₀ L env target body Q E S n P s m₀ led₀ := ⟨J, h0, turn, done⟩
noncomputable def LoopG (prog : Program) (w : World) (A : Around) (h₀ : Heap) (L : Addr) (env : Env) (target : Expr) (body : List Stmt) (Q : Flow → Shared → Prop) (E : Value → Shared → Prop) (it : Value) (s : Shared) : Prop :=
  ∃ (I : Addr) (fp : List Addr) (n : Nat) (P : Nat → Value → Prop) (St : Nat → Heap → Prop) (S : List (Addr × Obj) → Prop) (m : Str → Option Value) (led : List (Addr × Obj)),
    it = .ref I ∧ Walks prog w A I fp [I] n P St ∧ (∀ i h, St i h → ∃ o, h.get? I = some o) ∧
    (∀ i h h' o nw, St i h → h.get? I = some o → h'.get? I = some o → (∀ b o, h₀.get? b = some o → h'.get? b = some o) → News h₀ L h' nw → S nw → St i h') ∧
    St 0 s.heap ∧ Fr h₀ L s.heap m ∧ News h₀ L s.heap led ∧ L ≠ I ∧ h₀.get? I = none ∧ (∀ p ∈ led, p.1 ≠ I) ∧ S led ∧ ForTurns prog w A h₀ L env target body Q E S n P s m led
theorem For_G {target iter : Expr} {pos : Pos} {body : List Stmt} {Q : Flow → Shared → Prop} {m₀ : Str → Option Value} (_F : Fr h₀ L s.heap m₀) (hgo : ∀ it v, letOwnedTupleGo target it v = pure ()) (hL : env.locals = L)
    (h : wpAny (model prog w) A (eval iter env) (fun xv s₁ => wpAny (model prog w) A (pyIter xv) (fun it s₂ => LoopG prog w A h₀ L env target body Q E it s₂) E s₁) E s)
    (hs : ∀ x, foldedSetIterable iter env x = pure x := by intro _; rfl)
    (hE : PassesOwn (model prog w) A env E := by passes_own) :
    wpAny (model prog w) A (exec (.For target iter body [] pos) env) Q E s := by
  refine wpAny_For (wpAny_mono h (fun xv s₁ h₁ => wpAny_mono h₁ (fun it s₂ h₂ => ?_) fun _ _ e => e) fun _ _ e => e) hs
  obtain ⟨I, fp, n, P, St, S, m, led, rfl, W, hIo, hSt, hst, F, N, hIL, hI₀, off, hS, J, h0, turn, done⟩ := h₂
  refine codeAny_forLoop (R := fun r s' => match r with | .ok f => Q f s' | .error e => cameBackBy (model prog w) A env E e s')
    (fun k s' => ∃ h' tk m' led' i, s' = { s₂ with heap := h', toks := tk } ∧ i ≤ n ∧ k = n + 1 - i ∧ St i h' ∧ Fr h₀ L h' m' ∧ News h₀ L h' led' ∧ (∀ p ∈ led', p.1 ≠ I) ∧ S led' ∧ J i m' led') ?_ (n + 1)
    ⟨s₂.heap, s₂.toks, m, led, 0, rfl, Nat.zero_le _, rfl, hst, F, N, off, hS, h0⟩ (hgo _)
  rintro k s' pzz
  refine ex5 pzz ?_; clear pzz; intro h' tk m' led' i pzz; refine and9 pzz ?_; clear pzz; rintro rfl hi rfl hst' F' N' off' hS' hJ
  by_cases hlt : i < n
  · refine W.item i _ _ _ hlt hst' fun v h₁ tk₁ hPv hst₁ hk₁ => ?_
    obtain ⟨oI, heI⟩ := hIo _ _ hst₁
    have F₁ : Fr h₀ L h₁ m' := fr_but F' hk₁ hIL hI₀
    have N₁ : News h₀ L h₁ led' := news_but N' hk₁ off'
    have N₂ : News h₀ L h₁ ((I, oI) :: led') := fun p hp => by
      rcases List.mem_cons.mp hp with rfl | hp
      · exact ⟨heI, Ne.symm hIL, hI₀⟩
      · exact N₁ p hp
    refine wpAny_mono (turn i v m' led' h₁ tk₁ I oI hlt hPv hJ hS' F₁ N₂ off') (fun _ s₃ h₃ => wpAny_mono (wpAny_passesOwn hE h₃) (fun f s₄ h₄ => ?_) fun _ _ e => e) hE
    have nx : ForEnd h₀ L I oI { s₂ with heap := h₁, toks := tk₁ } S (J (i + 1)) s₄ → ∃ mm, mm < n + 1 - i ∧ ∃ h' tk m' led' i', s₄ = { s₂ with heap := h', toks := tk } ∧ i' ≤ n ∧ mm = n + 1 - i' ∧ St i' h' ∧ Fr h₀ L h' m' ∧ News h₀ L h' led' ∧ (∀ p ∈ led', p.1 ≠ I) ∧ S led' ∧ J i' m' led' := by
      rintro ⟨h₅, tk₅, m₅, led₅, rfl, F₅, N₅, off₅, hS₅, hJ₅⟩
      have N₅' : News h₀ L h₅ led₅ := fun p hp => N₅ p (.tail _ hp)
      exact ⟨n + 1 - (i + 1), by omega, h₅, tk₅, m₅, led₅, i + 1, rfl, hlt, rfl, hSt _ _ _ _ _ hst₁ heI (N₅ _ (.head _)).1 F₅.keep N₅' hS₅, F₅, N₅', off₅, hS₅, hJ₅⟩
    cases f with
    | ret v => exact h₄
    | brk => exact h₄
    | next => exact nx h₄
    | cont => exact nx h₄
  · obtain rfl : i = n := Nat.le_antisymm hi (Nat.not_lt.mp hlt)
    refine W.done _ _ _ hst' fun h₁ tk₁ hk₁ => wpAny_execs_nil ?_
    exact done m' led' h₁ tk₁ hJ hS' (fr_but F' hk₁ hIL hI₀) (news_but N' hk₁ off')
theorem iter_range_G {target : Expr} {body : List Stmt} {Q : Flow → Shared → Prop} {r : Addr} {a b : Int} {t u v : Tok} {n : Nat} {led : List (Addr × Obj)} (hh : A.handled = none) (F : Fr h₀ L s.heap m) (N : News h₀ L s.heap led)
    (hr : IsRange s.heap r a b 1 t u v) (hsm : Builtin.Range.small a b 1 = true) (hn : Builtin.Range.rangeSize a b 1 = ((n : Nat) : Int))
    (R : ∀ g, ForTurns prog w A h₀ L env target body Q E (fun _ => True) n (fun i v => ∃ t, v = .int (a + (i : Int)) t) { s with heap := g } m led) :
    wpAny (model prog w) A (pyIter (.ref r)) (fun it s₂ => LoopG prog w A h₀ L env target body Q E it s₂) E s := by
  refine wpAny_pyIter_range hr hsm ?_
  exact ⟨_, _, n, _, _, _, m, led, rfl, range_walks hh a n, fun i h st => ⟨_, st⟩, range_st, by show IsRangeIter _ _ _ _ _; rw [hn]; simpa using Heap.get?_push_size _ rfl, F.keeps fun _ _ e => Heap.get?_push_of_some _ e, N.grown fun _ _ e => Heap.get?_push_of_some _ e, Nat.ne_of_lt F.ns.lt, next_is_new F, fun p hp => Nat.ne_of_lt (Heap.lt_size (N p hp).1), trivial, R _⟩
theorem iter_list_G {target : Expr} {body : List Stmt} {Q : Flow → Shared → Prop} {ax : Addr} {its : Array Value} {led : List (Addr × Obj)} (hh : A.handled = none) (F : Fr h₀ L s.heap m) (N : News h₀ L s.heap led)
    (S : SrcAt h₀ ax its led)
    (R : ∀ g, ForTurns prog w A h₀ L env target body Q E (SrcAt h₀ ax its) its.size (fun i v => its[i]? = some v) { s with heap := g } m led) :
    wpAny (model prog w) A (pyIter (.ref ax)) (fun it s₂ => LoopG prog w A h₀ L env target body Q E it s₂) E s := by
  have hl := S.list F.keep N
  have hlt : ax < s.heap.objs.size := by obtain ⟨_, e, _⟩ := hl; exact Heap.lt_size e
  refine wpAny_pyIter_list hl ?_
  have up : ∀ b o, s.heap.get? b = some o → (s.heap.push { cls := .type "list_iterator", data := .fields #[.ref ax, .int 0 0] }).get? b = some o := fun b o e => Heap.get?_push_of_some _ e
  exact ⟨_, _, _, _, _, _, m, led, rfl, Walks.list hh s.heap.objs.size ax (Nat.ne_of_lt hlt) its, fun i h st => by obtain ⟨o, e, _⟩ := st.1; exact ⟨o, e⟩, list_st, ⟨⟨_, Heap.get?_push_size _ rfl, rfl, rfl⟩, hl.push _⟩, F.keeps up, N.grown up, Nat.ne_of_lt F.ns.lt, next_is_new F, fun p hp => Nat.ne_of_lt (Heap.lt_size (N p hp).1), S, R _⟩
end
end Mine
end

section
open PySem PySem.W PyProof.Rows PySem.Calls PyProof.Rows.LCg
set_option Elab.async false
set_option maxRecDepth 100000
set_option linter.unusedVariables false
set_option maxHeartbeats 4000000
namespace Mine
/-- is the place (x, y) white at the gray g -/
noncomputable def whiteV (wd ht : Int) (octs : List Int) (g x y : Int) : Bool := decide (max 1 (octs.getD (y.fmod ht * wd + x.fmod wd).toNat 0) ≤ lvl g)
noncomputable def rowV (wd ht : Int) (octs : List Int) (g : Int) (W : Nat) (y : Int) : List Int := (rangeKs 0 W).map fun x => if whiteV wd ht octs g x y then 1 else 0
noncomputable def RowsAre (vs : List Value) (n : Nat) (row : Int → List Int) : Prop := vs.length = n ∧ ∀ i : Nat, i < n → ∃ t, vs[i]? = some (.bytes (byteArr (row i)) t)
noncomputable def mOf {h₀ h : Heap} {L : Addr} {m : Str → Option Value} (_ : Fr h₀ L h m) : Str → Option Value := m
theorem off1_of {I : Addr} : ∀ {l : List (Addr × Obj)}, (∀ p ∈ l, p.1 ≠ I) → Off1 I l
  | [], _ => trivial
  | _ :: _, h => ⟨h _ List.mem_cons_self, off1_of fun p hp => h p (List.mem_cons_of_mem _ hp)⟩
theorem allLt_mem {d : Nat} : ∀ {l : List (Addr × Obj)}, AllLt d l → ∀ p ∈ l, @LT.lt Nat _ p.1 d
  | [], _, p, hp => nomatch hp
  | q :: l, h, p, hp => by
    rcases List.mem_cons.mp hp with rfl | hp
    · exact h.1
    · exact allLt_mem h.2 p hp
theorem ne_of_ltN {a d e : Nat} (h : a < d) (he : d ≤ e) : a ≠ e := by omega
theorem allLt_ne {d e : Nat} {l : List (Addr × Obj)} (h : AllLt d l) (he : d ≤ e) : ∀ p ∈ l, p.1 ≠ e := fun p hp => ne_of_ltN (allLt_mem h p hp) he
theorem off1_mem {I : Addr} : ∀ {l : List (Addr × Obj)}, Off1 I l → ∀ p ∈ l, p.1 ≠ I
  | [], _, p, hp => nomatch hp
  | q :: l, h, p, hp => by
    rcases List.mem_cons.mp hp with rfl | hp
    · exact h.1
    · exact off1_mem h.2 p hp
theorem news_tail {h₀ h : Heap} {L : Addr} {a : Addr × Obj} {l : List (Addr × Obj)} (N : News h₀ L h (a :: l)) : News h₀ L h l := fun p hp => N p (.tail _ hp)
theorem bnd_of {j : Nat} {W : Int} (h : j < W.toNat) (hW : W ≤ 20) : 0 ≤ 0 + (j : Int) ∧ 0 + (j : Int) ≤ 1000 := by omega
structure HtOk (ax dx : Addr) (t u tb k1 k2 k3 : Tok) (wd ht : Int) (b : Array UInt8) (octs : List Int) : Prop where
  hb : KBw.bInts b = octs
  h1 : 1 ≤ wd
  h2 : wd ≤ 4
  h3 : 1 ≤ ht
  h4 : ht ≤ 3
  hl : (octs.length : Int) = wd * ht
  hl2 : octs.length ≤ 13
theorem Ct.use' {w : World} {f : Addr} {vs : List Value} {room : Nat} {news : List (Addr × Obj)} {R : Value → List (Addr × Obj) → Prop} {mean : ExcName → Option Value} {mg mb : Str → Option Value} {dp un : Nat} {gd : Option (List Code)} {cn : Str} {cs : Scope} {a : Addr} {ccd : Value} {cl : List (Str × Addr)} {outer : List Env} {A₀ : Around} {base h₀ : Heap} {L : Addr} {m : Str → Option Value} {s : Shared} {Q E : Value → Shared → Prop}
    (N : News h₀ L s.heap news) (C : Ct w f vs room news R) (B : Below A₀ base outer h₀) (F : Fr h₀ L s.heap m) (X : (Mine.hd.heap_1 w.params).In h₀) (T : Top vw (looseW vw loose) mean mg mb h₀) (hk : cs.kind = .function) (hd : dp + room < recursionLimit) (hu : un + 100 * room < cLine)
    (h : ∀ v news' h' tk', R v news' → Fr h₀ L h' m → News h₀ L h' news' → Q v { s with heap := h', toks := tk' }) :
    wpAny (model PySem.Challenge.rw_pb0512_01.row.prog w) (ktrTop dp un gd cn cs L a ccd cl outer) (call (.ref f) vs) Q E s :=
  C _ _ _ _ _ _ _ _ _ _ _ _ _ _ _ _ _ _ _ _ B F X N T hk hd hu h
theorem Ct.useI' {x : Int} {w : World} {f : Addr} {vs : List Value} {room : Nat} {news : List (Addr × Obj)} {mean : ExcName → Option Value} {mg mb : Str → Option Value} {dp un : Nat} {gd : Option (List Code)} {cn : Str} {cs : Scope} {a : Addr} {ccd : Value} {cl : List (Str × Addr)} {outer : List Env} {A₀ : Around} {base h₀ : Heap} {L : Addr} {m : Str → Option Value} {s : Shared} {Q E : Value → Shared → Prop}
    (N : News h₀ L s.heap news) (C : Ct w f vs room news (fun v n => (∃ t, v = .int x t) ∧ n = news)) (B : Below A₀ base outer h₀) (F : Fr h₀ L s.heap m) (X : (Mine.hd.heap_1 w.params).In h₀) (T : Top vw (looseW vw loose) mean mg mb h₀) (hk : cs.kind = .function) (hd : dp + room < recursionLimit) (hu : un + 100 * room < cLine)
    (h : ∀ t h' tk', Fr h₀ L h' m → News h₀ L h' news → Q (.int x t) { s with heap := h', toks := tk' }) :
    wpAny (model PySem.Challenge.rw_pb0512_01.row.prog w) (ktrTop dp un gd cn cs L a ccd cl outer) (call (.ref f) vs) Q E s :=
  Ct.use' N C B F X T hk hd hu fun v n h' tk' r F2 N2 => by
    obtain ⟨⟨t, rfl⟩, rfl⟩ := r
    exact h t h' tk' F2 N2
theorem Ct.useB' {x : Bool} {w : World} {f : Addr} {vs : List Value} {room : Nat} {news : List (Addr × Obj)} {mean : ExcName → Option Value} {mg mb : Str → Option Value} {dp un : Nat} {gd : Option (List Code)} {cn : Str} {cs : Scope} {a : Addr} {ccd : Value} {cl : List (Str × Addr)} {outer : List Env} {A₀ : Around} {base h₀ : Heap} {L : Addr} {m : Str → Option Value} {s : Shared} {Q E : Value → Shared → Prop}
    (N : News h₀ L s.heap news) (C : Ct w f vs room news (fun v n => v = .bool x ∧ n = news)) (B : Below A₀ base outer h₀) (F : Fr h₀ L s.heap m) (X : (Mine.hd.heap_1 w.params).In h₀) (T : Top vw (looseW vw loose) mean mg mb h₀) (hk : cs.kind = .function) (hd : dp + room < recursionLimit) (hu : un + 100 * room < cLine)
    (h : ∀ h' tk', Fr h₀ L h' m → News h₀ L h' news → Q (.bool x) { s with heap := h', toks := tk' }) :
    wpAny (model PySem.Challenge.rw_pb0512_01.row.prog w) (ktrTop dp un gd cn cs L a ccd cl outer) (call (.ref f) vs) Q E s :=
  Ct.use' N C B F X T hk hd hu fun v n h' tk' r F2 N2 => by
    obtain ⟨rfl, rfl⟩ := r
    exact h h' tk' F2 N2
theorem Ct.bool2 {w : World} {f : Addr} {vs : List Value} {room : Nat} {A B : Addr × Obj} {led : List (Addr × Obj)} {x : Bool} (C : Ct w f vs room (A :: B :: led) (Bool1 (A :: B :: led) x)) (hA : A ∈ led) (hB : B ∈ led) : Ct w f vs room led (Bool1 led x) := by
  intro mean mg mb dp un gd cn cs a ccd cl outer A₀ base h₀ L m s Q E B F X N T hk hd hu hret
  refine C mean mg mb dp un gd cn cs a ccd cl outer A₀ base h₀ L m s Q E B F X (fun p hq => N p ?_) T hk hd hu ?_
  · rcases List.mem_cons.mp hq with rfl | hq
    · exact hA
    · rcases List.mem_cons.mp hq with rfl | hq
      · exact hB
      · exact hq
  · rintro v l h' tk' ⟨r1, rfl⟩ F' N'
    exact hret v led h' tk' ⟨r1, rfl⟩ F' (cb_drop N' fun p hp => .tail _ (.tail _ hp))
theorem white_led {w : World} {led : List (Addr × Obj)} {ax dx : Addr} {wd ht x y g : Int} {t u tb k1 k2 k3 tx ty tg : Tok} {b : Array UInt8} {octs : List Int} (O : HtOk ax dx t u tb k1 k2 k3 wd ht b octs) (m1 : (ax, instObj 173 dx) ∈ led) (m2 : (dx, htObj w wd ht t u b tb k1 k2 k3) ∈ led) (hg : 0 ≤ g) (hg2 : g ≤ 1000000) (hx : 0 ≤ x) (hx2 : x ≤ 1000) (hy : 0 ≤ y) (hy2 : y ≤ 1000) :
    Ct w 198 [.ref ax, .int x tx, .int y ty, .int g tg] 3 led (Bool1 led (whiteV wd ht octs g x y)) := by
  have C := white_ct w led ax dx wd ht x y g t u tb k1 k2 k3 tx ty tg b octs O.hb O.h1 O.h2 O.h3 O.h4 O.hl O.hl2 hg hg2 hx hx2 hy hy2
  unfold whiteV
  exact Ct.bool2 C m1 m2
end Mine
end

section
theorem Mine.rstC6 {M : Model} {A : Around} {env : Env} {Q : Flow → Shared → Prop} {E : Value → Shared → Prop} {s : Shared} (h : Q .next s) : wpAny M A (execs [] env) Q E s := by
  w_top off
  walk1
  exact h
open PySem PySem.W PyProof.Rows PySem.Calls PyProof.Rows.LCg
set_option Elab.async false
set_option maxRecDepth 100000
set_option linter.unusedVariables false
set_option maxHeartbeats 4000000
namespace Mine
noncomputable def nOf {h₀ h : Heap} {L : Addr} {l : List (Addr × Obj)} (_ : News h₀ L h l) : List (Addr × Obj) := l
theorem rangeKs_succ (a : Int) (n : Nat) : rangeKs a (n + 1) = rangeKs a n ++ [a + (n : Int)] := by simp [rangeKs, List.range_succ]
theorem intsAre_one {vs : List Value} {f : Int → Int} {a : Int} {j : Nat} {x : Int} {t : Tok} (h : IntsAre vs ((rangeKs a j).map f)) (e : x = f (a + (j : Int))) : IntsAre (vs ++ [.int x t]) ((rangeKs a (j + 1)).map f) := by
  rw [rangeKs_succ, List.map_append, e]
  exact intsAre_snoc h _ t
theorem RowsAre.snoc {vs : List Value} {n : Nat} {row : Int → List Int} {t : Tok} (h : RowsAre vs n row) {x : List Int} (e : x = row n) : RowsAre (vs ++ [.bytes (byteArr x) t]) (n + 1) row := by
  refine ⟨by rw [List.length_append, h.1]; rfl, fun i hi => ?_⟩
  by_cases q : i < n
  · obtain ⟨u, hu⟩ := h.2 i q
    exact ⟨u, by rw [List.getElem?_append_left (by rw [h.1]; exact q)]; exact hu⟩
  · obtain rfl : i = n := by omega
    exact ⟨t, by rw [List.getElem?_append_right (by rw [h.1]; omega), h.1, Nat.sub_self, e]; rfl⟩
section
local macro_rules | `(tactic| walk_at "exec For") => `(tactic| ((try k_fold); refine hold ?_))
local macro_rules | `(tactic| walk_at "eval ListComp") => `(tactic| ((try k_fold); refine hold ?_))
local macro_rules | `(tactic| walk_at "call ref") => `(tactic| ((try k_fold); refine hold ?_))
local macro_rules | `(tactic| walk_at "call builtin:list.append") => `(tactic| ((try k_fold); refine hold ?_))
local macro_rules | `(tactic| walk_at "CompSrc") => `(tactic| ((try k_fold); refine hold ?_))
theorem rows_ct (w : World) (rest : List (Addr × Obj)) (ax dx : Addr) (wd ht g W H : Int) (t u tb k1 k2 k3 tW tH tg : Tok) (b : Array UInt8) (octs : List Int) (O : HtOk ax dx t u tb k1 k2 k3 wd ht b octs) (hg : 0 ≤ g) (hg2 : g ≤ 1000000) (hW : 0 ≤ W) (hW2 : W ≤ 20) (hH : 0 ≤ H) (hH2 : H ≤ 20) :
    Ct w 203 [.ref ax, .int g tg, .int W tW, .int H tH] 4 ((ax, instObj 173 dx) :: (dx, htObj w wd ht t u b tb k1 k2 k3) :: rest) (fun v news' => ∃ D vs nl, v = .ref D ∧ RowsAre vs H.toNat (rowV wd ht octs g W.toNat) ∧ news' = (D, listOf vs.toArray nl) :: (ax, instObj 173 dx) :: (dx, htObj w wd ht t u b tb k1 k2 k3) :: rest) := by
  unfold Ct
  k_fill
  intro mean mg mb dp un gd cn cs a ccd cl outer A₀ base h₀ L m s Q E B F X N T hk hd hu hret
  refine wpAny_call ?_
  k_dflt (refine' code_defC ?k1 ?k2 ?k3 ?k4 ?k5 ?kA ?kF ?kK ?k6 ?k7 ?k8 ?k9 ?kB ?kD ?_ ?c2 ?c3 ?c4; (case kA => exact rfl); (case kF => exact rfl); (case kK => first | exact rfl | assumption); (case k1 => k_asm); (case k2 => k_asm); (case k3 => k_asm); (case k4 => k_asm); (case k5 => k_asm); (case k6 => k_is); (case k7 => k_is); (case k8 => k_room); (case k9 => first | exact BindsTo.of_eq rfl | exact binds_K (by k_in) rfl (by k_is) rfl rfl rfl); (case kB => exact rfl); (case kD => decide +kernel); (case c2 => exact rfl); (case c3 => exact rfl); (case c4 => exact rfl); k_whole; intro g' L' h' tk' cells' FG' F' N' Y' B' X' T' l1; k_lt l1)
  obtain ⟨oy, oh, og, hE, dy, dh, dg⟩ := CellsAre.three Y'
  subst hE
  clear Y'
  simp only [List.cons_append, List.nil_append] at N'
  dsimp only
  k_lift B'
  try k_fold
  replace dy : oy.data = .cell none := dy
  replace dh : oh.data = .cell (some (.int g tg)) := dh
  replace dg : og.data = .cell (some (.ref ax)) := dg
  k_steps
  refine held ?_
  refine For_G (by k_asm) (by intro _ _; rfl) (by rfl) ?_
  k_steps
  rename IsRange _ _ _ _ _ _ _ _ => hr
  rename_i l5 h5 l15 h6 F5 N5 _ _ _ _ h7 tk7 t7 u7 v7 F6 N6 k6
  refine iter_range_G (n := H.toNat) (by rfl) (by k_asm) (by k_asm) hr (small_one (by omega) (by omega) (by omega) (by omega)) (by rw [rangeSize_nat]; simp) ?_
  intro g1
  refine ForTurns.intro (fun i m' led => m' = mOf F6 ∧ ∃ vs nl oy, led = (l5, listOf vs.toArray nl) :: (L' + 1 + 1 + 1, oy) :: (L' + 1 + 1, oh) :: (L' + 1, og) :: (ax, instObj 173 dx) :: (dx, htObj w wd ht t u b tb k1 k2 k3) :: rest ∧ RowsAre vs i (rowV wd ht octs g W.toNat) ∧ ∃ v0, oy.data = .cell v0) (?_) ?_ ?_
  · exact ⟨rfl, [], 0, oy, rfl, ⟨rfl, fun i hi => absurd hi (by omega)⟩, _, dy⟩
  · rintro i v m2 led2 h8 tk8 I oI hi ⟨t9, rfl⟩ ⟨rfl, vs, nl, oy2, rfl, hR, v0, dy2⟩ _ F8 N8 off8
    dsimp only [mOf] at F8 ⊢
    clear F6 N6 F5 N5 hr
    have o9 := off1_of off8
    have o8 := off1_of off8
    simp only [Off1] at o8
    have r1 : ∀ p ∈ rest, p.1 ≠ L' + 1 + 1 + 1 := allLt_ne l1.2.2 (by omega)
    have r2 : ∀ p ∈ rest, p.1 ≠ l5 := allLt_ne l15.2.2.2.2.2 (by omega)
    k_steps
    refine held ?_
    refine LCg.ListComp_U (F₀ := by k_asm) (by with_unfolding_all rfl) (by decide) (by rfl) (by decide) (by rfl) ?_
    lcg_toSrc
    k_steps
    rename IsRange _ _ _ _ _ _ _ _ => hr
    refine held (CompSrc.range (n := W.toNat) (by rfl) (by k_asm) (by k_asm) hr (small_one (by omega) (by omega) (by omega) (by omega)) (by rw [rangeSize_nat]; simp) (by rw [sizeLine_eq]; omega) ?_)
    intro g2
    rename News _ _ _ _ => N11
    refine comp_inv (fun j ys led2 => led2 = nOf N11 ∧ IntsAre ys ((rangeKs 0 j).map fun x => if whiteV wd ht octs g x (0 + i) then 1 else 0)) ⟨rfl, .nil⟩ ?_ ?_
    · rintro j ys led2 v I2 oI2 C oC D m2 h10 tk10 E2 hj ⟨rfl, hI⟩ ⟨t10, rfl⟩ hC hm2 F10 N10 off10 ne10
      dsimp only [nOf] at N10 off10 ⊢
      have off11 := off10
      obtain ⟨x1, x2⟩ := bnd_of hj hW2
      obtain ⟨y1, y2⟩ := bnd_of hi hH2
      simp only [Off3] at off10
      clear N11 hr
      k_steps
      refine held ?_
      refine Ct.use' (by k_asm) (white_led (by assumption) (by k_mem) (by k_mem) (by assumption) (by assumption) (by assumption) (by assumption) (by assumption) (by assumption)) (by k_asm) (by k_asm) (by k_asm) (by k_asm) (by first | exact rfl | assumption) (by ktr_room) (by ktr_units) ?_
      intro v9 news9 h9 tk9 R9 F9 N9
      obtain ⟨e9, e9'⟩ := R9
      subst e9
      subst e9'
      (try dsimp only)
      (try k_fold)
      k_steps
      exact CompEnd.intro (by k_asm) (by assumption) _ (fun p hp => hp) off11 trivial ⟨rfl, intsAre_one hI rfl⟩
    · rintro ys led2 ⟨rfl, hI⟩
      dsimp only [nOf]
      clear N11 hr
      have hvl : vs.length = i := hR.1
      k_steps
      refine held ?_
      refine' append_K ?k1 ?k2 ?k3 ?_ ?z
      (case k1 => k_asm)
      (case k2 => k_asm)
      (case k3 => k_upd)
      (case z => (rw [PySem.sizeLine_eq]; simp only [List.size_toArray]; omega))
      k_whole
      intro h' F' N'
      k_steps
      rename News _ _ _ _ => N20
      rw [List.push_toArray] at N20
      exact ⟨_, _, _, _, rfl, by k_asm, news_tail N20, off1_mem o9, trivial, rfl, _, _, _, rfl, hR.snoc (by simp only [Int.zero_add]; rfl), _, by assumption⟩
  · rintro m2 led2 h8 tk8 ⟨rfl, vs, nl, oy2, rfl, hR, v0, dy2⟩ _ F8 N8
    dsimp only [mOf] at F8
    clear F6 N6 F5 N5 hr
    k_steps
    exact ct_end hret ⟨_, _, _, rfl, hR, rfl⟩ (by k_asm) (by assumption) (by kcj_all)
end
end Mine
open PyProof.Rows in
end

section
open PySem PySem.W PyProof.Rows PySem.Calls
set_option Elab.async false
set_option maxRecDepth 100000
set_option linter.unusedVariables false
set_option maxHeartbeats 4000000
namespace Mine
section
variable {M : Model} {A : Around} {E : Value → Shared → Prop} {h : Heap} {g : Array GenState} {d : Drawn} {t : Nat} {os : OsState}
variable {nm q : Str} {C N : Addr} {bs bm bmB : List Value} {hdct : Bool} {sn : List Str} {sub : List Value} {ab : Bool} {col : Option Bool} {dd : Option Addr} {k0 k1 k2 k3 k5 : Option Value} {B newId initId : String}
/-- the new of a built-in exception class, checked for an own class whose tail may hold an own `__init__` -/
theorem z_check_new (F : ExcBaseFacts B newId initId bmB) (hb : bm.contains (.type B) = true) {rest : List Value} {Q : Unit → Shared → Prop} (hC : h.get? C = some (excClassObj nm q C N bs bm hdct sn sub ab col dd k0 k1 k2 k3 k5 newId))
    (hq : Q () ⟨h, g, d, t, os⟩) : wpAny M A (checkBuiltinCall newId ⟨.ref C :: rest, []⟩) Q E ⟨h, g, d, t, os⟩ := by
  have hcont : (Value.ref C :: bm).contains (.type B) = true := by rw [List.contains_cons, hb, Bool.or_true]
  have hstar := F.noStar
  simp only [checkBuiltinCall, F.newKind, F.newSplit, F.newRow]
  repeat (first | refine wpAny_loadPart_at hC ?_ | (refine wpAny_isSubtype_exc hC ?_; rw [hcont]) | refine wpAny_staticBase_exc hC ?_ | refine wpAny_madeBy_exc hC ?_ | simp only [bne_self_eq_false, Bool.false_eq_true, if_false] | wp_step)
  exact hq
end
section
variable {prog : Program} {w : World} {A : Around} {R : Result → Shared → Prop} {E : Value → Shared → Prop} {h : Heap} {g : Array GenState} {d : Drawn} {t : Nat} {os : OsState}
variable {nm q : Str} {C N : Addr} {bs bm bmB : List Value} {hdct : Bool} {sn : List Str} {sub : List Value} {ab : Bool} {col : Option Bool} {dd : Option Addr} {k0 k1 k2 k3 k5 : Option Value} {B newId initId : String}
noncomputable abbrev excNew (C t : Addr) : Obj := { cls := .ref C, data := .fields #[.ref t, .none, .none, .none, .bool false, .none] }
noncomputable abbrev tupNew (vs : List Value) : Obj := { cls := .type "tuple", data := .seq vs.toArray }
theorem z_exc_new (F : ExcBaseFacts B newId initId bmB) (hb : bm.contains (.type B) = true) (hna : bm.contains (.type "AttributeError") = false) (hnn : bm.contains (.type "NameError") = false) {rest : List Value}
    (hC : h.get? C = some (excClassObj nm q C N bs bm hdct sn sub ab col dd k0 k1 k2 k3 k5 newId))
    (hq : R (.ok (.ret (.ref (h.objs.size + 1)))) ⟨(h.push (tupNew rest)).push (excNew C h.objs.size), g, d, t, os⟩) (hrest : rest.length ≤ sizeLine) :
    codeAny (model prog w) A (.builtin newId ⟨.ref C :: rest, []⟩) R ⟨h, g, d, t, os⟩ := by
  have hends := F.ends
  have hcB : (Value.ref C :: bm).contains (.type B) = true := by rw [List.contains_cons, hb, Bool.or_true]
  have hcA : (Value.ref C :: bm).contains (.type "AttributeError") = false := by rw [List.contains_cons, hna]; rfl
  have hcN : (Value.ref C :: bm).contains (.type "NameError") = false := by rw [List.contains_cons, hnn]; rfl
  refine codeAny_builtinAt F.entry ?_
  unfold Builtin.«BaseException.__new__»
  refine PySem.wpAt_bind ?_
  show PySem.wpAt _ _ _ (stack >>= _) _ _ _
  refine PySem.wpAt_bind (PySem.wpAt_stack fun p below => PySem.wpAt_of_wpAny ?_)
  wp_walk
  refine PySem.wpAt_of_wpAny ?_
  rw [F.owner]
  repeat (first | with_reducible refine wpAny_madeHere_exc F.canon hC ?_ | with_reducible refine wpAny_loadPart_at hC ?_ | (with_reducible refine wpAny_isSubtype_exc hC ?_; first | rw [hcB] | rw [hcA] | rw [hcN]) | wp_step)
  show R _ _
  rw [Heap.size_push]
  exact hq
theorem z_type_call {fI : Addr} (F : ExcBaseFacts B newId initId bmB) (hb : bm.contains (.type B) = true) (hna : bm.contains (.type "AttributeError") = false) (hnn : bm.contains (.type "NameError") = false) {rest : List Value} {Q : Fin → Shared → Prop}
    (hC : h.get? C = some (excClassObj nm q C N bs bm hdct sn sub ab col dd k0 k1 k2 k3 k5 newId))
    (hi : Looks (model prog w) h (typeLookup (.ref C) "__init__") (some (.ref fI))) (hbn : ∀ self, Looks (model prog w) h (bindSpecial (.ref fI) self) (.ref fI, [self]))
    (hq : codeAny (model prog w) A (.call (.ref fI) ⟨.ref (h.objs.size + 1) :: rest, []⟩) (fun r s' => match r with | .ok (.ret v) => v = .none ∧ Q (.done (.ret (.ref (h.objs.size + 1)))) s' | .ok _ => False | .error e => E e s') ⟨(h.push (tupNew rest)).push (excNew C h.objs.size), g, d, t, os⟩) (hrest : rest.length ≤ sizeLine) :
    wpAny (model prog w) A (Builtin.«type.__call__» ⟨.ref C :: rest, []⟩) Q E ⟨h, g, d, t, os⟩ := by
  repeat (first | with_reducible refine wpAny_loadPart_at hC ?_ | with_reducible refine wpAny_madeBy_exc hC ?_ | wp_step)
  refine codeAny_call_builtin_code (Code.quiet_builtin _ F.quiet) (z_check_new F hb hC ?_)
  refine z_exc_new F hb hna hnn hC ?_ hrest
  show wpAny _ _ _ _ _ _
  have k : ∀ b o, h.get? b = some o → ((h.push (tupNew rest)).push (excNew C h.objs.size)).get? b = some o := fun b o e => Heap.get?_push_of_some _ (Heap.get?_push_of_some _ e)
  have hC₁ := k _ _ hC
  have hget : ((h.push (tupNew rest)).push (excNew C h.objs.size)).get? (h.objs.size + 1) = some (excNew C h.objs.size) := by heap_get
  have hcC : (Value.ref C :: bm).contains (.ref C) = true := by simp
  unfold isInstance
  repeat (first | with_reducible refine wpAny_loadPart_at hget ?_ | (with_reducible refine wpAny_isSubtype_exc hC₁ ?_; rw [hcC]) | wp_step)
  show wpAny _ _ (typeLookup (.ref C) _) _ _ _
  refine (hi.keeps k).here ?_
  refine wpAny_holding (wpAny_bind (((hbn _).keeps k).here ?_))
  refine wpAny_bind (wpAny_call (codeAny_mono hq fun r s' z => ?_))
  rcases r with e | (v | _ | _ | _) <;> first | exact z | exact z.elim | skip
  obtain ⟨rfl, z⟩ := z
  wp_walk
  exact z
end
end Mine
end

section
open PySem PySem.W PyProof.Rows PySem.Calls
set_option Elab.async false
set_option maxRecDepth 100000
set_option linter.unusedVariables false
set_option maxHeartbeats 4000000
namespace Mine
section
variable {prog : Program} {w : World} {A : Around} {E : Value → Shared → Prop} {s : Shared} {K : Frag} {h₀ : Heap} {L : Addr} {m : Str → Option Value} {news : List (Addr × Obj)} {Q : Value → Shared → Prop}
variable {nm q : Str} {C N : Addr} {bs bm bmB : List Value} {hdct : Bool} {sn : List Str} {sub : List Value} {ab : Bool} {col : Option Bool} {dd : Option Addr} {k0 k1 k2 k3 k5 : Option Value} {B newId initId : String}
theorem z_make {rest : List Value} {fI : Addr} (FB : ExcBaseFacts B newId initId bmB) (F : Fr h₀ L s.heap m) (N' : News h₀ L s.heap news) (X : K.In s.heap) (hK : K.lookup C = some (excClassObj nm q C N bs bm hdct sn sub ab col dd k0 k1 k2 k3 k5 newId))
    (hb : bm.contains (.type B) = true) (hna : bm.contains (.type "AttributeError") = false) (hnn : bm.contains (.type "NameError") = false)
    (hi : findIn K (.ref C) "__init__" = some (some (.ref fI))) (hf : typeIn K (.ref fI) = some (.type "function")) (hrest : rest.length ≤ sizeLine)
    (h : ∀ e t h', Fr h₀ L h' m → News h₀ L h' ((e, excNew C t) :: (t, tupNew rest) :: news) → (∀ p ∈ news, p.1 < t) → t < e →
      codeAny (model prog w) (A.under (.builtin "type.__call__" ⟨.ref C :: rest, []⟩)) (.call (.ref fI) ⟨.ref e :: rest, []⟩) (InitBack e fun r s' => match r with | .ok (.ret v) => Q v s' | .ok _ => False | .error e => E e s') { s with heap := h' }) :
    wpAny (model prog w) A (call (.ref C) rest) Q E s := by
  obtain ⟨hh, g, d, t, os⟩ := s
  have hC := X _ _ hK
  have f1 := tc_lookup
  have f2 := tc_bind (.ref C)
  have hT : (⟨hh, g, d, t, os⟩ : Shared).TypeIs (.ref C) "type" := ⟨_, hC, rfl⟩
  refine wpAny_call (codeAny_of_tree ?_)
  show wpAny _ _ (callAny (.ref C) _) _ _ _
  repeat (any_goals (first | assumption | with_reducible refine wpAny_loadPart_at hC ?_ | wp_step))
  refine ⟨rfl, ?_⟩
  refine codeAny_call_builtin_at (Code.quiet_builtin _ (by decide +kernel)) entry_typeCall (wpAny_check_type_call_sub hC (z_type_call (fI := fI) FB hb hna hnn hC (looks_findIn X hi) (fun self => bind_fn X self hf) ?_ hrest))
  have N2 := (N'.push F (tupNew rest)).push (F.push _) (excNew C hh.objs.size)
  rw [Heap.size_push] at N2
  refine codeAny_mono (h _ _ _ ((F.push _).push _) N2 (fun p hp => Heap.lt_size (N' p hp).1) (Nat.lt_succ_self _)) fun r s' z => ?_
  rcases r with e | (v | _ | _ | _) <;> first | exact z | exact z.elim
end
theorem z_pass (self : Value) (a b : Addr) : refuseLoop self "__setattr__" [.ref a, .ref b, .type "Exception", .type "BaseException", .type "object"] = pure () := by
  rw [refuseLoop_ref, refuseLoop_ref]
  exact PySem.F.store_Exception.passes self
section
variable {prog : Program} {w : World} {A : Around} {s : Shared} {K : Frag} {h₀ : Heap} {L x C : Addr} {m : Str → Option Value} {news : List (Addr × Obj)} {R : Result → Shared → Prop}
noncomputable abbrev excHeld (C t d : Addr) : Obj := { cls := .ref C, dict := some d, data := .fields #[.ref t, .none, .none, .none, .bool false, .none] }
open Builtin Builtin.ObjectAttr
noncomputable abbrev toldObj (w : World) (name : Str) (tk : Tok) (v : Value) : Obj := dictOf [{ hash := PyData.keyHash w.params name, key := .str name tk, val := v }] 1
/-- a first attribute stored on an exception of an own class -/
theorem z_osa {t : Addr} {cd : ClassData} {b : Addr} {name : Str} {tk : Tok} {v : Value} (F : Fr h₀ L s.heap m) (N : News h₀ L s.heap ((x, excNew C t) :: news)) (hx : ∀ p ∈ news, p.1 ≠ x) (X : K.In s.heap)
    (hc : clsIn K C = some cd) (hm : cd.mro = [.ref C, .ref b, .type "Exception", .type "BaseException", .type "object"]) (hh : cd.hasDict = true) (ht : takerIn K C name = some none)
    (h : ∀ d h', Fr h₀ L h' m → (∀ p ∈ (x, excNew C t) :: news, p.1 < d) → News h₀ L h' ((d, toldObj w name s.toks v) :: (x, excHeld C t d) :: news) → R (.ok (.ret .none)) { s with heap := h', toks := s.toks + 1 }) :
    codeAny (model prog w) A (.call (.builtin "object.__setattr__") ⟨[.ref x, .str name tk, v], []⟩) R s := by
  have SF := PySem.F.store_object
  have I : InstAt s.heap x (excNew C t) C none := ⟨(N _ (.head _)).1, rfl, rfl, trivial⟩
  have sub : Looks (model prog w) s.heap (isInstance (.ref x) (.type "object")) true := I.type.andThen (looks_mroIn X (by unfold mroIn; rw [hc, Option.bind_some, hm]; simp))
  refine codeAny_call_builtin SF.slot.plain SF.entry (@check_slot (model prog w) _ _ s "object.__setattr__" "object" "__setattr__" (.ref x) [.str name tk, v] [] _ SF.kind SF.split sub (SF.args (.ref x) (.str name tk) v) ?_)
  obtain ⟨attr, ha, hr⟩ := Option.bind_eq_some_iff.mp ht
  have hm' : Looks (model prog w) s.heap (mroOf (.ref C)) cd.mro := (looks_clsIn X hc).andThen .now
  have L3 : Looks (model prog w) s.heap (storeTaker? attr) none := by
    cases attr with
    | none => cases hr; exact .now
    | some a =>
      obtain ⟨b, hb, q⟩ := Option.map_eq_some_iff.mp hr
      refine (looks_takesIn X hb).andThen ?_
      cases b <;> first | exact .now | cases q
  rw [osa_eq, refuse_eq]
  refine wpAny_bind (wpAny_bind (I.type.here (wpAny_bind (hm'.here ?_))))
  rw [hm, z_pass]
  refine wpAny_pure (wpAny_bind (I.type.here (wpAny_bind ((looks_findIn X ha).here (wpAny_bind (L3.here ?_))))))
  dsimp only
  refine wpAny_bind (wpAny_pure (wpAny_bind ?_))
  unfold ownDictForStores instanceDict
  refine wpAny_bind (wpAny_loadPart I.at_ (wpAny_bind ((looks_clsIn X hc).here ?_)))
  rw [hh]
  refine bm_if_false rfl ?_
  dsimp only
  refine bm_if_false rfl ?_
  refine wpAny_bind (wpAny_alloc (wpAny_bind ?_))
  have F1 := F.push emptyDict
  have N1 := N.push F emptyDict
  have hlt : ∀ p ∈ (x, excNew C t) :: news, p.1 < s.heap.objs.size := fun p hp => Heap.lt_size (N p hp).1
  have hne : ∀ p ∈ (x, excNew C t) :: news, p.1 ≠ s.heap.objs.size := fun p hp => Nat.ne_of_lt (hlt p hp)
  obtain ⟨F2, N2⟩ := news_upd (pre := [(s.heap.objs.size, emptyDict)]) (post := news) (d := x) (o := excNew C t) (o' := excHeld C t s.heap.objs.size) (f := fun o => { cls := o.cls, dict := some s.heap.objs.size, data := o.data, slots := o.slots }) F1 N1
    (fun p hp => by rw [List.mem_singleton.mp hp]; exact Ne.symm (hne _ (.head _))) hx rfl rfl
  refine wpAny_update (N1 (x, excNew C t) (.tail _ (.head _))).1 ?_
  refine wpAny_pure (a := some s.heap.objs.size) ?_
  dsimp only
  have hne' : ∀ p ∈ (x, excHeld C t s.heap.objs.size) :: news, p.1 ≠ s.heap.objs.size := fun p hp => by
    rcases List.mem_cons.mp hp with rfl | hp
    · exact hne (x, excNew C t) (.head _)
    · exact hne _ (.tail _ hp)
  obtain ⟨F3, N3⟩ := news_upd (pre := []) (post := (x, excHeld C t s.heap.objs.size) :: news) (d := s.heap.objs.size) (o := emptyDict) (o' := toldObj w name s.toks v) (f := Obj.putName name (PyData.keyHash w.params name) (.str name s.toks) v) F2 N2 (fun p hp => nomatch hp) hne' (by rfl) rfl
  have D := (N2 (s.heap.objs.size, emptyDict) (.head _)).1
  have D' := (N3 (s.heap.objs.size, toldObj w name s.toks v) (.head _)).1
  unfold storeInDict newKeyGuard
  refine wpAny_bind (wpAny_pure (wpAny_bind ?_))
  unfold nsSet
  refine wpAny_bind (wpAny_bind (wpAny_askSetting (wpAny_pure (wpAny_bind (wpAny_mkText (wpAny_bind (wpAny_loadPart D ?_)))))))
  dsimp only
  rw [aRefKeyMayBeTheName_at, show (!((#[] : Array DictEntry).any (·.key.isStr name)) && (#[] : Array DictEntry).any (·.refKey)) = false from by simp]
  refine wpAny_updatePart D ?_
  refine wpAny_bind (wpAny_lookBehind D' (pastItsLine_dict (by rw [List.size_toArray, sizeLine_eq]; simp)) ?_)
  exact wpAny_pure (h _ _ F3 hlt N3)
end
end Mine
end

section
open PySem PySem.W PyProof.Rows PySem.Calls
set_option Elab.async false
set_option maxRecDepth 100000
set_option linter.unusedVariables false
set_option maxHeartbeats 4000000
namespace Mine
section
variable {prog : Program} {w : World} {A : Around} {E : Value → Shared → Prop} {s : Shared} {K : Frag} {h₀ : Heap} {L x C : Addr} {m : Str → Option Value} {news : List (Addr × Obj)}
theorem z_set {t : Addr} {cd : ClassData} {b : Addr} {name : Str} {v : Value} {Q : Unit → Shared → Prop} (N : News h₀ L s.heap ((x, excNew C t) :: news)) (F : Fr h₀ L s.heap m) (hx : ∀ p ∈ news, p.1 ≠ x) (X : K.In s.heap)
    (hs : findIn K (.ref C) "__setattr__" = some (some (.builtin "object.__setattr__")))
    (hc : clsIn K C = some cd) (hm : cd.mro = [.ref C, .ref b, .type "Exception", .type "BaseException", .type "object"]) (hh : cd.hasDict = true) (ht : takerIn K C name = some none)
    (h : ∀ d h' tk tk', Fr h₀ L h' m → (∀ p ∈ (x, excNew C t) :: news, p.1 < d) → News h₀ L h' ((d, toldObj w name tk v) :: (x, excHeld C t d) :: news) → Q () { s with heap := h', toks := tk' }) :
    wpAny (model prog w) A (setAttr (.ref x) name v) Q E s := by
  have I : InstAt s.heap x (excNew C t) C none := ⟨(N _ (.head _)).1, rfl, rfl, trivial⟩
  refine set_plain X I hs (z_osa (s := { s with toks := s.toks + 1 }) F N hx X hc hm hh ht fun d h' F' l N' => ?_)
  exact h d h' _ _ F' l N'
variable {nm q : Str} {N : Addr} {bs bm : List Value} {hdct : Bool} {sn : List Str} {sub : List Value} {ab : Bool} {col : Option Bool} {dd : Option Addr} {k0 k1 k2 k3 k5 : Option Value} {newId : String}
theorem z_raise {e : Expr} {env : Env} {pos : Pos} {Q : Flow → Shared → Prop} {M : Model} (hbase : bm.contains (.type "BaseException") = true) (hh : A.handled = none)
    (h : wpAny M A (eval e env) (fun v s₁ => ∃ x t d, v = .ref x ∧ s₁.heap.get? C = some (excClassObj nm q C N bs bm hdct sn sub ab col dd k0 k1 k2 k3 k5 newId) ∧ s₁.heap.get? x = some (excHeld C t d) ∧ E (.ref x) s₁) E s) :
    wpAny M A (exec (.Raise (some e) none pos) env) Q E s := by
  have hcB : (Value.ref C :: bm).contains (.type "BaseException") = true := by rw [List.contains_cons, hbase, Bool.or_true]
  show wpAny M A (do standAt pos; raiseStmt env (some (do let v ← eval e env; standAt pos; pure v)) none) Q E s
  refine wpAny_bind (wpAny_standAt ?_)
  unfold raiseStmt
  dsimp only
  refine wpAny_bind (wpAny_bind (wpAny_mono h (fun v s₁ h₁ => wpAny_bind (wpAny_standAt (wpAny_pure ?_))) fun _ _ x => x))
  obtain ⟨x, t, d, rfl, hC, he, hE⟩ := h₁
  obtain ⟨hp, g, dr, tk, os⟩ := s₁
  repeat (first | with_reducible refine wpAny_loadPart_at he ?_ | with_reducible refine wpAny_loadPart_at hC ?_ | (with_reducible refine wpAny_isSubtype_exc hC ?_; rw [hcB]) | wp_step)
  exact wpAny_raiseNew_none hh hE
end
end Mine
end

section
theorem Mine.rstX4 {M : Model} {A : Around} {env : Env} {Q : Flow → Shared → Prop} {E : Value → Shared → Prop} {s : Shared} (h : Q .next s) : wpAny M A (execs [] env) Q E s := by
  w_top off
  walk1
  exact h
open PySem PySem.W PyProof.Rows PySem.Calls
set_option Elab.async false
set_option maxRecDepth 100000
set_option linter.unusedVariables false
set_option maxHeartbeats 4000000
namespace Mine
noncomputable abbrev HK (w : World) : Frag := Mine.hd.heap_1 w.params
theorem ps_cls (w : World) : ∃ nm q N bs hdct sn sub ab col dd k0 k1 k2 k3 k5, (HK w).lookup 45 = some (excClassObj nm q 45 N bs [.ref 32, .type "Exception", .type "BaseException", .type "object"] hdct sn sub ab col dd k0 k1 k2 k3 k5 "Exception.__new__") := ⟨_, _, _, _, _, _, _, _, _, _, _, _, _, _, _, rfl⟩
theorem ps_clsIn (w : World) : ∃ cd, clsIn (HK w) 45 = some cd ∧ cd.mro = [.ref 45, .ref 32, .type "Exception", .type "BaseException", .type "object"] ∧ cd.hasDict = true := ⟨_, rfl, rfl, rfl⟩
theorem ps_init (w : World) : findIn (HK w) (.ref 45) "__init__" = some (some (.ref 29)) := by rfl
theorem ps_sa (w : World) : findIn (HK w) (.ref 45) "__setattr__" = some (some (.builtin "object.__setattr__")) := by rfl
theorem ps_fn (w : World) : typeIn (HK w) (.ref 29) = some (.type "function") := by rfl
theorem ps_taker (w : World) : takerIn (HK w) 45 "told" = some none := by rfl
noncomputable def Ord3 (news : List (Addr × Obj)) (t e d : Addr) : Prop := (∀ p ∈ news, @LT.lt Nat _ p.1 t) ∧ @LT.lt Nat _ t e ∧ @LT.lt Nat _ e d
theorem Ord3.ne {news : List (Addr × Obj)} {t e d : Addr} {x y : Obj} (h : Ord3 news t e d) : ∀ p ∈ (d, x) :: (t, y) :: news, p.1 ≠ e := fun p hp => by
  obtain ⟨h1, h2, h3⟩ := h
  rcases List.mem_cons.mp hp with rfl | hp
  · exact Nat.ne_of_gt h3
  · rcases List.mem_cons.mp hp with rfl | hp
    · exact Nat.ne_of_lt h2
    · exact Nat.ne_of_lt (Nat.lt_trans (h1 p hp) h2)
theorem news_swap {h₀ h : Heap} {L : Addr} {a b : Addr × Obj} {l : List (Addr × Obj)} (N : News h₀ L h (a :: b :: l)) : News h₀ L h (b :: a :: l) := fun p hp => by
  rcases List.mem_cons.mp hp with rfl | hp
  · exact N _ (.tail _ (.head _))
  · rcases List.mem_cons.mp hp with rfl | hp
    · exact N _ (.head _)
    · exact N _ (.tail _ (.tail _ hp))
noncomputable abbrev PsNew (w : World) (b : Array UInt8) (tb : Tok) (news : List (Addr × Obj)) (v : Value) (news' : List (Addr × Obj)) : Prop :=
  ∃ (e t d : Addr) (tk : Tok), v = .ref e ∧ Ord3 news t e d ∧ news' = (d, toldObj w "told" tk (.bytes b tb)) :: (e, excHeld 45 t d) :: (t, tupNew [.bytes b tb]) :: news
section
local macro_rules | `(tactic| walk_at "setAttr ref") => `(tactic| ((try k_fold); refine hold ?_))
theorem ps_ct (w : World) (news : List (Addr × Obj)) (b : Array UInt8) (tb : Tok) : Ct w 45 [.bytes b tb] 2 news (PsNew w b tb news) := by
  unfold Ct
  k_fill
  intro mean mg mb dp un gd cn cs a ccd cl outer A₀ base h₀ L m s Q E B F X N T hk hd hu hret
  obtain ⟨nm, q, N0, bs, hdct, sn, sub, ab, col, dd, k0, k1, k2, k3, k5, hK⟩ := ps_cls w
  refine z_make (K := HK w) PySem.F.excBase_Exception F N (X.keeps F.keep) hK rfl rfl rfl (ps_init w) (ps_fn w) (by rw [sizeLine_eq]; simp) ?_
  intro e t h1 F1 N1 l1 l2
  k_dflt (refine' code_def ?k1 ?k2 ?k3 ?k4 ?k5 ?kA ?kF ?kK ?k6 ?k7 ?k8 ?k9 ?kB ?_ ?c2 ?c3 ?c4 ?c5; (case kA => exact rfl); (case kF => exact rfl); (case kK => first | exact rfl | assumption); (case k1 => k_asm); (case k2 => k_asm); (case k3 => k_asm); (case k4 => k_asm); (case k5 => k_asm); (case k6 => k_is); (case k7 => k_is); (case k8 => k_room); (case k9 => first | exact BindsTo.of_eq rfl | exact binds_K (by k_in) rfl (by k_is) rfl rfl rfl); (case c5 => decide); (case kB => exact locs rfl); (case c2 => exact rfl); (case c3 => exact rfl); (case c4 => exact rfl); k_whole; intro g' L' h' FG' F' N' B' X' T')
  dsimp only
  k_lift B'
  try k_fold
  k_steps
  unfold Hold
  obtain ⟨cd, hc, hm, hh⟩ := ps_clsIn w
  refine z_set N' F' (fun p hp => ?_) (by k_in) (ps_sa w) hc hm hh (ps_taker w) ?_
  · rcases List.mem_cons.mp hp with rfl | hp
    · exact Nat.ne_of_lt l2
    · exact Nat.ne_of_lt (Nat.lt_trans (l1 p hp) l2)
  intro d h9 tk9 tk9' F9 l9 N9
  have l3 : @LT.lt Nat _ e d := l9 _ (.head _)
  k_steps
  exact ct_end hret ⟨_, _, _, _, rfl, ⟨l1, l2, l3⟩, rfl⟩ (by k_asm) (by assumption) (fun p hp => hp)
end
end Mine
end

section
open PySem PySem.W PyProof.Rows PySem.Calls
set_option Elab.async false
set_option maxRecDepth 100000
set_option linter.unusedVariables false
set_option maxHeartbeats 4000000
namespace Mine
/-- an exception on its way, with a word of its own kept of it (its class, its dict) -/
noncomputable def TrZ (h base : Heap) (e : Addr) (P : Obj → Prop) (fl : Value) : Prop :=
  ∃ oe vs T oT ts, h.get? e = some oe ∧ P oe ∧ oe.data = .fields vs ∧ vs[1]? = some (.ref T) ∧ base.get? T = none ∧ T ≠ e ∧ h.get? T = some oT ∧ oT.data = .fields ts ∧ ts[3]? = some fl
noncomputable def NotedZ (base : Heap) (l : List Env) (e : Addr) (P : Obj → Prop) (fl : Value) (h h' : Heap) : Prop :=
  base.StaysIn h' ∧ h'.FunFrames base l ∧ TrZ h' base e P fl ∧ h.UpToSlots h'
section
variable {M : Model} {A : Around} {E : Value → Shared → Prop} {s : Shared} {P : Obj → Prop}
theorem entryZ {base : Heap} {env : Env} {outer : List Env} {L e : Addr} {oe : Obj} {vs : Array Value} {head : Value} {hadNext : Bool} {Q : Unit → Shared → Prop} (hP : ∀ o f, P o → P (o.mapFields f))
    (hfr : A.frames = some (env :: outer)) (hl : s.heap.FunFrames base (env :: outer)) (hf : env.frame = some L)
    (he : s.heap.get? e = some oe) (hp : P oe) (hkb : base.StaysIn s.heap) (hen : base.get? e = none) (hd : oe.data = .fields vs) (hsz : 1 < vs.size)
    (h : ∀ h', NotedZ base (env :: outer) e P (rawInt L) s.heap h' → Q () { s with heap := h' }) :
    wpAny M A (do let a ← frameOf env; let pl ← entryPlaceOf L hadNext; let b ← EntryCells.newEntry head a .none (rawInt L) .none pl; setField (.ref e) 1 b) Q E s := by
  have hene : e ∉ (env :: outer).filterMap (·.frame) := fun hm => by
    obtain ⟨_, o, ho, hnf⟩ := hl.mem hm
    rw [he] at ho; injection ho with ho; subst ho; exact hnf vs hd
  refine wpAny_bind (wpAny_frameOf_fun hfr hl hf fun h₁ hs₁ => ?_)
  refine wpAny_bind (wpAny_entryPlaceOf fun pl hpl => ?_)
  unfold EntryCells.newEntry newFields
  refine wpAny_bind (wpAny_newObj_type ?_ (hpl.sizeOk5 _ _ _ _ _))
  have he₁ : h₁.get? e = some oe := (hs₁.2.1 e hene).trans he
  have kb₁ : base.StaysIn h₁ := fun b o hbo => (hs₁.2.1 b fun hm => by rw [(hl.mem hm).1] at hbo; cases hbo).trans (hkb b o hbo)
  have he₂ := Heap.get?_push_of_some (h := h₁) { cls := .type "traceback", dict := none, data := .fields ([head, .ref L, .none, rawInt L, .none] ++ (if pl.isEmpty then List.replicate 6 Value.none else pl)).toArray } he₁
  refine wpAny_setField he₂ hd hsz (h _ ?_)
  have hTe : h₁.objs.size ≠ e := Nat.ne_of_gt (Heap.lt_size he₁)
  have hd₃ := Obj.data_mapFields hd (·.setIfInBounds 1 (Value.ref h₁.objs.size))
  have he₃ := Heap.get?_update_self (Obj.mapFields (·.setIfInBounds 1 (Value.ref h₁.objs.size))) he₂ (Obj.isFreed_of_fields hd₃)
  have hT₃ := (Heap.get?_update_other (h₁.push { cls := .type "traceback", dict := none, data := .fields ([head, .ref L, .none, rawInt L, .none] ++ (if pl.isEmpty then List.replicate 6 Value.none else pl)).toArray })
    (Obj.mapFields (·.setIfInBounds 1 (Value.ref h₁.objs.size))) (Ne.symm hTe)).trans (Heap.get?_push_size h₁ rfl)
  have keep : ∀ b o, b ≠ e → h₁.get? b = some o →
      ((h₁.push { cls := .type "traceback", dict := none, data := .fields ([head, .ref L, .none, rawInt L, .none] ++ (if pl.isEmpty then List.replicate 6 Value.none else pl)).toArray }).update e (Obj.mapFields (·.setIfInBounds 1 (Value.ref h₁.objs.size)))).get? b = some o :=
    fun b o hbe hb => by
      rw [Heap.get?_update_other _ _ (Ne.symm hbe)]
      exact Heap.get?_push_of_some _ hb
  have noRecord : ∀ b o, s.heap.get? b = some o → (∀ vs, o.data ≠ .fields vs) → b ≠ e := fun b o hb hnf q => by
    rw [q, he] at hb; injection hb with hb; subst hb; exact hnf vs hd
  refine ⟨fun b o hbo => keep b o (fun q => by rw [q, hen] at hbo; cases hbo) (kb₁ b o hbo), hl.of_keeps fun b o hb hnf => ?_, ?_, fun b o hb hnf => ?_⟩
  · obtain ⟨sl, hs⟩ := hs₁.2.2 b o hb
    exact ⟨_, keep b _ (noRecord b o hb hnf) hs, rfl⟩
  · exact ⟨_, _, h₁.objs.size, _, _, he₃, hP _ _ hp, hd₃, by simp [hsz], kb₁.fresh, hTe, hT₃, rfl, by first | (simp; done) | (rcases hpl with rfl | ⟨_, _, _, _, _, _, _, rfl⟩ <;> simp)⟩
  · obtain ⟨sl, hs⟩ := hs₁.2.2 b o hb
    exact ⟨sl, keep b _ (noRecord b o hb hnf) hs⟩
theorem flightZ {base : Heap} {l : List Env} {e : Addr} {fl : Value} {Q : Unit → Shared → Prop}
    (hkb : base.StaysIn s.heap) (hl : s.heap.FunFrames base l) (ht : TrZ s.heap base e P fl)
    (h : ∀ h', NotedZ base l e P .none s.heap h' → Q () { s with heap := h' }) :
    wpAny M A (setFlight (.ref e) none) Q E s := by
  obtain ⟨oe, vs, T, oT, ts, he, hp, hd, h1, hnT, hTe, hT, hdT, h3⟩ := ht
  have hsz3 : 3 < ts.size := (Array.getElem?_eq_some_iff.mp h3).1
  have other : ∀ b, b ≠ T → (s.heap.update T (Obj.mapFields (·.setIfInBounds 3 ((none : Option Addr).elim Value.none fun f => rawInt f)))).get? b = s.heap.get? b :=
    fun b hb => Heap.get?_update_other _ _ (Ne.symm hb)
  have noRecord : ∀ b o, s.heap.get? b = some o → (∀ vs, o.data ≠ .fields vs) → b ≠ T := fun b o hb hnf q => by
    rw [q, hT] at hb; injection hb with hb; subst hb; exact hnf ts hdT
  unfold setFlight
  refine wpAny_bind (wpAny_field he hd h1 ?_)
  rw [if_pos (show (Value.ref T != Value.none) = true from by simp)]
  refine wpAny_setField hT hdT hsz3 (h _ ⟨fun b o hbo => (other b fun q => by rw [q, hnT] at hbo; cases hbo).trans (hkb b o hbo),
    hl.of_keeps fun b o hb hnf => ⟨o, (other b (noRecord b o hb hnf)).trans hb, rfl⟩, ?_, fun b o hb hnf => ⟨o.slots, (other b (noRecord b o hb hnf)).trans hb⟩⟩)
  exact ⟨oe, vs, T, _, _, (other e (Ne.symm hTe)).trans he, hp, hd, h1, hnT, hTe, Heap.get?_update_self _ hT (Obj.isFreed_of_fields (Obj.data_mapFields hdT _)), Obj.data_mapFields hdT _, by simp [hsz3]⟩
theorem note_firstZ {base : Heap} {env : Env} {outer : List Env} {L e : Addr} {oe : Obj} {vs : Array Value} {Q : Unit → Shared → Prop} (hP : ∀ o f, P o → P (o.mapFields f))
    (hfr : A.frames = some (env :: outer)) (hl : s.heap.FunFrames base (env :: outer)) (hf : env.frame = some L)
    (he : s.heap.get? e = some oe) (hp : P oe) (hkb : base.StaysIn s.heap) (hen : base.get? e = none) (hd : oe.data = .fields vs) (h1 : vs[1]? = some .none)
    (h : ∀ h', NotedZ base (env :: outer) e P (rawInt L) s.heap h' → Q () { s with heap := h' }) : wpAny M A (noteFrame (.ref e) env) Q E s := by
  unfold noteFrame
  simp only [hf]
  refine wpAny_bind (wpAny_field he hd h1 ?_)
  rw [if_neg (by decide)]
  exact entryZ hP hfr hl hf he hp hkb hen hd (Array.getElem?_eq_some_iff.mp h1).1 h
theorem note_onZ {base : Heap} {env : Env} {outer : List Env} {L e : Addr} {Q : Unit → Shared → Prop} (hP : ∀ o f, P o → P (o.mapFields f))
    (hfr : A.frames = some (env :: outer)) (hl : s.heap.FunFrames base (env :: outer)) (hf : env.frame = some L) (ht : TrZ s.heap base e P .none) (hkb : base.StaysIn s.heap) (hen : base.get? e = none)
    (h : ∀ h', NotedZ base (env :: outer) e P (rawInt L) s.heap h' → Q () { s with heap := h' }) : wpAny M A (noteFrame (.ref e) env) Q E s := by
  obtain ⟨oe, vs, T, oT, ts, he, hp, hd, h1, hnT, hTe, hT, hdT, h3⟩ := ht
  unfold noteFrame
  simp only [hf]
  refine wpAny_bind (wpAny_field he hd h1 ?_)
  rw [if_pos (show (Value.ref T != Value.none) = true from by simp)]
  refine wpAny_bind (wpAny_field hT hdT h3 ?_)
  rw [if_neg (show ¬ ((Value.none == rawInt L) = true) from by simp [rawInt])]
  refine wpAny_bind (wpAny_setField hT hdT (Array.getElem?_eq_some_iff.mp h3).1 ?_)
  have other : ∀ b, b ≠ T → (s.heap.update T (Obj.mapFields (·.setIfInBounds 3 Value.none))).get? b = s.heap.get? b := fun b hb => Heap.get?_update_other _ _ (Ne.symm hb)
  have noRecord : ∀ b o, s.heap.get? b = some o → (∀ vs, o.data ≠ .fields vs) → b ≠ T := fun b o hb hnf q => by
    rw [q, hT] at hb; injection hb with hb; subst hb; exact hnf ts hdT
  refine entryZ hP hfr (hl.of_keeps fun b o hb hnf => ⟨o, (other b (noRecord b o hb hnf)).trans hb, rfl⟩) hf ((other e (Ne.symm hTe)).trans he) hp
    (fun b o hbo => (other b fun q => by rw [q, hnT] at hbo; cases hbo).trans (hkb b o hbo)) hen hd (Array.getElem?_eq_some_iff.mp h1).1
    fun h' ⟨x1, x2, x3, x4⟩ => h h' ⟨x1, x2, x3, fun b o hb hnf => x4 b o ((other b (noRecord b o hb hnf)).trans hb) hnf⟩
theorem leave_firstZ {base : Heap} {env : Env} {outer : List Env} {L e : Addr} {oe : Obj} {vs : Array Value} {Q : Unit → Shared → Prop} (hP : ∀ o f, P o → P (o.mapFields f))
    (hfr : A.frames = some (env :: outer)) (hl : s.heap.FunFrames base (env :: outer)) (hf : env.frame = some L)
    (he : s.heap.get? e = some oe) (hp : P oe) (hkb : base.StaysIn s.heap) (hen : base.get? e = none) (hd : oe.data = .fields vs) (h1 : vs[1]? = some .none)
    (h : ∀ h', NotedZ base (env :: outer) e P .none s.heap h' → Q () { s with heap := h' }) : wpAny M A (leaving env (.ref e)) Q E s := by
  unfold leaving
  refine wpAny_bind (note_firstZ hP hfr hl hf he hp hkb hen hd h1 fun h₁ ⟨a1, a2, a3, a4⟩ => ?_)
  exact flightZ a1 a2 a3 fun h₂ ⟨b1, b2, b3, b4⟩ => h h₂ ⟨b1, b2, b3, a4.trans b4⟩
end
end Mine
end

section
open PySem PySem.W PyProof.Rows PySem.Calls
set_option Elab.async false
set_option maxRecDepth 100000
set_option linter.unusedVariables false
set_option maxHeartbeats 4000000
namespace Mine
noncomputable def PZ (C d : Addr) (o : Obj) : Prop := o.cls = .ref C ∧ o.dict = some d
theorem PZ_map {C d : Addr} (o : Obj) (f : Array Value → Array Value) (h : PZ C d o) : PZ C d (o.mapFields f) := by
  obtain ⟨c, dd, dt, sl⟩ := o
  cases dt <;> exact h
/-- an exception of a callee, on its way through the frames l; G: the ground beneath the callee -/
noncomputable def RZ (G : Heap) (l : List Env) (e : Addr) (P : Obj → Prop) (news : List (Addr × Obj)) (h : Heap) : Prop :=
  ∃ B : Heap, (∀ b o, G.get? b = some o → b ∉ l.filterMap (·.frame) → B.get? b = some o) ∧ (∀ q ∈ news, B.get? q.1 = some q.2 ∧ G.get? q.1 = none) ∧
    B.StaysIn h ∧ B.get? e = none ∧ G.get? e = none ∧ h.FunFrames B l ∧ TrZ h B e P .none ∧ G.UpToSlots h
section
variable {M : Model} {A : Around} {E : Value → Shared → Prop} {s' : Shared} {base g : Heap} {outer : List Env} {L e t d C : Addr} {m : Str → Option Value} {env : Env} {Q : Unit → Shared → Prop} {news : List (Addr × Obj)}
theorem frame_mem {env : Env} {outer : List Env} {L b : Addr} (hf : env.frame = some L) (hm : b ∈ (env :: outer).filterMap (·.frame)) : b = L ∨ b ∈ outer.filterMap (·.frame) := by
  obtain ⟨env', he, hf'⟩ := List.mem_filterMap.mp hm
  rcases List.mem_cons.mp he with rfl | he
  · rw [hf] at hf'; exact .inl (Option.some.inj hf').symm
  · exact .inr (List.mem_filterMap.mpr ⟨env', he, hf'⟩)
theorem leaveZ (K : Below A base outer g) (F : Fr g L s'.heap m) (N : News g L s'.heap ((e, excHeld C t d) :: news)) (hne : ∀ p ∈ news, p.1 ≠ e) (hf : env.frame = some L) (hke : env.scope.kind = .function)
    (hQ : ∀ h', RZ g outer e (PZ C d) news h' → Q () { s' with heap := h' }) : wpAny M (A.deeper env) (leaving env (.ref e)) Q E s' := by
  have K' := pushX K F hf hke
  have he := N _ (.head _)
  have hin : ∀ env' ∈ (env :: outer), ∀ b, env'.frame = some b → b ∈ e :: (env :: outer).filterMap (·.frame) := fun env' h b hb => .tail _ (List.mem_filterMap.mpr ⟨env', h, hb⟩)
  have fr : ∀ b, b ∈ outer.filterMap (·.frame) → ∃ o, g.get? b = some o := fun b hb => by
    obtain ⟨_, o, ho, _⟩ := K.frames.mem hb
    exact ⟨o, ho⟩
  refine leave_firstZ (P := PZ C d) (base := hideAll s'.heap (e :: (env :: outer).filterMap (·.frame))) PZ_map K'.stack (funFrames_hide K'.frames hin) hf he.1 ⟨rfl, rfl⟩ (fun b o q => of_hideAll _ q) (hideAll_none _ (.head _)) rfl rfl fun h' hN => ?_
  obtain ⟨b1, ⟨_, _, b2⟩, b3, b4⟩ := hN
  refine hQ h' ⟨_, fun b o q nm => hideAll_get _ (F.keep b o q) fun hm => ?_, fun q hq => ⟨hideAll_get _ (N q (.tail _ hq)).1 fun hm => ?_, (N q (.tail _ hq)).2.2⟩, b1, hideAll_none _ (.head _), he.2.2, b2, b3, (Heap.UpToSlots.of_keeps F.keep).trans b4⟩
  · rcases List.mem_cons.mp hm with z | hm
    · have := he.2.2
      rw [z] at q
      rw [this] at q; cases q
    · rcases frame_mem hf hm with z | z
      · rw [z, kts_self F] at q; cases q
      · exact nm z
  · rcases List.mem_cons.mp hm with z | hm
    · exact hne q hq z
    · rcases frame_mem hf hm with z | z
      · exact (N q (.tail _ hq)).2.1 z
      · obtain ⟨o, ho⟩ := fr _ z
        have := (N q (.tail _ hq)).2.2
        rw [ho] at this; cases this
end
section
variable {prog : Program} {w : World} {A₀ : Around} {E : Value → Shared → Prop} {s' : Shared} {base g g₀ G : Heap} {outer : List Env} {L a e d C : Addr} {m : Str → Option Value} {name : Str} {scope : Scope} {cd : Value}
  {n : Str} {b₀ : Stmt} {suite : List Stmt} {pos np : Pos} {rest : List ExceptHandler} {Q : Flow → Shared → Prop} {news : List (Addr × Obj)} {KF : Frag}
  {p : Program} {loose : List Str} {mean : ExcName → Option Value} {mg mb : Str → Option Value} {x : Str}
theorem caughtZ (R : RZ G (envOf name scope L a cd :: outer) e (PZ C d) news s'.heap) (F : Fr g L G m) (K : Below A₀ base outer g) (XB : KF.In base) (TB : Top p loose mean mg mb base)
    (D : KtsDicts (outer.filterMap (·.frame)) g) (T0 : KtsTurn (outer.filterMap (·.frame)) g₀ g)
    (ex : nsIn KF mainGlobals x = some (some (.ref C))) (q : ktsIn KF C "BaseException" = true)
    (k : ∀ h' g' tk oe, KtsTurn (outer.filterMap (·.frame)) g₀ g' → Fr g' L h' (fun y => if y = n then some (.ref e) else m y) → News g' L h' ((e, oe) :: news) → PZ C d oe → notCls oe = true → Below A₀ base outer g' → KF.In g' → Top p loose mean mg mb g' → KtsDicts (outer.filterMap (·.frame)) g' →
      wpAny (model prog w) ((A₀.deeper (envOf name scope L a cd)).mark (some (.ref e))) (execs (b₀ :: suite) (envOf name scope L a cd))
        (fun f s₄ => wpAny (model prog w) (A₀.deeper (envOf name scope L a cd)) (do bindName (envOf name scope L a cd) n .none; unbindBehindTheSuite (envOf name scope L a cd) n pos) (fun _ s₅ => Q f s₅) E s₄)
        (AsSuiteRaised (model prog w) ((A₀.deeper (envOf name scope L a cd)).mark (some (.ref e))) (envOf name scope L a cd) n pos (notedBy (model prog w) ((A₀.deeper (envOf name scope L a cd)).mark (some (.ref e))) (envOf name scope L a cd) (cameBackBy (model prog w) (A₀.deeper (envOf name scope L a cd)) (envOf name scope L a cd) E)))
        { s' with heap := h', toks := tk })
    (hk : scope.kind = .function := by rfl) (hlo : (envOf name scope L a cd).kindOf n = some .local := by rfl) (hx : (envOf name scope L a cd).kindOf x = some .globalImplicit := by rfl) (hd : (x == ("__debug__" : Str)) = false := by decide) :
    wpAny (model prog w) (A₀.deeper (envOf name scope L a cd)) (noteFrame (.ref e) (envOf name scope L a cd))
      (fun _ s₂ => wpAny (model prog w) (A₀.deeper (envOf name scope L a cd)) (setFlight (.ref e) none) (fun _ s₃ =>
        wpAny (model prog w) (A₀.deeper (envOf name scope L a cd)) (handleBy (.ref e) (envOf name scope L a cd) (.ExceptHandler (some (.Name x np)) (some n) (b₀ :: suite) pos :: rest)) Q E s₃) E s₂) E s' := by
  obtain ⟨B, hBG, hl, hBs, hBe, hGe, hfr, htr, hsm⟩ := R
  have hL : B.get? L = none := by
    obtain ⟨_, ⟨L', _, hf, hn', _⟩, _⟩ := hfr
    obtain rfl : L = L' := Option.some.inj hf
    exact hn'
  refine note_onZ PZ_map (Around.frames_deeper K.stack) hfr rfl htr hBs hBe fun h₄ ⟨a1, a2, a3, a4⟩ => ?_
  refine flightZ a1 a2 a3 fun h₅ ⟨c1, c2, c3, c4⟩ => ?_
  have hsm₅ := (hsm.trans a4).trans c4
  obtain ⟨g₅, T₅, F₅, K₅⟩ := kts_ground K F hBG c1 hsm₅
  have X₅ : KF.In g₅ := XB.keeps K₅.stays
  have P₅ : TopRead p loose mg mb g₅ := topRead_of (TB.keeps K₅.stays)
  obtain ⟨ob, _, _, _, _, hob, hobP, _⟩ := id c3
  obtain ⟨nm, q', N, bs, bm, hdct, sn, sub, ab, col, dd, k0, k1, k2, k3, k5, newId, hC, hbase, hbT⟩ := kts_cls X₅ q
  have hC₅ := F₅.keep _ _ hC
  refine wpAny_handleBy_cons (codeAny_handlers_test (name_K F₅ X₅ P₅ ex ?_ hk hx hd)) (by intro q; cases q)
  refine wpAny_excMatches_sub_self hC₅ hob hobP.1 hbase (codeAny_handlers_suite_as ?_)
  refine flightZ c1 c2 c3 fun h₆ ⟨d1, d2, d3, d4⟩ => ?_
  have hsm₆ := hsm₅.trans d4
  obtain ⟨g₆, T₆, F₆, K₆⟩ := kts_ground K F hBG d1 hsm₆
  obtain ⟨oe, ws, T, oT, ts, hoe, hoeP, hoed, _⟩ := d3
  have ne₆ : g₆.get? e = none := T₆.none_ _ (kts_none F.keep hGe)
  have N₆ : News g₆ L h₆ ((e, oe) :: news) := fun r hr => by
    rcases List.mem_cons.mp hr with rfl | hr
    · exact News.more F₆ News.nil hoe (fun es n q => by rw [hoed] at q; cases q) ne₆ _ (.head _)
    · exact ⟨d1 _ _ (hl r hr).1, (fun z => by have := (hl r hr).1; rw [z, hL] at this; cases this), T₆.none_ _ (kts_none F.keep (hl r hr).2)⟩
  refine stN F₆ N₆ (fun h₇ F₇ N₇ => ?_) hk hlo
  exact k h₇ g₆ _ oe (T0.trans T₆) F₇ N₇ hoeP (by unfold notCls; rw [hoed]) K₆ (XB.keeps K₆.stays) (TB.keeps K₆.stays) (D.turn T₆)
end
end Mine
end

section
theorem Mine.rstX7 {M : Model} {A : Around} {env : Env} {Q : Flow → Shared → Prop} {E : Value → Shared → Prop} {s : Shared} (h : Q .next s) : wpAny M A (execs [] env) Q E s := by
  w_top off
  walk1
  exact h
open PySem PySem.W PyProof.Rows PySem.Calls
set_option Elab.async false
set_option maxRecDepth 100000
set_option linter.unusedVariables false
set_option maxHeartbeats 4000000
namespace Mine
noncomputable abbrev rcB : Array UInt8 := #[114, 97, 110, 103, 101, 99, 104, 101, 99, 107]
/-- a contract of a call that raises PsError(b'rangecheck') -/
noncomputable def CtX (w : World) (f : Addr) (vs : List Value) (room : Nat) (news : List (Addr × Obj)) : Prop :=
  ∀ (mean : ExcName → Option Value) (mg mb : Str → Option Value) (dp un : Nat) (gd : Option (List Code)) (cn : Str) (cs : Scope) (a : Addr) (ccd : Value) (cl : List (Str × Addr)) (outer : List Env) (A₀ : Around) (base h₀ : Heap) (L : Addr) (m : Str → Option Value) (s : Shared) (Q E : Value → Shared → Prop),
    Below A₀ base outer h₀ → Fr h₀ L s.heap m → (Mine.hd.heap_1 w.params).In h₀ → News h₀ L s.heap news → Top vw (looseW vw loose) mean mg mb h₀ → cs.kind = .function → dp + room < recursionLimit → un + 100 * room < cLine →
    (∀ G e t d tb tb' tk h' tk', Fr h₀ L G m → RZ G (envX cn cs L a ccd cl :: outer) e (PZ 45 d) ((d, toldObj w "told" tk (.bytes rcB tb)) :: (t, tupNew [.bytes rcB tb']) :: news) h' → E (.ref e) { s with heap := h', toks := tk' }) →
    wpAny (model PySem.Challenge.rw_pb0512_01.row.prog w) (ktrTop dp un gd cn cs L a ccd cl outer) (call (.ref f) vs) Q E s
noncomputable def RaisedNow (w : World) (E : Value → Shared → Prop) (v : Value) (s₁ : Shared) : Prop :=
  ∃ x t d, v = .ref x ∧ (HK w).In s₁.heap ∧ s₁.heap.get? x = some (excHeld 45 t d) ∧ E (.ref x) s₁
theorem z_raise45 {w : World} {prog : Program} {A : Around} {E : Value → Shared → Prop} {s : Shared} {e : Expr} {env : Env} {pos : Pos} {Q : Flow → Shared → Prop} (hh : A.handled = none)
    (h : wpAny (model prog w) A (eval e env) (RaisedNow w E) E s) : wpAny (model prog w) A (exec (.Raise (some e) none pos) env) Q E s := by
  obtain ⟨nm, q, N0, bs, hdct, sn, sub, ab, col, dd, k0, k1, k2, k3, k5, hK⟩ := ps_cls w
  have post : ∀ v s₁, RaisedNow w E v s₁ → ∃ x t d, v = .ref x ∧ s₁.heap.get? 45 = some (excClassObj nm q 45 N0 bs [.ref 32, .type "Exception", .type "BaseException", .type "object"] hdct sn sub ab col dd k0 k1 k2 k3 k5 "Exception.__new__") ∧ s₁.heap.get? x = some (excHeld 45 t d) ∧ E (.ref x) s₁ := by
    rintro v s₁ ⟨x, t, d, rfl, X, hx, hE⟩
    exact ⟨x, t, d, rfl, X _ _ hK, hx, hE⟩
  exact z_raise (by rfl) hh (wpAny_mono h post fun _ _ x => x)
section
local macro_rules | `(tactic| walk_at "exec Raise some none") => `(tactic| (refine z_raise45 rfl ?_))
local macro_rules | `(tactic| walk_at "call ref") => `(tactic| ((try k_fold); refine hold ?_))
theorem thr_x (w : World) (news : List (Addr × Obj)) (wd ht : Int) (t u tb : Tok) (b : Array UInt8) (octs : List Int) (hb : KBw.bInts b = octs) (h1 : 1 ≤ wd) (h2 : wd ≤ 4) (h3 : 1 ≤ ht) (h4 : ht ≤ 3) (hl : (octs.length : Int) ≠ wd * ht) (hl2 : octs.length ≤ 13) : CtX w 184 [.int wd t, .int ht u, .bytes b tb] 4 news := by
  unfold CtX
  k_fill
  intro mean mg mb dp un gd cn cs a ccd cl outer A₀ base h₀ L m s Q E B F X N T hk hd hu hret
  refine wpAny_call ?_
  k_dflt cell_enter
  k_steps
  repeat' (refine held ?_; refine Ct.use' (by k_asm) (ps_ct _ _ _ _) (by k_asm) (by k_asm) (by k_asm) (by k_asm) (by first | exact rfl | assumption) (by ktr_room) (by ktr_units) ?_; intro v9 news9 h9 tk9 R9 F9 N9; obtain ⟨e9, t9, d9, q9, r9, l91, e9'⟩ := R9; subst r9; subst e9'; (try dsimp only); k_steps)
  rotate_left
  · exact absurd (by assumption) hl
  rename News _ _ _ _ => N8
  rename Fr _ _ _ _ => F8
  refine ⟨_, _, _, rfl, Frag.In.keeps (by k_asm) (Fr.keep F8), (N8 _ (.tail _ (.head _))).1, ?_⟩
  refine leaveZ (by k_asm) F8 (news_swap N8) (Ord3.ne (by assumption)) rfl rfl fun h' R => ?_
  exact hret _ _ _ _ _ _ _ _ _ (by assumption) R
end
end Mine
end

section
open PySem PySem.W PyProof.Rows PySem.Calls
set_option Elab.async false
set_option maxRecDepth 100000
set_option linter.unusedVariables false
set_option maxHeartbeats 4000000
namespace Mine
/-- a return to a caller whose ground may have turned (its frames' slots) -/
noncomputable def LeaveZ (A₀ : Around) (base : Heap) (outer : List Env) (env : Env) (h₀ : Heap) (L : Addr) (m : Str → Option Value) (g : Heap) (R : Result → Shared → Prop) (v : Value) (s' : Shared) : Prop :=
  ∃ g' L' m' news', KtsTurn ((env :: outer).filterMap (·.frame)) g g' ∧ Fr g' L' s'.heap m' ∧ News g' L' s'.heap news' ∧
    ∀ h₀', KtsTurn (outer.filterMap (·.frame)) h₀ h₀' → Fr h₀' L s'.heap m → News h₀' L s'.heap news' → Below A₀ base outer h₀' → R (.ok (.ret v)) s'
section
variable {prog : Program} {w : World} {A₀ A : Around} {s : Shared} {base h₀ : Heap} {outer : List Env} {L : Addr} {m : Str → Option Value} {env : Env} {news : List (Addr × Obj)} {K : Frag}
  {R : Result → Shared → Prop} {name qual : Str} {params : Arguments} {body : List Stmt} {scope : Scope} {dV kV doc pm cdv ct oc : Value} {an od : Option Addr} {osl : Array (Option Value)} {f : Addr} {args : Args} {binds : List (Str × Value)}
theorem groundZ (B : Below A₀ base outer h₀) (F : Fr h₀ L s.heap m) (N : News h₀ L s.heap news) (hA : A.frames = some (env :: outer)) (hf : env.frame = some L) (hke : env.scope.kind = .function) (D : KtsDicts (outer.filterMap (·.frame)) h₀) :
    Fr h₀ L (hideAll s.heap (news.map (·.1))) m ∧ Below A base (env :: outer) (hideAll s.heap (news.map (·.1))) ∧ h₀.StaysIn (hideAll s.heap (news.map (·.1))) ∧ KtsDicts ((env :: outer).filterMap (·.frame)) (hideAll s.heap (news.map (·.1))) ∧
      ∀ v s', LeaveZ A₀ base outer env h₀ L m (hideAll s.heap (news.map (·.1))) R v s' → R (.ok (.ret v)) s' := by
  obtain ⟨FG, BG, st, _⟩ := groundX (R := R) B F N hA hf hke
  obtain ⟨oL, es, ep, hLg, hLd, hLk, hLf⟩ := id FG.ns
  have hNs : ∀ (sl : Array (Option Value)) h', h'.get? L = some { oL with slots := sl } → Heap.Ns h' L m := fun sl h' e => ⟨_, es, ep, e, hLd, hLk, hLf⟩
  have nL₀ : h₀.get? L = none := kts_self F
  refine ⟨FG, BG, st, fun b hb => ?_, fun v s' hl => ?_⟩
  · rcases frame_mem hf hb with rfl | hb
    · exact ⟨oL, es, ep, hLg, hLd⟩
    · obtain ⟨o, es', n', ho', hd'⟩ := D b hb
      exact ⟨o, es', n', st b o ho', hd'⟩
  obtain ⟨g', L', m', news', T', F', N', k⟩ := hl
  obtain ⟨sl, hs⟩ := T'.up hLg
  obtain ⟨T₁, S₁⟩ := kts_turn_at (h := s'.heap) (fs := outer.filterMap (·.frame)) (g := h₀)
    (fun b hb => by
      obtain ⟨_, o, ho', _⟩ := B.frames.mem hb
      exact ⟨o, ho'⟩)
    (fun b o e nmem => F'.keep b o (T'.other b o (st b o e) (fun q => by
      rcases frame_mem hf q with z | z
      · rw [z, nL₀] at e
        cases e
      · exact nmem z)))
    (fun b o e hm => by
      obtain ⟨sl', hs'⟩ := T'.up (st b o e)
      exact ⟨sl', F'.keep _ _ hs'⟩)
  have B₃ : Below A₀ base outer (ktsHeap s'.heap (outer.filterMap (·.frame)) h₀) := ⟨B.stack, fun b o e => T₁.other b o (B.stays b o e) (fun hm => by
    rw [(B.frames.mem hm).1] at e
    cases e), B.frames.of_keeps fun b o e _ => by
    obtain ⟨sl', hs'⟩ := T₁.up e
    exact ⟨_, hs', rfl⟩⟩
  refine k _ T₁ ⟨hNs sl _ (F'.keep _ _ hs), S₁, by rw [T₁.size]; exact F.above⟩ (fun p hp => ⟨(N' p hp).1, fun q => ?_, ?_⟩) B₃
  · have := (N' p hp).2.2; rw [q, hs] at this; cases this
  · refine T₁.none_ _ ?_
    cases q : h₀.get? p.1 with
    | none => rfl
    | some o =>
      obtain ⟨sl', hs'⟩ := T'.up (st _ _ q)
      have := (N' p hp).2.2
      rw [hs'] at this
      cases this
variable {p : Program} {loose : List Str} {mean : ExcName → Option Value} {mg mb : Str → Option Value}
/-- into a def without cells, the ground of the caller free to turn -/
theorem code_Z (B : Below A₀ base outer h₀) (F : Fr h₀ L s.heap m) (X₀ : K.In h₀) (N : News h₀ L s.heap news) (T : Top p loose mean mg mb h₀) (D : KtsDicts (outer.filterMap (·.frame)) h₀) (hA : A.frames = some (env :: outer)) (hf : env.frame = some L) (hke : env.scope.kind = .function)
    (ho : K.lookup f = some ⟨oc, od, .func (fnOf name qual params body scope dV kV doc pm an cdv ct), osl⟩) (hcd : codeIn K cdv qual = true) (hroom : A.depth < recursionLimit)
    (hbind : BindsTo s (fnOf name qual params body scope dV kV doc pm an cdv ct) args binds) (hloc : ∀ y ∈ binds, scope.names.lookup y.1 = some .local)
    (h : ∀ g L' h₁, Fr h₀ L g m → Fr g L' h₁ (fun y => binds.reverse.lookup y) → News g L' h₁ news → Below A base (env :: outer) g → K.In g → Top p loose mean mg mb g → KtsDicts ((env :: outer).filterMap (·.frame)) g → (∀ p ∈ news, p.1 < L') →
      wpAny (model prog w) (A.deeper (envOf qual scope L' f cdv)) (execs body (envOf qual scope L' f cdv))
        (fun fl s' => LeaveZ A₀ base outer env h₀ L m g R (match fl with | .ret v => v | _ => .none) s')
        (fun e s' => wpAny (model prog w) (A.deeper (envOf qual scope L' f cdv)) (leaving (envOf qual scope L' f cdv) e) (fun _ s'' => R (.error e) s'') (fun e' s'' => R (.error e') s'') s')
        { s with heap := h₁, toks := s.toks + binds.length })
    (hco : scope.isCoroutine = false) (hgen : scope.isGenerator = false) (hk : scope.kind = .function)
    (hcell : ∀ x ∈ scope.names, x.2 ≠ .cell) : codeAny (model prog w) A (.call (.ref f) args) R s := by
  obtain ⟨FG, BG, st, DG, lv⟩ := groundZ (R := R) B F N hA hf hke D
  refine codeAny_call_def (fd := fnOf name qual params body scope dV kV doc pm an cdv ct) (body := body) (binds := binds) hroom ((X₀.keeps F.keep) _ _ ho) rfl (T.nolimit.keeps F.keep) (codeRec_of (X₀.keeps F.keep) hcd) rfl hbind hcell hloc (fun h₁ hns hk₁ => ?_) hco hgen hk
  exact wpAny_mono (h _ s.heap.objs.size h₁ FG ⟨hns, fun b o e => hk₁ b o (of_hideAll _ e), Nat.le_of_eq (hideAll_size _ _)⟩
    (fun p hp => ⟨hk₁ _ _ (N p hp).1, Nat.ne_of_lt (Heap.lt_size (N p hp).1), hideAll_none _ (List.mem_map_of_mem hp)⟩) BG (X₀.keeps st) (T.keeps st) DG (fun p hp => Heap.lt_size (N p hp).1)) (fun fl s' hl => lv _ _ hl) fun _ _ y => y
/-- into a def with cells, the ground of the caller free to turn -/
theorem code_ZC (B : Below A₀ base outer h₀) (F : Fr h₀ L s.heap m) (X₀ : K.In h₀) (N : News h₀ L s.heap news) (T : Top p loose mean mg mb h₀) (D : KtsDicts (outer.filterMap (·.frame)) h₀) (hA : A.frames = some (env :: outer)) (hf : env.frame = some L) (hke : env.scope.kind = .function)
    (ho : K.lookup f = some ⟨oc, od, .func (fnOf name qual params body scope dV kV doc pm an cdv ct), osl⟩) (hcd : codeIn K cdv qual = true) (hroom : A.depth < recursionLimit)
    (hbind : BindsTo s (fnOf name qual params body scope dV kV doc pm an cdv ct) args binds) (hkind : (binds.all fun y => scope.names.lookup y.1 == some .local || scope.names.lookup y.1 == some .cell) = true)
    (hnd : ((cellsFrom 0 scope.names []).map (·.1)).Nodup)
    (h : ∀ g L' h₁ tk cells, Fr h₀ L g m → Fr g L' h₁ (bindL (envOfC qual scope L' f cdv).kindOf binds fun _ => none) → News g L' h₁ (cells ++ news) →
      CellsAre (bindC (envOfC qual scope L' f cdv).kindOf binds fun _ => none) (cellsFrom (L' + 1) scope.names []) cells → Below A base (env :: outer) g → K.In g → Top p loose mean mg mb g → KtsDicts ((env :: outer).filterMap (·.frame)) g → (∀ p ∈ news, p.1 < L') →
      wpAny (model prog w) (A.deeper (envOfC qual scope L' f cdv)) (execs body (envOfC qual scope L' f cdv))
        (fun fl s' => LeaveZ A₀ base outer env h₀ L m g R (match fl with | .ret v => v | _ => .none) s')
        (fun e s' => wpAny (model prog w) (A.deeper (envOfC qual scope L' f cdv)) (leaving (envOfC qual scope L' f cdv) e) (fun _ s'' => R (.error e) s'') (fun e' s'' => R (.error e') s'') s')
        { s with heap := h₁, toks := tk })
    (hco : scope.isCoroutine = false) (hgen : scope.isGenerator = false) (hk : scope.kind = .function) : codeAny (model prog w) A (.call (.ref f) args) R s := by
  obtain ⟨FG, BG, st, DG, lv⟩ := groundZ (R := R) B F N hA hf hke D
  refine codeAny_call_function hroom ((X₀.keeps F.keep) _ _ ho) rfl hco hgen rfl (codeRec_of (X₀.keeps F.keep) hcd) (hbind _ _ _ _ ?_)
  refine wpAny_newFunctionEnv_cells hk (kindsX hkind _) fun env' he s' x => ?_
  subst he
  refine ⟨(T.nolimit.keeps F.keep).keeps x.toInCall.keep, codeAny_func ?_⟩
  obtain ⟨h₁, tk, rfl, _⟩ := x.done
  have hk₁ := x.toInCall.keep
  obtain ⟨cells, NC, Y⟩ := Cl.news (h₀ := s.heap) (Nat.le_refl _) fun n c hm => ⟨x.cell n c (lookup_of_mem_nodup (cellsFrom_names scope.names 0 (s.heap.objs.size + 1) [] [] rfl ▸ hnd) hm), x.above n c hm⟩
  refine wpAny_mono (h _ s.heap.objs.size h₁ tk cells FG ⟨x.toInCall.ns, fun b o e => hk₁ b o (of_hideAll _ e), Nat.le_of_eq (hideAll_size _ _)⟩ (fun p hp => ?_) Y BG (X₀.keeps st) (T.keeps st) DG (fun p hp => Heap.lt_size (N p hp).1)) (fun fl s' hl => lv _ _ hl) fun _ _ y => y
  rcases List.mem_append.mp hp with hp | hp
  · refine ⟨(NC p hp).1, (NC p hp).2.1, ?_⟩
    cases q : (hideAll s.heap (news.map (·.1))).get? p.1 with
    | none => rfl
    | some o => have := of_hideAll _ q; rw [(NC p hp).2.2] at this; cases this
  · exact ⟨hk₁ _ _ (N p hp).1, Nat.ne_of_lt (Heap.lt_size (N p hp).1), hideAll_none _ (List.mem_map_of_mem hp)⟩
end
end Mine
end

section
open PySem PySem.W PyProof.Rows PySem.Calls
set_option Elab.async false
set_option maxRecDepth 100000
set_option linter.unusedVariables false
set_option maxHeartbeats 4000000
namespace Mine
/-- a contract of a call behind which the ground may have turned -/
noncomputable def CtS (w : World) (f : Addr) (vs : List Value) (room : Nat) (news : List (Addr × Obj)) (R : Value → List (Addr × Obj) → Prop) : Prop :=
  ∀ (mean : ExcName → Option Value) (mg mb : Str → Option Value) (dp un : Nat) (gd : Option (List Code)) (cn : Str) (cs : Scope) (a : Addr) (ccd : Value) (cl : List (Str × Addr)) (outer : List Env) (A₀ : Around) (base h₀ : Heap) (L : Addr) (m : Str → Option Value) (s : Shared) (Q E : Value → Shared → Prop),
    Below A₀ base outer h₀ → Fr h₀ L s.heap m → (Mine.hd.heap_1 w.params).In base → News h₀ L s.heap news → Top vw (looseW vw loose) mean mg mb base → KtsDicts (outer.filterMap (·.frame)) h₀ → cs.kind = .function → dp + room < recursionLimit → un + 100 * room < cLine →
    (∀ v news' h' tk' h₀', R v news' → KtsTurn (outer.filterMap (·.frame)) h₀ h₀' → Fr h₀' L h' m → News h₀' L h' news' → Below A₀ base outer h₀' → Q v { s with heap := h', toks := tk' }) →
    wpAny (model PySem.Challenge.rw_pb0512_01.row.prog w) (ktrTop dp un gd cn cs L a ccd cl outer) (call (.ref f) vs) Q E s
end Mine
end

section
open PySem PySem.W PyProof.Rows PySem.Calls
set_option Elab.async false
set_option maxRecDepth 100000
set_option linter.unusedVariables false
set_option maxHeartbeats 4000000
namespace Mine
section
variable {prog : Program} {w : World} {A : Around} {E : Value → Shared → Prop} {s : Shared} {K : Frag} {x C : Addr} {ox : Obj} {od : Option Obj} {name : Str} {expr : Bool} {Q : Value → Shared → Prop}
theorem z_get {v : Value} (X : K.In s.heap) (I : InstAt s.heap x ox C od) (hga : findIn K (.ref C) "__getattribute__" = some (some (.builtin "BaseException.__getattribute__"))) (hgt : findIn K (.ref C) "__getattr__" = some none)
    (hb : mroIn K C (.type "BaseException") = some true) (hf : findObj K C od name = some (.value v)) (hh : handedIn v = true) (h : Q v { s with toks := s.toks + 1 }) : wpAny (model prog w) A (getAttr (.ref x) name expr) Q E s := by
  obtain ⟨hh', g, d, t, os⟩ := s
  have L0 := I.type (M := model prog w)
  have L1 := looks_findIn (M := model prog w) X hga
  have L2 := looks_findIn (M := model prog w) X hgt
  have L3 := looks_find (M := model prog w) X I hf
  have L4 := looks_mroIn (M := model prog w) X hb
  have FB := PySem.F.attr_Exception
  have f3 := FB.ga.bind (.ref x)
  have hx0 : (expr && onTheHeap (Value.builtin "BaseException.__getattribute__")) = false := by cases expr <;> rfl
  have hx2 : (Value.builtin "BaseException.__getattribute__" == Value.builtin "object.__getattribute__") = false := by decide +kernel
  have hx1 : (onTheHeap (Value.ref C) && Value.builtin "BaseException.__getattribute__" == Value.builtin "object.__getattribute__") = false := by rw [hx2]; rfl
  unfold getAttr getAttrBy
  refine wpAny_bind (wpAny_mkText (wpAny_holding (wpAny_bind (L0.at (wpAny_bind (L1.at ?_))))))
  dsimp only
  rw [hx1]
  refine bm_if_false rfl ?_
  unfold getAttrByItsOwn hookBefore
  refine wpAny_bind ?_
  refine bm_if_true rfl ?_
  refine L2.at ?_
  refine wpAny_bind (wpAny_attempt (wpAny_holding ?_))
  unfold callGetattribute
  refine bm_if_false hx0 ?_
  unfold boundAndCalled
  rw [f3]
  refine wpAny_bind (wpAny_pure ?_)
  refine wpAny_call (codeAny_call_builtin FB.ga.plain PySem.F.entry_bexc_ga (@check_slot (model prog w) _ _ _ "BaseException.__getattribute__" "BaseException" "__getattribute__" (.ref x) [.str name t] [] _ (by decide +kernel) (by decide +kernel) (L0.andThen L4) (PySem.F.args_bexc_ga _ _) ?_))
  unfold Builtin.«object.__getattribute__»
  refine wpAny_bind (wpAny_pure (wpAny_bind (wpAny_pure (wpAny_bind (L0.at (wpAny_bind (L3.at ?_)))))))
  refine wpAny_pure ?_
  show wpAny _ _ (handedOut v) _ _ _
  rw [handedOut_of hh]
  exact wpAny_pure h
end
theorem ps_ga (w : World) : findIn (HK w) (.ref 45) "__getattribute__" = some (some (.builtin "BaseException.__getattribute__")) := by rfl
theorem ps_gt (w : World) : findIn (HK w) (.ref 45) "__getattr__" = some none := by rfl
theorem ps_mro (w : World) : mroIn (HK w) 45 (.type "BaseException") = some true := by rfl
theorem ps_find (w : World) (tk : Tok) (b : Array UInt8) (tb : Tok) : findObj (HK w) 45 (some (toldObj w "told" tk (.bytes b tb))) "told" = some (.value (.bytes b tb)) := by rfl
theorem ps_kts (w : World) : ktsIn (HK w) 45 "BaseException" = true := by rfl
theorem z_told {prog : Program} {w : World} {A : Around} {E : Value → Shared → Prop} {s : Shared} {h₀ : Heap} {L e d : Addr} {oe : Obj} {tk tb : Tok} {b : Array UInt8} {news : List (Addr × Obj)} {expr : Bool} {Q : Value → Shared → Prop}
    (N : News h₀ L s.heap ((e, oe) :: (d, toldObj w "told" tk (.bytes b tb)) :: news)) (P : PZ 45 d oe) (hn : notCls oe = true) (X : (Mine.hd.heap_1 w.params).In s.heap) (h : Q (.bytes b tb) { s with toks := s.toks + 1 }) : wpAny (model prog w) A (getAttr (.ref e) "told" expr) Q E s := by
  have I : InstAt s.heap e oe 45 (some (toldObj w "told" tk (.bytes b tb))) := ⟨(N _ (.head _)).1, P.1, hn, by rw [P.2]; exact (N _ (.tail _ (.head _))).1⟩
  exact z_get (K := HK w) X I (ps_ga w) (ps_gt w) (ps_mro w) (ps_find w tk b tb) rfl h
end Mine
end

section
theorem Mine.rstXB {M : Model} {A : Around} {env : Env} {Q : Flow → Shared → Prop} {E : Value → Shared → Prop} {s : Shared} (h : Q .next s) : wpAny M A (execs [] env) Q E s := by
  w_top off
  walk1
  exact h
open PySem PySem.W PyProof.Rows PySem.Calls
set_option Elab.async false
set_option maxRecDepth 100000
set_option linter.unusedVariables false
set_option maxHeartbeats 4000000
namespace Mine
section
local macro_rules | `(tactic| walk_at "call ref") => `(tactic| ((try k_fold); refine hold ?_))
theorem refused_thr (w : World) (news : List (Addr × Obj)) (wd ht : Int) (t u : Tok) (th : Value) (C : CtX w 184 [.int wd t, .int ht u, th] 4 news) : CtS w 241 [.ref 184, .int wd t, .int ht u, th] 6 news (Bool1 news true) := by
  unfold CtS
  k_fill
  intro mean mg mb dp un gd cn cs a ccd cl outer A₀ base h₀ L m s Q E B F XB N TB D hk hd hu hret
  have X := XB.keeps B.stays
  have T := TB.keeps B.stays
  refine wpAny_call ?_
  k_dflt (refine' code_Z ?k1 ?k2 ?k3 ?k4 ?k5 ?kD ?kA ?kF ?kK ?k6 ?k7 ?k8 ?k9 ?kB ?_ ?c2 ?c3 ?c4 ?c5; (case kA => exact rfl); (case kF => exact rfl); (case kK => assumption); (case k1 => exact B); (case k2 => exact F); (case k3 => exact X); (case k4 => exact N); (case k5 => exact T); (case kD => exact D); (case k6 => k_is); (case k7 => k_is); (case k8 => k_room); (case k9 => first | exact BindsTo.of_eq rfl | exact binds_K (by k_in) rfl (by k_is) rfl rfl rfl); (case c5 => decide); (case kB => exact locs rfl); (case c2 => exact rfl); (case c3 => exact rfl); (case c4 => exact rfl); k_whole; intro g' L' h' FG' F' N' B' X' T' D' l1)
  dsimp only
  k_lift B'
  try k_fold
  k_steps
  unfold Hold
  refine C _ _ _ _ _ _ _ _ _ _ _ _ _ _ _ _ _ _ _ _ B' (by k_asm) X' (by k_asm) T' rfl (by ktr_room) (by ktr_units) ?_
  intro G e t2 d tb tb' tk h2 tk2 FG2 R2
  refine caughtZ R2 FG2 B' XB TB D' KtsTurn.refl (by k_is) (ps_kts w) ?_
  intro h3 g3 tk3 oe T3 F3 N3 P3 nc B3 X3 TT3 D3
  have X4 := X3.keeps F3.keep
  k_steps
  refine z_told N3 P3 nc X4 ?_
  k_steps
  rename Fr _ _ _ _ => F5
  rename News _ _ _ _ => N5
  exact ⟨g3, L', _, news, T3, F5, cb_drop N5 (by intro p hp; repeat (first | exact hp | refine List.Mem.tail _ ?_)), fun h₀' Tz Fz Nz Bz => hret _ _ _ _ _ ⟨by rfl, rfl⟩ Tz Fz Nz Bz⟩
theorem refused_spot (w : World) (news : List (Addr × Obj)) (wd ht : Int) (t u : Tok) (th : Value) (C : CtX w 215 [.int wd t, .int ht u, th] 4 news) : CtS w 241 [.ref 215, .int wd t, .int ht u, th] 6 news (Bool1 news true) := by
  unfold CtS
  k_fill
  intro mean mg mb dp un gd cn cs a ccd cl outer A₀ base h₀ L m s Q E B F XB N TB D hk hd hu hret
  have X := XB.keeps B.stays
  have T := TB.keeps B.stays
  refine wpAny_call ?_
  k_dflt (refine' code_Z ?k1 ?k2 ?k3 ?k4 ?k5 ?kD ?kA ?kF ?kK ?k6 ?k7 ?k8 ?k9 ?kB ?_ ?c2 ?c3 ?c4 ?c5; (case kA => exact rfl); (case kF => exact rfl); (case kK => assumption); (case k1 => exact B); (case k2 => exact F); (case k3 => exact X); (case k4 => exact N); (case k5 => exact T); (case kD => exact D); (case k6 => k_is); (case k7 => k_is); (case k8 => k_room); (case k9 => first | exact BindsTo.of_eq rfl | exact binds_K (by k_in) rfl (by k_is) rfl rfl rfl); (case c5 => decide); (case kB => exact locs rfl); (case c2 => exact rfl); (case c3 => exact rfl); (case c4 => exact rfl); k_whole; intro g' L' h' FG' F' N' B' X' T' D' l1)
  dsimp only
  k_lift B'
  try k_fold
  k_steps
  unfold Hold
  refine C _ _ _ _ _ _ _ _ _ _ _ _ _ _ _ _ _ _ _ _ B' (by k_asm) X' (by k_asm) T' rfl (by ktr_room) (by ktr_units) ?_
  intro G e t2 d tb tb' tk h2 tk2 FG2 R2
  refine caughtZ R2 FG2 B' XB TB D' KtsTurn.refl (by k_is) (ps_kts w) ?_
  intro h3 g3 tk3 oe T3 F3 N3 P3 nc B3 X3 TT3 D3
  have X4 := X3.keeps F3.keep
  k_steps
  refine z_told N3 P3 nc X4 ?_
  k_steps
  rename Fr _ _ _ _ => F5
  rename News _ _ _ _ => N5
  exact ⟨g3, L', _, news, T3, F5, cb_drop N5 (by intro p hp; repeat (first | exact hp | refine List.Mem.tail _ ?_)), fun h₀' Tz Fz Nz Bz => hret _ _ _ _ _ ⟨by rfl, rfl⟩ Tz Fz Nz Bz⟩
end
end Mine
end

section
theorem Mine.rstT1 {M : Model} {A : Around} {env : Env} {Q : Flow → Shared → Prop} {E : Value → Shared → Prop} {s : Shared} (h : Q .next s) : wpAny M A (execs [] env) Q E s := by
  w_top off
  walk1
  exact h
open PySem PySem.W PyProof.Rows PySem.Calls PyProof.Rows.LCg
set_option Elab.async false
set_option maxRecDepth 100000
set_option linter.unusedVariables false
set_option maxHeartbeats 4000000
namespace Mine
noncomputable def clampV (n : Int) : Int := max 0 (min 1000000 n)
noncomputable def divV (n b : Int) : Int := (2 * n + b).fdiv (2 * b)
noncomputable def GraysIn (l : List Int) : Prop := ∀ p ∈ l, 0 ≤ p ∧ p ≤ 1000000
noncomputable def trPlace (part : Int) (pts : List Int) : Int := part * ((pts.length : Int) - 1)
noncomputable def trNum (part : Int) (pts : List Int) : Int := (trPlace part pts).fdiv 1000000
noncomputable def trRest (part : Int) (pts : List Int) : Int := (trPlace part pts).fmod 1000000
noncomputable def trV (part : Int) (pts : List Int) : Int :=
  if pts.length < 2 then part
  else if trRest part pts = 0 then clampV (pts.getD (trNum part pts).toNat 0)
  else clampV (divV (pts.getD (trNum part pts).toNat 0 * (1000000 - trRest part pts) + pts.getD (trNum part pts + 1).toNat 0 * trRest part pts) 1000000)
theorem tr_bounds {part : Int} {pts : List Int} (h : 0 ≤ part) (h2 : part ≤ 1000000) (hn : 1 ≤ pts.length) : 0 ≤ trPlace part pts ∧ trPlace part pts ≤ 1000000 * ((pts.length : Int) - 1) ∧ 0 ≤ trNum part pts ∧ trNum part pts ≤ (pts.length : Int) - 1 ∧ 0 ≤ trRest part pts ∧ trRest part pts < 1000000 ∧ trPlace part pts = 1000000 * trNum part pts + trRest part pts := by
  have a : 0 ≤ trPlace part pts := Int.mul_nonneg h (by omega)
  have b : trPlace part pts ≤ 1000000 * ((pts.length : Int) - 1) := Int.mul_le_mul_of_nonneg_right h2 (by omega)
  have c : trRest part pts = trPlace part pts % 1000000 := Int.fmod_eq_emod_of_nonneg _ (by omega)
  have d : trNum part pts = trPlace part pts / 1000000 := Int.fdiv_eq_ediv_of_nonneg _ (by omega)
  refine ⟨a, b, ?_⟩
  omega
theorem mix_bounds {p q r : Int} (hp : 0 ≤ p ∧ p ≤ 1000000) (hq : 0 ≤ q ∧ q ≤ 1000000) (h0 : 0 ≤ r) (h1 : r < 1000000) : 0 ≤ p * (1000000 - r) + q * r ∧ p * (1000000 - r) + q * r ≤ 1000000000000 := by
  have a : 0 ≤ p * (1000000 - r) := Int.mul_nonneg hp.1 (by omega)
  have b : 0 ≤ q * r := Int.mul_nonneg hq.1 h0
  have c : p * (1000000 - r) ≤ 1000000 * (1000000 - r) := Int.mul_le_mul_of_nonneg_right hp.2 (by omega)
  have d : q * r ≤ 1000000 * r := Int.mul_le_mul_of_nonneg_right hq.2 h0
  omega
theorem GraysIn.get {l : List Int} (h : GraysIn l) (i : Nat) : 0 ≤ l.getD i 0 ∧ l.getD i 0 ≤ 1000000 := by
  rw [List.getD_eq_getElem?_getD]
  cases e : l[i]? with
  | none => simp
  | some x => exact h x (List.mem_of_getElem? e)
section
local macro_rules | `(tactic| walk_at "subscriptTail") => `(tactic| ((with_reducible refine Mine.subRI ?_); walk_at "sub"))
local macro_rules | `(tactic| walk_at "call ref") => `(tactic| ((try k_fold); refine hold ?_))
theorem transferred_ct (w : World) (rest : List (Addr × Obj)) (l : Addr) (vs : List Value) (nl : Nat) (pts : List Int) (part : Int) (t : Tok) (hI : IntsAre vs pts) (hg : GraysIn pts) (hlen : pts.length ≤ 6) (h0 : 0 ≤ part) (h1 : part ≤ 1000000) :
    Ct w 156 [.int part t, .ref l] 3 ((l, listOf vs.toArray nl) :: rest) (Int1 ((l, listOf vs.toArray nl) :: rest) (trV part pts)) := by
  unfold Ct
  k_fill
  intro mean mg mb dp un gd cn cs a ccd cl outer A₀ base h₀ L m s Q E B F X N T hk hd hu hret
  refine wpAny_call ?_
  k_dflt cell_enter
  have hvl : vs.length = pts.length := hI.length
  have hb : 1 ≤ pts.length → 0 ≤ (part * ((pts.length : Int) - 1)).fdiv 1000000 ∧ (part * ((pts.length : Int) - 1)).fdiv 1000000 ≤ (pts.length : Int) - 1 ∧ ((part * ((pts.length : Int) - 1)).fmod 1000000 ≠ 0 → (part * ((pts.length : Int) - 1)).fdiv 1000000 + 1 ≤ (pts.length : Int) - 1) := fun hn => by
    obtain ⟨a1, a2, a3, a4, a5, a6, a7⟩ := tr_bounds (pts := pts) h0 h1 hn
    refine ⟨a3, a4, fun q => ?_⟩
    change trRest part pts ≠ 0 at q
    change trNum part pts + 1 ≤ _
    omega
  by_cases hn : pts.length < 2
  · k_steps
    · exact ct_end hret ⟨int1_of (by unfold trV; rw [if_pos hn]), rfl⟩ (by k_asm) (by assumption) (by kcj_all)
    all_goals (exfalso; omega)
  obtain ⟨hb0, hb1, hb2⟩ := hb (by omega)
  have hb3 : (part * ((pts.length : Int) - 1)).fdiv 1000000 < (pts.length : Int) := by omega
  have hr0 : 0 ≤ (part * ((pts.length : Int) - 1)).fmod 1000000 := fmod_lo _ (by decide)
  have hr1 : (part * ((pts.length : Int) - 1)).fmod 1000000 < 1000000 := fmod_hi _ (by decide)
  k_steps
  · unfold Hold
    refine Ct.useI' (by k_asm) (clamped_ct _ _ _ _) (by k_asm) (by k_asm) (by k_asm) (by k_asm) rfl (by ktr_room) (by ktr_units) ?_
    intro t9 h9 tk9 F9 N9
    k_steps
    refine ct_end hret ⟨int1_of ?_, rfl⟩ (by k_asm) (by assumption) (by kcj_all)
    unfold trV trRest trNum trPlace clampV
    rw [if_neg hn, if_pos (by assumption)]
  · unfold Hold
    obtain ⟨c1, c2⟩ := mix_bounds (hg.get ((part * ((pts.length : Int) - 1)).fdiv 1000000).toNat) (hg.get ((part * ((pts.length : Int) - 1)).fdiv 1000000 + 1).toNat) hr0 hr1
    refine Ct.useI' (by k_asm) (divided_ct _ _ _ _ _ _ c1 (by omega) (by decide) (by decide)) (by k_asm) (by k_asm) (by k_asm) (by k_asm) rfl (by ktr_room) (by ktr_units) ?_
    intro t9 h9 tk9 F9 N9
    k_steps
    unfold Hold
    refine Ct.useI' (by k_asm) (clamped_ct _ _ _ _) (by k_asm) (by k_asm) (by k_asm) (by k_asm) rfl (by ktr_room) (by ktr_units) ?_
    intro t10 h10 tk10 F10 N10
    k_steps
    refine ct_end hret ⟨int1_of ?_, rfl⟩ (by k_asm) (by assumption) (by kcj_all)
    unfold trV trRest trNum trPlace clampV divV
    rw [if_neg hn, if_neg (by assumption)]
end
end Mine
end

section
open PySem PySem.W PyProof.Rows PySem.Calls PyProof.Rows.LCg
set_option Elab.async false
set_option maxRecDepth 100000
set_option linter.unusedVariables false
set_option maxHeartbeats 4000000
namespace Mine
section
variable {prog : Program} {w : World} {A : Around} {E : Value → Shared → Prop} {s : Shared} {env : Env} {h₀ : Heap} {m : Str → Option Value} {news : List (Addr × Obj)}
/-- a for loop over a zip of two lists of ints, by an invariant over the frame and the ledger -/
theorem zip_G {xi xc : Str} {body : List Stmt} {Q : Flow → Shared → Prop} {vs₁ vs₂ : List Value} {as bs : List Int} {z TI TO i1 i2 l1 l2 : Addr} {k : Nat} (hh : A.handled = none) (D : ZipApart z TI TO i1 i2 l1 l2)
    (hst : IsZip s.heap z TI TO .none ∧ IsPair s.heap TI (.ref i1) (.ref i2) ∧ (∃ a b, IsPair s.heap TO a b) ∧ s.heap.IsListIter i1 l1 0 ∧ s.heap.IsListIter i2 l2 0 ∧ s.heap.IsList l1 vs₁.toArray ∧ s.heap.IsList l2 vs₂.toArray)
    (hA₁ : IntsAre vs₁ as) (hA₂ : IntsAre vs₂ bs) (F : Fr h₀ env.locals s.heap m) (N : News h₀ env.locals s.heap news)
    (hL : @LT.lt Nat _ env.locals z ∧ @LT.lt Nat _ env.locals TO ∧ @LT.lt Nat _ env.locals i1 ∧ @LT.lt Nat _ env.locals i2) (hle : ∀ p ∈ news, @LE.le Nat _ p.1 k) (kz : @LT.lt Nat _ k z) (kTO : @LT.lt Nat _ k TO) (k1 : @LT.lt Nat _ k i1) (k2 : @LT.lt Nat _ k i2)
    (J : Nat → (Str → Option Value) → List (Addr × Obj) → Prop) (h0 : J 0 m news)
    (step : ∀ (i : Nat) a b ta tb m₁ news₁ h tk own, as[i]? = some a → bs[i]? = some b → J i m₁ news₁ → news₁.map (·.1) = news.map (·.1) →
      Fr h₀ env.locals h (fun y => if y = xc then some (.int b tb) else if y = xi then some (.int a ta) else m₁ y) → News h₀ env.locals h (own ++ news₁) →
      wpAny (model prog w) A (execs body env) (LoopStep3 h₀ env.locals own news₁ (J (i + 1)) { s with heap := h, toks := tk } (fun v s' => Q (.ret v) s') fun s' => Q .next s') E { s with heap := h, toks := tk })
    (done : ∀ h' tk m' news', Fr h₀ env.locals h' m' → News h₀ env.locals h' news' → news'.map (·.1) = news.map (·.1) → J (min as.length bs.length) m' news' → Q .next { s with heap := h', toks := tk }) :
    wpAny (model prog w) A (pyIter (.ref z)) (fun it s₂ => PairAt3 prog w A h₀ env xi xc body Q E it s₂) E s := by
  have W := WalksT.zip2 (prog := prog) (w := w) hh z TI TO i1 i2 l1 l2 D vs₁.toArray vs₂.toArray
  refine W.self 0 _ _ _ hst ?_
  have fresh : ∀ b : Addr, @LT.lt Nat _ env.locals b → h₀.get? b = none := fun b hb => Heap.get?_none_of_le (Nat.le_of_lt (Nat.lt_of_le_of_lt F.above hb))
  obtain ⟨oL, es, ep, hoL, hdL, _⟩ := id F.ns
  refine ⟨z, [z, TI, TO, i1, i2, l1, l2], [z, TO, i1, i2], min vs₁.toArray.size vs₂.toArray.size, _, _, _, (fun i v0 v1 => ∃ a b ta tb, as[i]? = some a ∧ bs[i]? = some b ∧ v0 = .int a ta ∧ v1 = .int b tb), m, news, J, rfl, W, ?_, ?_, ?_, ?_, hst, F, N, h0, ?_, ?_⟩
  · rintro i vals ⟨x, y, hx, hy, rfl⟩
    obtain ⟨a, ta, rfl, ha⟩ := hA₁.at i x (by simpa using hx)
    obtain ⟨b, tb, rfl, hb⟩ := hA₂.at i y (by simpa using hy)
    exact ⟨_, _, rfl, a, b, ta, tb, ha, hb, rfl, rfl⟩
  · intro hm
    simp only [List.mem_cons, List.not_mem_nil, or_false] at hm
    rcases hm with e | e | e | e | e | e | e
    · rw [e] at hL; exact Nat.lt_irrefl _ hL.1
    · have ho : s.heap.get? TI = _ := hst.2.1
      rw [← e, hoL] at ho; cases ho; cases hdL
    · rw [e] at hL; exact Nat.lt_irrefl _ hL.2.1
    · rw [e] at hL; exact Nat.lt_irrefl _ hL.2.2.1
    · rw [e] at hL; exact Nat.lt_irrefl _ hL.2.2.2
    · obtain ⟨o, ho, hc, n, hd⟩ := hst.2.2.2.2.2.1
      rw [← e, hoL] at ho; cases ho; rw [hdL] at hd; cases hd
    · obtain ⟨o, ho, hc, n, hd⟩ := hst.2.2.2.2.2.2
      rw [← e, hoL] at ho; cases ho; rw [hdL] at hd; cases hd
  · intro b hb
    simp only [List.mem_cons, List.not_mem_nil, or_false] at hb
    rcases hb with rfl | rfl | rfl | rfl
    · exact fresh _ hL.1
    · exact fresh _ hL.2.1
    · exact fresh _ hL.2.2.1
    · exact fresh _ hL.2.2.2
  · intro p hp hb
    have := hle p hp
    simp only [List.mem_cons, List.not_mem_nil, or_false] at hb
    rcases hb with e | e | e | e <;> (rw [e] at this; omega)
  · rintro i v0 v1 m₁ news₁ s₁ own ⟨hh₁, tk, rfl⟩ _ ⟨a, b, ta, tb, ha, hb, rfl, rfl⟩ hJ hmap hsub F₁ N₁
    exact step i a b ta tb m₁ news₁ _ _ own ha hb hJ hmap F₁ N₁
  · have e : min vs₁.toArray.size vs₂.toArray.size = min as.length bs.length := by simp [hA₁.length, hA₂.length]
    rw [e]
    exact done
end
end Mine
end

section
open PySem PySem.W
namespace Mine
theorem div_near {X : Int} (h : 0 ≤ X) (h2 : X ≤ 1000000000000) : 0 ≤ divV X 1000000 ∧ divV X 1000000 ≤ 1000000 ∧ -500000 ≤ divV X 1000000 * 1000000 - X ∧ divV X 1000000 * 1000000 - X ≤ 500000 := by
  have e : divV X 1000000 = (2 * X + 1000000) / (2 * 1000000) := Int.fdiv_eq_ediv_of_nonneg _ (by omega)
  rw [e]
  omega
theorem clamp_id {x : Int} (h : 0 ≤ x) (h2 : x ≤ 1000000) : clampV x = x := by unfold clampV; omega
theorem tr_law {part : Int} {pts : List Int} (h0 : 0 ≤ part) (h1 : part ≤ 1000000) (hg : GraysIn pts) (hn : 2 ≤ pts.length) (at_ : Int) (hat : at_ = min (trNum part pts) ((pts.length : Int) - 1 - 1)) :
    0 ≤ at_ ∧ at_ + 1 < (pts.length : Int) ∧
    -1000000 < (trV part pts - pts.getD at_.toNat 0) * 1000000 - (pts.getD (at_ + 1).toNat 0 - pts.getD at_.toNat 0) * (trPlace part pts - at_ * 1000000) ∧
    (trV part pts - pts.getD at_.toNat 0) * 1000000 - (pts.getD (at_ + 1).toNat 0 - pts.getD at_.toNat 0) * (trPlace part pts - at_ * 1000000) < 1000000 := by
  obtain ⟨a1, a2, a3, a4, a5, a6, a7⟩ := tr_bounds (pts := pts) h0 h1 (by omega)
  unfold trV
  rw [if_neg (by omega)]
  by_cases c : trNum part pts ≤ (pts.length : Int) - 1 - 1
  · obtain rfl : at_ = trNum part pts := by omega
    have b : trPlace part pts - trNum part pts * 1000000 = trRest part pts := by omega
    rw [b]
    refine ⟨a3, by omega, ?_⟩
    generalize hp : pts.getD (trNum part pts).toNat 0 = p
    generalize hq : pts.getD (trNum part pts + 1).toNat 0 = q
    have gp : 0 ≤ p ∧ p ≤ 1000000 := hp ▸ hg.get _
    have gq : 0 ≤ q ∧ q ≤ 1000000 := hq ▸ hg.get _
    by_cases r : trRest part pts = 0
    · rw [if_pos r, r, clamp_id gp.1 gp.2]
      simp
    · rw [if_neg r]
      obtain ⟨m1, m2⟩ := mix_bounds gp gq a5 a6
      obtain ⟨d1, d2, d3, d4⟩ := div_near m1 m2
      rw [clamp_id d1 d2]
      generalize hD : divV (p * (1000000 - trRest part pts) + q * trRest part pts) 1000000 = D at d1 d2 d3 d4
      have e : (D - p) * 1000000 - (q - p) * trRest part pts = D * 1000000 - (p * (1000000 - trRest part pts) + q * trRest part pts) := by
        rw [Int.sub_mul, Int.sub_mul, Int.mul_sub]; omega
      rw [e]
      omega
  · have hN : trNum part pts = (pts.length : Int) - 1 := by omega
    obtain rfl : at_ = (pts.length : Int) - 1 - 1 := by omega
    have hr : trRest part pts = 0 := by omega
    refine ⟨by omega, by omega, ?_⟩
    rw [if_pos hr, hN, show (pts.length : Int) - 1 - 1 + 1 = (pts.length : Int) - 1 by omega]
    generalize hp : pts.getD ((pts.length : Int) - 1 - 1).toNat 0 = p
    generalize hq : pts.getD ((pts.length : Int) - 1).toNat 0 = q
    have gq : 0 ≤ q ∧ q ≤ 1000000 := hq ▸ hg.get _
    rw [clamp_id gq.1 gq.2, show trPlace part pts - ((pts.length : Int) - 1 - 1) * 1000000 = 1000000 by omega]
    omega
theorem tr_at {pts : List Int} {k : Int} (hg : GraysIn pts) (hl : pts.length = 2 ∨ pts.length = 3 ∨ pts.length = 5 ∨ pts.length = 6) (h0 : 0 ≤ k) (h1 : k ≤ (pts.length : Int) - 1) :
    0 ≤ (k * 1000000).fdiv ((pts.length : Int) - 1) ∧ (k * 1000000).fdiv ((pts.length : Int) - 1) ≤ 1000000 ∧ trV ((k * 1000000).fdiv ((pts.length : Int) - 1)) pts = pts.getD k.toNat 0 := by
  have hb : 2 ≤ pts.length := by omega
  have hm4 : ∀ m, (pts.length : Int) - 1 = m → m = 1 ∨ m = 2 ∨ m = 4 ∨ m = 5 := by intro m hm; omega
  clear hl
  have e : (k * 1000000).fdiv ((pts.length : Int) - 1) = (k * 1000000) / ((pts.length : Int) - 1) := Int.fdiv_eq_ediv_of_nonneg _ (by omega)
  have key : 0 ≤ (k * 1000000) / ((pts.length : Int) - 1) ∧ (k * 1000000) / ((pts.length : Int) - 1) ≤ 1000000 ∧ (k * 1000000) / ((pts.length : Int) - 1) * ((pts.length : Int) - 1) = k * 1000000 := by
    generalize hm : (pts.length : Int) - 1 = m at h1 ⊢
    have hm' := hm4 m hm
    clear hm hm4 hb hg
    rcases hm' with rfl | rfl | rfl | rfl <;> omega
  rw [e]
  refine ⟨key.1, key.2.1, ?_⟩
  have hp : trPlace ((k * 1000000) / ((pts.length : Int) - 1)) pts = k * 1000000 := key.2.2
  have hr : trRest ((k * 1000000) / ((pts.length : Int) - 1)) pts = 0 := by
    unfold trRest; rw [hp, Int.fmod_eq_emod_of_nonneg _ (by omega)]; omega
  have hn : trNum ((k * 1000000) / ((pts.length : Int) - 1)) pts = k := by
    unfold trNum; rw [hp, Int.fdiv_eq_ediv_of_nonneg _ (by omega)]; omega
  unfold trV
  rw [if_neg (by omega), if_pos hr, hn]
  exact clamp_id (hg.get _).1 (hg.get _).2
end Mine
end

section
theorem Mine.rstV1 {M : Model} {A : Around} {env : Env} {Q : Flow → Shared → Prop} {E : Value → Shared → Prop} {s : Shared} (h : Q .next s) : wpAny M A (execs [] env) Q E s := by
  w_top off
  walk1
  exact h
open PySem PySem.W PyProof.Rows PySem.Calls PyProof.Rows.LCg
set_option Elab.async false
set_option maxRecDepth 100000
set_option linter.unusedVariables false
set_option maxHeartbeats 4000000
namespace Mine
theorem lvl_facts {g : Int} (h0 : 0 ≤ g) (h1 : g ≤ 1000000) : 0 ≤ lvl g ∧ lvl g ≤ 255 ∧ -1000000 ≤ lvl g * 1000000 - g * 255 ∧ lvl g * 1000000 - g * 255 ≤ 1000000 := by
  have e : lvl g = (2 * (g * 255) + 1000000) / (2 * 1000000) := Int.fdiv_eq_ediv_of_nonneg _ (by omega)
  rw [e]
  omega
theorem lvl_mono {a b : Int} (h : a ≤ b) : lvl a ≤ lvl b := by
  have e : ∀ g, lvl g = (2 * (g * 255) + 1000000) / (2 * 1000000) := fun g => Int.fdiv_eq_ediv_of_nonneg _ (by omega)
  rw [e, e]
  omega
theorem sorted_one {a b : List Int} (h : a.Perm b) (ha : a.Pairwise (· ≤ ·)) (hb : b.Pairwise (· ≤ ·)) : b = a :=
  (List.Perm.eq_of_pairwise (fun _ _ _ _ h1 h2 => Int.le_antisymm h1 h2) ha hb h).symm
theorem lvl_sorted {gs : List Int} (h : gs.Pairwise (· ≤ ·)) : (gs.map lvl).Pairwise (· ≤ ·) := List.Pairwise.map _ (fun _ _ => lvl_mono) h
section
local macro_rules | `(tactic| walk_at "call ref") => `(tactic| ((try k_fold); refine hold ?_))
local macro_rules | `(tactic| walk_at "eval ListComp") => `(tactic| (k_dflt (refine LCg.ListComp_U (F₀ := by k_asm) (by with_unfolding_all rfl) (by decide) (by rfl) (by decide) (by rfl) ?_); k_dflt lcg_toSrc))
local macro_rules | `(tactic| walk_at "exec Assign cons ListComp") => `(tactic| (k_dflt (refine LCg.Assign_ListComp_U (F₀ := by k_asm) (by rfl) (by with_unfolding_all rfl) (by with_unfolding_all rfl) (by decide) (by rfl) (by decide) (by rfl) (by rfl) (by rfl) ?_); k_dflt lcg_toSrc))
local macro_rules | `(tactic| walk_at "CompSrc") => `(tactic| ((try k_fold); refine hold ?_))
theorem levels_ct (w : World) (rest : List (Addr × Obj)) (l : Addr) (vs : List Value) (nl : Nat) (gs : List Int) (hI : IntsAre vs gs) (hg : GraysIn gs) (hlen : gs.length ≤ 6) (hs : gs.Pairwise (· ≤ ·)) :
    Ct w 246 [.ref l] 4 ((l, listOf vs.toArray nl) :: rest) (Bool1 ((l, listOf vs.toArray nl) :: rest) true) := by
  unfold Ct
  k_fill
  intro mean mg mb dp un gd cn cs a ccd cl outer A₀ base h₀ L m s Q E B F X N T hk hd hu hret
  refine wpAny_call ?_
  k_dflt cell_enter
  have hvl : vs.length = gs.length := hI.length
  k_steps
  unfold Hold
  refine CompSrc.ledger (by rfl) (by k_asm) (by k_asm) (by k_mem) (by rw [sizeLine_eq, List.size_toArray]; omega) ?_
  intro g2
  refine comp_inv (n := vs.length) (fun j ys led2 => led2 = (l, listOf vs.toArray nl) :: rest ∧ IntsAre ys ((gs.take j).map lvl)) ⟨rfl, .nil⟩ ?_ ?_
  · rintro j ys led2 v I2 oI2 C oC D m2 h10 tk10 E2 hj ⟨rfl, hY⟩ hv hC hm2 F10 N10 off10 ne10
    obtain ⟨g, tg, rfl, hgj⟩ := hI.at j v (by simpa using hv)
    have hgg := hg g (List.mem_of_getElem? hgj)
    k_steps
    unfold Hold
    refine Ct.useI' (by k_asm) (level_ct _ _ _ _ hgg.1 hgg.2) (by k_asm) (by k_asm) (by k_asm) (by k_asm) (by first | exact rfl | assumption) (by ktr_room) (by ktr_units) ?_
    intro t9 h9 tk9 F9 N9
    k_steps
    refine CompEnd.intro F9 N9 _ (fun p hp => hp) off10 (Or.inr ⟨_, .head _, rfl, _, rfl⟩) ⟨rfl, ?_⟩
    have e : gs.take (j + 1) = gs.take j ++ [g] := by simp [List.take_add_one, hgj]
    rw [e, List.map_append]
    exact intsAre_snoc hY _ _
  · rintro ys led2 ⟨rfl, hY⟩
    rw [hvl, List.take_length] at hY
    k_steps
    rename ZipApart _ _ _ _ _ _ _ => ap
    rename IsZip _ _ _ _ _ ∧ _ => hst
    rename Fr _ _ _ _ => F6
    rename News _ _ _ _ => N7
    refine zip_G (by rfl) ap hst hI hY F6 N7 (by assumption) (by assumption) (by assumption) (by assumption) (by assumption) (by assumption) (fun i m' led => led = nOf N7 ∧ ∃ v1 v2, m' = fun y => if y = Str.ofString "level" then v2 else if y = Str.ofString "gray" then v1 else mOf F6 y) ⟨rfl, mOf F6 (Str.ofString "gray"), mOf F6 (Str.ofString "level"), ?_⟩ ?_ ?_
    · funext y
      by_cases q1 : y = Str.ofString "level"
      · rw [if_pos q1, q1]; rfl
      · rw [if_neg q1]
        by_cases q2 : y = Str.ofString "gray"
        · rw [if_pos q2, q2]; rfl
        · rw [if_neg q2]; rfl
    · rintro i x y tx ty m1 news1 h8 tk8 own hx hy ⟨rfl, v1, v2, rfl⟩ hm8 F8 N8
      have hyx : y = lvl x := by
        rw [List.getElem?_map, hx] at hy
        exact (Option.some.inj hy).symm
      subst hyx
      obtain ⟨hx0, hx1⟩ := hg x (List.mem_of_getElem? hx)
      dsimp only [nOf, mOf] at F8 N8 ⊢
      clear hm8
      clear F6 N7 hst ap
      obtain ⟨f0, f1, f2, f3⟩ := lvl_facts hx0 hx1
      k_steps
      funext y
      by_cases q1 : y = Str.ofString "level"
      · simp only [if_pos q1]
        exact rfl
      · simp only [if_neg q1]
        by_cases q2 : y = Str.ofString "gray"
        · simp only [if_pos q2]
          exact rfl
        · simp only [if_neg q2]
    · rintro h8 tk8 m1 news1 F8 N8 hm8 ⟨rfl, v1, v2, rfl⟩
      dsimp only [nOf, mOf] at F8 N8 ⊢
      clear hm8
      clear F6 N7 hst ap
      k_steps
      rotate_left
      · exact absurd (sorted_one (by assumption) (by assumption) (lvl_sorted hs)) (by assumption)
      unfold Hold
      refine Ct.useI' (by k_asm) (level_ct _ _ _ _ (by decide) (by decide)) (by k_asm) (by k_asm) (by k_asm) (by k_asm) (by first | exact rfl | assumption) (by ktr_room) (by ktr_units) ?_
      intro t9 h9 tk9 F9 N9
      rw [show (2 * (0 * 255) + 1000000 : Int).fdiv (2 * 1000000) = 0 from rfl]
      k_steps
      unfold Hold
      refine Ct.useI' (by k_asm) (level_ct _ _ _ _ (by decide) (by decide)) (by k_asm) (by k_asm) (by k_asm) (by k_asm) (by first | exact rfl | assumption) (by ktr_room) (by ktr_units) ?_
      intro t10 h10 tk10 F10 N10
      rw [show (2 * (1000000 * 255) + 1000000 : Int).fdiv (2 * 1000000) = 255 from rfl]
      k_steps
      exact ct_end hret ⟨rfl, rfl⟩ (by k_asm) (by assumption) (by intro p hp; repeat (first | exact hp | refine List.Mem.tail _ ?_))
end
end Mine
end

section
theorem Mine.rstT2 {M : Model} {A : Around} {env : Env} {Q : Flow → Shared → Prop} {E : Value → Shared → Prop} {s : Shared} (h : Q .next s) : wpAny M A (execs [] env) Q E s := by
  w_top off
  walk1
  exact h
open PySem PySem.W PyProof.Rows PySem.Calls PyProof.Rows.LCg
set_option Elab.async false
set_option maxRecDepth 100000
set_option linter.unusedVariables false
set_option maxHeartbeats 4000000
namespace Mine
theorem menu_four {x : Int} (h0 : 0 ≤ x) (h1 : x < 4) : ([2, 3, 5, 6] : List Int).getD x.toNat 0 = 2 ∨ ([2, 3, 5, 6] : List Int).getD x.toNat 0 = 3 ∨ ([2, 3, 5, 6] : List Int).getD x.toNat 0 = 5 ∨ ([2, 3, 5, 6] : List Int).getD x.toNat 0 = 6 := by
  have : x = 0 ∨ x = 1 ∨ x = 2 ∨ x = 3 := by omega
  rcases this with rfl | rfl | rfl | rfl <;> simp
theorem trV_in {part : Int} {pts : List Int} (hg : GraysIn pts) (h : 0 ≤ part) (h2 : part ≤ 1000000) : 0 ≤ trV part pts ∧ trV part pts ≤ 1000000 := by
  have c : ∀ n, 0 ≤ clampV n ∧ clampV n ≤ 1000000 := fun n => by unfold clampV; omega
  unfold trV
  split
  · exact ⟨h, h2⟩
  · split
    · exact c _
    · exact c _
theorem abs_no {X : Int} (h : 1000000 ≤ if X < 0 then -X else X) (h1 : -1000000 < X) (h2 : X < 1000000) : False := by
  split at h <;> omega
theorem Ct.pull {w : World} {f : Addr} {vs : List Value} {room : Nat} {A : Addr × Obj} {led : List (Addr × Obj)} {P : Value → Prop} (C : Ct w f vs room (A :: led) (fun v n => P v ∧ n = A :: led)) (hA : A ∈ led) : Ct w f vs room led (fun v n => P v ∧ n = led) := by
  intro mean mg mb dp un gd cn cs a ccd cl outer A₀ base h₀ L m s Q E B F X N T hk hd hu hret
  refine C mean mg mb dp un gd cn cs a ccd cl outer A₀ base h₀ L m s Q E B F X (fun p hq => N p ?_) T hk hd hu ?_
  · rcases List.mem_cons.mp hq with rfl | hq
    · exact hA
    · exact hq
  · rintro v l h' tk' ⟨r1, rfl⟩ F' N'
    exact hret v led h' tk' ⟨r1, rfl⟩ F' (cb_drop N' fun p hp => .tail _ hp)
noncomputable def hOfN {h₀ h : Heap} {L : Addr} {l : List (Addr × Obj)} (_ : News h₀ L h l) : Heap := h
theorem len_four {M : Int} {n : Nat} (h : n = M.toNat) (hM : Hold (M = 2 ∨ M = 3 ∨ M = 5 ∨ M = 6)) : Hold (n = 2 ∨ n = 3 ∨ n = 5 ∨ n = 6) := by
  subst h
  unfold Hold at *
  rcases hM with rfl | rfl | rfl | rfl <;> decide
section
local macro_rules | `(tactic| walk_at "call ref") => `(tactic| ((try k_fold); refine hold ?_))
local macro_rules | `(tactic| walk_at "eval ListComp") => `(tactic| (k_dflt (refine LCg.ListComp_U (F₀ := by k_asm) (by with_unfolding_all rfl) (by decide) (by rfl) (by decide) (by rfl) ?_); k_dflt lcg_toSrc))
local macro_rules | `(tactic| walk_at "CompSrc") => `(tactic| ((try k_fold); refine hold ?_))
local macro_rules | `(tactic| walk_at "exec For Name Call cons nil") => `(tactic| ((try k_fold); refine hold ?_))
local macro_rules | `(tactic| walk_at "binaryOp FloorDiv int int") => `(tactic| refine floordiv_int (by omega) ?_ (Or.inl (PyProof.noPylong_small (by omega))))
local macro_rules | `(tactic| walk_at "subscriptTail") => `(tactic| ((with_reducible refine Mine.subRI ?_); walk_at "sub"))
local macro_rules | `(tactic| walk_at "call builtin:min") => `(tactic| ((try k_fold); refine hold ?_))
theorem transfer_ct (w : World) (d l : Addr) (n : Int) (hn : n < 900) : DCt w 268 [.ref d] 8 d l n 20 (fun v => v = .bool true) := by
  intro rest od ol hdl hrd hrl hD
  unfold Ct
  k_fill
  intro mean mg mb dp un gd cn cs a ccd cl outer A₀ base h₀ L m s Q E B F X N T hk hd hu hret
  refine wpAny_call ?_
  k_dflt (refine' code_defC ?k1 ?k2 ?k3 ?k4 ?k5 ?kA ?kF ?kK ?k6 ?k7 ?k8 ?k9 ?kB ?kD ?_ ?c2 ?c3 ?c4; (case kA => exact rfl); (case kF => exact rfl); (case kK => first | exact rfl | assumption); (case k1 => k_asm); (case k2 => k_asm); (case k3 => k_asm); (case k4 => k_asm); (case k5 => k_asm); (case k6 => k_is); (case k7 => k_is); (case k8 => k_room); (case k9 => first | exact BindsTo.of_eq rfl | exact binds_K (by k_in) rfl (by k_is) rfl rfl rfl); (case kB => exact rfl); (case kD => decide +kernel); (case c2 => exact rfl); (case c3 => exact rfl); (case c4 => exact rfl); k_whole; intro g' L' h' tk' cells' FG' F' N' Y' B' X' T' l1; k_lt l1)
  obtain ⟨oc3, oc2, oc1, hE, e3, e2, e1⟩ := CellsAre.three Y'
  subst hE
  clear Y'
  replace e3 : oc3.data = .cell none := e3
  replace e2 : oc2.data = .cell none := e2
  replace e1 : oc1.data = .cell (some (.ref d)) := e1
  simp only [List.cons_append, List.nil_append] at N'
  dsimp only
  k_lift B'
  try k_fold
  k_steps
  unfold Hold
  refine DCt.useI (by k_asm) hD (draw_ct w d l n 4 _ (by decide) (by decide) (by omega)) (by k_updF) (by (intro _; k_updF)) hdl (by k_asm) (by k_asm) (by k_asm) (by k_asm) rfl (by ktr_room) (by ktr_units) ?_
  intro x9 t9 od9 ol9 h9 tk9 lo9 hi9 D9 F9 N9
  k_steps
  rename IsRange _ _ _ _ _ _ _ _ => hr
  unfold Hold
  obtain ⟨M, hM, hM4⟩ : ∃ M : Int, ([2, 3, 5, 6] : List Int).getD x9.toNat 0 = M ∧ (M = 2 ∨ M = 3 ∨ M = 5 ∨ M = 6) := ⟨_, rfl, menu_four lo9 hi9⟩
  have hMb : 2 ≤ M ∧ M ≤ 6 := by clear hret; omega
  replace hM4 := held hM4
  rw [hM] at hr
  rename News _ _ _ _ => N11
  refine CompSrc.range (n := M.toNat) (by rfl) (by k_asm) (news_tail N11) hr (small_one (by omega) (by omega) (by omega) (by omega)) (by rw [rangeSize_nat]; simp) (by rw [sizeLine_eq]; omega) ?_
  intro g2
  clear N11 hr
  refine comp_inv (fun j ys led2 => ∃ od2 ol2 gs, Deck w (n + 1 + 2 * (j : Int)) l od2 ol2 ∧ led2 = (L' + 1 + 1 + 1, oc3) :: (L' + 1 + 1, oc2) :: (L' + 1, oc1) :: (d, od2) :: (l, ol2) :: rest ∧ IntsAre ys gs ∧ gs.length = j ∧ GraysIn gs) (xm3 _ _ [] (am5 (Deck.mono D9 (by omega)) rfl (.nil) rfl (fun _ h => nomatch h))) ?_ ?_
  · rintro j ys led2 v I2 oI2 C oC D m2 h10 tk10 E2 hj pzz
    refine ex3 pzz ?_; clear pzz; intro od2 ol2 gs pzz; refine and5 pzz ?_; clear pzz; rintro D2 rfl hY hgl hgg ⟨t10, rfl⟩ hC hm2 F10 N10 off10 ne10
    have o1 := off10
    simp only [Off3] at off10
    k_steps
    unfold Hold
    refine DCt.useI N10 D2 (gray_ct w d l (n + 1 + 2 * (j : Int)) (by omega)) (by k_updF) (by (intro _; k_updF)) hdl (by k_asm) (by k_asm) (by k_asm) (by k_asm) rfl (by ktr_room) (by ktr_units) ?_
    intro x11 t11 od11 ol11 h11 tk11 lo11 hi11 D11 F11 N11
    k_steps
    refine CompEnd.intro F11 N11 _ (fun p hp => hp) o1 trivial (xm3 od11 ol11 (gs ++ [x11]) (am5 (Deck.mono D11 (by omega)) rfl (intsAre_snoc hY _ _) (by rw [List.length_append, hgl]; rfl) (fun p hp => ?_)))
    rcases List.mem_append.mp hp with hp | hp
    · exact hgg p hp
    · rw [List.mem_singleton.mp hp]; exact ⟨lo11, hi11⟩
  · rintro ys led2 pzz
    refine ex3 pzz ?_; clear pzz; intro od2 ol2 gs pzz; refine and5 pzz ?_; clear pzz; rintro D2 rfl hY hgl hgg
    have r2 : ∀ p ∈ rest, p.1 ≠ L' + 1 + 1 := allLt_ne l1.2.2 (by omega)
    have r3 : ∀ p ∈ rest, p.1 ≠ L' + 1 + 1 + 1 := allLt_ne l1.2.2 (by omega)
    k_steps
    unfold Hold
    rename IsRange _ _ _ _ _ _ _ _ => hr
    rename News _ _ _ _ => N12
    have hglb : 2 ≤ gs.length ∧ gs.length ≤ 6 := by clear hret; omega
    have hgl4 : Hold (gs.length = 2 ∨ gs.length = 3 ∨ gs.length = 5 ∨ gs.length = 6) := len_four hgl hM4
    refine CompSrc.range (n := gs.length) (by rfl) (by k_asm) N12 hr (small_one (by omega) (by omega) (by omega) (by omega)) (by rw [rangeSize_nat]; omega) (by rw [sizeLine_eq]; omega) ?_
    intro g3
    refine comp_inv (fun j zs led2 => led2 = nOf N12 ∧ IntsAre zs (gs.take j)) ⟨rfl, .nil⟩ ?_ ?_
    · rintro j zs led2 v I2 oI2 C oC D m2 h10 tk10 E2 hj ⟨rfl, hZ⟩ ⟨t10, rfl⟩ hC hm2 F10 N10 off10 ne10
      dsimp only [nOf] at N10 off10 ⊢
      have o1 := off10
      simp only [Off3] at off10
      clear N12 hr
      k_steps
      unfold Hold
      obtain ⟨c1, c2, c3⟩ := tr_at hgg hgl4 (k := 0 + (j : Int)) (by omega) (by omega)
      refine Ct.useI' (by k_asm) (Ct.pull (transferred_ct w _ _ ys _ gs _ _ hY hgg (by omega) c1 c2) (by k_mem)) (by k_asm) (by k_asm) (by k_asm) (by k_asm) rfl (by ktr_room) (by ktr_units) ?_
      intro t13 h13 tk13 F13 N13
      rw [c3, show (0 + (j : Int)).toNat = j by omega]
      k_steps
      refine CompEnd.intro F13 N13 _ (fun p hp => hp) o1 trivial ⟨rfl, ?_⟩
      have hgj : gs[j]? = some (gs.getD j 0) := by rw [List.getD_eq_getElem?_getD, List.getElem?_eq_getElem hj]; rfl
      have e : gs.take (j + 1) = gs.take j ++ [gs.getD j 0] := by rw [List.take_add_one, hgj]; rfl
      rw [e]
      exact intsAre_snoc hZ _ _
    · rintro zs led2 ⟨rfl, hZ⟩
      rw [List.take_length] at hZ
      dsimp only [nOf]
      clear N12 hr
      k_steps
      unfold Hold
      refine For_G (by k_asm) (by intro _ _; rfl) (by rfl) ?_
      k_steps
      rename IsRange _ _ _ _ _ _ _ _ => hr
      rename Fr _ _ _ _ => F20
      rename News _ _ _ _ => N20
      obtain ⟨DD, o2, o3, N21, q1, q2, q3⟩ : ∃ (DD : Addr) (o2 o3 : Obj), News g' L' (hOfN N20) ((DD, lst ys) :: (L' + 1 + 1 + 1, o3) :: (L' + 1 + 1, o2) :: (L' + 1, oc1) :: (d, od2) :: (l, ol2) :: rest) ∧ ((@Ne Nat (L' + 1 + 1 + 1) DD) ∧ (@Ne Nat (L' + 1 + 1) DD) ∧ (@Ne Nat (L' + 1) DD) ∧ (@Ne Nat d DD) ∧ (@Ne Nat l DD) ∧ Off1 DD rest) ∧ (o2.data = Data.cell (some (.ref DD))) ∧ (∃ t, o3.data = Data.cell (some (.int ((gs.length : Int) - 1) t))) :=
        ⟨_, _, _, news_tail N20, by assumption, by assumption, _, by assumption⟩
      obtain ⟨t3, q3⟩ := q3
      dsimp only [hOfN] at N21
      refine iter_range_G (n := 3) (by rfl) F20 N21 hr (small_one (by omega) (by omega) (by omega) (by omega)) (by rfl) ?_
      clear F20 N20 N21 hr
      intro g4
      refine ForTurns.intro (fun i m' led => ∃ od3 ol3, Deck w (n + 13 + 2 * (i : Int)) l od3 ol3 ∧ led = (DD, lst ys) :: (L' + 1 + 1 + 1, o3) :: (L' + 1 + 1, o2) :: (L' + 1, oc1) :: (d, od3) :: (l, ol3) :: rest) (xm2 _ _ (am2 (Deck.mono D2 (by omega)) rfl)) ?_ ?_
      · rintro i v m4 led4 h14 tk14 I oI hi ⟨t14, rfl⟩ pzz
        refine ex2 pzz ?_; clear pzz; intro od3 ol3 pzz; refine and2 pzz ?_; clear pzz; rintro D3 rfl _ F14 N14 off14
        have o9 := off1_of off14
        have o8 := off1_of off14
        simp only [Off1] at o8
        have hb1 : n + 13 + 2 * (i : Int) < 998 := by clear o8 o9 off14 q1; omega
        k_steps
        unfold Hold
        refine DCt.useI (by k_asm) D3 (gray_ct w d l (n + 13 + 2 * (i : Int)) hb1) (by k_updF) (by (intro _; k_updF)) hdl (by k_asm) (by k_asm) (by k_asm) (by k_asm) rfl (by ktr_room) (by ktr_units) ?_
        intro x15 t15 od15 ol15 h15 tk15 lo15 hi15 D15 F15 N15
        clear o8
        have q1h := held q1
        clear q1
        have hb2 : (x15 * ((gs.length : Int) - 1)).fdiv 1000000 = trNum x15 gs := rfl

        k_steps
        unfold Hold
        refine min_two_N (by rfl) (by k_asm) (by k_asm) ?_
        intro h16 tk16 F16 N16
        obtain ⟨AT, hAT⟩ : ∃ AT : Int, AT = min (trNum x15 gs) ((gs.length : Int) - 1 - 1) := ⟨_, rfl⟩
        obtain ⟨b0, b1, b2, b3⟩ := tr_law lo15 hi15 hgg (by clear hret; omega) AT hAT
        rw [show (if (gs.length : Int) - 1 - 1 < (x15 * ((gs.length : Int) - 1)).fdiv 1000000 then (gs.length : Int) - 1 - 1 else (x15 * ((gs.length : Int) - 1)).fdiv 1000000) = AT by rw [hb2, hAT]; split <;> omega]
        have b4 := hgg.get AT.toNat
        have b5 := hgg.get (AT + 1).toNat
        have hP : 0 ≤ trPlace x15 gs ∧ trPlace x15 gs ≤ 1000000 * ((gs.length : Int) - 1) := by
          have := tr_bounds (pts := gs) lo15 hi15 (by omega)
          exact ⟨this.1, this.2.1⟩
        have hP2 : -5000000 ≤ trPlace x15 gs - AT * 1000000 ∧ trPlace x15 gs - AT * 1000000 ≤ 5000000 := by omega
        change -5000000 ≤ x15 * ((gs.length : Int) - 1) - AT * 1000000 ∧ x15 * ((gs.length : Int) - 1) - AT * 1000000 ≤ 5000000 at hP2
        have hb3 := held b2
        have hb4 := held b3
        clear b2 b3 hAT hb2 hP
        k_steps
        unfold Hold
        refine Ct.useI' (by k_asm) (Ct.pull (transferred_ct w _ _ ys _ gs _ _ hY hgg (by omega) lo15 hi15) (by k_mem)) (by k_asm) (by k_asm) (by k_asm) (by k_asm) rfl (by ktr_room) (by ktr_units) ?_
        intro t17 h17 tk17 F17 N17
        have b6 : 0 ≤ trV x15 gs ∧ trV x15 gs ≤ 1000000 := by
          have := trV_in hgg lo15 hi15
          exact this
        k_steps
        · exact (abs_no (by assumption) hb3 hb4).elim
        unfold Hold
        refine Ct.useI' (by k_asm) (Ct.pull (transferred_ct w _ _ [] 0 [] _ _ .nil (fun _ q => nomatch q) (by decide) lo15 hi15) (by k_mem)) (by k_asm) (by k_asm) (by k_asm) (by k_asm) rfl (by ktr_room) (by ktr_units) ?_
        intro t18 h18 tk18 F18 N18
        rw [show trV x15 [] = x15 from rfl]
        k_steps
        · exact absurd rfl (by assumption)
        · refine ForEnd.intro _ F18 N18 (by intro p hp; exact .tail _ (.tail _ hp)) (off1_mem (show Off1 I ((DD, lst ys) :: (L' + 1 + 1 + 1, o3) :: (L' + 1 + 1, o2) :: (L' + 1, oc1) :: (d, od15) :: (l, ol15) :: rest) from o9)) trivial (xm2 od15 ol15 (am2 (Deck.mono D15 ?_) rfl))
          clear hret
          omega
      · rintro m4 led4 h14 tk14 pzz
        refine ex2 pzz ?_; clear pzz; intro od3 ol3 pzz; refine and2 pzz ?_; clear pzz; rintro D3 rfl _ F14 N14
        k_steps
        refine deck_end hret (by k_asm) (by k_asm) (by k_mem) (by k_mem) (by intro p hp; repeat (first | exact hp | refine List.Mem.tail _ ?_)) (Deck.mono D3 ?_) rfl
        clear hret
        omega
end
end Mine
end

section
open PySem PySem.W PyProof.Rows
set_option Elab.async false
set_option linter.unusedVariables false
namespace Mine
/-- every question of the tree lies within n; answered by lt it ends in G -/
noncomputable def Gd (lt : Nat → Nat → Bool) (n : Nat) {α : Type} : KasT α → (α → Prop) → Prop
  | .ret a, G => G a
  | .ask i j k, G => i < n ∧ j < n ∧ Gd lt n (k (lt i j)) G
theorem Gd.bind {lt : Nat → Nat → Bool} {n : Nat} {α β : Type} {f : α → KasT β} {G : β → Prop} : ∀ (t : KasT α), Gd lt n t (fun a => Gd lt n (f a) G) → Gd lt n (t.bind f) G
  | .ret a, h => h
  | .ask i j k, h => ⟨h.1, h.2.1, Gd.bind (k (lt i j)) h.2.2⟩
theorem Gd.mono {lt : Nat → Nat → Bool} {n : Nat} {α : Type} {G G' : α → Prop} (hg : ∀ a, G a → G' a) : ∀ (t : KasT α), Gd lt n t G → Gd lt n t G'
  | .ret a, h => hg a h
  | .ask i j k, h => ⟨h.1, h.2.1, Gd.mono hg (k (lt i j)) h.2.2⟩
theorem Gd.wp {lt : Nat → Nat → Bool} {n : Nat} {α : Type} {cmp : Nat → Nat → (Bool → Shared → Prop) → Shared → Prop} {s : Shared} (hc : ∀ i j C, i < n → j < n → C (lt i j) s → cmp i j C s) {G : α → Prop} {Q : α → Shared → Prop} (hq : ∀ a, G a → Q a s) : ∀ (t : KasT α), Gd lt n t G → t.kasWp cmp Q s
  | .ret a, h => hq a h
  | .ask i j k, h => hc i j _ h.1 h.2.1 (Gd.wp hc hq (k (lt i j)) h.2.2)
theorem Gd.yes {lt : Nat → Nat → Bool} {n : Nat} {α : Type} {T₁ T₂ : KasT α} {G : α → Prop} (h : Gd lt n T₁ G) : Gd lt n (if true = true then T₁ else T₂) G := by rw [if_pos rfl]; exact h
theorem Gd.no {lt : Nat → Nat → Bool} {n : Nat} {α : Type} {T₁ T₂ : KasT α} {G : α → Prop} (h : Gd lt n T₂ G) : Gd lt n (if false = true then T₁ else T₂) G := by rw [if_neg (by simp)]; exact h
section
variable (key : Nat → Int) (n : Nat)
noncomputable abbrev ltK (i j : Nat) : Bool := decide (key i < key j)
/-- a permutation of the numbers below n -/
noncomputable abbrev PermN (n : Nat) (p : Array Nat) : Prop := p.Perm (List.toArray (List.range n))
/-- the key at a place -/
noncomputable abbrev kp (p : Array Nat) (i : Nat) : Int := key (p.getD i 0)
theorem PermN.size {n : Nat} {p : Array Nat} (h : PermN n p) : p.size = n := by rw [h.size_eq]; simp
theorem PermN.lt {n : Nat} {p : Array Nat} (h : PermN n p) {i : Nat} (hi : i < n) : p.getD i 0 < n := by
  have hs := h.size
  have e : p.getD i 0 = p[i] := by simp [Array.getD, hs, hi]
  rw [e]
  have : p[i] ∈ List.toArray (List.range n) := h.mem_iff.mp (Array.getElem_mem _)
  simpa using this
theorem getD_of {p q : Array Nat} {i j : Nat} (h : p[i]? = q[j]?) : p.getD i 0 = q.getD j 0 := by
  rw [Array.getD_eq_getD_getElem?, Array.getD_eq_getD_getElem?, h]
theorem kp_ne {key : Nat → Int} {n : Nat} (hinj : ∀ i j, i < n → j < n → key i = key j → i = j) {p : Array Nat} (h : PermN n p) {i j : Nat} (hi : i < n) (hj : j < n) (hij : i ≠ j) : kp key p i ≠ kp key p j := by
  intro e
  have hs := h.size
  have e2 := hinj _ _ (h.lt hi) (h.lt hj) e
  have nd : p.toList.Nodup := (Array.perm_iff_toList_perm.mp h).nodup_iff.mpr (by simpa using List.nodup_range)
  have a : p.getD i 0 = p.toList[i]'(by simpa [hs] using hi) := by simp [Array.getD, hs, hi]
  have b : p.getD j 0 = p.toList[j]'(by simpa [hs] using hj) := by simp [Array.getD, hs, hj]
  rw [a, b] at e2
  rw [List.nodup_iff_pairwise_ne, List.pairwise_iff_getElem] at nd
  rcases Nat.lt_or_gt_of_ne hij with q | q
  · exact nd i j _ _ q e2
  · exact nd j i _ _ q e2.symm
variable {key} {n}
theorem gd_asc {p : Array Nat} (hp : PermN n p) : ∀ (f m : Nat) (G : Nat → Prop), 1 ≤ m → m + f ≤ n → (∀ r, m ≤ r → r ≤ m + f → (∀ k, m ≤ k → k < r → kp key p (k - 1) ≤ kp key p k) → (r < m + f → kp key p r < kp key p (r - 1)) → G r) → Gd (ltK key) n (kas_asc p f m) G
  | 0, m, G, h1, h2, h => h m (Nat.le_refl _) (by omega) (fun k a b => by omega) (by omega)
  | f + 1, m, G, h1, h2, h => by
    refine ⟨hp.lt (by omega), hp.lt (by omega), ?_⟩
    by_cases c : key (p.getD m 0) < key (p.getD (m - 1) 0)
    · rw [show ltK key (p.getD m 0) (p.getD (m - 1) 0) = true from decide_eq_true c]
      refine Gd.yes ?_
      exact h m (Nat.le_refl _) (by omega) (fun k a b => by omega) fun _ => c
    · rw [show ltK key (p.getD m 0) (p.getD (m - 1) 0) = false from decide_eq_false c]
      refine Gd.no ?_
      refine gd_asc hp f (m + 1) G (by omega) (by omega) fun r a b hk hr => h r (by omega) (by omega) (fun k a' b' => ?_) fun q => hr (by omega)
      by_cases e : k = m
      · subst e; exact Int.not_lt.mp c
      · exact hk k (by omega) b'
theorem gd_desc (hinj : ∀ i j, i < n → j < n → key i = key j → i = j) {p : Array Nat} (hp : PermN n p) : ∀ (f m : Nat) (G : Array Nat × Nat × Nat → Prop), 1 ≤ m → m + f ≤ n → (∀ k, 1 ≤ k → k < m → kp key p k < kp key p (k - 1)) →
    (∀ r, m ≤ r → r ≤ m + f → (∀ k, 1 ≤ k → k < r → kp key p k < kp key p (k - 1)) → G (p, r, 0)) → Gd (ltK key) n (kas_desc f p m 0) G
  | 0, m, G, h1, h2, hd, h => h m (Nat.le_refl _) (by omega) hd
  | f + 1, m, G, h1, h2, hd, h => by
    refine ⟨hp.lt (by omega), hp.lt (by omega), ?_⟩
    by_cases c : key (p.getD m 0) < key (p.getD (m - 1) 0)
    · rw [show ltK key (p.getD m 0) (p.getD (m - 1) 0) = true from decide_eq_true c]
      refine Gd.yes ?_
      rw [if_neg (by omega)]
      refine gd_desc hinj hp f (m + 1) G (by omega) (by omega) (fun k a b => ?_) fun r a b hk => h r (by omega) (by omega) hk
      by_cases e : k = m
      · subst e; exact c
      · exact hd k a (by omega)
    · rw [show ltK key (p.getD m 0) (p.getD (m - 1) 0) = false from decide_eq_false c]
      refine Gd.no ?_
      refine ⟨hp.lt (by omega), hp.lt (by omega), ?_⟩
      have ne : kp key p m ≠ kp key p (m - 1) := kp_ne hinj hp (by omega) (by omega) (by omega)
      have lt : key (p.getD (m - 1) 0) < key (p.getD m 0) := by
        have : kp key p m ≠ kp key p (m - 1) := ne
        simp only [kp] at this
        omega
      rw [show ltK key (p.getD (m - 1) 0) (p.getD m 0) = true from decide_eq_true lt]
      refine Gd.yes ?_
      exact h m (Nat.le_refl _) (by omega) hd
/-- the first k places rise -/
noncomputable def Up (key : Nat → Int) (p : Array Nat) (k : Nat) : Prop := ∀ i j, i ≤ j → j < k → kp key p i ≤ kp key p j
theorem up_of {p : Array Nat} {k : Nat} (h : ∀ i, 1 ≤ i → i < k → kp key p (i - 1) ≤ kp key p i) : Up key p k := by
  intro i j hij
  induction j with
  | zero => intro _; rw [show i = 0 by omega]; exact Int.le_refl _
  | succ j ih =>
    intro hj
    by_cases e : i = j + 1
    · rw [e]; exact Int.le_refl _
    · exact Int.le_trans (ih (by omega) (by omega)) (h (j + 1) (by omega) hj)
theorem rev_perm {p : Array Nat} (hp : PermN n p) (i j : Nat) : PermN n (kas_rev p i j) := (mirror_perm p i j _).trans hp
theorem kp_rev {p : Array Nat} {j k : Nat} (hj : j ≤ p.size) : kp key (kas_rev p 0 j) k = if k < j then kp key p (j - 1 - k) else kp key p k := by
  have e := getElem?_mirror_all (xs := p) (i := 0) hj k
  have e' : (kas_rev p 0 j)[k]? = if 0 ≤ k ∧ k < j then p[0 + j - 1 - k]? else p[k]? := e
  unfold kp
  by_cases c : k < j
  · rw [if_pos ⟨by omega, c⟩] at e'
    rw [if_pos c, getD_of e', show 0 + j - 1 - k = j - 1 - k by omega]
  · rw [if_neg (by omega)] at e'
    rw [if_neg c, getD_of e']
/-- what the count of the first run leaves -/
noncomputable def Counted (key : Nat → Int) (n : Nat) (r : Nat × Array Nat) : Prop := 1 ≤ r.1 ∧ r.1 ≤ n ∧ PermN n r.2 ∧ Up key r.2 r.1
theorem gd_descPart (hinj : ∀ i j, i < n → j < n → key i = key j → i = j) {p : Array Nat} (hp : PermN n p) {G : Nat × Array Nat → Prop} (h2 : 2 ≤ n) (hd : kp key p 1 < kp key p 0) (h : ∀ r, Counted key n r → G r) : Gd (ltK key) n (kas_descPart 1 n p) G := by
  unfold kas_descPart
  refine Gd.bind _ (gd_desc hinj hp _ _ _ (by omega) (by omega) (fun k a b => ?_) fun r a b hk => ?_)
  · obtain rfl : k = 1 := by omega
    exact hd
  · dsimp only
    rw [if_neg (by omega)]
    unfold kas_tail3
    have hs := hp.size
    have hq := rev_perm hp 0 r
    have hup : Up key (kas_rev p 0 r) r := up_of fun i a' b' => by
      rw [kp_rev (by omega), kp_rev (by omega), if_pos (by omega), if_pos (by omega)]
      have := hk (r - 1 - (i - 1)) (by omega) (by omega)
      rw [show r - 1 - (i - 1) - 1 = r - 1 - i by omega] at this
      exact Int.le_of_lt this
    refine Gd.bind _ (gd_asc hq _ _ _ (by omega) (by omega) fun m c d hk2 _ => ?_)
    refine h _ ⟨by omega, by omega, hq, up_of fun i a' b' => ?_⟩
    by_cases e : i < r
    · exact hup (i - 1) i (by omega) e
    · exact hk2 i (by omega) b'
theorem gd_count (hinj : ∀ i j, i < n → j < n → key i = key j → i = j) {p : Array Nat} (hp : PermN n p) {G : Nat × Array Nat → Prop} (h2 : 2 ≤ n) (h : ∀ r, Counted key n r → G r) : Gd (ltK key) n (kas_count n p) G := by
  unfold kas_count
  refine Gd.bind _ (gd_asc hp _ _ _ (by omega) (by omega) fun r a b hk hr => ?_)
  have hup : Up key p r := up_of fun i a' b' => hk i a' b'
  by_cases e : r = n
  · subst e
    rw [if_pos (by simp)]
    exact h _ ⟨by omega, by omega, hp, hup⟩
  · rw [if_neg (by simpa using e)]
    by_cases c : r > 1
    · rw [if_pos c]
      refine ⟨hp.lt (by omega), hp.lt (by omega), ?_⟩
      have le := hup 0 (r - 1) (by omega) (by omega)
      have ne : kp key p 0 ≠ kp key p (r - 1) := kp_ne hinj hp (by omega) (by omega) (by omega)
      have lt : key (p.getD 0 0) < key (p.getD (r - 1) 0) := by simp only [kp] at le ne; omega
      rw [show ltK key (p.getD 0 0) (p.getD (r - 1) 0) = true from decide_eq_true lt]
      refine Gd.yes ?_
      exact h _ ⟨by omega, by omega, hp, hup⟩
    · rw [if_neg c]
      obtain rfl : r = 1 := by omega
      exact gd_descPart hinj hp h2 (hr (by omega)) h
theorem gd_place {p : Array Nat} (hp : PermN n p) {k : Nat} (hk : k < n) (hup : Up key p k) : ∀ (f l r : Nat) (G : Nat → Prop), l ≤ r → r ≤ k → r - l ≤ f → (∀ i, i < l → kp key p i ≤ kp key p k) → (∀ i, r ≤ i → i < k → kp key p k < kp key p i) →
    (∀ m, m ≤ k → (∀ i, i < m → kp key p i ≤ kp key p k) → (∀ i, m ≤ i → i < k → kp key p k < kp key p i) → G m) → Gd (ltK key) n (kas_place p k f l r) G
  | 0, l, r, G, h1, h2, h3, hl, hr, h => h l (by omega) hl fun i a b => hr i (by omega) b
  | f + 1, l, r, G, h1, h2, h3, hl, hr, h => by
    unfold kas_place
    by_cases c : l ≥ r
    · rw [if_pos c]; exact h l (by omega) hl fun i a b => hr i (by omega) b
    · rw [if_neg c]
      refine ⟨hp.lt hk, hp.lt (by omega), ?_⟩
      by_cases q : key (p.getD k 0) < key (p.getD ((l + r) / 2) 0)
      · rw [show ltK key (p.getD k 0) (p.getD ((l + r) / 2) 0) = true from decide_eq_true q]
        refine Gd.yes ?_
        refine gd_place hp hk hup f l ((l + r) / 2) G (by omega) (by omega) (by omega) hl (fun i a b => ?_) h
        exact Int.lt_of_lt_of_le q (hup _ i a b)
      · rw [show ltK key (p.getD k 0) (p.getD ((l + r) / 2) 0) = false from decide_eq_false q]
        refine Gd.no ?_
        refine gd_place hp hk hup f ((l + r) / 2 + 1) r G (by omega) (by omega) (by omega) (fun i a => ?_) hr h
        exact Int.le_trans (hup i ((l + r) / 2) (by omega) (by omega)) (Int.not_lt.mp q)
theorem kp_bubble {p : Array Nat} {k d i : Nat} (hk : k < p.size) (hd : d ≤ k) : kp key (bubble p k d) i = if i = k - d then kp key p k else if k - d < i ∧ i ≤ k then kp key p (i - 1) else kp key p i := by
  have e := getElem?_bubble hk d hd i
  unfold kp
  repeat' split
  all_goals simp_all [getD_of, Array.getD_eq_getD_getElem?]
theorem gd_bin : ∀ (f : Nat) (p : Array Nat) (k : Nat) (G : Array Nat → Prop), PermN n p → Up key p k → k + f = n → (∀ q, PermN n q → Up key q n → G q) → Gd (ltK key) n (kas_bin f p k) G
  | 0, p, k, G, hp, hup, e, h => h p hp (by rw [← e]; exact hup)
  | f + 1, p, k, G, hp, hup, e, h => by
    have hs := hp.size
    refine Gd.bind _ (gd_place hp (by omega) hup k 0 k _ (by omega) (Nat.le_refl _) (by omega) (fun i a => by omega) (fun i a b => by omega) fun m hm lo hi => ?_)
    refine gd_bin f _ (k + 1) G ((bubble_perm p k _).trans hp) (up_of fun i a b => ?_) (by omega) h
    rw [kp_bubble (by omega) (by omega), kp_bubble (by omega) (by omega), show k - (k - m) = m by omega]
    by_cases c1 : i < m
    · rw [if_neg (by omega), if_neg (by omega), if_neg (by omega), if_neg (by omega)]
      exact hup _ _ (by omega) (by omega)
    · by_cases c2 : i = m
      · rw [if_neg (by omega), if_neg (by omega), if_pos c2]
        exact lo _ (by omega)
      · by_cases c3 : i - 1 = m
        · rw [if_pos c3, if_neg c2, if_pos (by omega), c3]
          exact Int.le_of_lt (hi _ (by omega) (by omega))
        · rw [if_neg c3, if_pos (by omega), if_neg c2, if_pos (by omega)]
          exact hup _ _ (by omega) (by omega)
theorem gd_sort (hinj : ∀ i j, i < n → j < n → key i = key j → i = j) (h2 : 2 ≤ n) {G : Array Nat → Prop} (h : ∀ q, PermN n q → Up key q n → G q) : Gd (ltK key) n (kas_sort n) G := by
  unfold kas_sort
  refine Gd.bind _ (gd_count hinj (Array.Perm.refl _) h2 fun r hr => ?_)
  obtain ⟨a, b, c, d⟩ := hr
  by_cases e : r.1 < n
  · rw [if_pos e]
    refine gd_bin _ _ _ G c ?_ (by omega) h
    rw [show max r.1 1 = r.1 by omega]
    exact d
  · rw [if_neg e]
    exact h _ c (by rw [show n = r.1 by omega]; exact d)
end
end Mine
end

section
open PySem PySem.W PyProof.Rows PySem.Calls PyProof.Rows.LCg PySem.Spec
set_option Elab.async false
set_option maxRecDepth 100000
set_option linter.unusedVariables false
set_option maxHeartbeats 4000000
namespace Mine
theorem en_off1 {I : Addr} : ∀ {l : List (Addr × Obj)}, (∀ p ∈ l, p.1 ≠ I) → Off1 I l
  | [], _ => trivial
  | _ :: _, h => ⟨h _ List.mem_cons_self, en_off1 fun p hp => h p (List.mem_cons_of_mem _ hp)⟩
/-- where a turn of a comprehension over enumerate ends -/
noncomputable def EnEnd (h₀ : Heap) (L : Addr) (m : Str → Option Value) (s₁ : Shared) (e : Addr) (oe : Obj) (it : Addr) (oi : Obj) (C : Addr) (oC : Obj) (D : Addr) (oD : Obj) (S : List (Addr × Obj) → Prop) (r : Value → List (Addr × Obj) → Prop) (y : Value) (s₂ : Shared) : Prop :=
  ∃ h' tk led, s₂ = { s₁ with heap := h', toks := tk } ∧ Fr h₀ L h' m ∧ News h₀ L h' ((e, oe) :: (it, oi) :: (C, oC) :: (D, oD) :: led) ∧ (∀ p ∈ led, p.1 ≠ e ∧ p.1 ≠ it ∧ p.1 ≠ C ∧ p.1 ≠ D) ∧ S led ∧ r y led
theorem EnEnd.intro {h₀ : Heap} {L : Addr} {m : Str → Option Value} {s₁ : Shared} {e it C D : Addr} {oe oi oC oD : Obj} {S : List (Addr × Obj) → Prop} {r : Value → List (Addr × Obj) → Prop} {y : Value} {h' : Heap} {tk : Nat} {all : List (Addr × Obj)}
    (F : Fr h₀ L h' m) (N : News h₀ L h' all) (led : List (Addr × Obj)) (sub : ∀ p ∈ (e, oe) :: (it, oi) :: (C, oC) :: (D, oD) :: led, p ∈ all) (off : ∀ p ∈ led, p.1 ≠ e ∧ p.1 ≠ it ∧ p.1 ≠ C ∧ p.1 ≠ D) (hS : S led) (hr : r y led) :
    EnEnd h₀ L m s₁ e oe it oi C oC D oD S r y { s₁ with heap := h', toks := tk } := ⟨h', tk, led, rfl, F, fun p hp => N p (sub p hp), off, hS, hr⟩
noncomputable def EnTurns (prog : Program) (w : World) (A : Around) (h₀ : Heap) (L : Addr) (m : Str → Option Value) (env : Env) (elt : Expr) (x x₂ : Str) (scope : Scope) (cl : List (Str × Addr)) (s : Shared) (S : List (Addr × Obj) → Prop) (items : Array Value) (Fin : List Value → List (Addr × Obj) → Prop) (led₀ : List (Addr × Obj)) : Prop :=
  ∃ J : Nat → List Value → List (Addr × Obj) → Prop, J 0 [] led₀ ∧ (∀ i ys led v t e oe it oi C oC D m₂ h tk (E' : Value → Shared → Prop), i < items.size → J i ys led → items[i]? = some v → NsObj oC m₂ → m₂ x = some (.int i t) → m₂ x₂ = some v → Fr h₀ L h m → News h₀ L h ((e, oe) :: (it, oi) :: (C, oC) :: (D, lst ys) :: led) → (∀ p ∈ led, p.1 ≠ e ∧ p.1 ≠ it ∧ p.1 ≠ C ∧ p.1 ≠ D) →
      wpAny (model prog w) A (eval elt (compEnvC scope cl C env)) (EnEnd h₀ L m { s with heap := h, toks := tk } e oe it oi C oC D (lst ys) S (fun y led' => J (i + 1) (ys ++ [y]) led')) E' { s with heap := h, toks := tk }) ∧
    ∀ ys led, J items.size ys led → Fin ys led
section
variable {prog : Program} {w : World} {A : Around} {E : Value → Shared → Prop} {s : Shared} {h₀ : Heap} {L : Addr} {m : Str → Option Value} {env : Env}
theorem en_block {elt iter : Expr} {x x₂ : Str} {px px₂ tp : Pos} {tk} {scope : Scope} {cl : List (Str × Addr)} {pos : Pos} {s₂ : Shared} {e it l : Addr} {items : Array Value} {nl : Nat} {news : List (Addr × Obj)}
    {Fin : List Value → List (Addr × Obj) → Prop} {RR : Value → Addr → Result → Shared → Prop}
    (hsz : items.size ≤ sizeLine) (hei : @Ne Nat e it) (hm : (l, listOf items nl) ∈ news) (he : IsEnum s₂.heap e it 0 .none) (hit : s₂.heap.IsListIter it l 0)
    (hcell : ∀ y ∈ scope.names, y.2 ≠ .cell) (hkind : scope.kind = .function) (hx : scope.names.lookup x = some .local) (hx₂ : scope.names.lookup x₂ = some .local) (hxx : x ≠ x₂) (hh : A.handled = none)
    (F : Fr h₀ L s₂.heap m) (N : News h₀ L s₂.heap news) (hIL : @Ne Nat L e ∧ @Ne Nat L it) (hI₀ : h₀.get? e = none ∧ h₀.get? it = none) (off : ∀ p ∈ news, @Ne Nat p.1 e ∧ @Ne Nat p.1 it)
    (R : EnTurns prog w A h₀ L m env elt x x₂ scope cl s₂ (fun led => (l, listOf items nl) ∈ led) items Fin news)
    (hRR : ∀ D C h tk m' ys news', Fr h₀ L h m → News h₀ L h ((D, lst ys) :: news') → Off1 D news' → h.Ns C m' → h₀.get? C = none → h₀.get? D = none → C ≠ L → D ≠ L → C ≠ D → (∀ p ∈ news', p.1 ≠ C) → Fin ys news' → RR (.ref D) C (.ok .next) { s₂ with heap := h, toks := tk }) :
    wpAny (model prog w) A (newList []) (fun acc s₃ => wpAny (model prog w) A (newFunctionEnv scope env.globals cl [] env.qual none .none (some env)) (fun cenv s₄ =>
      codeAny (model prog w) A (.compStart (.ListComp elt [⟨.Tuple [.Name x px, .Name x₂ px₂] tk tp, iter, [], 0⟩] scope pos) 0 (.ref e) acc { cenv with scope := relabel scope env }) (RR acc cenv.locals) s₄) E s₃) E s₂ := by
  obtain ⟨J, hJ0, turn, fin⟩ := R
  have hle : l ≠ e := (off _ hm).1
  have hli : l ≠ it := (off _ hm).2
  have W := WalksT.enumerate (prog := prog) (w := w) hh e it l hei hle hli items
  refine wpAny_newObj_type (wpAny_newFunctionEnv hcell (by intro y hy; simp at hy) (fun h₁ hns₁ hsb₁ => ?_) hkind)
  dsimp only at hns₁ hsb₁ ⊢
  generalize hH2 : s₂.heap.push { cls := .type "list", dict := none, data := .seq ([] : List Value).toArray } = H2 at hns₁ hsb₁ ⊢
  have hC : H2.objs.size = s₂.heap.objs.size + 1 := by rw [← hH2, Heap.size_push]
  have hDC : s₂.heap.objs.size ≠ H2.objs.size := by rw [hC]; exact Nat.ne_of_lt (Nat.lt_succ_self _)
  have below : ∀ b, b < s₂.heap.objs.size → b ≠ H2.objs.size ∧ b ≠ s₂.heap.objs.size := fun b hb => ⟨by rw [hC]; exact Nat.ne_of_lt (Nat.lt_succ_of_lt hb), Nat.ne_of_lt hb⟩
  have helt : e < s₂.heap.objs.size := Heap.lt_size he
  have hilt : it < s₂.heap.objs.size := by obtain ⟨_, q, _⟩ := hit; exact Heap.lt_size q
  have old : ∀ b o, s₂.heap.get? b = some o → h₁.get? b = some o := fun b o q => hsb₁.extBut b o (below b (Heap.lt_size q)).1 (Heap.get?_push_of_some _ (hH2 ▸ Heap.get?_push_of_some _ q))
  have hacc : h₁.get? s₂.heap.objs.size = some (lst []) := hsb₁.extBut _ _ hDC (Heap.get?_push_of_some _ (hH2 ▸ Heap.get?_push_size _ rfl))
  have he₁ : IsEnum h₁ e it 0 .none := old _ _ he
  have hit₁ : h₁.IsListIter it l 0 := hit.at fun o q => old _ _ q
  have hl₁ : h₁.IsList l items := ⟨_, old _ _ (N _ hm).1, rfl, _, rfl⟩
  have fresh : ∀ a, s₂.heap.objs.size ≤ a → s₂.heap.get? a = none := fun a ha => by
    cases q : s₂.heap.get? a with
    | none => rfl
    | some o' => exact absurd (Heap.lt_size q) (Nat.not_lt.mpr ha)
  have fresh₀ : ∀ a, s₂.heap.objs.size ≤ a → h₀.get? a = none := fun a ha => by
    cases q : h₀.get? a with
    | none => rfl
    | some o' => have := F.keep a o' q; rw [fresh a ha] at this; cases this
  have hD₀ : h₀.get? s₂.heap.objs.size = none := fresh₀ _ (Nat.le_refl _)
  have hC₀ : h₀.get? H2.objs.size = none := fresh₀ _ (by rw [hC]; exact Nat.le_succ _)
  have hLlt : L < s₂.heap.objs.size := F.ns.lt
  have hDL : s₂.heap.objs.size ≠ L := Ne.symm (below L hLlt).2
  have hCL : H2.objs.size ≠ L := Ne.symm (below L hLlt).1
  have hCe : e ≠ H2.objs.size := (below e helt).1
  have hDe : e ≠ s₂.heap.objs.size := (below e helt).2
  have hCi : it ≠ H2.objs.size := (below it hilt).1
  have hDi : it ≠ s₂.heap.objs.size := (below it hilt).2
  have off₀ : ∀ p ∈ news, p.1 ≠ e ∧ p.1 ≠ it ∧ p.1 ≠ H2.objs.size ∧ p.1 ≠ s₂.heap.objs.size := fun p hp => ⟨(off p hp).1, (off p hp).2, (below _ (Heap.lt_size (N p hp).1)).1, (below _ (Heap.lt_size (N p hp).1)).2⟩
  have loop : ∀ s₃ : Shared, s₃ = { s₂ with heap := h₁, toks := s₂.toks + ([] : List (Str × Value)).length } →
      codeAny (model prog w) A (.compLoop (.ListComp elt [⟨.Tuple [.Name x px, .Name x₂ px₂] tk tp, iter, [], 0⟩] scope pos) 0 (.ref e) (.ref s₂.heap.objs.size) (compEnvC scope cl H2.objs.size env))
        (RR (.ref s₂.heap.objs.size) H2.objs.size) s₃ := by
    rintro s₃ rfl
    refine LCp.codeAny_compLoop_pair
      (fun k s' => ∃ h' tk i ys m' news', s' = { s₂ with heap := h', toks := tk } ∧ i ≤ items.size ∧ k = items.size + 1 - i ∧ ys.length = i ∧ ((∃ old, IsEnum h' e it i old) ∧ h'.IsListIter it l i) ∧ Fr h₀ L h' m ∧ h'.Ns H2.objs.size m' ∧ News h₀ L h' ((s₂.heap.objs.size, lst ys) :: news') ∧
        (∀ p ∈ news', p.1 ≠ e ∧ p.1 ≠ it ∧ p.1 ≠ H2.objs.size ∧ p.1 ≠ s₂.heap.objs.size) ∧ (l, listOf items nl) ∈ news' ∧ J i ys news') ?_ (items.size + 1)
      ⟨h₁, _, 0, [], _, news, rfl, Nat.zero_le _, rfl, rfl, ⟨⟨_, he₁⟩, hit₁⟩, F.keeps old, hns₁, fun p hp => ?_, off₀, hm, hJ0⟩
    · rintro k s' pzz
      refine ex6 pzz ?_; clear pzz; intro h' tk i ys m' news' pzz; refine and11 pzz ?_; clear pzz; rintro rfl hi rfl hyl hst' F' hn' N' off' hS' hJ
      have hl' : h'.IsList l items := ⟨_, (N' _ (List.mem_cons_of_mem _ hS')).1, rfl, _, rfl⟩
      have nw : ∀ b, b ≠ e → b ≠ it → b ∉ [e, it] := fun b h1 h2 hb => by
        rcases List.mem_cons.mp hb with q | hb
        · exact h1 q
        · exact h2 (List.mem_singleton.mp hb)
      by_cases hlt : i < items.size
      · refine W.item i _ _ _ hlt ⟨hst'.1, hst'.2, hl'⟩ fun T vals h₂ tk₂ hPt _ hT hMid hk₂ => ?_
        obtain ⟨t, v, hv, rfl⟩ := hPt
        refine W.go [.Name x px, .Name x₂ px₂] _ tp i T _ _ _ hMid fun h₃ hst₃ hk₃ => ?_
        have ht₃ : h₃.IsTuple T #[.int i t, v] := hT.at fun o q => hk₃ T o (W.apart i T h₂ hMid) q
        have up₃ : ∀ c o, c ≠ e → c ≠ it → h'.get? c = some o → h₃.get? c = some o := fun c o h1 h2 q => hk₃ c o (nw c h1 h2) (hk₂ c o (nw c h1 h2) q)
        refine kcp_assign (env := compEnvC scope cl H2.objs.size env) hh ht₃ (lookup_relabel_local hx) (lookup_relabel_local hx₂) (by simp [compEnvC, relabel, hkind]) (hn'.at' fun o q => up₃ _ o (Ne.symm hCe) (Ne.symm hCi) q) fun h₄ tk₄ hn₄ hs₄ => ?_
        have up : ∀ c o, c ≠ e → c ≠ it → c ≠ H2.objs.size → h'.get? c = some o → h₄.get? c = some o := fun c o h1 h2 h3 q => hs₄ c o h3 (up₃ c o h1 h2 q)
        obtain ⟨⟨ov, hE₃⟩, hI₃, _⟩ := hst₃
        have hE₄ : IsEnum h₄ e it ((i + 1 : Nat) : Int) ov := hs₄ e _ hCe hE₃
        have hI₄ : h₄.IsListIter it l (i + 1) := hI₃.at fun o q => hs₄ it o hCi q
        obtain ⟨oe, hee, hoe⟩ : ∃ oe : Obj, h₄.get? e = some oe ∧ ∀ h : Heap, h.get? e = some oe → ∃ ov, IsEnum h e it ((i + 1 : Nat) : Int) ov := ⟨_, hE₄, fun _ q => ⟨_, q⟩⟩
        obtain ⟨oi, hie, hoi⟩ : ∃ oi : Obj, h₄.get? it = some oi ∧ ∀ h : Heap, h.get? it = some oi → h.IsListIter it l (i + 1) := by
          obtain ⟨o, q1, q2⟩ := hI₄
          exact ⟨o, q1, fun h q => ⟨o, q, q2⟩⟩
        obtain ⟨oC, heC, hoC⟩ := ns_obj hn₄
        have F₄ : Fr h₀ L h₄ m := ⟨F'.ns.at' fun o q => up _ o hIL.1 hIL.2 (Ne.symm hCL) q, fun c o q => up c o (fun z => by rw [z, hI₀.1] at q; cases q) (fun z => by rw [z, hI₀.2] at q; cases q) (fun z => by rw [z, hC₀] at q; cases q) (F'.keep c o q), F'.above⟩
        have N₄ : News h₀ L h₄ ((e, oe) :: (it, oi) :: (H2.objs.size, oC) :: (s₂.heap.objs.size, lst ys) :: news') := fun q hq => by
          rcases List.mem_cons.mp hq with rfl | hq
          · exact ⟨hee, Ne.symm hIL.1, hI₀.1⟩
          · rcases List.mem_cons.mp hq with rfl | hq
            · exact ⟨hie, Ne.symm hIL.2, hI₀.2⟩
            · rcases List.mem_cons.mp hq with rfl | hq
              · exact ⟨heC, hCL, hC₀⟩
              · have z := N' q hq
                rcases List.mem_cons.mp hq with rfl | hq
                · exact ⟨up _ _ (Ne.symm hDe) (Ne.symm hDi) hDC z.1, z.2⟩
                · exact ⟨up _ _ (off' q hq).1 (off' q hq).2.1 (off' q hq).2.2.1 z.1, z.2⟩
        refine wpAny_mono (turn i ys news' v t e oe it oi H2.objs.size oC s₂.heap.objs.size _ h₄ _ _ hlt hJ hv hoC (by simp [hxx]) (by simp) F₄ N₄ off') (fun y s₅ h₅ => ?_) fun _ _ q => q
        obtain ⟨h₅, tk₅, news₅, rfl, F₅, N₅, off₅, hS₅, hJ₅⟩ := h₅
        have zE := (N₅ (e, oe) List.mem_cons_self).1
        have zI := (N₅ (it, oi) (List.mem_cons_of_mem _ List.mem_cons_self)).1
        have zC := (N₅ (H2.objs.size, oC) (List.mem_cons_of_mem _ (List.mem_cons_of_mem _ List.mem_cons_self))).1
        have zD := (N₅ (s₂.heap.objs.size, lst ys) (List.mem_cons_of_mem _ (List.mem_cons_of_mem _ (List.mem_cons_of_mem _ List.mem_cons_self)))).1
        have N₅' : News h₀ L h₅ news₅ := fun q hq => N₅ q (List.mem_cons_of_mem _ (List.mem_cons_of_mem _ (List.mem_cons_of_mem _ (List.mem_cons_of_mem _ hq))))
        refine append_at (hsz := by show ys.toArray.size ≤ sizeLine; rw [List.size_toArray, hyl]; exact Nat.le_trans hi hsz) zD fun h₆ hs₆ hD₆ => ?_
        refine ⟨items.size + 1 - (i + 1), by omega, h₆, tk₅, i + 1, ys ++ [y], _, news₅, rfl, hlt, rfl, by rw [List.length_append, List.length_singleton, hyl], ⟨hoe h₆ (hs₆.extBut e oe hDe zE), hoi h₆ (hs₆.extBut it oi hDi zI)⟩, F₅.change hs₆ hDL hD₀,
          (hoC.ns zC).sameBut hs₆ (Ne.symm hDC), fun q hq => ?_, off₅, hS₅, hJ₅⟩
        rcases List.mem_cons.mp hq with rfl | hq
        · exact ⟨hD₆.trans (congrArg some (lst_snoc ys y)), hDL, hD₀⟩
        · exact ⟨hs₆.extBut _ _ (off₅ q hq).2.2.2 (N₅' q hq).1, (N₅' q hq).2⟩
      · obtain rfl : i = items.size := Nat.le_antisymm hi (Nat.not_lt.mp hlt)
        refine W.done _ _ _ ⟨hst'.1, hst'.2, hl'⟩ fun h₂ tk₂ hk₂ => ?_
        have up₂ : ∀ c o, c ≠ e → c ≠ it → h'.get? c = some o → h₂.get? c = some o := fun c o h1 h2 q => hk₂ c o (nw c h1 h2) q
        have F₂ : Fr h₀ L h₂ m := ⟨F'.ns.at' fun o q => up₂ _ o hIL.1 hIL.2 q, fun c o q => up₂ c o (fun z => by rw [z, hI₀.1] at q; cases q) (fun z => by rw [z, hI₀.2] at q; cases q) (F'.keep c o q), F'.above⟩
        refine hRR _ _ h₂ tk₂ _ ys news' F₂ (fun q hq => ?_) (en_off1 fun p hp => (off' p hp).2.2.2) (hn'.at' fun o q => up₂ _ o (Ne.symm hCe) (Ne.symm hCi) q) hC₀ hD₀ hCL hDL (Ne.symm hDC) (fun p hp => (off' p hp).2.2.1) (fin _ _ hJ)
        have z := N' q hq
        rcases List.mem_cons.mp hq with rfl | hq
        · exact ⟨up₂ _ _ (Ne.symm hDe) (Ne.symm hDi) z.1, z.2⟩
        · exact ⟨up₂ _ _ (off' q hq).1 (off' q hq).2.1 z.1, z.2⟩
    · rcases List.mem_cons.mp hp with rfl | hp
      · exact ⟨hacc, hDL, hD₀⟩
      · exact ⟨old _ _ (N p hp).1, (N p hp).2⟩
  exact codeAny_compStart_list (loop _ rfl) (W.self 0 _ _ _ ⟨⟨_, he₁⟩, hit₁, hl₁⟩ (loop _ rfl))
/-- what the iterable of the comprehension must be: an enumerate of a list of the ledger -/
noncomputable def EnSrc (prog : Program) (w : World) (A : Around) (h₀ : Heap) (L : Addr) (m : Str → Option Value) (env : Env) (elt : Expr) (x x₂ : Str) (scope : Scope) (cl : List (Str × Addr)) (Fin : Shared → List Value → List (Addr × Obj) → Prop) (xv : Value) (s₁ : Shared) : Prop :=
  ∃ e it l items nl news, xv = .ref e ∧ A.handled = none ∧ Fr h₀ L s₁.heap m ∧ News h₀ L s₁.heap news ∧ (l, listOf items nl) ∈ news ∧ items.size ≤ sizeLine ∧ IsEnum s₁.heap e it 0 .none ∧ s₁.heap.IsListIter it l 0 ∧ (@Ne Nat e it) ∧
    (@Ne Nat L e ∧ @Ne Nat L it) ∧ (h₀.get? e = none ∧ h₀.get? it = none) ∧ (∀ p ∈ news, @Ne Nat p.1 e ∧ @Ne Nat p.1 it) ∧ EnTurns prog w A h₀ L m env elt x x₂ scope cl s₁ (fun led => (l, listOf items nl) ∈ led) items (Fin s₁) news
theorem en_call {elt : Expr} {x x₂ : Str} {scope : Scope} {cl : List (Str × Addr)} {Fin : Shared → List Value → List (Addr × Obj) → Prop} {l : Addr} {items : Array Value} {nl : Nat} {news : List (Addr × Obj)} (hh : A.handled = none) (F : Fr h₀ L s.heap m) (N : News h₀ L s.heap news) (hm : (l, listOf items nl) ∈ news) (hsz : items.size ≤ sizeLine)
    (R : ∀ g, EnTurns prog w A h₀ L m env elt x x₂ scope cl { s with heap := g } (fun led => (l, listOf items nl) ∈ led) items (Fin { s with heap := g }) news) :
    wpAny (model prog w) A (call (.type "enumerate") [.ref l]) (EnSrc prog w A h₀ L m env elt x x₂ scope cl Fin) E s := by
  have hl : s.heap.IsList l items := ⟨_, (N _ hm).1, rfl, _, rfl⟩
  refine call_enumerate_list hl fun h' hE hI hsz' hk => ?_
  have hL : L < s.heap.objs.size := F.ns.lt
  refine ⟨_, _, l, items, nl, news, rfl, hh, F.keeps hk, N.grown hk, hm, hsz, hE, hI, Nat.succ_ne_self _, ⟨Nat.ne_of_lt (Nat.lt_succ_of_lt hL), Nat.ne_of_lt hL⟩, ⟨ktu_new F (Nat.le_succ _), ktu_new F (Nat.le_refl _)⟩, fun p hp => ?_, R h'⟩
  have := Heap.lt_size (N p hp).1
  exact ⟨Nat.ne_of_lt (Nat.lt_succ_of_lt this), Nat.ne_of_lt this⟩
theorem ListComp_En {elt iter : Expr} {x x₂ : Str} {px px₂ tp : Pos} {tk} {scope : Scope} {cl : List (Str × Addr)} {pos : Pos} {Q : Value → Shared → Prop} (F₀ : Fr h₀ L s.heap m)
    (hclos : closureFor scope env = pure cl) (hcell : ∀ y ∈ scope.names, y.2 ≠ .cell) (hkind : scope.kind = .function)
    (hnames : ∀ y ∈ scope.names, y.2 = .local → scope.names.lookup y.1 = some .local) (hx : scope.names.lookup x = some .local) (hx₂ : scope.names.lookup x₂ = some .local) (hxx : x ≠ x₂)
    (h : wpAny (model prog w) A (eval iter env) (EnSrc prog w A h₀ L m env elt x x₂ scope cl (fun s₂ => FinE h₀ L m s₂ Q)) E s)
    (hs : ∀ x, foldedSetIterable iter env x = pure x := by intro _; rfl) :
    wpAny (model prog w) A (eval (.ListComp elt [⟨.Tuple [.Name x px, .Name x₂ px₂] tk tp, iter, [], 0⟩] scope pos) env) Q E s := by
  rw [eval_ListComp]
  refine wpAny_comprehension_free (use := none) rfl hs hclos hkind hnames (wpAny_mono h (fun xv s₁ h₁ => ?_) fun _ _ e => e)
  obtain ⟨e, it, l, items, nl, news, rfl, hh, F, N, hm, hsz, hE, hI, hei, hLn, h0n, off, R⟩ := h₁
  refine wpAny_pyIter_enum hE ?_
  refine en_block hsz hei hm hE hI hcell hkind hx hx₂ hxx hh F N hLn h0n off R ?_
  intro D C h tk m' ys news' F' N' o1 hn hC₀ hD₀ hCL hDL hCD offC fin
  refine ⟨m', hn, fun h'' hs'' => fin D h'' tk (F'.change hs'' hCL hC₀) (fun p hp => ?_) o1⟩
  refine ⟨hs''.extBut _ _ ?_ (N' p hp).1, (N' p hp).2⟩
  rcases List.mem_cons.mp hp with rfl | hp
  · exact Ne.symm hCD
  · exact offC p hp
end
end Mine
end

section
open PySem PySem.W PyProof.Rows PySem.Calls PyProof.Rows.LCg
set_option Elab.async false
set_option maxRecDepth 100000
set_option linter.unusedVariables false
set_option maxHeartbeats 4000000
namespace Mine
/-- the key by which the numbers are ordered: falling values, like ones by number -/
noncomputable def keyAt (vals : List Int) (i : Nat) : Int := -(vals.getD i 0) * 64 + i
/-- the numbers in their order -/
noncomputable def IsOrd (vals : List Int) (ord : List Nat) : Prop := ord.Perm (List.range vals.length) ∧ ord.Pairwise fun i j => keyAt vals i < keyAt vals j
noncomputable def ValsIn (vals : List Int) : Prop := ∀ v ∈ vals, -1000000 ≤ v ∧ v ≤ 1000000
/-- the item j of ys is a tuple of the ledger, (-value, j) -/
noncomputable def TupAt (vals : List Int) (led : List (Addr × Obj)) (j : Nat) (v : Value) : Prop :=
  ∃ (t : Addr) (o : Obj) (k1 k2 : Tok) (n : Nat), v = .ref t ∧ (t, o) ∈ led ∧ o.cls = .type "tuple" ∧ o.data = .seq #[.int (-(vals.getD j 0)) k1, .int j k2] n
noncomputable def TupsAre (vals : List Int) (led : List (Addr × Obj)) (ys : List Value) : Prop := ∀ j v, ys[j]? = some v → TupAt vals led j v
theorem TupsAre.snoc {vals : List Int} {led : List (Addr × Obj)} {ys : List Value} {t : Addr} {o : Obj} {k1 k2 : Tok} {n : Nat} {x : Int} {i : Nat} (h : TupsAre vals led ys) (hy : ys.length = i) (hc : o.cls = .type "tuple") (hd : o.data = .seq #[.int (-x) k1, .int (i : Int) k2] n) (hx : vals[i]? = some x) : TupsAre vals ((t, o) :: led) (ys ++ [.ref t]) := by
  intro j v hj
  by_cases q : j < i
  · rw [List.getElem?_append_left (by omega)] at hj
    obtain ⟨t', o', a, b, m, e1, e2, e3, e4⟩ := h j v hj
    exact ⟨t', o', a, b, m, e1, .tail _ e2, e3, e4⟩
  · rw [List.getElem?_append_right (by omega)] at hj
    by_cases q2 : j = i
    · subst q2
      rw [hy, Nat.sub_self] at hj
      obtain rfl : Value.ref t = v := by simpa using hj
      refine ⟨t, o, k1, k2, n, rfl, .head _, hc, ?_⟩
      rw [hd, List.getD_eq_getElem?_getD, hx]
      rfl
    · rw [List.getElem?_eq_none (by simp; omega)] at hj
      cases hj
theorem keyAt_inj {vals : List Int} (h : vals.length ≤ 12) : ∀ i j, i < vals.length → j < vals.length → keyAt vals i = keyAt vals j → i = j := by
  intro i j hi hj e
  unfold keyAt at e
  omega
theorem isOrd_one {vals : List Int} (h : vals.length = 1) : IsOrd vals [0] := ⟨by rw [h]; exact List.Perm.refl _, List.pairwise_singleton _ _⟩
theorem isOrd_of {vals : List Int} (h : vals.length ≤ 12) {q : Array Nat} (hp : PermN vals.length q) (hu : Up (keyAt vals) q vals.length) : IsOrd vals q.toList := by
  have hs := hp.size
  have pl := Array.perm_iff_toList_perm.mp hp
  refine ⟨by simpa using pl, ?_⟩
  rw [List.pairwise_iff_getElem]
  intro i j hi hj hij
  have hi' : i < vals.length := by simpa [hs] using hi
  have hj' : j < vals.length := by simpa [hs] using hj
  have le := hu i j (by omega) hj'
  have ne : kp (keyAt vals) q i ≠ kp (keyAt vals) q j := kp_ne (keyAt_inj h) hp hi' hj' (by omega)
  have a : q.getD i 0 = q.toList[i] := by simp [Array.getD, hs, hi']
  have b : q.getD j 0 = q.toList[j] := by simp [Array.getD, hs, hj']
  unfold kp at le ne
  rw [a, b] at le ne
  omega
section
variable {prog : Program} {w : World} {A : Around} {E : Value → Shared → Prop} {s : Shared} {h₀ : Heap} {L : Addr} {m : Str → Option Value} {news : List (Addr × Obj)} {vals : List Int} {ys : List Value}
theorem list_sort_one {a : Addr} {v : Value} {n : Nat} {P : PySem.Fin → Shared → Prop} (ho : s.heap.get? a = some (seqObj "list" #[v] n)) (h : P (.done (.ret .none)) { s with heap := sortedHeap s.heap a [v] #[v] }) :
    wpAny (model prog w) A (Builtin.«list.sort» ⟨[.ref a], []⟩) P E s := by
  rw [list_sort_plain]
  have ha : a < s.heap.objs.size := Heap.lt_size ho
  refine wpAny_bind (listItems_at ho rfl ?_)
  refine wpAny_bind (listUpdate_at ho rfl ?_)
  obtain ⟨e1, ho1⟩ : ∃ e1, (s.heap.update a (Obj.mapSeq fun _ => #[])).get? a = some (seqObj "list" #[] e1) := ⟨_, get?_update_seq ho (fun _ => #[])⟩
  refine wpAny_bind (seqEpoch_at ho1 rfl ?_)
  refine wpAny_bind (wpAny_newTuple ?_)
  refine wpAny_bind (wpAny_newList ?_)
  refine wpAny_holding ?_
  have ho6 : (((s.heap.update a (Obj.mapSeq fun _ => #[])).push (seqObj "tuple" [v].toArray 0)).push (seqObj "list" #[] 0)).get? a = some (seqObj "list" #[] e1) := by
    rw [Heap.get?_push_ne _ _ _ (by rw [size_push', Heap.size_update]; exact Nat.ne_of_lt (Nat.lt_succ_of_lt ha)), Heap.get?_push_ne _ _ _ (by rw [Heap.size_update]; exact Nat.ne_of_lt ha)]
    exact ho1
  show wpAny (model prog w) A _ P E { s with heap := ((s.heap.update a (Obj.mapSeq fun _ => #[])).push (seqObj "tuple" [v].toArray 0)).push (seqObj "list" #[] 0) }
  dsimp only
  have h2 : (#[v] : Array Value).size < 2 := by simp
  have hz : (#[v] : Array Value).zip #[v] = #[(v, v)] := by simp
  rw [if_pos h2, if_pos h2, hz]
  refine wpAny_bind (wpAny_pure ?_)
  rw [StateT.run_pure]
  refine wpAny_bind (wpAny_pure ?_)
  dsimp only
  refine wpAny_bind (seqEpoch_at ho6 rfl ?_)
  refine wpAny_bind (listUpdate_at ho6 rfl ?_ (hsz2 := by rw [Array.size_map]; show (#[(v, v)] : Array Keyed).size ≤ _; rw [sizeLine_eq]; simp))
  simp only [bne_self_eq_false, Bool.false_eq_true, if_false]
  have hm : Array.map (fun x => x.snd) (arrOf (SortSt.mk' general' #[(v, v)] #[] 7 none)) = #[v] := by
    show Array.map (fun x : Keyed => x.snd) #[(v, v)] = #[v]
    simp
  rw [hm]
  exact wpAny_pure h
theorem sorted_single {l : Addr} {v : Value} {Q : Value → Shared → Prop} (F : Fr h₀ L s.heap m) (N : News h₀ L s.heap news) (hl : s.heap.IsList l #[v])
    (h : ∀ D c h', Fr h₀ L h' m → News h₀ L h' ((D, listOf #[v] c) :: news) → (∀ q ∈ news, @LT.lt Nat _ q.1 D) → Q (.ref D) { s with heap := h' }) :
    wpAny (model prog w) A (call (.builtin "sorted") [.ref l]) Q E s := by
  refine Calls.call_function_entry kind_sorted plain_sorted entry_sorted (args_sorted1 _) ?_
  unfold Builtin.«sorted»
  refine wpAny_bind (m := checkCount "sorted" 1 1 _) (wpAny_pure ?_)
  refine wpAny_bind (collect_list (vs := [v]) hl ?_ (by rw [sizeLine_eq]; simp))
  refine wpAny_bind (wpAny_newList ?_ (by rw [sizeLine_eq]; simp))
  have hsz : ((s.heap.push (seqObj "list" #[] 0)).update s.heap.objs.size (Obj.mapSeq (· ++ [v].toArray))).objs.size = s.heap.objs.size + 1 := by
    rw [Heap.size_update, size_push']
  have hoL : (((s.heap.push (seqObj "list" #[] 0)).update s.heap.objs.size (Obj.mapSeq (· ++ [v].toArray))).push (seqObj "list" [v].toArray 0)).get? (s.heap.objs.size + 1) = some (seqObj "list" [v].toArray 0) := by
    rw [← hsz]; exact Heap.get?_push_size _ rfl
  show wpAny _ _ _ _ _ { s with heap := ((s.heap.push (seqObj "list" #[] 0)).update s.heap.objs.size (Obj.mapSeq (· ++ [v].toArray))).push (seqObj "list" [v].toArray 0) }
  rw [hsz]
  refine wpAny_bind (wpAny_holding (wpAny_call_entry slot_list_sort ⟨_, hoL, rfl⟩ entry_list_sort (list_sort_one hoL ⟨_, rfl, ?_⟩) (args_list_sort _)))
  obtain ⟨e, he⟩ := sortedAll_at s.heap [v] #[v]
  exact wpAny_pure ⟨_, rfl, h _ e _ (F.kept fun _ _ => sortedAll_old) (N.kept_cons F (fun _ _ => sortedAll_old) (Nat.le_succ _) he) fun q hq => Nat.lt_succ_of_lt (Heap.lt_size (N q hq).1)⟩
theorem ask_tups {vs : List Value} {i j : Nat} {C : Bool → Shared → Prop} (hlen : vals.length ≤ 12) (hy : vs.length = vals.length) (N : News h₀ L s.heap news) (hT : TupsAre vals news vs) (hi : i < vals.length) (hj : j < vals.length) (h : C (ltK (keyAt vals) i j) s) :
    kas_ask prog w A (tuples' true) vs i j C s := by
  have hgi : vs[i]? = some (vs.getD i .none) := by rw [List.getD_eq_getElem?_getD, List.getElem?_eq_getElem (by omega)]; rfl
  have hgj : vs[j]? = some (vs.getD j .none) := by rw [List.getD_eq_getElem?_getD, List.getElem?_eq_getElem (by omega)]; rfl
  obtain ⟨ti, oi, a1, a2, na, e1, m1, c1, d1⟩ := hT i _ hgi
  obtain ⟨tj, oj, b1, b2, nb, e2, m2, c2, d2⟩ := hT j _ hgj
  unfold kas_ask
  rw [e1, e2]
  refine kat_lt (N _ m1).1 d1 (N _ m2).1 d2 ?_
  show KatLex prog w A true _ C [(.int (-(vals.getD i 0)) a1, .int (-(vals.getD j 0)) b1), (.int i a2, .int j b2)] 0 s
  refine kat_cons (wpAny_eqBool_int ?_)
  refine kat_go (fun q => ?_) (fun q => ?_)
  · have q' : -(vals.getD i 0) = -(vals.getD j 0) := by simpa using q
    refine kat_yes (kat_cons (wpAny_eqBool_int ?_))
    refine kat_go (fun z => ?_) (fun z => ?_)
    · have z' : (i : Int) = j := by simpa using z
      refine kat_yes (kat_nil ?_)
      rw [show ltK (keyAt vals) i j = false from decide_eq_false (by unfold keyAt; omega)] at h
      exact h
    · refine kat_no (kat_one _ _ (PyProof.Rows.lt_int ?_))
      rw [show ltK (keyAt vals) i j = decide ((i : Int) < j) from by unfold ltK keyAt; exact decide_eq_decide.mpr (by omega)] at h
      exact h
  · have q' : -(vals.getD i 0) ≠ -(vals.getD j 0) := by simpa using q
    refine kat_no (oneLt_int ?_)
    rw [show ltK (keyAt vals) i j = decide (-(vals.getD i 0) < -(vals.getD j 0)) from by unfold ltK keyAt; exact decide_eq_decide.mpr (by omega)] at h
    exact h
theorem katTups_of {h : Heap} (N : News h₀ L h news) : ∀ (vs : List Value) (k : Nat), (∀ j v, vs[j]? = some v → TupAt vals news (k + j) v) → ∃ fs, KatTups h vs fs ∧ fs.length = vs.length ∧ ∀ f ∈ fs, ∃ n t, f = .int n t
  | [], k, _ => ⟨[], KatTups.nil, rfl, fun _ q => nomatch q⟩
  | v :: vs, k, hT => by
    obtain ⟨t, o, a1, a2, n, rfl, mm, c, dd⟩ := hT 0 v rfl
    obtain ⟨fs, h1, h2, h3⟩ := katTups_of N vs (k + 1) fun j u hj => by
      have := hT (j + 1) u hj
      rw [show k + (j + 1) = k + 1 + j by omega] at this
      exact this
    exact ⟨_ :: fs, KatTups.cons (N _ mm).1 c dd rfl h1, by rw [List.length_cons, List.length_cons, h2], fun f hf => by
      rcases List.mem_cons.mp hf with rfl | hf
      · exact ⟨_, _, rfl⟩
      · exact h3 f hf⟩
theorem sorted_tups {l : Addr} {nl : Nat} {Q : Value → Shared → Prop} (F : Fr h₀ L s.heap m) (N : News h₀ L s.heap news) (hm : (l, listOf ys.toArray nl) ∈ news) (hT : TupsAre vals news ys) (hy : ys.length = vals.length) (hlen : vals.length ≤ 12) (h1 : 1 ≤ vals.length)
    (h : ∀ D c ord h', IsOrd vals ord → Fr h₀ L h' m → News h₀ L h' ((D, listOf (ord.map fun i => ys.getD i .none).toArray c) :: news) → (∀ q ∈ news, @LT.lt Nat _ q.1 D) → Q (.ref D) { s with heap := h' }) :
    wpAny (model prog w) A (call (.builtin "sorted") [.ref l]) Q E s := by
  have hl : s.heap.IsList l ys.toArray := ⟨_, (N _ hm).1, rfl, _, rfl⟩
  by_cases h2 : vals.length = 1
  · obtain ⟨v, rfl⟩ : ∃ v, ys = [v] := by
      match ys, hy with
      | [v], _ => exact ⟨v, rfl⟩
      | [], q => simp at q; omega
      | _ :: _ :: _, q => simp at q; omega
    exact sorted_single F N hl fun D c h' F' N' l1 => h D c [0] h' (isOrd_one h2) F' N' l1
  · refine kat_sorted F N hl (by omega) (by omega) fun D e1 h' F' N' l1 => ?_
    have Nn : News h₀ L h' news := fun p hp => N' p (.tail _ hp)
    obtain ⟨fs, t1, t2, t3⟩ := katTups_of (vals := vals) Nn ys 0 (fun j v hj => by rw [Nat.zero_add]; exact hT j v hj)
    refine kat_kind (T := .type "int") t1 (by omega) (fun v hv => ?_) rfl ?_
    · obtain ⟨n, t, rfl⟩ := t3 v hv
      exact Looks.of_pure rfl
    show (kas_sort ys.length).kasWp (kas_ask prog w A.in1.in1 (tuples' true) ys) _ _
    rw [hy]
    refine Gd.wp (lt := ltK (keyAt vals)) (n := vals.length) (fun i j C hi hj hC => ask_tups hlen hy Nn hT hi hj hC) (fun q hq => ?_) _ (gd_sort (keyAt_inj hlen) (by omega) (G := fun q => PermN vals.length q ∧ Up (keyAt vals) q vals.length) fun q a b => ⟨a, b⟩)
    refine KasFin.intro F' N' (g := fun o => (D, o) :: news) ?_ fun h'' c F'' N'' => ?_
    · exact .head (fun p hp => Nat.ne_of_lt (l1 p hp))
    · exact h D c q.toList h'' (isOrd_of hlen hq.1 hq.2) F'' N'' l1
end
end Mine
end

section
theorem Mine.rstSO {M : Model} {A : Around} {env : Env} {Q : Flow → Shared → Prop} {E : Value → Shared → Prop} {s : Shared} (h : Q .next s) : wpAny M A (execs [] env) Q E s := by
  w_top off
  walk1
  exact h
open PySem PySem.W PyProof.Rows PySem.Calls PyProof.Rows.LCg
set_option Elab.async false
set_option maxRecDepth 100000
set_option linter.unusedVariables false
set_option maxHeartbeats 4000000
namespace Mine
open PyProof.Rows.LCp in
/-- a comprehension with a pair target, over tuples of the ledger -/
theorem compP_inv {prog : Program} {w : World} {A : Around} {s : Shared} {h₀ : Heap} {L : Addr} {m : Str → Option Value} {env : Env} {elt : Expr} {x x₂ : Str} {scope : Scope} {cl : List (Str × Addr)} {S : List (Addr × Obj) → Prop} {P : Nat → Value → Prop} {Fin : List Value → List (Addr × Obj) → Prop} {n : Nat} {led : List (Addr × Obj)}
    (J : Nat → List Value → List (Addr × Obj) → Prop) (h0 : J 0 [] led)
    (turn : ∀ i ys news v, i < n → J i ys news → P i v → ∃ (t : Addr) (ot : Obj) (v₁ v₂ : Value) (nt : Nat), v = .ref t ∧ (t, ot) ∈ news ∧ ot.cls = .type "tuple" ∧ ot.data = .seq #[v₁, v₂] nt ∧
      ∀ I oI C oC D m₂ h tk (E' : Value → Shared → Prop), NsObj oC m₂ → m₂ x = some v₁ → m₂ x₂ = some v₂ → Fr h₀ L h m → News h₀ L h ((I, oI) :: (C, oC) :: (D, lst ys) :: news) → Off3 I C D news → ((@Ne Nat I C) ∧ (@Ne Nat I D) ∧ (@Ne Nat C D)) →
      wpAny (model prog w) A (eval elt (compEnvC scope cl C env)) (CompEnd h₀ L m { s with heap := h, toks := tk } I oI C oC D (lst ys) S (fun y news' => J (i + 1) (ys ++ [y]) news')) E' { s with heap := h, toks := tk })
    (fin : ∀ ys news, J n ys news → Fin ys news) : CompRestP prog w A h₀ L m env elt x x₂ scope cl s S P Fin n 0 [] led := by
  have go : ∀ k i ys news, i + k = n → J i ys news → CompRestP prog w A h₀ L m env elt x x₂ scope cl s S P Fin k i ys news := by
    intro k
    induction k with
    | zero => intro i ys news e hJ; subst e; exact CompRestP.zero (fin _ _ hJ)
    | succ k ih =>
      intro i ys news e hJ
      refine CompRestP.succ fun v hv => ?_
      obtain ⟨t, ot, v1, v2, nt, a1, a2, a3, a4, a5⟩ := turn i ys news v (by omega) hJ hv
      refine ⟨t, ot, v1, v2, nt, a1, a2, a3, a4, fun I oI C oC D m₂ h tk E' p2 p3 p4 p5 p6 p7 p8 => ?_⟩
      exact wpAny_mono (a5 I oI C oC D m₂ h tk E' p2 p3 p4 p5 p6 p7 p8) (fun y s' q => compEnd_mono (fun y l z => ih (i + 1) _ l (by omega) z) q) fun _ _ e => e
  exact go n 0 [] led (by omega) h0
theorem mem_rot4 {α : Type} {a b c d t : α} {l : List α} : ∀ p ∈ a :: b :: c :: d :: t :: l, p ∈ t :: a :: b :: c :: d :: l := by
  intro p hp
  rcases List.mem_cons.mp hp with q | hp
  · exact .tail _ (q ▸ .head _)
  rcases List.mem_cons.mp hp with q | hp
  · exact .tail _ (.tail _ (q ▸ .head _))
  rcases List.mem_cons.mp hp with q | hp
  · exact .tail _ (.tail _ (.tail _ (q ▸ .head _)))
  rcases List.mem_cons.mp hp with q | hp
  · exact .tail _ (.tail _ (.tail _ (.tail _ (q ▸ .head _))))
  rcases List.mem_cons.mp hp with q | hp
  · exact q ▸ .head _
  · exact .tail _ (.tail _ (.tail _ (.tail _ (.tail _ hp))))
section
local macro_rules | `(tactic| walk_at "eval ListComp") => `(tactic| ((try k_fold); refine hold ?_))
local macro_rules | `(tactic| walk_at "call type:enumerate") => `(tactic| ((try k_fold); refine hold ?_))
local macro_rules | `(tactic| walk_at "call builtin:sorted") => `(tactic| ((try k_fold); refine hold ?_))
local macro_rules | `(tactic| walk_at "SrcLP") => `(tactic| ((try k_fold); refine hold ?_))
theorem order_ct (w : World) (rest : List (Addr × Obj)) (l : Addr) (vs : List Value) (nl : Nat) (vals : List Int) (hI : IntsAre vs vals) (hv : ValsIn vals) (hlen : vals.length ≤ 12) (h1 : 1 ≤ vals.length) :
    Ct w 208 [.ref l] 2 ((l, listOf vs.toArray nl) :: rest) (fun v news' => ∃ D us ul ord, v = .ref D ∧ IntsAre us (ord.map Int.ofNat) ∧ IsOrd vals ord ∧ (∀ p ∈ (l, listOf vs.toArray nl) :: rest, p.1 ≠ D) ∧ news' = (D, listOf us.toArray ul) :: (l, listOf vs.toArray nl) :: rest) := by
  unfold Ct
  k_fill
  intro mean mg mb dp un gd cn cs a ccd cl outer A₀ base h₀ L m s Q E B F X N T hk hd hu hret
  refine wpAny_call ?_
  k_dflt cell_enter
  have hvl : vs.length = vals.length := hI.length
  k_steps
  unfold Hold
  refine LCp.ListComp_P (F₀ := by k_asm) (by with_unfolding_all rfl) (by decide) (by rfl) (by decide) (by rfl) (by rfl) (by decide) ?_
  k_steps
  unfold Hold
  refine ListComp_En (F₀ := by k_asm) (by with_unfolding_all rfl) (by decide) (by rfl) (by decide) (by rfl) (by rfl) (by decide) ?_
  k_steps
  unfold Hold
  rename News _ _ _ _ => N5
  refine en_call (by rfl) (by k_asm) N5 (by k_mem) (by rw [sizeLine_eq, List.size_toArray]; omega) ?_
  intro g1
  refine ⟨fun i ys led => ys.length = i ∧ TupsAre vals led ys ∧ (∀ p ∈ (l, listOf vs.toArray nl) :: rest, p ∈ led), ⟨rfl, fun j v q => by simp at q, fun p hp => hp⟩, ?_, ?_⟩
  · rintro i ys led v t e oe it oi C oC D m2 h tk E' hi ⟨hyl, hT, hsub⟩ hiv hC hm1 hm2 F6 N6 off6
    obtain ⟨x, tx, rfl, hx⟩ := hI.at i v (by simpa using hiv)
    obtain ⟨hx1, hx2⟩ := hv x (List.mem_of_getElem? hx)
    k_steps
    rename News _ _ _ _ => N7
    rename _ ∧ _ ∧ _ ∧ _ ∧ AllLt _ _ => l7
    refine EnEnd.intro (by k_asm) N7 _ mem_rot4 (fun p hp => ?_) (.tail _ (hsub _ (.head _))) ⟨by rw [List.length_append, hyl]; rfl, hT.snoc hyl rfl rfl hx, fun p hp => .tail _ (hsub p hp)⟩
    rcases List.mem_cons.mp hp with rfl | hp
    · exact ⟨Nat.ne_of_gt l7.1, Nat.ne_of_gt l7.2.1, Nat.ne_of_gt l7.2.2.1, Nat.ne_of_gt l7.2.2.2.1⟩
    · exact off6 p hp
  · rintro ys led ⟨hyl, hT, hsub⟩
    k_steps
    unfold Hold
    rename News _ _ _ _ => N8
    have hnv : vs.toArray.size = vals.length := by rw [List.size_toArray]; exact hvl
    refine sorted_tups (vals := vals) (by k_asm) N8 (.head _) (fun j v q => ?_) (by rw [hyl, hnv]) hlen h1 ?_
    · obtain ⟨t, o, a, b, c, e1, e2, e3, e4⟩ := hT j v q
      exact ⟨t, o, a, b, c, e1, .tail _ e2, e3, e4⟩
    intro D2 c2 ord h9 hord F9 N9 l9
    k_steps
    unfold Hold
    refine LCp.SrcLP.ledger (by rfl) F9 N9 (.head _) (by rw [sizeLine_eq, List.size_toArray, List.length_map, hord.1.length_eq, List.length_range]; omega) ?_
    intro g3
    have hol : ord.length = vals.length := by rw [hord.1.length_eq, List.length_range]
    refine compP_inv (fun j zs led2 => led2 = nOf N9 ∧ IntsAre zs ((ord.take j).map Int.ofNat)) ⟨rfl, .nil⟩ ?_ ?_
    · rintro j zs led2 v hj ⟨rfl, hZ⟩ hv
      rw [List.size_toArray, List.length_map] at hj
      have hk : ord[j]? = some (ord[j]) := List.getElem?_eq_getElem hj
      have hv' : v = ys.getD (ord[j]) .none := by
        have : (ord.map fun i => ys.getD i Value.none)[j]? = some v := by simpa using hv
        rw [List.getElem?_map, hk] at this
        exact (Option.some.inj this).symm
      have hkl : ord[j] < vals.length := by
        have : ord[j] ∈ List.range vals.length := hord.1.mem_iff.mp (List.getElem_mem hj)
        simpa using this
      have hg : ys[ord[j]]? = some v := by
        rw [hv', List.getD_eq_getElem?_getD, List.getElem?_eq_getElem (by omega)]; rfl
      obtain ⟨t, o, a1, a2, nn, e1, e2, e3, e4⟩ := hT _ _ hg
      refine ⟨t, o, _, _, nn, e1, .tail _ (.tail _ e2), e3, e4, ?_⟩
      intro I oI C oC D m2 h10 tk10 E2 hC hm1 hm2 F10 N10 off10 ne10
      dsimp only [nOf] at N10 off10 ⊢
      k_steps
      refine CompEnd.intro F10 N10 _ (fun p hp => hp) off10 (Or.inr ⟨_, .head _, rfl, _, rfl⟩) ⟨rfl, ?_⟩
      rw [List.take_add_one, hk, List.map_append]
      exact intsAre_snoc hZ _ _
    · rintro zs led2 ⟨rfl, hZ⟩
      rw [List.size_toArray, List.length_map, List.take_length] at hZ
      dsimp only [nOf]
      k_steps
      rename _ ∧ _ ∧ Off1 _ _ => o12
      rename News h₀ _ _ _ => N12
      refine ct_end hret ⟨_, zs, zs.length, ord, rfl, hZ, hord, fun p hp => off1_mem o12.2.2 p (hsub p hp), rfl⟩ (by k_asm) N12 fun p hp => ?_
      rcases List.mem_cons.mp hp with q | hp
      · rw [q]
        exact .head _
      · exact .tail _ (.tail _ (.tail _ (hsub p hp)))
end
end Mine
end

section
theorem Mine.rstSX {M : Model} {A : Around} {env : Env} {Q : Flow → Shared → Prop} {E : Value → Shared → Prop} {s : Shared} (h : Q .next s) : wpAny M A (execs [] env) Q E s := by
  w_top off
  walk1
  exact h
open PySem PySem.W PyProof.Rows PySem.Calls
set_option Elab.async false
set_option maxRecDepth 100000
set_option linter.unusedVariables false
set_option maxHeartbeats 4000000
namespace Mine
section
local macro_rules | `(tactic| walk_at "exec Raise some none") => `(tactic| (refine z_raise45 rfl ?_))
local macro_rules | `(tactic| walk_at "call ref") => `(tactic| ((try k_fold); refine hold ?_))
local macro_rules | `(tactic| walk_at "exec Assign") => `(tactic| ((try k_fold); refine hold ?_))
local macro_rules | `(tactic| walk_at "exec Assign cons BinOp") => `(tactic| ((try k_fold); refine hold ?_))
theorem spot_x (w : World) (rest : List (Addr × Obj)) (l : Addr) (vs : List Value) (nl : Nat) (wd ht : Int) (t u : Tok) (vals : List Int) (hI : IntsAre vs vals) (h1 : 1 ≤ wd) (h2 : wd ≤ 4) (h3 : 1 ≤ ht) (h4 : ht ≤ 3) (hl : (vals.length : Int) ≠ wd * ht) (hl2 : vals.length ≤ 13) : CtX w 215 [.int wd t, .int ht u, .ref l] 4 ((l, listOf vs.toArray nl) :: rest) := by
  unfold CtX
  k_fill
  intro mean mg mb dp un gd cn cs a ccd cl outer A₀ base h₀ L m s Q E B F X N T hk hd hu hret
  refine wpAny_call ?_
  k_dflt cell_enter
  have hvl : vs.length = vals.length := hI.length
  k_steps
  repeat' (refine held ?_; refine Ct.use' (by k_asm) (ps_ct _ _ _ _) (by k_asm) (by k_asm) (by k_asm) (by k_asm) (by first | exact rfl | assumption) (by ktr_room) (by ktr_units) ?_; intro v9 news9 h9 tk9 R9 F9 N9; obtain ⟨e9, t9, d9, q9, r9, l91, e9'⟩ := R9; subst r9; subst e9'; (try dsimp only); k_steps)
  rotate_left
  · exact absurd (by assumption) hl
  rename News _ _ _ _ => N8
  rename Fr _ _ _ _ => F8
  refine ⟨_, _, _, rfl, Frag.In.keeps (by k_asm) (Fr.keep F8), (N8 _ (.tail _ (.head _))).1, ?_⟩
  refine leaveZ (by k_asm) F8 (news_swap N8) (Ord3.ne (by assumption)) rfl rfl fun h' R => ?_
  exact hret _ _ _ _ _ _ _ _ _ (by assumption) R
end
end Mine
end

section
open PySem PySem.W PyProof.Rows PySem.Calls PyProof.Rows.LCg
set_option Elab.async false
set_option maxRecDepth 100000
set_option linter.unusedVariables false
set_option maxHeartbeats 4000000
namespace Mine
section
variable {prog : Program} {w : World} {A : Around} {E : Value → Shared → Prop} {s : Shared} {env : Env} {h₀ : Heap} {m : Str → Option Value} {news : List (Addr × Obj)}
/-- a for loop over an enumerate of a list of the ledger, by an invariant over the frame and the ledger -/
theorem enum_G {xi xc : Str} {body : List Stmt} {Q : Flow → Shared → Prop} {items : Array Value} {nl : Nat} {l : Addr} (hh : A.handled = none) (F : Fr h₀ env.locals s.heap m) (N : News h₀ env.locals s.heap news) (hm : (l, listOf items nl) ∈ news)
    (J : Nat → (Str → Option Value) → List (Addr × Obj) → Prop) (h0 : J 0 m news)
    (step : ∀ (i : Nat) v t m₁ news₁ h tk own, items[i]? = some v → J i m₁ news₁ → news₁.map (·.1) = news.map (·.1) → (∀ p ∈ own, p.1 = l ∨ ∀ q ∈ news, q.1 ≠ p.1) →
      Fr h₀ env.locals h (fun y => if y = xc then some v else if y = xi then some (.int i t) else m₁ y) → News h₀ env.locals h (own ++ news₁) →
      wpAny (model prog w) A (execs body env) (LoopStep3 h₀ env.locals own news₁ (J (i + 1)) { s with heap := h, toks := tk } (fun v s' => Q (.ret v) s') fun s' => Q .next s') E { s with heap := h, toks := tk })
    (done : ∀ h' tk m' news', Fr h₀ env.locals h' m' → News h₀ env.locals h' news' → news'.map (·.1) = news.map (·.1) → J items.size m' news' → Q .next { s with heap := h', toks := tk }) :
    wpAny (model prog w) A (call (.type "enumerate") [.ref l]) (fun xv s₁ => wpAny (model prog w) A (pyIter xv) (fun it s₂ => PairAt3 prog w A h₀ env xi xc body Q E it s₂) E s₁) E s := by
  have hl : s.heap.IsList l items := ⟨_, (N _ hm).1, rfl, _, rfl⟩
  have hlt : l < s.heap.objs.size := Heap.lt_size (N _ hm).1
  have hLs : env.locals < s.heap.objs.size := F.ns.lt
  refine call_enumerate_list hl fun h' hE hI hsz hk => ?_
  have W := WalksT.enumerate (prog := prog) (w := w) hh (s.heap.objs.size + 1) s.heap.objs.size l (Nat.succ_ne_self _) (Nat.ne_of_lt (Nat.lt_succ_of_lt hlt)) (Nat.ne_of_lt hlt) items
  refine wpAny_pyIter_enum hE ?_
  refine ⟨s.heap.objs.size + 1, _, _, items.size, _, _, _, (fun i v0 v1 => ∃ t, v0 = .int i t ∧ items[i]? = some v1), m, news, J, rfl, W, ?_, ?_, ?_, ?_, ⟨⟨_, hE⟩, hI, hl.at fun o q => hk _ o q⟩, F.keeps hk, N.grown hk, h0, ?_, ?_⟩
  · rintro i vals ⟨t, x, hx, rfl⟩
    exact ⟨_, _, rfl, t, rfl, hx⟩
  · intro hm'
    simp only [List.mem_cons, List.not_mem_nil, or_false] at hm'
    rcases hm' with q | q | q
    · exact Nat.ne_of_lt (Nat.lt_succ_of_lt hLs) q
    · exact Nat.ne_of_lt hLs q
    · exact (N _ hm).2.1 q.symm
  · intro b hb
    simp only [List.mem_cons, List.not_mem_nil, or_false] at hb
    rcases hb with rfl | rfl
    · exact ktu_new F (Nat.le_succ _)
    · exact ktu_new F (Nat.le_refl _)
  · intro p hp hb
    have := Heap.lt_size (N p hp).1
    simp only [List.mem_cons, List.not_mem_nil, or_false] at hb
    rcases hb with q | q
    · exact Nat.ne_of_lt (Nat.lt_succ_of_lt this) q
    · exact Nat.ne_of_lt this q
  · rintro i v0 v1 m₁ news₁ s₁ own ⟨hh₁, tk, rfl⟩ _ ⟨t, rfl, hv⟩ hJ hmap hsub F₁ N₁
    refine step i v1 t m₁ news₁ _ _ own hv hJ hmap (fun p hp => ?_) F₁ N₁
    have := hsub p hp
    simp only [List.mem_cons, List.not_mem_nil, or_false] at this
    rcases this with q | q | q
    · exact .inr fun z hz e => by
        have := Heap.lt_size (N z hz).1
        rw [e, q] at this
        exact Nat.lt_irrefl _ (Nat.lt_of_succ_lt this)
    · exact .inr fun z hz e => by
        have := Heap.lt_size (N z hz).1
        rw [e, q] at this
        exact Nat.lt_irrefl _ this
    · exact .inl q
  · exact done
end
end Mine
end

section
theorem Mine.rstSH {M : Model} {A : Around} {env : Env} {Q : Flow → Shared → Prop} {E : Value → Shared → Prop} {s : Shared} (h : Q .next s) : wpAny M A (execs [] env) Q E s := by
  w_top off
  walk1
  exact h
open PySem PySem.W PyProof.Rows PySem.Calls PyProof.Rows.LCg
set_option Elab.async false
set_option maxRecDepth 100000
set_option linter.unusedVariables false
set_option maxHeartbeats 4000000
namespace Mine
/-- the thresholds that spot_halftone makes -/
noncomputable def SpotOcts (vals octs : List Int) : Prop := ∃ ord, IsOrd vals ord ∧ octs.length = vals.length ∧ ∀ k, k < vals.length → octs.getD (ord.getD k 0) 0 = ((k : Int) * 255) / (vals.length : Int) + 1
/-- the contract of spot_order, for any ledger that holds the list -/
theorem Ct.pullO {w : World} {f : Addr} {vs : List Value} {room : Nat} {A : Addr × Obj} {led : List (Addr × Obj)} {vals : List Int} (C : Ct w f vs room (A :: led) (fun v n => ∃ D us ul ord, v = .ref D ∧ IntsAre us (ord.map Int.ofNat) ∧ IsOrd vals ord ∧ (∀ p ∈ A :: led, p.1 ≠ D) ∧ n = (D, listOf us.toArray ul) :: A :: led)) (hA : A ∈ led) : Ct w f vs room led (fun v n => ∃ D us ul ord, v = .ref D ∧ IntsAre us (ord.map Int.ofNat) ∧ IsOrd vals ord ∧ (∀ p ∈ led, p.1 ≠ D) ∧ n = (D, listOf us.toArray ul) :: led) := by
  intro mean mg mb dp un gd cn cs a ccd cl outer A₀ base h₀ L m s Q E B F X N T hk hd hu hret
  refine C mean mg mb dp un gd cn cs a ccd cl outer A₀ base h₀ L m s Q E B F X (fun p hq => N p ?_) T hk hd hu ?_
  · rcases List.mem_cons.mp hq with rfl | hq
    · exact hA
    · exact hq
  · rintro v l h' tk' ⟨D, us, ul, ord, r1, r2, r22, r3, rfl⟩ F' N'
    refine hret v _ h' tk' ⟨D, us, ul, ord, r1, r2, r22, fun p hp => r3 p (.tail _ hp), rfl⟩ F' (cb_drop N' fun p hp => ?_)
    rcases List.mem_cons.mp hp with rfl | hp
    · exact .head _
    · exact .tail _ (.tail _ hp)
theorem upd_own {d : Addr} {o o' : Obj} {l l' : List (Addr × Obj)} (h : Upd d o o' l l') : ∀ {own : List (Addr × Obj)}, (∀ p ∈ own, p.1 ≠ d) → Upd d o o' (own ++ l) (own ++ l')
  | [], _ => h
  | p :: own, hp => .tail (hp p (.head _)) (upd_own h fun q hq => hp q (.tail _ hq))
theorem news_drop3 {h₀ h : Heap} {L : Addr} {a b c : Addr × Obj} {l : List (Addr × Obj)} (N : News h₀ L h (a :: b :: c :: l)) : News h₀ L h (a :: b :: l) := fun p hp => N p (by
  rcases List.mem_cons.mp hp with q | hp
  · exact q ▸ .head _
  · rcases List.mem_cons.mp hp with q | hp
    · exact .tail _ (q ▸ .head _)
    · exact .tail _ (.tail _ (.tail _ hp)))
theorem map2_fold {n r : Str} {a b v1 v2 : Option Value} {m : Str → Option Value} : (fun y => if y = n then a else if y = r then b else (if y = n then v2 else if y = r then v1 else m y)) = fun y => if y = n then a else if y = r then b else m y := by
  funext y
  by_cases q1 : y = n
  · simp only [if_pos q1]
  · simp only [if_neg q1]
    by_cases q2 : y = r
    · simp only [if_pos q2]
    · simp only [if_neg q2]
theorem octs_step {vals ths : List Int} {ord : List Nat} {i : Nat} (hord : IsOrd vals ord) (hl : ths.length = vals.length) (hi : i < ord.length) (hk : ∀ k, k < i → ths.getD (ord.getD k 0) 0 = ((k : Int) * 255) / (vals.length : Int) + 1) :
    ∀ k, k < i + 1 → (ths.set (((ord[i] : Nat) : Int)).toNat (((i : Int) * 255).fdiv (vals.length : Int) + 1)).getD (ord.getD k 0) 0 = ((k : Int) * 255) / (vals.length : Int) + 1 := by
  intro k hk1
  rw [Int.toNat_natCast, Int.fdiv_eq_ediv_of_nonneg _ (by omega)]
  have hol : ord.length = vals.length := by rw [hord.1.length_eq, List.length_range]
  have hm : ∀ j (h : j < ord.length), ord[j] < vals.length := fun j h => by
    have : ord[j] ∈ List.range vals.length := hord.1.mem_iff.mp (List.getElem_mem h)
    simpa using this
  have hkl : k < ord.length := by omega
  have ek : ord.getD k 0 = ord[k] := by rw [List.getD_eq_getElem?_getD, List.getElem?_eq_getElem hkl]; rfl
  rw [ek, List.getD_eq_getElem?_getD, List.getElem?_set]
  by_cases q : k = i
  · subst q
    rw [if_pos rfl, if_pos (by rw [hl]; exact hm k hkl)]
    rfl
  · have ne : ord[i] ≠ ord[k] := fun e => by
      have h1 := (List.pairwise_iff_getElem.mp hord.2) k i hkl hi (by omega)
      rw [e] at h1
      omega
    rw [if_neg ne, ← List.getD_eq_getElem?_getD, ← ek]
    exact hk k (by omega)
theorem octs_in {vals ths : List Int} {ord : List Nat} (hord : IsOrd vals ord) (hl : ths.length = vals.length) (hk : ∀ k, k < vals.length → ths.getD (ord.getD k 0) 0 = ((k : Int) * 255) / (vals.length : Int) + 1) : ∀ x ∈ ths, 1 ≤ x ∧ x ≤ 255 := by
  intro x hx
  obtain ⟨j, hj, rfl⟩ := List.mem_iff_getElem.mp hx
  have hjr : j ∈ ord := hord.1.mem_iff.mpr (List.mem_range.mpr (by omega))
  obtain ⟨k, hk2, e⟩ := List.mem_iff_getElem.mp hjr
  have hol : ord.length = vals.length := by rw [hord.1.length_eq, List.length_range]
  have := hk k (by omega)
  have ek : ord.getD k 0 = j := by rw [List.getD_eq_getElem?_getD, List.getElem?_eq_getElem hk2]; exact e
  rw [ek, List.getD_eq_getElem?_getD, List.getElem?_eq_getElem hj] at this
  have this : ths[j] = ((k : Int) * 255) / (vals.length : Int) + 1 := this
  rw [this]
  have a : ((k : Int) * 255) / (vals.length : Int) < 255 := Int.ediv_lt_of_lt_mul (by omega) (by omega)
  have b : 0 ≤ ((k : Int) * 255) / (vals.length : Int) := Int.ediv_nonneg (by omega) (by omega)
  omega
theorem flat_rep {α : Type} (x : α) : ∀ n : Nat, (List.replicate n [x]).flatten = List.replicate n x
  | 0 => rfl
  | n + 1 => by rw [List.replicate_succ, List.flatten_cons, flat_rep x n]; rfl
theorem ints_rep (x : Int) (t : Tok) : ∀ n : Nat, IntsAre (List.replicate n (Value.int x t)) (List.replicate n x)
  | 0 => .nil
  | n + 1 => .cons x t (ints_rep x t n)
section
local macro_rules | `(tactic| walk_at "call ref") => `(tactic| ((with_reducible refine Mine.calH ?_); ((try k_fold); refine hold ?_)))
local macro_rules | `(tactic| walk_at "binaryOp Mult ref int") => `(tactic| ((try k_fold); refine hold ?_))
local macro_rules | `(tactic| walk_at "exec For Tuple Call") => `(tactic| ((try k_fold); refine hold ?_))
local macro_rules | `(tactic| walk_at "exec For Tuple Call cons nil") => `(tactic| ((try k_fold); refine hold ?_))
local macro_rules | `(tactic| walk_at "exec For") => `(tactic| ((try k_fold); refine hold ?_))
local macro_rules | `(tactic| walk_at "setItem ref int") => `(tactic| ((try k_fold); refine hold ?_))
local macro_rules | `(tactic| walk_at "binaryOp FloorDiv int int") => `(tactic| refine floordiv_int (by omega) ?_ (Or.inl (PyProof.noPylong_small (by omega))))
local macro_rules | `(tactic| walk_at "LoopStep3") => `(tactic| ((try k_fold); refine hold ?_))
theorem spot_ct (w : World) (rest : List (Addr × Obj)) (l : Addr) (vs : List Value) (nl : Nat) (wd ht : Int) (t u : Tok) (vals : List Int) (hI : IntsAre vs vals) (hv : ValsIn vals) (h1 : 1 ≤ wd) (h2 : wd ≤ 4) (h3 : 1 ≤ ht) (h4 : ht ≤ 3) (hl : (vals.length : Int) = wd * ht) (hl2 : vals.length ≤ 12) (hl3 : 1 ≤ vals.length) :
    Ct w 215 [.int wd t, .int ht u, .ref l] 4 ((l, listOf vs.toArray nl) :: rest) (fun v news' => ∃ octs, SpotOcts vals octs ∧ HtNew w wd ht (byteArr octs) ((l, listOf vs.toArray nl) :: rest) v news') := by
  unfold Ct
  k_fill
  intro mean mg mb dp un gd cn cs a ccd cl outer A₀ base h₀ L m s Q E B F X N T hk hd hu hret
  refine wpAny_call ?_
  k_dflt cell_enter
  have hvl : vs.length = vals.length := hI.length
  k_steps
  · exact absurd hl (by assumption)
  unfold Hold
  refine KMa.mul (by k_asm) (by k_asm) (by is_list) (by omega) (by omega) (by simp only [List.length_cons, List.length_nil]; omega) (flat_rep _ _) ?_
  intro TH h5 F5 N5 l5
  rw [Int.toNat_natCast] at N5
  k_steps
  unfold Hold
  rename Fr _ _ _ _ => F6
  rename News _ _ _ _ => N6
  refine For_pair3F F6 (by rfl) (by rfl) (by rfl) (by rfl) ?_ (by intro _; rfl)
  k_steps
  unfold Hold
  refine Ct.use' N6 (Ct.pullO (order_ct w _ _ vs _ vals hI hv hl2 hl3) (.tail _ (.tail _ (.head _)))) (by k_asm) F6 (by k_asm) (by k_asm) rfl (by ktr_room) (by ktr_units) ?_
  rintro v8 news8 h8 tk8 ⟨D8, us, ul, ord, rfl, hU, hord, hne8, rfl⟩ F8 N8
  k_steps
  have hol : ord.length = vals.length := by rw [hord.1.length_eq, List.length_range]
  have n1 : D8 ≠ TH := fun q => hne8 _ (.head _) q.symm
  have n2 : ∀ p ∈ (l, listOf vs.toArray nl) :: rest, p.1 ≠ TH := fun p hp => Nat.ne_of_lt (l5 p (.tail _ hp))
  have n3 : ∀ p ∈ (l, listOf vs.toArray nl) :: rest, p.1 ≠ D8 := fun p hp => hne8 p (.tail _ (.tail _ hp))
  have n4 : TH ≠ D8 := fun q => n1 q.symm
  refine enum_G (by rfl) F8 (news_drop3 N8) (.head _) (fun i m' led => (∃ v1 v2, m' = fun y => if y = Str.ofString "number" then v2 else if y = Str.ofString "rank" then v1 else mOf F8 y) ∧ ∃ (vT : List Value) (nT : Nat) (ths : List Int), led = (D8, listOf us.toArray ul) :: (TH, listOf vT.toArray nT) :: (l, listOf vs.toArray nl) :: rest ∧ IntsAre vT ths ∧ ths.length = vals.length ∧ ∀ k, k < i → ths.getD (ord.getD k 0) 0 = ((k : Int) * 255) / (vals.length : Int) + 1) ?_ ?_ ?_
  · refine ⟨⟨mOf F8 (Str.ofString "rank"), mOf F8 (Str.ofString "number"), ?_⟩, _, _, _, rfl, ints_rep 0 _ _, List.length_replicate, fun k hk => absurd hk (Nat.not_lt_zero k)⟩
    funext y
    by_cases q1 : y = Str.ofString "number"
    · rw [if_pos q1, q1]; rfl
    · rw [if_neg q1]
      by_cases q2 : y = Str.ofString "rank"
      · rw [if_pos q2, q2]; rfl
      · rw [if_neg q2]; rfl
  · rintro i v t9 m1 news1 h9 tk9 own hv9 ⟨⟨v1, v2, rfl⟩, vT, nT, ths, rfl, hTI, hTl, hTk⟩ hmap9 hown F9 N9
    obtain ⟨x, tx, rfl, hx⟩ := hU.at i v (by simpa using hv9)
    have hi : i < ord.length := by
      have := (List.getElem?_eq_some_iff.mp hx).1
      simpa using this
    have hxe : x = ((ord[i] : Nat) : Int) := by
      rw [List.getElem?_map, List.getElem?_eq_getElem hi] at hx
      exact (Option.some.inj hx).symm
    have hkl : ord[i] < vals.length := by
      have : ord[i] ∈ List.range vals.length := hord.1.mem_iff.mp (List.getElem_mem hi)
      simpa using this
    subst hxe
    dsimp only [mOf] at F9 ⊢
    clear hmap9 F8 N8
    have N10 := N9.right
    k_steps
    unfold Hold
    have n5 : ∀ p ∈ own, p.1 ≠ TH := fun p hp => by
      rcases hown p hp with q | q
      · rw [q]; exact n1
      · exact fun e => q _ (.tail _ (.head _)) e.symm
    refine ksa_set F9 N9 (upd_own (.tail n1 (.head n2)) n5) hTI (by omega) (by omega) (by omega) ?_
    intro h11 F11 N11 hi11 hl11 hs11
    clear F9 N9 N10
    k_steps
    unfold Hold
    exact LoopStep2.intro F11 N11 rfl ⟨⟨some (.int (i : Int) t9), some (.int ((ord[i] : Nat) : Int) tx), map2_fold⟩, _, _, _, rfl, hi11, by rw [hl11, hTl], octs_step hord hTl hi hTk⟩
  · rintro h9 tk9 m1 news1 F9 N9 hmap9 ⟨⟨v1, v2, rfl⟩, vT, nT, ths, rfl, hTI, hTl, hTk⟩
    dsimp only [mOf] at F9
    clear hmap9 F8 N8
    have hus : us.toArray.size = vals.length := by rw [List.size_toArray, hU.length, List.length_map, hol]
    rw [hus] at hTk
    have hin := octs_in hord hTl hTk
    have hIn : KBa.In ths := fun x hx => ⟨by have := (hin x hx).1; omega, by have := (hin x hx).2; omega⟩
    k_steps
    refine ct_end hret ⟨ths, ⟨ord, hord, hTl, hTk⟩, _, _, _, _, _, _, _, _, rfl, ?_, ?_, rfl⟩ (by k_asm) (by assumption) (by intro p hp; rcases List.mem_cons.mp hp with q | hp; exact q ▸ .head _; rcases List.mem_cons.mp hp with q | hp; exact .tail _ (q ▸ .head _); exact .tail _ (.tail _ (.tail _ (.tail _ hp))))
    · rename _ ∧ _ ∧ _ ∧ AllLt _ _ => l7
      intro p hp
      rcases List.mem_cons.mp hp with rfl | hp
      · exact l7.2.2.1
      · exact allLt_mem l7.2.2.2 p hp
    · assumption
end
end Mine
end

section
open PySem PySem.W PyProof.Rows
set_option Elab.async false
set_option linter.unusedVariables false
namespace Mine
/-- the selection: the numbers found so far, and those that are left -/
structure SelInv (vals : List Int) (fs ls : List Nat) : Prop where
  perm : (fs ++ ls).Perm (List.range vals.length)
  up : ls.Pairwise (· < ·)
  ord : fs.Pairwise fun i j => keyAt vals i < keyAt vals j
  low : ∀ a ∈ fs, ∀ b ∈ ls, keyAt vals a < keyAt vals b
/-- the best of the first j of those that are left -/
noncomputable def BestAt (vals : List Int) (ls : List Nat) (j b : Nat) : Prop := b ∈ ls ∧ (b ∈ ls.take j ∨ ls[0]? = some b) ∧ ∀ x ∈ ls.take j, keyAt vals b ≤ keyAt vals x
theorem BestAt.start {vals : List Int} {x : Nat} {r : List Nat} : BestAt vals (x :: r) 0 x := ⟨.head _, .inr rfl, fun y hy => by simp at hy⟩
theorem mem_take_succ {ls : List Nat} {j x y : Nat} (h : ls[j]? = some x) : y ∈ ls.take (j + 1) ↔ y ∈ ls.take j ∨ y = x := by
  rw [List.take_add_one, h]
  simp
theorem BestAt.step {vals : List Int} {ls : List Nat} {j b x : Nat} (hn : vals.length ≤ 12) (hls : ∀ y ∈ ls, y < vals.length) (hup : ls.Pairwise (· < ·)) (h : BestAt vals ls j b) (hx : ls[j]? = some x) :
    (vals.getD b 0 < vals.getD x 0 → BestAt vals ls (j + 1) x) ∧ (¬ vals.getD b 0 < vals.getD x 0 → BestAt vals ls (j + 1) b) := by
  obtain ⟨hb, hb2, hmin⟩ := h
  have hxm : x ∈ ls := List.mem_of_getElem? hx
  have bl := hls b hb
  have xl := hls x hxm
  constructor
  · intro q
    have kk : keyAt vals x < keyAt vals b := by unfold keyAt; omega
    refine ⟨hxm, .inl ((mem_take_succ hx).mpr (.inr rfl)), fun y hy => ?_⟩
    rcases (mem_take_succ hx).mp hy with hy | rfl
    · exact Int.le_trans (Int.le_of_lt kk) (hmin y hy)
    · exact Int.le_refl _
  · intro q
    have bx : b ≤ x := by
      have hj : j < ls.length := (List.getElem?_eq_some_iff.mp hx).1
      have ex : ls[j] = x := (List.getElem?_eq_some_iff.mp hx).2
      rcases hb2 with hb2 | hb2
      · obtain ⟨i, hi, e⟩ := List.mem_iff_getElem.mp hb2
        rw [List.length_take] at hi
        have hi2 : i < ls.length := by omega
        rw [List.getElem_take] at e
        have := (List.pairwise_iff_getElem.mp hup) i j hi2 hj (by omega)
        rw [e, ex] at this
        exact Nat.le_of_lt this
      · by_cases z : j = 0
        · subst z; rw [hx] at hb2; rw [Option.some.inj hb2]; exact Nat.le_refl _
        · have h0 : 0 < ls.length := by omega
          have := (List.pairwise_iff_getElem.mp hup) 0 j h0 hj (by omega)
          rw [List.getElem?_eq_getElem h0] at hb2
          rw [Option.some.inj hb2, ex] at this
          exact Nat.le_of_lt this
    have kk : keyAt vals b ≤ keyAt vals x := by unfold keyAt; omega
    refine ⟨hb, ?_, fun y hy => ?_⟩
    · rcases hb2 with hb2 | hb2
      · exact .inl ((mem_take_succ hx).mpr (.inl hb2))
      · exact .inr hb2
    · rcases (mem_take_succ hx).mp hy with hy | rfl
      · exact hmin y hy
      · exact kk
theorem SelInv.lt {vals : List Int} {fs ls : List Nat} (h : SelInv vals fs ls) : ∀ y ∈ ls, y < vals.length := fun y hy => by
  have := h.perm.mem_iff.mp (List.mem_append_right fs hy)
  simpa using this
theorem SelInv.start (vals : List Int) : SelInv vals [] (List.range vals.length) := ⟨List.Perm.refl _, List.pairwise_lt_range, List.Pairwise.nil, fun _ h => nomatch h⟩
theorem SelInv.nodup {vals : List Int} {fs ls : List Nat} (h : SelInv vals fs ls) : ls.Nodup := List.Pairwise.imp (fun a => Nat.ne_of_lt a) h.up
theorem SelInv.step {vals : List Int} {fs ls : List Nat} {b : Nat} (hn : vals.length ≤ 12) (h : SelInv vals fs ls) (hb : BestAt vals ls ls.length b) : SelInv vals (fs ++ [b]) (ls.erase b) := by
  obtain ⟨hbm, _, hmin⟩ := hb
  rw [List.take_length] at hmin
  have nd := h.nodup
  refine ⟨?_, h.up.sublist List.erase_sublist, ?_, ?_⟩
  · refine List.Perm.trans ?_ h.perm
    rw [List.append_assoc]
    exact List.Perm.append_left fs (List.perm_cons_erase hbm).symm
  · rw [List.pairwise_append]
    refine ⟨h.ord, List.pairwise_singleton _ _, fun a ha x hx => ?_⟩
    rw [List.mem_singleton.mp hx]
    exact h.low a ha b hbm
  · intro a ha x hx
    have hxm : x ∈ ls := List.mem_of_mem_erase hx
    rcases List.mem_append.mp ha with ha | ha
    · exact h.low a ha x hxm
    · rw [List.mem_singleton.mp ha]
      have le := hmin x hxm
      have ne : x ≠ b := fun e => by
        subst e
        exact (List.Nodup.not_mem_erase nd) hx
      have ne2 : keyAt vals b ≠ keyAt vals x := fun e => ne (keyAt_inj hn _ _ (h.lt b hbm) (h.lt x hxm) e).symm
      omega
theorem SelInv.done {vals : List Int} {fs : List Nat} (h : SelInv vals fs []) : IsOrd vals fs := ⟨by simpa using h.perm, h.ord⟩
theorem find_del : ∀ {lv : List Value} {ls : List Nat} {b : Nat}, IntsAre lv (ls.map Int.ofNat) → b ∈ ls → ∃ j q, kf_ints lv = true ∧ kf_at (b : Int) lv = some j ∧ ki_delL lv j = some q ∧ IntsAre q ((ls.erase b).map Int.ofNat)
  | [], [], b, _, hb => nomatch hb
  | [], x :: ls, b, h, hb => nomatch h
  | v :: lv, [], b, h, hb => nomatch hb
  | v :: lv, x :: ls, b, h, hb => by
    rw [List.map_cons] at h
    cases h with
    | cons _ t h' =>
      have intsK : ∀ {lv : List Value} {ns : List Int}, IntsAre lv ns → kf_ints lv = true := by
        intro lv ns h
        induction h with
        | nil => rfl
        | cons _ _ _ ih => exact ih
      by_cases e : x = b
      · subst e
        refine ⟨0, lv, (show kf_ints lv = true from intsK h'), ?_, rfl, ?_⟩
        · show cond (isInt (x : Int) (Value.int (Int.ofNat x) t)) (some 0) _ = some 0
          rw [show isInt (x : Int) (Value.int (Int.ofNat x) t) = true by simp [isInt]]
          rfl
        · rw [List.erase_cons_head]; exact h'
      · have hb' : b ∈ ls := by
          rcases List.mem_cons.mp hb with q | q
          · exact absurd q.symm e
          · exact q
        obtain ⟨j, q, a1, a2, a3, a4⟩ := find_del h' hb'
        refine ⟨j + 1, Value.int (Int.ofNat x) t :: q, (show kf_ints lv = true from intsK h'), ?_, ?_, ?_⟩
        · show cond (isInt (b : Int) (Value.int (Int.ofNat x) t)) (some 0) (match kf_at (b : Int) lv with
            | some j => some (j + 1)
            | none => none) = some (j + 1)
          rw [show isInt (b : Int) (Value.int (Int.ofNat x) t) = false by simp [isInt]; omega, a2]
          rfl
        · simp only [ki_delL, a3]
        · rw [List.erase_cons_tail (by simpa using e), List.map_cons]
          exact .cons _ t a4
end Mine
end

section
theorem Mine.rstLO {M : Model} {A : Around} {env : Env} {Q : Flow → Shared → Prop} {E : Value → Shared → Prop} {s : Shared} (h : Q .next s) : wpAny M A (execs [] env) Q E s := by
  w_top off
  walk1
  exact h
open PySem PySem.W PyProof.Rows PySem.Calls PyProof.Rows.LCg
set_option Elab.async false
set_option maxRecDepth 100000
set_option linter.unusedVariables false
set_option maxHeartbeats 4000000
namespace Mine
/-- a frame's map with its names number and best -/
noncomputable abbrev nbM (a b : Option Value) (m : Str → Option Value) : Str → Option Value := fun y => if y = Str.ofString "number" then a else if y = Str.ofString "best" then b else m y
theorem nb_best {a b v : Option Value} {m : Str → Option Value} : (fun y => if y = Str.ofString "best" then v else nbM a b m y) = nbM a v m := by
  funext y
  by_cases q1 : y = Str.ofString "best"
  · subst q1; rfl
  · simp only [nbM, if_neg q1]
theorem nb_number {a b v : Option Value} {m : Str → Option Value} : (fun y => if y = Str.ofString "number" then v else nbM a b m y) = nbM v b m := by
  funext y
  by_cases q1 : y = Str.ofString "number"
  · simp only [nbM, if_pos q1]
  · simp only [nbM, if_neg q1]
theorem nb_self (m : Str → Option Value) : m = nbM (m (Str.ofString "number")) (m (Str.ofString "best")) m := by
  funext y
  by_cases q1 : y = Str.ofString "number"
  · subst q1; rfl
  · by_cases q2 : y = Str.ofString "best"
    · subst q2; rfl
    · simp only [nbM, if_neg q1, if_neg q2]
noncomputable def bOf {h₀ h : Heap} {L : Addr} {a b : Option Value} {m : Str → Option Value} (_ : Fr h₀ L h (nbM a b m)) : Str → Option Value := m
theorem nb_fold {a b v v2 : Option Value} {m : Str → Option Value} : (fun y => if y = Str.ofString "best" then v else if y = Str.ofString "number" then v2 else nbM a b m y) = nbM v2 v m := by
  funext y
  by_cases q1 : y = Str.ofString "best"
  · subst q1; rfl
  · by_cases q2 : y = Str.ofString "number"
    · simp only [nbM, if_neg q1, if_pos q2]
    · simp only [nbM, if_neg q1, if_neg q2]
theorem range_ints {vs : List Value} {n : Nat} (h : IntsAre vs (rangeKs 0 ((n : Int) - 0).toNat)) : IntsAre vs ((List.range n).map Int.ofNat) := by
  rw [show ((n : Int) - 0).toNat = n by omega] at h
  have e : rangeKs 0 n = (List.range n).map Int.ofNat := by
    unfold rangeKs
    exact List.map_congr_left fun i _ => by simp
  rw [← e]; exact h
section
local macro_rules | `(tactic| walk_at "exec While") => `(tactic| ((try k_fold); refine hold ?_))
local macro_rules | `(tactic| walk_at "exec While Compare") => `(tactic| ((try k_fold); refine hold ?_))
local macro_rules | `(tactic| walk_at "exec While Compare cons nil") => `(tactic| ((try k_fold); refine hold ?_))
local macro_rules | `(tactic| walk_at "exec For Name Name cons nil") => `(tactic| ((try k_fold); refine hold ?_))
local macro_rules | `(tactic| walk_at "call builtin:list.append") => `(tactic| ((try k_fold); refine hold ?_))
local macro_rules | `(tactic| walk_at "call builtin:list.remove") => `(tactic| ((try k_fold); refine hold ?_))
local macro_rules | `(tactic| walk_at "subscriptTail") => `(tactic| ((with_reducible refine Mine.subRI ?_); walk_at "sub"))
local macro_rules | `(tactic| walk_at "WhileStep") => `(tactic| ((try k_fold); refine hold ?_))
theorem lawOrder_ct (w : World) (rest : List (Addr × Obj)) (l : Addr) (vs : List Value) (nl : Nat) (vals : List Int) (hI : IntsAre vs vals) (hv : ValsIn vals) (hlen : vals.length ≤ 12) :
    Ct w 258 [.ref l] 2 ((l, listOf vs.toArray nl) :: rest) (fun v news' => ∃ D us ul ord, v = .ref D ∧ IntsAre us (ord.map Int.ofNat) ∧ IsOrd vals ord ∧ (∀ p ∈ (l, listOf vs.toArray nl) :: rest, p.1 ≠ D) ∧ news' = (D, listOf us.toArray ul) :: (l, listOf vs.toArray nl) :: rest) := by
  unfold Ct
  k_fill
  intro mean mg mb dp un gd cn cs a ccd cl outer A₀ base h₀ L m s Q E B F X N T hk hd hu hret
  refine wpAny_call ?_
  k_dflt cell_enter
  have hvl : vs.length = vals.length := hI.length
  k_steps
  unfold Hold
  rename_i FD hA l1A _ _ _ _ _ _ hB tkB tB uB vB rgB aB LD lv0 c0 hC tkC hIC l1B TD hD l1C hE hF hG F5 N5
  have hR := range_ints hIC
  have n1 : LD ≠ FD := Nat.ne_of_gt l1B.1
  have n2 : ∀ p ∈ (l, listOf vs.toArray nl) :: rest, p.1 ≠ FD := fun p hp => by
    rcases List.mem_cons.mp hp with rfl | hp
    · exact Nat.ne_of_lt l1A.1
    · exact Nat.ne_of_lt (allLt_mem l1A.2 p hp)
  have n3 : ∀ p ∈ (l, listOf vs.toArray nl) :: rest, p.1 ≠ LD := fun p hp => by
    rcases List.mem_cons.mp hp with rfl | hp
    · exact Nat.ne_of_lt l1B.2.1
    · exact Nat.ne_of_lt (allLt_mem l1B.2.2 p hp)
  refine While_inv (n₀ := vals.length) (fun n m' led => ∃ (va vb : Option Value) (fv lv : List Value) (nf nl2 : Nat) (fs ls : List Nat), m' = nbM va vb (mOf F5) ∧ led = (LD, listOf lv.toArray nl2) :: (FD, listOf fv.toArray nf) :: (l, listOf vs.toArray nl) :: rest ∧ IntsAre fv (fs.map Int.ofNat) ∧ IntsAre lv (ls.map Int.ofNat) ∧ SelInv vals fs ls ∧ n = ls.length) F5 (news_tail N5)
    ⟨_, _, [], lv0, _, _, [], _, nb_self _, rfl, .nil, hR, SelInv.start vals, by rw [List.length_range]⟩ ?_
  rintro n m1 led1 h1 tk1 F1 N1 ⟨va, vb, fv, lv, nf, nl2, fs, ls, rfl, rfl, hfv, hlv, hS, rfl⟩
  have hll : lv.length = ls.length := by rw [hlv.length, List.length_map]
  dsimp only [mOf] at F1 ⊢
  clear F5 N5
  by_cases hem : ls = []
  · subst hem
    k_steps
    · refine ct_end hret ⟨FD, fv, nf, fs, rfl, hfv, hS.done, n2, rfl⟩ (by k_asm) (by assumption) (fun p hp => .tail _ (.tail _ hp))
  obtain ⟨x0, r0, hxr⟩ : ∃ x0 r0, ls = x0 :: r0 := by
    cases ls with
    | nil => exact absurd rfl hem
    | cons x r => exact ⟨x, r, rfl⟩
  have hl0 : (0 : Int) < ((ls.map Int.ofNat).length : Int) := by rw [hxr]; simp
  have hx0 : (ls.map Int.ofNat).getD (Int.toNat 0) 0 = (x0 : Int) := by rw [hxr]; rfl
  k_steps
  · rename decide _ = true => hd
    rw [hxr] at hd
    exact absurd (of_decide_eq_true hd) (by simp)
  unfold Hold
  rename Fr _ _ _ _ => F7
  rename News _ _ _ _ => N7
  simp only [hx0] at F7
  have F7 := nb_best ▸ F7
  refine For_G F7 (by intro _ _; rfl) (by rfl) ?_
  k_steps
  have N8 := news_tail N7
  refine iter_list_G (by rfl) F7 N8 (.inr ⟨_, .head _, rfl, _, rfl⟩) ?_
  intro g4
  clear N7 N8
  refine ForTurns.intro (fun j m' led => ∃ (va' : Option Value) (b : Nat) (tb : Tok), m' = nbM va' (some (.int (b : Int) tb)) (bOf F7) ∧ led = (LD, listOf lv.toArray nl2) :: (FD, listOf fv.toArray nf) :: (l, listOf vs.toArray nl) :: rest ∧ BestAt vals ls j b) (xm3 _ x0 _ (am3 rfl rfl (by rw [hxr]; exact BestAt.start))) ?_ ?_
  · rintro i v m4 led4 h14 tk14 I oI hi hiv pzz
    refine ex3 pzz ?_; clear pzz; intro va' b tb pzz; refine and3 pzz ?_; clear pzz; rintro rfl rfl hB _ F14 N14 off14
    have hxi : ∃ x t, v = .int (x : Nat) t ∧ ls[i]? = some x := by
      obtain ⟨y, t, e1, e2⟩ := hlv.at i v (by simpa using hiv)
      rw [List.getElem?_map] at e2
      cases e3 : ls[i]? with
      | none => rw [e3] at e2; cases e2
      | some x => rw [e3] at e2; exact ⟨x, t, by rw [e1, ← Option.some.inj e2]; rfl, rfl⟩
    obtain ⟨x, tx, rfl, hx⟩ := hxi
    have xl : x < vals.length := hS.lt x (List.mem_of_getElem? hx)
    have bl : b < vals.length := hS.lt b hB.1
    have o9 := off1_of off14
    dsimp only [bOf] at F14 ⊢
    clear F7
    k_steps
    · rename Fr _ _ _ _ => F20
      rename News _ _ _ _ => N20
      have hlt : vals.getD b 0 < vals.getD x 0 := (by assumption : vals.getD (b : Int).toNat 0 < vals.getD (x : Int).toNat 0)
      exact ForEnd.intro _ (nb_fold ▸ F20) N20 (fun p hp => hp) (off1_mem o9) (.inr ⟨_, .head _, rfl, _, rfl⟩) (xm3 _ x _ (am3 rfl rfl ((hB.step hlen hS.lt hS.up hx).1 hlt)))
    · rename Fr _ _ _ _ => F20
      rename News _ _ _ _ => N20
      have hlt : ¬ vals.getD b 0 < vals.getD x 0 := (by assumption : ¬ vals.getD (b : Int).toNat 0 < vals.getD (x : Int).toNat 0)
      exact ForEnd.intro _ (nb_number ▸ F20) N20 (fun p hp => hp) (off1_mem o9) (.inr ⟨_, .head _, rfl, _, rfl⟩) (xm3 _ b _ (am3 rfl rfl ((hB.step hlen hS.lt hS.up hx).2 hlt)))
  · rintro m4 led4 h14 tk14 pzz
    refine ex3 pzz ?_; clear pzz; intro va' b tb pzz; refine and3 pzz ?_; clear pzz; rintro rfl rfl hB _ F14 N14
    dsimp only [bOf] at F14
    clear F7
    rw [List.size_toArray, hll] at hB
    have hfl : fv.length ≤ 12 := by
      have := hS.perm.length_eq
      rw [List.length_append, List.length_range] at this
      rw [hfv.length, List.length_map]
      omega
    obtain ⟨j, q, d1, d2, d3, d4⟩ := find_del hlv hB.1
    k_steps
    unfold Hold
    refine append_K F14 N14 (.tail n1 (.head n2)) ?_ (by rw [PySem.sizeLine_eq]; simp only [List.size_toArray]; omega)
    intro h15 F15 N15
    k_steps
    unfold Hold
    refine kf_remove F15 N15 d1 d2 d3 (.head ?_) ?_ ?_
    · intro p hp
      rcases List.mem_cons.mp hp with rfl | hp
      · exact n1.symm
      · exact n3 p hp
    · show lv.length ≤ _
      rw [sizeLine_eq, hlv.length, List.length_map]
      have := hS.perm.length_eq
      rw [List.length_append, List.length_range] at this
      omega
    intro h16 F16 N16
    k_steps
    unfold Hold
    rw [List.push_toArray] at N16
    refine WhileStep.intro (n' := (ls.erase b).length) F16 N16 ?_ ⟨va', _, _, q, _, _, fs ++ [b], ls.erase b, rfl, rfl, ?_, d4, hS.step hlen hB, rfl⟩
    · rw [List.length_erase_of_mem hB.1, hxr]
      simp
    · rw [List.map_append]
      exact intsAre_snoc hfv _ _
end
end Mine
end

section
open PySem PySem.W PyProof.Rows
set_option Elab.async false
set_option maxRecDepth 100000
set_option linter.unusedVariables false
namespace Mine
/-- is the number k white at the gray g -/
noncomputable def whK (octs : List Int) (g : Int) (k : Nat) : Bool := decide (octs.getD k 0 ≤ lvl g)
/-- the white numbers below n -/
noncomputable def whL (n : Nat) (octs : List Int) (g : Int) : List Nat := (List.range n).filter (whK octs g)
theorem IsOrd.one {vals : List Int} {a b : List Nat} (ha : IsOrd vals a) (hb : IsOrd vals b) : a = b :=
  List.Perm.eq_of_pairwise (fun _ _ _ _ h1 h2 => absurd h1 (Int.lt_asymm h2)) ha.2 hb.2 (ha.1.trans hb.1.symm)
theorem whiteV_at {wd ht : Int} {octs : List Int} {g : Int} {k : Nat} (h1 : 1 ≤ wd) (h3 : 1 ≤ ht) (hk : (k : Int) < wd * ht) (hl : (octs.length : Int) = wd * ht) (hin : ∀ x ∈ octs, 1 ≤ x ∧ x ≤ 255) : whiteV wd ht octs g ((k : Int).fmod wd) ((k : Int).fdiv wd) = whK octs g k := by
  have e1 : (k : Int).fmod wd = (k : Int) % wd := Int.fmod_eq_emod_of_nonneg _ (by omega)
  have e2 : (k : Int).fdiv wd = (k : Int) / wd := Int.fdiv_eq_ediv_of_nonneg _ (by omega)
  have a0 : 0 ≤ (k : Int) % wd := Int.emod_nonneg _ (by omega)
  have a1 : (k : Int) % wd < wd := Int.emod_lt_of_pos _ (by omega)
  have b0 : 0 ≤ (k : Int) / wd := Int.ediv_nonneg (by omega) (by omega)
  have b1 : (k : Int) / wd < ht := Int.ediv_lt_of_lt_mul (by omega) (by rw [Int.mul_comm]; exact hk)
  unfold whiteV whK
  rw [e1, e2, Int.fmod_eq_emod_of_nonneg _ (by omega), Int.fmod_eq_emod_of_nonneg _ (by omega), Int.emod_eq_of_lt b0 b1, Int.emod_eq_of_lt a0 a1]
  have e3 : ((k : Int) / wd * wd + (k : Int) % wd) = (k : Int) := by rw [Int.mul_comm]; exact Int.mul_ediv_add_emod _ _
  rw [e3, Int.toNat_natCast]
  have hkl : k < octs.length := by omega
  have : octs.getD k 0 ∈ octs := by rw [List.getD_eq_getElem?_getD, List.getElem?_eq_getElem hkl]; exact List.getElem_mem hkl
  have := (hin _ this).1
  rw [Int.max_eq_right this]
/-- what the thresholds of spot_halftone are -/
structure SpotOk (vals octs : List Int) (ord : List Nat) : Prop where
  hord : IsOrd vals ord
  hl : octs.length = vals.length
  hk : ∀ k, k < vals.length → octs.getD (ord.getD k 0) 0 = ((k : Int) * 255) / (vals.length : Int) + 1
  h12 : vals.length ≤ 12
theorem SpotOk.in {vals octs : List Int} {ord : List Nat} (h : SpotOk vals octs ord) : ∀ x ∈ octs, 1 ≤ x ∧ x ≤ 255 := octs_in h.hord h.hl h.hk
theorem filter_take {α : Type} {p : α → Bool} : ∀ {l : List α}, l.Pairwise (fun a b => p b = true → p a = true) → l.filter p = l.take (l.filter p).length
  | [], _ => rfl
  | a :: l, h => by
    rw [List.pairwise_cons] at h
    by_cases q : p a = true
    · rw [List.filter_cons_of_pos q, List.length_cons, List.take_succ_cons]
      rw [← filter_take h.2]
    · rw [List.filter_cons_of_neg q]
      have : l.filter p = [] := List.filter_eq_nil_iff.mpr fun b hb hp => q (h.1 b hb hp)
      rw [this]
      rfl
theorem SpotOk.perm {vals octs : List Int} {ord : List Nat} (h : SpotOk vals octs ord) (g : Int) : (whL vals.length octs g).Perm (ord.take (whL vals.length octs g).length) := by
  have hol : ord.length = vals.length := by rw [h.hord.1.length_eq, List.length_range]
  have p1 : (whL vals.length octs g).Perm (ord.filter (whK octs g)) := (h.hord.1.symm).filter _
  have pw : ord.Pairwise fun a b => whK octs g b = true → whK octs g a = true := by
    rw [List.pairwise_iff_getElem]
    intro i j hi hj hij q
    have ei := h.hk i (by omega)
    have ej := h.hk j (by omega)
    rw [show ord.getD i 0 = ord[i] by rw [List.getD_eq_getElem?_getD, List.getElem?_eq_getElem hi]; rfl] at ei
    rw [show ord.getD j 0 = ord[j] by rw [List.getD_eq_getElem?_getD, List.getElem?_eq_getElem hj]; rfl] at ej
    unfold whK at q ⊢
    have q := of_decide_eq_true q
    refine decide_eq_true ?_
    rw [ej] at q
    rw [ei]
    have : ((i : Int) * 255) / (vals.length : Int) ≤ ((j : Int) * 255) / (vals.length : Int) := Int.ediv_le_ediv (by omega) (by omega)
    omega
  have e := filter_take pw
  rw [p1.length_eq, ← e]
  exact p1
theorem wh_mono {n : Nat} {octs : List Int} {a b : Int} (h : a ≤ b) : (whL n octs a).length ≤ (whL n octs b).length := by
  unfold whL
  rw [← List.countP_eq_length_filter, ← List.countP_eq_length_filter]
  refine List.countP_mono_left fun x _ q => ?_
  unfold whK at q ⊢
  have := of_decide_eq_true q
  have := lvl_mono h
  exact decide_eq_true (by omega)
theorem SpotOk.zero {vals octs : List Int} {ord : List Nat} (h : SpotOk vals octs ord) : whL vals.length octs 0 = [] := by
  unfold whL
  rw [List.filter_eq_nil_iff]
  intro k hk q
  have hk' : k < octs.length := by rw [h.hl]; simpa using hk
  have q := of_decide_eq_true q
  have := (h.in _ (List.getElem_mem hk')).1
  rw [List.getD_eq_getElem?_getD, List.getElem?_eq_getElem hk', show lvl 0 = 0 from rfl] at q
  have q : octs[k] ≤ 0 := q
  omega
theorem SpotOk.full {vals octs : List Int} {ord : List Nat} (h : SpotOk vals octs ord) : (whL vals.length octs 1000000).length = vals.length := by
  unfold whL
  rw [List.filter_eq_self.mpr, List.length_range]
  intro k hk
  have hk' : k < octs.length := by rw [h.hl]; simpa using hk
  refine decide_eq_true ?_
  have := (h.in _ (List.getElem_mem hk')).2
  rw [List.getD_eq_getElem?_getD, List.getElem?_eq_getElem hk', show lvl 1000000 = 255 from rfl]
  exact this
theorem wh_up (n : Nat) (octs : List Int) (g : Int) : ((whL n octs g).map Int.ofNat).Pairwise (· ≤ ·) := by
  refine List.Pairwise.map _ (R := fun a b => a < b) (fun a b h => ?_) (List.Pairwise.filter _ List.pairwise_lt_range)
  show (a : Int) ≤ (b : Int)
  omega
theorem wh_le {n : Nat} {octs : List Int} {g : Int} : (whL n octs g).length ≤ n := by
  have := List.length_filter_le (whK octs g) (List.range n)
  rw [List.length_range] at this
  exact this
end Mine
end

section
theorem Mine.rstSR {M : Model} {A : Around} {env : Env} {Q : Flow → Shared → Prop} {E : Value → Shared → Prop} {s : Shared} (h : Q .next s) : wpAny M A (execs [] env) Q E s := by
  w_top off
  walk1
  exact h
open PySem PySem.W PyProof.Rows PySem.Calls PyProof.Rows.LCg
set_option Elab.async false
set_option maxRecDepth 100000
set_option linter.unusedVariables false
set_option maxHeartbeats 4000000
namespace Mine
/-- as DCt, the ground of the caller free to turn -/
noncomputable def DCtS (w : World) (f : Addr) (vs : List Value) (room : Nat) (d l : Addr) (n k : Int) (R : Value → Prop) : Prop :=
  ∀ (rest : List (Addr × Obj)) (od ol : Obj), @Ne Nat d l → (∀ p ∈ rest, p.1 ≠ d) → (∀ p ∈ rest, p.1 ≠ l) → Deck w n l od ol →
    CtS w f vs room ((d, od) :: (l, ol) :: rest) (fun v news' => ∃ od' ol', Deck w (n + k) l od' ol' ∧ R v ∧ news' = (d, od') :: (l, ol') :: rest)
/-- the contract of spot_halftone, for any ledger that holds the list -/
theorem Ct.pullH {w : World} {f : Addr} {vs : List Value} {room : Nat} {A : Addr × Obj} {led : List (Addr × Obj)} {vals : List Int} {wd ht : Int} (C : Ct w f vs room (A :: led) (fun v news' => ∃ octs, SpotOcts vals octs ∧ HtNew w wd ht (byteArr octs) (A :: led) v news')) (hA : A ∈ led) : Ct w f vs room led (fun v news' => ∃ octs, SpotOcts vals octs ∧ HtNew w wd ht (byteArr octs) led v news') := by
  intro mean mg mb dp un gd cn cs a ccd cl outer A₀ base h₀ L m s Q E B F X N T hk hd hu hret
  refine C mean mg mb dp un gd cn cs a ccd cl outer A₀ base h₀ L m s Q E B F X (fun p hq => N p ?_) T hk hd hu ?_
  · rcases List.mem_cons.mp hq with rfl | hq
    · exact hA
    · exact hq
  · rintro v l h' tk' ⟨octs, r1, x, dx, t, u, tb, k1, k2, k3, r2, r3, r4, rfl⟩ F' N'
    refine hret v _ h' tk' ⟨octs, r1, x, dx, t, u, tb, k1, k2, k3, r2, fun p hp => r3 p (.tail _ hp), r4, rfl⟩ F' (news_drop3 N')
theorem news_drop234 {h₀ h : Heap} {L : Addr} {a b c e : Addr × Obj} {l : List (Addr × Obj)} (N : News h₀ L h (a :: b :: c :: e :: l)) : News h₀ L h (a :: l) := fun p hp => N p (by
  rcases List.mem_cons.mp hp with q | hp
  · exact q ▸ .head _
  · exact .tail _ (.tail _ (.tail _ (.tail _ hp))))
noncomputable def hdOf {h₀ h : Heap} {L : Addr} {a : Addr × Obj} {l : List (Addr × Obj)} (_ : News h₀ L h (a :: l)) : Addr × Obj := a
theorem updF_pre {d : Addr} {o : Obj} {l : List (Addr × Obj)} {g : Obj → List (Addr × Obj)} (h : UpdF d o l g) : ∀ {pre : List (Addr × Obj)}, (∀ p ∈ pre, p.1 ≠ d) → UpdF d o (pre ++ l) (fun o' => pre ++ g o')
  | [], _ => h
  | p :: pre, hp => .tail (hp p (.head _)) (updF_pre h fun q hq => hp q (.tail _ hq))
theorem DCt.use2 {w : World} {f : Addr} {vs : List Value} {room : Nat} {d l : Addr} {n k : Int} {R : Value → Prop} (pre : List (Addr × Obj)) {rest : List (Addr × Obj)} {od ol : Obj}
    {mean : ExcName → Option Value} {mg mb : Str → Option Value} {dp un : Nat} {gd : Option (List Code)} {cn : Str} {cs : Scope} {a : Addr} {ccd : Value} {cl : List (Str × Addr)} {outer : List Env} {A₀ : Around} {base h₀ : Heap} {L : Addr} {m : Str → Option Value} {s : Shared} {Q E : Value → Shared → Prop}
    (N : News h₀ L s.heap (pre ++ (d, od) :: (l, ol) :: rest)) (D : Deck w n l od ol) (C : DCt w f vs room d l n k R) (hd : ∀ p ∈ pre, p.1 ≠ d) (hl : ∀ p ∈ pre, p.1 ≠ l) (hrd : ∀ p ∈ rest, p.1 ≠ d) (hrl : ∀ p ∈ rest, p.1 ≠ l) (hdl : @Ne Nat d l)
    (B : Below A₀ base outer h₀) (F : Fr h₀ L s.heap m) (X : (Mine.hd.heap_1 w.params).In h₀) (T : Top vw (looseW vw loose) mean mg mb h₀) (hk : cs.kind = .function) (hdp : dp + room < recursionLimit) (hu : un + 100 * room < cLine)
    (h : ∀ v od' ol' h' tk', R v → Deck w (n + k) l od' ol' → Fr h₀ L h' m → News h₀ L h' (pre ++ (d, od') :: (l, ol') :: rest) → Q v { s with heap := h', toks := tk' }) :
    wpAny (model PySem.Challenge.rw_pb0512_01.row.prog w) (ktrTop dp un gd cn cs L a ccd cl outer) (call (.ref f) vs) Q E s :=
  DCt.use (g := fun o' => pre ++ (d, o') :: (l, ol) :: rest) (kk := fun o' o'' => pre ++ (d, o') :: (l, o'') :: rest) N D C
    (updF_pre (.head fun p hp => by
      rcases List.mem_cons.mp hp with rfl | hp
      · exact fun e => hdl e.symm
      · exact hrd p hp) hd)
    (fun od' => updF_pre (.tail hdl (.head hrl)) hl) hdl B F X T hk hdp hu h
theorem DCt.use2I {w : World} {f : Addr} {vs : List Value} {room : Nat} {d l : Addr} {n k : Int} {P : Int → Prop} (pre : List (Addr × Obj)) {rest : List (Addr × Obj)} {od ol : Obj}
    {mean : ExcName → Option Value} {mg mb : Str → Option Value} {dp un : Nat} {gd : Option (List Code)} {cn : Str} {cs : Scope} {a : Addr} {ccd : Value} {cl : List (Str × Addr)} {outer : List Env} {A₀ : Around} {base h₀ : Heap} {L : Addr} {m : Str → Option Value} {s : Shared} {Q E : Value → Shared → Prop}
    (N : News h₀ L s.heap (pre ++ (d, od) :: (l, ol) :: rest)) (D : Deck w n l od ol) (C : DCt w f vs room d l n k (fun v => ∃ x t, v = .int x t ∧ 0 ≤ x ∧ P x)) (hd : ∀ p ∈ pre, p.1 ≠ d) (hl : ∀ p ∈ pre, p.1 ≠ l) (hrd : ∀ p ∈ rest, p.1 ≠ d) (hrl : ∀ p ∈ rest, p.1 ≠ l) (hdl : @Ne Nat d l)
    (B : Below A₀ base outer h₀) (F : Fr h₀ L s.heap m) (X : (Mine.hd.heap_1 w.params).In h₀) (T : Top vw (looseW vw loose) mean mg mb h₀) (hk : cs.kind = .function) (hdp : dp + room < recursionLimit) (hu : un + 100 * room < cLine)
    (h : ∀ x t od' ol' h' tk', 0 ≤ x → P x → Deck w (n + k) l od' ol' → Fr h₀ L h' m → News h₀ L h' (pre ++ (d, od') :: (l, ol') :: rest) → Q (.int x t) { s with heap := h', toks := tk' }) :
    wpAny (model PySem.Challenge.rw_pb0512_01.row.prog w) (ktrTop dp un gd cn cs L a ccd cl outer) (call (.ref f) vs) Q E s :=
  DCt.use2 pre N D C hd hl hrd hrl hdl B F X T hk hdp hu fun v od' ol' h' tk' r D2 F2 N2 => by
    obtain ⟨x, t, rfl, a, b⟩ := r
    exact h x t od' ol' h' tk' a b D2 F2 N2
/-- the objects of _law_spots_right that stay -/
noncomputable abbrev spST (w : World) (wd ht : Int) (CX CD DO DV L' : Addr) (tq uq tbq k1q k2q k3q : Tok) (b : Array UInt8) (us : List Value) (ul : Nat) (ys : List Value) (o4 o3 o2 o1 : Obj) : List (Addr × Obj) :=
  [(CX, instObj 173 CD), (CD, htObj w wd ht tq uq b tbq k1q k2q k3q), (DO, listOf us.toArray ul), (DV, lst ys), (L' + 1 + 1 + 1 + 1, o4), (L' + 1 + 1 + 1, o3), (L' + 1 + 1, o2), (L' + 1, o1)]
theorem off_cons {a : Addr × Obj} {l : List (Addr × Obj)} {d : Addr} (h1 : a.1 ≠ d) (h2 : ∀ p ∈ l, p.1 ≠ d) : ∀ p ∈ a :: l, p.1 ≠ d := fun p hp => by
  rcases List.mem_cons.mp hp with rfl | hp
  · exact h1
  · exact h2 p hp
theorem off_nil {d : Addr} : ∀ p ∈ ([] : List (Addr × Obj)), p.1 ≠ d := fun _ h => nomatch h
/-- a frame's map with two of its names -/
noncomputable abbrev m2 (x y : Str) (a b : Option Value) (m : Str → Option Value) : Str → Option Value := fun z => if z = x then a else if z = y then b else m z
theorem m2_self (x y : Str) (m : Str → Option Value) : m = m2 x y (m x) (m y) m := by
  funext z
  by_cases q1 : z = x
  · subst q1; simp only [m2, if_true]
  · by_cases q2 : z = y
    · subst q2; simp only [m2, if_neg q1, if_true]
    · simp only [m2, if_neg q1, if_neg q2]
theorem m2_fold {x y : Str} {a b v w : Option Value} {m : Str → Option Value} (h : x ≠ y) : (fun z => if z = y then w else if z = x then v else m2 x y a b m z) = m2 x y v w m := by
  funext z
  by_cases q1 : z = x
  · subst q1; simp only [m2, if_true, if_neg h]
  · by_cases q2 : z = y
    · subst q2; simp only [m2, if_neg q1, if_true]
    · simp only [m2, if_neg q1, if_neg q2]
noncomputable def bm2 {h₀ h : Heap} {L : Addr} {m : Str → Option Value} (_ : Fr h₀ L h m) : Str → Option Value := m
theorem xy_bounds {wd k : Int} (h1 : 1 ≤ wd) (h2 : wd ≤ 4) (h0 : 0 ≤ k) (hk : k ≤ 40) : 0 ≤ k.fmod wd ∧ k.fmod wd ≤ 1000 ∧ 0 ≤ k.fdiv wd ∧ k.fdiv wd ≤ 1000 := by
  rw [Int.fmod_eq_emod_of_nonneg _ (by omega), Int.fdiv_eq_ediv_of_nonneg _ (by omega)]
  have a0 : 0 ≤ k % wd := Int.emod_nonneg _ (by omega)
  have a1 : k % wd < wd := Int.emod_lt_of_pos _ (by omega)
  have b0 : 0 ≤ k / wd := Int.ediv_nonneg (by omega) (by omega)
  have b1 : k / wd ≤ k := Int.ediv_le_self _ h0
  omega
theorem filter_succ {p : Nat → Bool} {j : Nat} : (List.range (j + 1)).filter p = (List.range j).filter p ++ (if p j then [j] else []) := by
  rw [List.range_succ, List.filter_append]
  cases h : p j with
  | true => rw [List.filter_cons_of_pos h]; simp
  | false => rw [List.filter_cons_of_neg (by simp [h])]; simp
theorem intsAre_snoc_eq {vs : List Value} {ns : List Int} (h : IntsAre vs ns) {x y : Int} {t : Tok} (e : y = x) : IntsAre (vs ++ [.int y t]) (ns ++ [x]) := e ▸ intsAre_snoc h y t
theorem white_is {vals octs : List Int} {ord : List Nat} (h : SpotOk vals octs ord) (g : Int) {ns : List Int} (p : ns.Perm (List.take ((((whL vals.length octs g).map Int.ofNat).length : Nat) : Int).toNat (ord.map Int.ofNat))) (o : ns.Pairwise (· ≤ ·)) : (whL vals.length octs g).map Int.ofNat = ns := by
  rw [Int.toNat_natCast, List.length_map, ← List.map_take] at p
  exact sorted_one (p.trans ((h.perm g).map Int.ofNat).symm) o (wh_up _ _ _)
theorem many_le {vals octs sn : List Int} {i many : Nat} {g : Int} (hs : sn.Pairwise (· ≤ ·)) (hg : sn[i]? = some g) (hm : many = if i = 0 then 0 else (whL vals.length octs (sn.getD (i - 1) 0)).length) : many ≤ ((whL vals.length octs g).map Int.ofNat).length := by
  rw [List.length_map, hm]
  split
  · exact Nat.zero_le _
  · refine wh_mono ?_
    have hi : i < sn.length := (List.getElem?_eq_some_iff.mp hg).1
    have e : sn[i] = g := (List.getElem?_eq_some_iff.mp hg).2
    rw [List.getD_eq_getElem?_getD, List.getElem?_eq_getElem (show i - 1 < sn.length by omega), ← e]
    exact (List.pairwise_iff_getElem.mp hs) (i - 1) i (by omega) hi (by omega)
noncomputable def oOf {o : Obj} {x : Data} (_ : o.data = x) : Obj := o
theorem last_gray {sn gs : List Int} (h7 : sn.length = 7) (hp : sn.Perm ([0, 1000000, 1000000] ++ gs)) (ho : sn.Pairwise (· ≤ ·)) (hg : GraysIn sn) : sn.getD 6 0 = 1000000 := by
  have hm : (1000000 : Int) ∈ sn := hp.mem_iff.mpr (by simp)
  obtain ⟨i, hi, e⟩ := List.mem_iff_getElem.mp hm
  have h6 : 6 < sn.length := by omega
  rw [List.getD_eq_getElem?_getD, List.getElem?_eq_getElem h6]
  show sn[6] = 1000000
  have a := (hg _ (List.getElem_mem h6)).2
  by_cases q : i = 6
  · subst q; exact e
  · have := (List.pairwise_iff_getElem.mp ho) i 6 hi h6 (by omega)
    rw [e] at this
    omega
theorem menu_vals (i : Nat) : -1000000 ≤ ([0, 1000000, -1000000, 1, 250000] : List Int).getD i 0 ∧ ([0, 1000000, -1000000, 1, 250000] : List Int).getD i 0 ≤ 1000000 := by
  by_cases h : i < 5
  · have : ∀ i : Fin 5, -1000000 ≤ ([0, 1000000, -1000000, 1, 250000] : List Int).getD i.1 0 ∧ ([0, 1000000, -1000000, 1, 250000] : List Int).getD i.1 0 ≤ 1000000 := by decide
    exact this ⟨i, h⟩
  · rw [List.getD_eq_getElem?_getD, List.getElem?_eq_none (by simp; omega)]; decide
theorem area {wd ht : Int} (h1 : 1 ≤ wd) (h2 : wd ≤ 4) (h3 : 1 ≤ ht) (h4 : ht ≤ 3) : 1 ≤ wd * ht ∧ wd * ht ≤ 12 := by
  have : wd = 1 ∨ wd = 2 ∨ wd = 3 ∨ wd = 4 := by omega
  rcases this with rfl | rfl | rfl | rfl <;> omega
section
local macro_rules | `(tactic| walk_at "call ref") => `(tactic| ((try k_fold); refine hold ?_))
local macro_rules | `(tactic| walk_at "eval ListComp") => `(tactic| (k_dflt (refine LCg.ListComp_U (F₀ := by k_asm) (by with_unfolding_all rfl) (by decide) (by rfl) (by decide) (by rfl) ?_); k_dflt lcg_toSrc))
local macro_rules | `(tactic| walk_at "exec Assign cons ListComp") => `(tactic| ((fail_if_success lct_look); k_dflt (refine LCg.Assign_ListComp_U (F₀ := by k_asm) (by rfl) (by with_unfolding_all rfl) (by with_unfolding_all rfl) (by decide) (by rfl) (by decide) (by rfl) (by rfl) (by rfl) ?_); k_dflt lcg_toSrc))
local macro_rules | `(tactic| walk_at "exec Assign cons ListComp") => `(tactic| (lct_look; k_dflt (refine LCt.Assign_ListComp_T (F₀ := by k_asm) (by rfl) (by with_unfolding_all rfl) (by with_unfolding_all rfl) (by decide) (by rfl) (by decide) (by rfl) (by rfl) (by rfl) ?_); k_dflt lct_toSrc))
local macro_rules | `(tactic| walk_at "CompSrc") => `(tactic| ((try k_fold); refine hold ?_))
local macro_rules | `(tactic| walk_at "exec For Name Call cons nil") => `(tactic| ((try k_fold); refine hold ?_))
local macro_rules | `(tactic| walk_at "CompSrcT") => `(tactic| ((try k_fold); refine hold ?_))
set_option maxHeartbeats 0 in
theorem spots_ct (w : World) (d l : Addr) (n : Int) (wd ht : Int) (t u : Tok) (hn : n < 900) (h1 : 1 ≤ wd) (h2 : wd ≤ 4) (h3 : 1 ≤ ht) (h4 : ht ≤ 3) : DCtS w 263 [.ref d, .int wd t, .int ht u] 10 d l n 20 (fun v => v = .bool true) := by
  intro rest od ol hdl hrd hrl hD
  unfold CtS
  k_fill
  intro mean mg mb dp un gd cn cs a ccd cl outer A₀ base h₀ L m s Q E B F XB N TB D hk hd hu hret
  obtain ⟨hA1, hA2⟩ := area h1 h2 h3 h4
  have X := XB.keeps B.stays
  have T := TB.keeps B.stays
  refine wpAny_call ?_
  k_dflt (refine' code_ZC ?k1 ?k2 ?k3 ?k4 ?k5 ?kD ?kA ?kF ?kK ?k6 ?k7 ?k8 ?k9 ?kB ?kN ?_ ?c2 ?c3 ?c4; (case kA => exact rfl); (case kF => exact rfl); (case kK => assumption); (case k1 => exact B); (case k2 => exact F); (case k3 => exact X); (case k4 => exact N); (case k5 => exact T); (case kD => exact D); (case k6 => k_is); (case k7 => k_is); (case k8 => k_room); (case k9 => first | exact BindsTo.of_eq rfl | exact binds_K (by k_in) rfl (by k_is) rfl rfl rfl); (case kB => exact rfl); (case kN => decide +kernel); (case c2 => exact rfl); (case c3 => exact rfl); (case c4 => exact rfl); k_whole; intro g' L' h' tk' cells' FG' F' N' Y' B' X' T' D' l1; k_lt l1)
  obtain ⟨o4, o3, o2, o1, hE, e4, e3, e2, e1⟩ := CellsAre.four Y'
  subst hE
  clear Y'
  replace e4 : o4.data = .cell none := e4
  replace e3 : o3.data = .cell none := e3
  replace e2 : o2.data = .cell (some (.int wd t)) := e2
  replace e1 : o1.data = .cell (some (.ref d)) := e1
  simp only [List.cons_append, List.nil_append] at N'
  dsimp only
  k_lift B'
  try k_fold
  k_steps
  have r3 : ∀ p ∈ rest, p.1 ≠ L' + 1 + 1 + 1 := allLt_ne l1.2.2 (by omega)
  have r4 : ∀ p ∈ rest, p.1 ≠ L' + 1 + 1 + 1 + 1 := allLt_ne l1.2.2 (by omega)
  rename IsRange _ _ _ _ _ _ _ _ => hr
  unfold Hold
  rename News _ _ _ _ => N11
  refine CompSrc.range (n := (wd * ht).toNat) (by rfl) (by k_asm) N11 hr (small_one (by omega) (by omega) (by omega) (by omega)) (by rw [rangeSize_nat]; omega) (by rw [sizeLine_eq]; omega) ?_
  intro g2
  clear N11 hr
  refine comp_inv (fun j ys led2 => ∃ od2 ol2 xs, Deck w (n + (j : Int)) l od2 ol2 ∧ led2 = (L' + 1 + 1 + 1 + 1, o4) :: (L' + 1 + 1 + 1, o3) :: (L' + 1 + 1, o2) :: (L' + 1, o1) :: (d, od2) :: (l, ol2) :: rest ∧ IntsAre ys xs ∧ xs.length = j ∧ ValsIn xs) (xm3 _ _ [] (am5 (Deck.mono hD (by omega)) rfl (.nil) rfl (fun _ h => nomatch h))) ?_ ?_
  · rintro j ys led2 v I2 oI2 C oC Dd m2 h10 tk10 E2 hj pzz
    refine ex3 pzz ?_; clear pzz; intro od2 ol2 xs pzz; refine and5 pzz ?_; clear pzz; rintro D2 rfl hY hxl hxv ⟨t10, rfl⟩ hC hm2 F10 N10 off10 ne10
    have o9 := off10
    simp only [Off3] at off10
    have hj12 : j < 12 := by clear off10 ne10; omega
    k_steps
    unfold Hold
    refine DCt.useI (by k_asm) D2 (draw_ct w d l (n + (j : Int)) 5 _ (by decide) (by decide) (by clear off10 ne10; omega)) (by k_updF) (by (intro _; k_updF)) hdl (by k_asm) (by k_asm) (by k_asm) (by k_asm) rfl (by ktr_room) (by ktr_units) ?_
    intro x11 t11 od11 ol11 h11 tk11 lo11 hi11 D11 F11 N11
    k_steps
    rename News _ _ _ _ => N12
    refine CompEnd.intro (by k_asm) N12 _ (fun p hp => .tail _ hp) o9 trivial (xm3 od11 ol11 (xs ++ [_]) (am5 (Deck.mono D11 (by clear off10 ne10; omega)) rfl (intsAre_snoc hY _ _) (by rw [List.length_append, hxl]; rfl) (fun p hp => ?_)))
    rcases List.mem_append.mp hp with hp | hp
    · exact hxv p hp
    · rw [List.mem_singleton.mp hp]; exact menu_vals _
  · rintro ys led2 pzz
    refine ex3 pzz ?_; clear pzz; intro od2 ol2 vals pzz; refine and5 pzz ?_; clear pzz; rintro D2 rfl hY hvl hvv
    have hv12 : vals.length ≤ 12 := by omega
    have hv1 : 1 ≤ vals.length := by omega
    have hvA : (vals.length : Int) = wd * ht := by omega
    replace hvl := held hvl
    k_steps
    unfold Hold
    rename News _ _ _ _ => N13
    refine Ct.use' N13 (Ct.pullO (lawOrder_ct w _ _ ys _ vals hY hvv hv12) (.head _)) (by k_asm) (by k_asm) (by k_asm) (by k_asm) rfl (by ktr_room) (by ktr_units) ?_
    rintro v14 news14 h14 tk14 ⟨DO, us, ul, ord, rfl, hU, hord, hne14, rfl⟩ F14 N14
    have o14 := off1_of hne14
    simp only [Off1] at o14
    clear hne14
    k_steps
    unfold Hold
    refine Ct.use' N14 (Ct.pullH (spot_ct w _ _ ys _ wd ht _ _ vals hY hvv h1 h2 h3 h4 hvA hv12 hv1) (.tail _ (.head _))) (by k_asm) (by k_asm) (by k_asm) (by k_asm) rfl (by ktr_room) (by ktr_units) ?_
    rintro v15 news15 h15 tk15 ⟨octs, hocts, CX, CD, tq, uq, tbq, k1q, k2q, k3q, rfl, lt15, lt15b, rfl⟩ F15 N15
    k_lt lt15
    k_steps
    unfold Hold
    rename News _ _ _ _ => N16
    refine Ct.use' N16 (Ct.pullO (order_ct w _ _ ys _ vals hY hvv hv12 hv1) (by k_mem)) (by k_asm) (by k_asm) (by k_asm) (by k_asm) rfl (by ktr_room) (by ktr_units) ?_
    rintro v17 news17 h17 tk17 ⟨DO2, us2, ul2, ord2, rfl, hU2, hord2, hne17, rfl⟩ F17 N17
    obtain rfl : ord2 = ord := hord2.one hord
    have hSO : SpotOk vals octs ord2 := by
      obtain ⟨oz, z1, z2, z3⟩ := hocts
      obtain rfl := z1.one hord
      exact ⟨z1, z2, z3, hv12⟩
    have hoct := hSO.in
    have hO : HtOk CX CD tq uq tbq k1q k2q k3q wd ht (byteArr octs) octs := ⟨KBa.ints_make fun x hx => ⟨by have := (hoct x hx).1; omega, by have := (hoct x hx).2; omega⟩, h1, h2, h3, h4, by rw [hSO.hl]; exact hvA, by rw [hSO.hl]; omega⟩
    have hol : ord2.length = vals.length := by rw [hord.1.length_eq, List.length_range]
    have hul : us.length = vals.length := by rw [hU.length, List.length_map, hol]
    have hul2 : us2.length = vals.length := by rw [hU2.length, List.length_map, hol]
    have hol2 : ord2.length ≤ 12 := by rw [hol]; exact hv12
    replace hul := Nat.le_trans (Nat.le_of_eq hul) hv12
    replace hul2 := Nat.le_trans (Nat.le_of_eq hul2) hv12
    replace hol := held hol
    clear hne17
    k_steps
    unfold Hold
    rename_i DV hA tkA oA _ _ _ _ _ _ DT hB l1B hC hDd hEe o3n e3n hF _ _ _ _ LD2 c2 hG F18 N18 l1C
    have hSd : ∀ p ∈ spST w wd ht CX CD DO DV L' tq uq tbq k1q k2q k3q (byteArr octs) us ul ys o4 o3n o2 o1, p.1 ≠ d :=
      off_cons (by clear o14 oA; (refine neN ?_; (try dsimp only); omega)) (off_cons (by clear o14 oA; (refine neN ?_; (try dsimp only); omega)) (off_cons o14.2.2.2.2.2.1.symm (off_cons oA.2.2.2.2.1.symm (off_cons (by clear o14 oA; (refine neN ?_; (try dsimp only); omega)) (off_cons (by clear o14 oA; (refine neN ?_; (try dsimp only); omega)) (off_cons (by clear o14 oA; (refine neN ?_; (try dsimp only); omega)) (off_cons (by clear o14 oA; (refine neN ?_; (try dsimp only); omega)) off_nil)))))))
    have hSl : ∀ p ∈ spST w wd ht CX CD DO DV L' tq uq tbq k1q k2q k3q (byteArr octs) us ul ys o4 o3n o2 o1, p.1 ≠ l :=
      off_cons (by clear o14 oA; (refine neN ?_; (try dsimp only); omega)) (off_cons (by clear o14 oA; (refine neN ?_; (try dsimp only); omega)) (off_cons o14.2.2.2.2.2.2.1.symm (off_cons oA.2.2.2.2.2.1.symm (off_cons (by clear o14 oA; (refine neN ?_; (try dsimp only); omega)) (off_cons (by clear o14 oA; (refine neN ?_; (try dsimp only); omega)) (off_cons (by clear o14 oA; (refine neN ?_; (try dsimp only); omega)) (off_cons (by clear o14 oA; (refine neN ?_; (try dsimp only); omega)) off_nil)))))))
    have hS4 : ∀ p ∈ [(CX, instObj 173 CD), (CD, htObj w wd ht tq uq (byteArr octs) tbq k1q k2q k3q), (DO, listOf us.toArray ul), (DV, lst ys)], p.1 ≠ L' + 1 + 1 + 1 + 1 :=
      off_cons (by clear o14 oA; (refine neN ?_; (try dsimp only); omega)) (off_cons (by clear o14 oA; (refine neN ?_; (try dsimp only); omega)) (off_cons o14.2.1.symm (off_cons oA.1.symm off_nil)))
    clear o14 oA
    refine For_G F18 (by intro _ _; rfl) (by rfl) ?_
    k_steps
    unfold Hold
    rename IsRange _ _ _ _ _ _ _ _ => hr
    rename News _ _ _ _ => N19
    rename_i G3 hGa FGa N18b l1G hGb tkG tG uG vG FG aG
    have N20 := news_drop234 N19
    have hG3d : G3 ≠ d := Nat.ne_of_gt (by omega)
    have hG3l : G3 ≠ l := Nat.ne_of_gt (by omega)
    have hG34 : G3 ≠ L' + 1 + 1 + 1 + 1 := Nat.ne_of_gt (by omega)
    clear N18b
    refine CompSrc.range (n := 4) (by rfl) (by k_asm) N20 hr (small_one (by decide) (by decide) (by decide) (by decide)) (by rfl) (by rw [sizeLine_eq]; decide) ?_
    intro g5
    clear hr N19
    refine comp_inv (fun j zs led2 => ∃ od3 ol3 gs, Deck w (n + 12 + 2 * (j : Int)) l od3 ol3 ∧ led2 = hdOf N20 :: (spST w wd ht CX CD DO DV L' tq uq tbq k1q k2q k3q (byteArr octs) us ul ys o4 o3n o2 o1 ++ (d, od3) :: (l, ol3) :: rest) ∧ IntsAre zs gs ∧ gs.length = j ∧ GraysIn gs) (xm3 _ _ [] (am5 (Deck.mono D2 (by omega)) rfl (.nil) rfl (fun _ h => nomatch h))) ?_ ?_
    · rintro j zs led2 v I2 oI2 C oC Dd m2 h10 tk10 E2 hj pzz
      refine ex3 pzz ?_; clear pzz; intro od3 ol3 gs pzz; refine and5 pzz ?_; clear pzz; rintro D3 rfl hZ hgl hgg ⟨t10, rfl⟩ hC' hm2 F10 N10 off10 ne10
      dsimp only [hdOf, spST, List.cons_append, List.nil_append] at N10 off10 ⊢
      clear N20
      have om := off10.mem
      have od := om (d, od3) (by k_mem)
      have ol := om (l, ol3) (by k_mem)
      have hb1 : n + 12 + 2 * (j : Int) < 998 := by clear ne10; omega
      k_steps
      unfold Hold
      refine DCt.use2I ((I2, oI2) :: (C, oC) :: (Dd, lst zs) :: (G3, _) :: spST w wd ht CX CD DO DV L' tq uq tbq k1q k2q k3q (byteArr octs) us ul ys o4 o3n o2 o1) N10 D3 (gray_ct w d l (n + 12 + 2 * (j : Int)) hb1) (off_cons od.1.symm (off_cons od.2.1.symm (off_cons od.2.2.symm (off_cons hG3d hSd)))) (off_cons ol.1.symm (off_cons ol.2.1.symm (off_cons ol.2.2.symm (off_cons hG3l hSl)))) hrd hrl hdl (by k_asm) (by k_asm) (by k_asm) (by k_asm) rfl (by ktr_room) (by ktr_units) ?_
      intro x11 t11 od11 ol11 h11 tk11 lo11 hi11 D11 F11 N11
      k_steps
      refine CompEnd.intro F11 N11 _ (fun p hp => hp) off10 trivial (xm3 od11 ol11 (gs ++ [x11]) (am5 (Deck.mono D11 (by clear ne10; omega)) rfl (intsAre_snoc hZ _ _) (by rw [List.length_append, hgl]; rfl) (fun p hp => ?_)))
      rcases List.mem_append.mp hp with hp | hp
      · exact hgg p hp
      · rw [List.mem_singleton.mp hp]; exact ⟨lo11, hi11⟩
    · rintro zs led2 pzz
      refine ex3 pzz ?_; clear pzz; intro od3 ol3 gs pzz; refine and5 pzz ?_; clear pzz; rintro D3 rfl hZ hgl hgg
      dsimp only [hdOf, spST, List.cons_append, List.nil_append]
      clear N20
      k_steps
      rename_i SG sv sn sc hS FS NS is es ps os bs p0s l1S
      have es : sn.length = 7 := by rw [es, List.length_append, hgl]; rfl
      have hsg : GraysIn sn := fun x hx => by
        rcases List.mem_append.mp (ps.mem_iff.mp hx) with q | q
        · have : ∀ y ∈ ([0, 1000000, 1000000] : List Int), 0 ≤ y ∧ y ≤ 1000000 := by decide
          exact this x q
        · exact hgg x q
      clear bs p0s
      have hsvl : sv.length = 7 := by rw [is.length, es]
      have nSG : SG ≠ L' + 1 + 1 + 1 + 1 := Nat.ne_of_gt (by omega)
      have nSd : SG ≠ d := Nat.ne_of_gt (by omega)
      have nSl : SG ≠ l := Nat.ne_of_gt (by omega)
      have nDO : @Ne Nat DO (L' + 1 + 1 + 1 + 1) := hS4 _ (.tail _ (.tail _ (.head _)))
      have nDV : @Ne Nat DV (L' + 1 + 1 + 1 + 1) := hS4 _ (.tail _ (.tail _ (.tail _ (.head _))))
      have N21 := news_drop234 NS
      obtain ⟨tm0, htm0⟩ : ∃ tm0, bm2 FS (Str.ofString "many") = some (.int 0 tm0) := ⟨_, rfl⟩
      refine iter_list_G (by rfl) FS N21 (.inr ⟨_, .head _, rfl, _, rfl⟩) ?_
      intro g6
      clear NS N21
      refine ForTurns.intro (fun i m' led => ∃ (o4' : Obj) (a4 wv : Option Value) (many : Nat) (tm : Tok), o4'.data = .cell a4 ∧ m' = m2 (Str.ofString "white") (Str.ofString "many") wv (some (.int (many : Int) tm)) (bm2 FS) ∧ led = (SG, listOf sv.toArray sc) :: (spST w wd ht CX CD DO DV L' tq uq tbq k1q k2q k3q (byteArr octs) us ul ys o4' o3n o2 o1 ++ (d, od3) :: (l, ol3) :: rest) ∧ many = if i = 0 then 0 else (whL vals.length octs (sn.getD (i - 1) 0)).length) (?_) ?_ ?_
      · exact ⟨o4, _, _, 0, tm0, e4, by rw [show (some (Value.int ((0 : Nat) : Int) tm0)) = bm2 FS (Str.ofString "many") from htm0.symm]; exact m2_self _ _ _, rfl, rfl⟩
      · rintro i v m4 led4 h14 tk14 I oI hi hiv pzz
        refine ex5 pzz ?_; clear pzz; intro o4' a4 wv many tm pzz; refine and4 pzz ?_; clear pzz; rintro e4' rfl rfl hmany _ F14 N14 off14
        dsimp only [bm2, spST, List.cons_append, List.nil_append] at F14 N14 off14 ⊢
        obtain ⟨g, tg, rfl, hg⟩ := is.at i v (by simpa using hiv)
        have hgi := hsg g (List.mem_of_getElem? hg)
        have nI4 : @Ne Nat (L' + 1 + 1 + 1 + 1) I := off14 (L' + 1 + 1 + 1 + 1, o4') (by k_mem)
        have o9 := off1_of off14
        have hmle := many_le os hg hmany
        clear htm0 FS
        k_steps
        unfold Hold
        rename IsRange _ _ _ _ _ _ _ _ => hr
        rename News _ _ _ _ => N24
        refine LCt.CompSrcT.range (n := vals.length) (by rfl) (by k_asm) N24 hr (small_one (by omega) (by omega) (by omega) (by omega)) (by rw [rangeSize_nat]; omega) (by rw [sizeLine_eq]; omega) ?_
        intro g7
        clear hr
        refine compT_inv (fun j ws led2 => led2 = nOf N24 ∧ IntsAre ws (((List.range j).filter (whK octs g)).map Int.ofNat)) ⟨rfl, .nil⟩ ?_ ?_
        · rintro j ws led2 v I2 oI2 C oC Dd m5 h10 tk10 E2 hj ⟨rfl, hW⟩ ⟨t10, rfl⟩ hC' hm2 F10 N10 off10 ne10
          dsimp only [nOf] at N10 off10 ⊢
          clear N24
          obtain ⟨x1, x2, y1, y2⟩ := xy_bounds (k := 0 + (j : Int)) h1 h2 (by omega) (by omega)
          k_steps
          unfold Hold
          refine Ct.useB' (by k_asm) (white_led hO (by k_mem) (by k_mem) hgi.1 hgi.2 x1 x2 y1 y2) (by k_asm) (by k_asm) (by k_asm) (by k_asm) (by first | exact rfl | assumption) (by ktr_room) (by ktr_units) ?_
          intro h25 tk25 F25 N25
          rw [show (0 + (j : Int)) = (j : Int) by omega, whiteV_at h1 h3 (by omega) (by rw [hSO.hl]; exact hvA) hoct]
          cases hw : whK octs g j with
          | true =>
            k_steps
            refine CompEnd.intro F25 N25 _ (fun p hp => hp) off10 trivial ⟨rfl, ?_⟩
            rw [filter_succ, hw, if_pos rfl, List.map_append]
            exact intsAre_snoc_eq hW (by show 0 + (j : Int) = (j : Int); omega)
          | false =>
            k_steps
            refine CompEnd.intro F25 N25 _ (fun p hp => hp) off10 trivial ⟨rfl, ?_⟩
            rw [filter_succ, hw, if_neg (by simp), List.append_nil]
            exact hW
        · rintro ws led2 ⟨rfl, hW⟩
          change IntsAre ws ((whL vals.length octs g).map Int.ofNat) at hW
          dsimp only [nOf]
          clear N24
          have hwl : ws.length = (whL vals.length octs g).length := by rw [hW.length, List.length_map]
          have hwn : (whL vals.length octs g).length ≤ 12 := Nat.le_trans wh_le hv12
          have hwl2 : ((whL vals.length octs g).map Int.ofNat).length = (whL vals.length octs g).length := List.length_map ..
          rename _ = Data.cell (some (Value.int g tg)) => dG
          have hmany' : Hold (((whL vals.length octs g).map Int.ofNat).length = if i + 1 = 0 then 0 else (whL vals.length octs (sn.getD (i + 1 - 1) 0)).length) := by
            unfold Hold
            rw [if_neg (by omega), show i + 1 - 1 = i by omega, List.getD_eq_getElem?_getD, hg, List.length_map]
            rfl
          k_steps
          · rename Fr _ _ _ _ => F30
            rename News _ _ _ _ => N30
            exact ForEnd.intro ((SG, listOf sv.toArray sc) :: (spST w wd ht CX CD DO DV L' tq uq tbq k1q k2q k3q (byteArr octs) us ul ys (oOf dG) o3n o2 o1 ++ (d, od3) :: (l, ol3) :: rest)) (m2_fold (x := Str.ofString "white") (y := Str.ofString "many") (by decide) ▸ F30) N30 (by intro p hp; dsimp only [oOf, spST, List.cons_append, List.nil_append] at hp; repeat (first | exact hp | refine List.Mem.tail _ ?_)) (off1_mem o9) (Or.inr ⟨_, .head _, rfl, _, rfl⟩) (xm5 _ _ _ _ _ (am4 dG rfl rfl hmany'))
          · rename g = 0 => hg0
            rename decide _ = false => hd0
            rw [hg0, hSO.zero] at hd0
            exact absurd rfl (of_decide_eq_false hd0)
          · rename Fr _ _ _ _ => F30
            rename News _ _ _ _ => N30
            exact ForEnd.intro ((SG, listOf sv.toArray sc) :: (spST w wd ht CX CD DO DV L' tq uq tbq k1q k2q k3q (byteArr octs) us ul ys (oOf dG) o3n o2 o1 ++ (d, od3) :: (l, ol3) :: rest)) (m2_fold (x := Str.ofString "white") (y := Str.ofString "many") (by decide) ▸ F30) N30 (by intro p hp; dsimp only [oOf, spST, List.cons_append, List.nil_append] at hp; repeat (first | exact hp | refine List.Mem.tail _ ?_)) (off1_mem o9) (Or.inr ⟨_, .head _, rfl, _, rfl⟩) (xm5 _ _ _ _ _ (am4 dG rfl rfl hmany'))
          · rename ¬ _ = _ => hne
            exact absurd (white_is hSO g (by assumption) (by assumption)) hne
      · rintro m4 led4 h14 tk14 pzz
        refine ex5 pzz ?_; clear pzz; intro o4' a4 wv many tm pzz; refine and4 pzz ?_; clear pzz; rintro e4' rfl rfl hmany _ F14 N14
        dsimp only [bm2, spST, List.cons_append, List.nil_append] at F14 N14 ⊢
        have hmn : (many : Int) = wd * ht := by
          rw [hmany, List.size_toArray, hsvl, if_neg (by decide), last_gray es ps os hsg, hSO.full]
          exact hvA
        clear htm0 FS hmany
        k_steps
        · exact absurd hmn (by assumption)
        unfold Hold
        rename Fr _ _ _ _ => F32
        rename News _ _ _ _ => N32
        rename IntsAre _ (vals ++ [0]) => hNV
        refine (refused_spot w _ wd ht _ _ _ (spot_x w _ _ _ _ wd ht _ _ (vals ++ [0]) hNV h1 h2 h3 h4 (by rw [List.length_append]; show ((vals.length + 1 : Nat) : Int) ≠ _; omega) (by rw [List.length_append]; show vals.length + 1 ≤ 13; omega))) _ _ _ _ _ _ _ _ _ _ _ _ _ _ _ _ _ _ _ _ B' F32 XB N32 TB D' rfl (by ktr_room) (by ktr_units) ?_
        rintro v33 news33 h33 tk33 g33 ⟨rfl, rfl⟩ T33 F33 N33 B33
        have X33 := XB.keeps B33.stays
        have TT33 := TB.keeps B33.stays
        have D33 := D'.turn T33
        clear F32 N32
        k_steps
        unfold Hold
        rename Fr _ _ _ _ => F34
        rename News _ _ _ _ => N34
        rename IntsAre _ (List.drop 1 vals) => hNW
        refine (refused_spot w _ wd ht _ _ _ (spot_x w _ _ _ _ wd ht _ _ (vals.drop 1) hNW h1 h2 h3 h4 (by rw [List.length_drop]; omega) (by rw [List.length_drop]; omega))) _ _ _ _ _ _ _ _ _ _ _ _ _ _ _ _ _ _ _ _ B33 F34 XB N34 TB D33 rfl (by ktr_room) (by ktr_units) ?_
        rintro v35 news35 h35 tk35 g35 ⟨rfl, rfl⟩ T35 F35 N35 B35
        have X35 := XB.keeps B35.stays
        have TT35 := TB.keeps B35.stays
        clear F34 N34
        k_steps
        refine ⟨g35, L', _, (d, od3) :: (l, ol3) :: rest, T33.trans T35, F35, cb_drop N35 (by intro p hp; repeat (first | exact hp | refine List.Mem.tail _ ?_)), fun h₀' Tz Fz Nz Bz => hret _ _ _ _ _ ⟨od3, ol3, Deck.mono D3 (by omega), rfl, rfl⟩ Tz Fz Nz Bz⟩
end
end Mine
end

section
open PySem PySem.W PyProof.Rows PySem.Calls
set_option Elab.async false
set_option maxRecDepth 100000
set_option linter.unusedVariables false
set_option maxHeartbeats 4000000
namespace Mine
section
variable {prog : Program} {w : World} {A : Around} {E : Value → Shared → Prop} {s : Shared}
/-- the item i of a list made of bytes -/
noncomputable abbrev ByteAt (b : Array UInt8) (i : Nat) (v : Value) : Prop := ∃ c u, b[i]? = some c ∧ v = .int (c.toNat : Int) u
theorem extend_bytes {R : Result → Shared → Prop} (hh : A.handled = none) (b : Array UInt8) (t : Tok) (S : Addr) (res : Value) (c₀ : Nat) (hS : s.heap.get? S = some { cls := .type "list", data := .seq #[] c₀ })
    (hR : ∀ h' tk acc' c', (∀ b o, b ≠ S → s.heap.get? b = some o → h'.get? b = some o) → h'.get? S = some { cls := .type "list", dict := none, data := .seq acc' c', slots := #[] } →
      ItemsOf (ByteAt b) acc' b.size → R (.ok (.ret res)) { s with heap := h', toks := tk }) (hn : b.size ≤ 1000000) :
    wpAny (model prog w) A.in1 (Builtin.List.listExtendWith (.ref S) (.bytes b t) res)
      (fun fin s' => match fin with | .done f => R (.ok f) s' | .again c' => c'.quiet = true ∧ codeAny (model prog w) A c' R s') (fun e s' => R (.error e) s') s := by
  have hSI : S ≠ s.heap.objs.size := Nat.ne_of_lt (Heap.lt_size hS)
  have hSf : S ∉ [s.heap.objs.size] := fun hm => hSI (List.mem_singleton.mp hm)
  have W := (KBw.walks (prog := prog) (w := w) (A := A.in1) hh s.heap.objs.size b t).toS
  unfold Builtin.List.listExtendWith
  refine wpAny_bind (wpAny_typeOf (T := "bytes") (v := .bytes b t) rfl ?_)
  have h1 : Builtin.List.listSameRef (.ref S) (.bytes b t) = false := rfl
  have h2 : (Value.type "bytes" == Value.type "list") = false := by decide
  have h3 : (Value.type "bytes" == Value.type "tuple") = false := by decide
  simp only [h1, h2, h3, Bool.or_false, Bool.false_eq_true, if_false]
  refine wpAny_bind (KBw.pyIter_bytes ?_)
  refine wpAny_bind (wpAny_holding ?_)
  unfold Builtin.List.listLengthHint
  refine wpAny_bind (wpAny_specialOf (typeIs_bytes _ b t) FB.slot_bytes_len.lookup ?_)
  wp_delta
  refine wpAny_bind (wpAny_isInstance (T := "bytes") (v := .bytes b t) (b := true) rfl (by rw [isSubtype_type]; kernel_rfl) ?_)
  show wpAny _ _ (typeOf (Value.bytes b t) >>= _) _ _ _
  refine wpAny_bind (wpAny_typeOf (T := "bytes") (v := .bytes b t) rfl ?_)
  refine wpAny_pure ?_
  rw [if_neg (by decide)]
  have hst : KBw.IsBytesIter (s.heap.push { cls := .type "bytes_iterator", data := .fields #[.bytes b t, .int 0 0] }) s.heap.objs.size b t 0 := ⟨_, Heap.get?_push_size _ rfl, rfl, rfl⟩
  refine wpAny_pure ⟨plainId_quiet F.plain_extend_loop _, codeAny_extend_loopS W (by rw [sizeLine_eq]; omega) _ hSf _ b.size 0 _ _ _ rfl (Nat.zero_le _) hst (Heap.get?_push_of_some _ hS) (ItemsOf.nil _) fun s' acc' c' hm hS' hacc => ?_⟩
  rw [Moved.eq_with hm]
  refine hR s'.heap s'.toks acc' c' (fun b ob hb e => hm.heap b ob (fun hmem => ?_) (Heap.get?_push_of_some _ e)) hS' hacc
  rcases List.mem_cons.mp hmem with e' | hmem
  · exact hb e'
  · exact absurd (Heap.lt_size e) (by rw [List.mem_singleton.mp hmem]; exact Nat.lt_irrefl _)
theorem list_init_bytes {R : Result → Shared → Prop} (hh : A.handled = none) (b : Array UInt8) (t : Tok) (S : Addr) (hS : s.heap.get? S = some { cls := .type "list", data := .seq #[] })
    (hR : ∀ h' tk acc' c', (∀ b o, b ≠ S → s.heap.get? b = some o → h'.get? b = some o) → h'.get? S = some { cls := .type "list", dict := none, data := .seq acc' c', slots := #[] } →
      ItemsOf (ByteAt b) acc' b.size → R (.ok (.ret .none)) { s with heap := h', toks := tk }) (hn : b.size ≤ 1000000) :
    wpAny (model prog w) A.in1 (Builtin.«list.__init__» ⟨[.ref S, .bytes b t], []⟩)
      (fun fin s' => match fin with | .done f => R (.ok f) s' | .again c' => c'.quiet = true ∧ codeAny (model prog w) A c' R s') (fun e s' => R (.error e) s') s := by
  show wpAny _ _ (do let old ← Builtin.List.listItems (.ref S); Builtin.List.listUpdate (.ref S) (fun _ => #[]); letGo old.toList.reverse; Builtin.List.listExtendWith (.ref S) (.bytes b t) .none) _ _ s
  refine wpAny_bind ?_
  unfold Builtin.List.listItems
  refine wpAny_bind (wpAny_seqItems hS rfl (wpAny_pure ?_))
  show wpAny _ _ (updateSeq S (fun _ => #[]) >>= fun _ => letGo (#[] : Array Value).toList.reverse >>= fun _ => Builtin.List.listExtendWith (.ref S) (.bytes b t) .none) _ _ s
  refine wpAny_bind (wpAny_updateSeq hS rfl ?_)
  have hS₂ := Heap.get?_update_self (Obj.mapSeq (fun _ => (#[] : Array Value))) hS rfl
  have oth : ∀ b o, b ≠ S → s.heap.get? b = some o → (s.heap.update S (Obj.mapSeq (fun _ => (#[] : Array Value)))).get? b = some o :=
    fun b o hb e => (Heap.get?_update_other _ _ (Ne.symm hb)).trans e
  refine wpAny_bind (wpAny_letGo ?_)
  refine extend_bytes (hn := hn) hh b t S .none _ hS₂ fun h' tk acc' c' hk hS' hacc => ?_
  exact hR h' tk acc' c' (fun b o hb e => hk b o hb (oth b o hb e)) hS' hacc
theorem call_list_bytes {Q : Value → Shared → Prop} (hh : A.handled = none) (b : Array UInt8) (t : Tok)
    (hQ : ∀ h' tk acc' c', (∀ b o, s.heap.get? b = some o → h'.get? b = some o) →
      h'.get? s.heap.objs.size = some { cls := .type "list", dict := none, data := .seq acc' c', slots := #[] } → ItemsOf (ByteAt b) acc' b.size → Q (.ref s.heap.objs.size) { s with heap := h', toks := tk }) (hn : b.size ≤ 1000000) :
    wpAny (model prog w) A (call (.type "list") [.bytes b t]) Q E s := by
  refine callType_codes (Q₁ := fun obj s₁ => obj = .ref s.heap.objs.size ∧ s₁ = { s with heap := s.heap.push { cls := .type "list", data := .seq #[] } }) F.called_list (F.typeCall_list_1 _) F.entry_list_init
    (code_list_new _ ⟨rfl, rfl⟩) fun obj s₁ h₁ => ?_
  obtain ⟨rfl, rfl⟩ := h₁
  have hS : (s.heap.push { cls := .type "list", data := .seq #[] }).get? s.heap.objs.size = some { cls := .type "list", data := .seq #[] } := Heap.get?_push_size _ rfl
  refine ⟨⟨_, hS, rfl⟩, F.args_list_init_2 _ _, list_init_bytes (A := A.in1) (hn := hn) hh b t _ hS fun h' tk acc' c' hk hS' hacc => ?_⟩
  exact ⟨rfl, hQ h' tk acc' c' (fun b o e => hk b o (Nat.ne_of_lt (Heap.lt_size e)) (Heap.get?_push_of_some _ e)) hS' hacc⟩
theorem intsAre_of_items : ∀ {vs : List Value} {ns : List Int}, vs.length = ns.length → (∀ (i : Nat) (v : Value), vs[i]? = some v → ∃ n t, ns[i]? = some n ∧ v = .int n t) → IntsAre vs ns
  | [], [], _, _ => .nil
  | [], _ :: _, h, _ => by cases h
  | _ :: _, [], h, _ => by cases h
  | v :: vs, n :: ns, h, k => by
    obtain ⟨m, t, e1, e2⟩ := k 0 v rfl
    have : n = m := by simpa using e1
    subst this
    rw [e2]
    exact .cons n t (intsAre_of_items (by simpa using h) fun i u hu => k (i + 1) u hu)
theorem list_bytes_K {h₀ : Heap} {L : Addr} {m : Str → Option Value} {news : List (Addr × Obj)} {Q : Value → Shared → Prop} {b : Array UInt8} {t : Tok} {ns : List Int} (hh : A.handled = none) (F : Fr h₀ L s.heap m) (N : News h₀ L s.heap news) (hb : KBw.bInts b = ns) (hz : ns.length ≤ 1000000)
    (h : ∀ D us c h' tk, Fr h₀ L h' m → News h₀ L h' ((D, listOf (List.toArray us) c) :: news) → (∀ p ∈ news, @LT.lt Nat _ p.1 D) → IntsAre us ns → Q (.ref D) { s with heap := h', toks := tk }) :
    wpAny (model prog w) A (call (.type "list") [.bytes b t]) Q E s := by
  have hl : ns.length = b.size := by rw [← hb, KBw.ints_length]
  refine call_list_bytes hh b t (fun h' tk acc c hk hD hI => ?_) (by omega)
  have hD' : h'.get? s.heap.objs.size = some (listOf (List.toArray acc.toList) c) := by
    rw [Array.toArray_toList]
    exact hD
  refine h _ acc.toList c h' tk (F.keeps hk) (news_pushed F N hk hD' rfl) (fun p hp => Heap.lt_size (N p hp).1) (intsAre_of_items (by rw [Array.length_toList, hI.1, hl]) fun i v hv => ?_)
  obtain ⟨c', u, e1, e2⟩ := hI.2 i v (by simpa using hv)
  exact ⟨_, u, by rw [← hb]; exact KBw.ints_get e1, e2⟩
end
end Mine
end

section
open PySem PySem.W PyProof.Rows PySem.Calls
set_option Elab.async false
set_option maxRecDepth 100000
set_option linter.unusedVariables false
set_option maxHeartbeats 4000000
namespace Mine
/-- the items are lists of the ledger, of the ints told -/
noncomputable def ListsAre (led : List (Addr × Obj)) (vs : List Value) (rows : List (List Int)) : Prop :=
  vs.length = rows.length ∧ ∀ (i : Nat) (v : Value), vs[i]? = some v → ∃ (a : Addr) (us : List Value) (c : Nat) (r : List Int), v = .ref a ∧ (a, listOf us.toArray c) ∈ led ∧ rows[i]? = some r ∧ IntsAre us r
theorem ListsAre.nil {led : List (Addr × Obj)} : ListsAre led [] [] := ⟨rfl, fun i v h => by simp at h⟩
theorem ListsAre.more {led led' : List (Addr × Obj)} {vs : List Value} {rows : List (List Int)} (h : ListsAre led vs rows) (hs : ∀ p ∈ led, p ∈ led') : ListsAre led' vs rows :=
  ⟨h.1, fun i v q => by
    obtain ⟨a, us, c, r, e1, e2, e3, e4⟩ := h.2 i v q
    exact ⟨a, us, c, r, e1, hs _ e2, e3, e4⟩⟩
theorem ListsAre.snoc {led : List (Addr × Obj)} {vs : List Value} {rows : List (List Int)} {a : Addr} {us : List Value} {c : Nat} {r : List Int} (h : ListsAre led vs rows) (hm : (a, listOf us.toArray c) ∈ led) (hI : IntsAre us r) : ListsAre led (vs ++ [.ref a]) (rows ++ [r]) := by
  refine ⟨by simp [h.1], fun i v q => ?_⟩
  by_cases hi : i < vs.length
  · rw [List.getElem?_append_left hi] at q
    obtain ⟨a', us', c', r', e1, e2, e3, e4⟩ := h.2 i v q
    exact ⟨a', us', c', r', e1, e2, by rw [List.getElem?_append_left (by rw [← h.1]; exact hi)]; exact e3, e4⟩
  · rw [List.getElem?_append_right (by omega)] at q
    by_cases z : i - vs.length = 0
    · rw [z] at q
      obtain rfl : Value.ref a = v := by simpa using q
      exact ⟨a, us, c, r, rfl, hm, by rw [List.getElem?_append_right (by rw [← h.1]; omega), ← h.1, z]; rfl, hI⟩
    · rw [List.getElem?_eq_none (by simp; omega)] at q
      cases q
theorem ListsAre.reads {h₀ h : Heap} {L : Addr} {led : List (Addr × Obj)} (N : News h₀ L h led) : ∀ {vs : List Value} {rows : List (List Int)}, ListsAre led vs rows → ∃ as, ReadsAll h vs (rows.map fun r => PyData.list (r.map PyData.int)) as
  | [], [], _ => ⟨[], .nil⟩
  | [], _ :: _, x => absurd (show (0 : Nat) = _ + 1 from x.1) (by simp)
  | _ :: _, [], x => absurd (show _ + 1 = (0 : Nat) from x.1) (by simp)
  | v :: vs, r :: rows, x => by
    obtain ⟨a, us, c, r', e1, e2, e3, e4⟩ := x.2 0 v rfl
    obtain rfl : r = r' := by simpa using e3
    obtain ⟨as, R⟩ := ListsAre.reads N (vs := vs) (rows := rows) ⟨by simpa using x.1, fun i v q => x.2 (i + 1) v q⟩
    subst e1
    exact ⟨_, .cons (reads_newData (PySem.IsL.isList (n := c) (N _ e2).1) (ke_carried e4)) R⟩
theorem eqv_ints : ∀ r : List Int, PyData.eqvAll (r.map PyData.int) (r.map PyData.int) = true
  | [] => by simp [PyData.eqvAll]
  | a :: r => by simp [PyData.eqvAll, PyData.eqv, eqv_ints r]
theorem eqv_rows : ∀ rows : List (List Int), PyData.eqvAll (rows.map fun r => PyData.list (r.map PyData.int)) (rows.map fun r => PyData.list (r.map PyData.int)) = true
  | [] => by simp [PyData.eqvAll]
  | r :: rows => by simp [PyData.eqvAll, PyData.eqv, eqv_ints r, eqv_rows rows]
theorem can_rows : ∀ rows : List (List Int), PyData.canLayAll0 (rows.map fun r => PyData.list (r.map PyData.int)) = true
  | [] => by simp [PyData.canLayAll0]
  | r :: rows => by simp [PyData.canLayAll0, PyData.canLay0, ke_canLayAll0, can_rows rows]
theorem depth_rows : ∀ rows : List (List Int), PyData.depthAll (rows.map fun r => PyData.list (r.map PyData.int)) ≤ 3
  | [] => by simp [PyData.depthAll]
  | r :: rows => by
    have := depth_rows rows
    simp only [List.map_cons, PyData.depthAll, PyData.depth, ke_depthAll]
    omega
section
variable {prog : Program} {w : World} {A : Around} {E : Value → Shared → Prop} {s : Shared} {h₀ : Heap} {L : Addr} {led : List (Addr × Obj)} {a b : Addr} {xs ys : List Value} {n m : Nat} {rows : List (List Int)} {Q : Value → Shared → Prop}
/-- two lists of lists of ints, alike item by item: they do not differ -/
theorem ne_rows (N : News h₀ L s.heap led) (ha : (a, listOf xs.toArray n) ∈ led) (hb : (b, listOf ys.toArray m) ∈ led) (hx : ListsAre led xs rows) (hy : ListsAre led ys rows) (hu : A.units + 64 < cLine) (h : Q (.bool false) s) : wpAny (model prog w) A (compareOp .NotEq (.ref a) (.ref b)) Q E s := by
  obtain ⟨as, R1⟩ := hx.reads N
  obtain ⟨bs, R2⟩ := hy.reads N
  have sh : PySem.SeqAt.shaped (PyData.list (rows.map fun r => PyData.list (r.map PyData.int))) = true := by
    have := depth_rows rows
    unfold SeqAt.shaped
    rw [Bool.and_eq_true]
    exact ⟨by simp only [PyData.canLay0, can_rows], decide_eq_true (by simp only [PyData.depth]; omega)⟩
  refine ne_dataH (reads_list_at (N _ ha).1 rfl rfl R1) (reads_list_at (N _ hb).1 rfl rfl R2) sh sh hu ?_
  rw [show PyData.eqv (PyData.list (rows.map fun r => PyData.list (r.map PyData.int))) (PyData.list (rows.map fun r => PyData.list (r.map PyData.int))) = true by simp [PyData.eqv, eqv_rows]]
  exact h
end
end Mine
end

section
theorem Mine.rstCR {M : Model} {A : Around} {env : Env} {Q : Flow → Shared → Prop} {E : Value → Shared → Prop} {s : Shared} (h : Q .next s) : wpAny M A (execs [] env) Q E s := by
  w_top off
  walk1
  exact h
open PySem PySem.W PyProof.Rows PySem.Calls PyProof.Rows.LCg
set_option Elab.async false
set_option maxRecDepth 100000
set_option linter.unusedVariables false
set_option maxHeartbeats 4000000
namespace Mine
section
local macro_rules | `(tactic| walk_at "call ref") => `(tactic| ((try k_fold); refine hold ?_))
local macro_rules | `(tactic| walk_at "eval ListComp") => `(tactic| (k_dflt (refine LCg.ListComp_U (F₀ := by k_asm) (by with_unfolding_all rfl) (by decide) (by rfl) (by decide) (by rfl) ?_); (first | k_dflt lcg_toSrc | skip)))
local macro_rules | `(tactic| walk_at "exec Assign cons ListComp") => `(tactic| ((fail_if_success lct_look); k_dflt (refine LCg.Assign_ListComp_U (F₀ := by k_asm) (by rfl) (by with_unfolding_all rfl) (by with_unfolding_all rfl) (by decide) (by rfl) (by decide) (by rfl) (by rfl) (by rfl) ?_); k_dflt lcg_toSrc))
local macro_rules | `(tactic| walk_at "exec Assign cons ListComp") => `(tactic| (lct_look; k_dflt (refine LCt.Assign_ListComp_T (F₀ := by k_asm) (by rfl) (by with_unfolding_all rfl) (by with_unfolding_all rfl) (by decide) (by rfl) (by decide) (by rfl) (by rfl) (by rfl) ?_); k_dflt lct_toSrc))
local macro_rules | `(tactic| walk_at "CompSrc") => `(tactic| ((try k_fold); refine hold ?_))
local macro_rules | `(tactic| walk_at "exec For Name Call cons nil") => `(tactic| ((try k_fold); refine hold ?_))
local macro_rules | `(tactic| walk_at "CompSrcT") => `(tactic| ((try k_fold); refine hold ?_))
local macro_rules | `(tactic| walk_at "call builtin:list.append") => `(tactic| ((with_reducible show wpAny _ _ (call (Value.builtin _) [Value.ref _, _]) _ _ _); k_dflt (refine' append_K ?k1 ?k2 ?k3 ?_ ?z; (case k1 => k_asm); (case k2 => k_asm); (case k3 => k_upd); (case z => (rw [PySem.sizeLine_eq]; simp only [List.size_toArray]; omega)); k_whole); intro h' F' N'))
local macro_rules | `(tactic| walk_at "exec For Name Name cons nil") => `(tactic| ((try k_fold); refine hold ?_))
local macro_rules | `(tactic| walk_at "FinA") => `(tactic| ((try k_fold); refine hold ?_))
local macro_rules | `(tactic| walk_at "subscriptTail") => `(tactic| ((with_reducible refine Mine.subRM ?_); walk_at "sub"))
theorem Ct.pullB {w : World} {f : Addr} {vs : List Value} {room : Nat} {A : Addr × Obj} {led : List (Addr × Obj)} {x : Bool} (C : Ct w f vs room (A :: led) (Bool1 (A :: led) x)) (hA : A ∈ led) : Ct w f vs room led (Bool1 led x) := Ct.pull (P := fun v => v = .bool x) C hA
theorem news_drop2nd {h₀ h : Heap} {L : Addr} {a b : Addr × Obj} {l : List (Addr × Obj)} (N : News h₀ L h (a :: b :: l)) : News h₀ L h (a :: l) := fun p hp => N p (by
  rcases List.mem_cons.mp hp with q | hp
  · exact q ▸ .head _
  · exact .tail _ (.tail _ hp))
/-- the map with the names that a turn over a gray stores -/
noncomputable abbrev m4 (a b c e : Option Value) (m : Str → Option Value) : Str → Option Value := m2 (Str.ofString "gray") (Str.ofString "due") a b (m2 (Str.ofString "wanted") (Str.ofString "x") c e m)
noncomputable def Off4 (m' m : Str → Option Value) : Prop := ∀ z, z ≠ Str.ofString "gray" → z ≠ Str.ofString "due" → z ≠ Str.ofString "wanted" → z ≠ Str.ofString "x" → m' z = m z
theorem off4_form {m' m : Str → Option Value} (h : Off4 m' m) : ∃ a b c e, m' = m4 a b c e m := by
  refine ⟨m' (Str.ofString "gray"), m' (Str.ofString "due"), m' (Str.ofString "wanted"), m' (Str.ofString "x"), funext fun z => ?_⟩
  by_cases q1 : z = Str.ofString "gray"
  · subst q1; rfl
  by_cases q2 : z = Str.ofString "due"
  · subst q2; rfl
  by_cases q3 : z = Str.ofString "wanted"
  · subst q3; rfl
  by_cases q4 : z = Str.ofString "x"
  · subst q4; rfl
  · simp only [m4, m2, if_neg q1, if_neg q2, if_neg q3, if_neg q4]
    exact h z q1 q2 q3 q4
noncomputable abbrev wM (a : Option Value) (m : Str → Option Value) : Str → Option Value := fun z => if z = Str.ofString "wanted" then a else m z
theorem wM_self (m : Str → Option Value) : m = wM (m (Str.ofString "wanted")) m := by
  funext z
  by_cases q : z = Str.ofString "wanted"
  · subst q; simp only [wM, if_true]
  · simp only [wM, if_neg q]
theorem wM_fold {a b : Option Value} {m : Str → Option Value} : (fun z => if z = Str.ofString "wanted" then a else wM b m z) = wM a m := by
  funext z
  by_cases q : z = Str.ofString "wanted"
  · simp only [wM, if_pos q]
  · simp only [wM, if_neg q]
theorem white_val {wd ht : Int} {octs : List Int} {g x y : Int} : whiteV wd ht octs g x y = decide (0 < lvl g ∧ octs.getD (y.fmod ht * wd + x.fmod wd).toNat 0 ≤ lvl g) := by
  unfold whiteV
  exact decide_eq_decide.mpr (by omega)
theorem row_one {wd ht : Int} {octs : List Int} {g x y : Int} (h0 : 0 < lvl g) (h1 : octs.getD (y.fmod ht * wd + x.fmod wd).toNat 0 ≤ lvl g) : (1 : Int) = if whiteV wd ht octs g x y then 1 else 0 := by
  rw [white_val, if_pos (decide_eq_true ⟨h0, h1⟩)]
theorem row_zero {wd ht : Int} {octs : List Int} {g x y : Int} (h : ¬ (0 < lvl g ∧ octs.getD (y.fmod ht * wd + x.fmod wd).toNat 0 ≤ lvl g)) : (0 : Int) = if whiteV wd ht octs g x y then 1 else 0 := by
  rw [white_val, if_neg (by rw [decide_eq_true_eq]; exact h)]
theorem mem_mid {α : Type} {a x y : α} {pre RR : List α} : ∀ p ∈ a :: (pre ++ x :: RR), p ∈ x :: y :: a :: (pre ++ RR) := by
  intro p hp
  rcases List.mem_cons.mp hp with q | hp
  · exact .tail _ (.tail _ (q ▸ .head _))
  rcases List.mem_append.mp hp with hp | hp
  · exact .tail _ (.tail _ (.tail _ (List.mem_append_left _ hp)))
  rcases List.mem_cons.mp hp with q | hp
  · exact q ▸ .head _
  · exact .tail _ (.tail _ (.tail _ (List.mem_append_right _ hp)))
theorem mem_sub {α : Type} {pre rest RR : List α} (h : ∀ p ∈ rest, p ∈ RR) : ∀ p ∈ pre ++ rest, p ∈ pre ++ RR := fun p hp => by
  rcases List.mem_append.mp hp with hp | hp
  · exact List.mem_append_left _ hp
  · exact List.mem_append_right _ (h p hp)
theorem off_mid {x : Addr × Obj} {pre RR : List (Addr × Obj)} {I : Addr} (h : ∀ p ∈ pre ++ RR, p.1 ≠ I) (hx : x.1 ≠ I) : ∀ p ∈ pre ++ x :: RR, p.1 ≠ I := fun p hp => by
  rcases List.mem_append.mp hp with hp | hp
  · exact h p (List.mem_append_left _ hp)
  rcases List.mem_cons.mp hp with rfl | hp
  · exact hx
  · exact h p (List.mem_append_right _ hp)
local macro_rules | `(tactic| walk_at "compareOp NotEq ref ref") => `(tactic| ((try k_fold); refine hold ?_))
local macro_rules | `(tactic| walk_at "call type:list") => `(tactic| ((with_reducible refine Mine.calTB ?_); ((try k_fold); refine hold ?_)))
theorem Ct.pullRows {w : World} {f : Addr} {vs : List Value} {room : Nat} {A B : Addr × Obj} {led : List (Addr × Obj)} {H : Nat} {row : Int → List Int} (C : Ct w f vs room (A :: B :: led) (fun v n => ∃ D us nl, v = .ref D ∧ RowsAre us H row ∧ n = (D, listOf us.toArray nl) :: A :: B :: led)) (hA : A ∈ led) (hB : B ∈ led) : Ct w f vs room led (fun v n => ∃ D us nl, v = .ref D ∧ RowsAre us H row ∧ n = (D, listOf us.toArray nl) :: led) := by
  intro mean mg mb dp un gd cn cs a ccd cl outer A₀ base h₀ L m s Q E B' F X N T hk hd hu hret
  refine C mean mg mb dp un gd cn cs a ccd cl outer A₀ base h₀ L m s Q E B' F X (fun p hq => N p ?_) T hk hd hu ?_
  · rcases List.mem_cons.mp hq with rfl | hq
    · exact hA
    · rcases List.mem_cons.mp hq with rfl | hq
      · exact hB
      · exact hq
  · rintro v l h' tk' ⟨D, us, nl, r1, r2, rfl⟩ F' N'
    refine hret v _ h' tk' ⟨D, us, nl, r1, r2, rfl⟩ F' (cb_drop N' fun p hp => ?_)
    rcases List.mem_cons.mp hp with rfl | hp
    · exact .head _
    · exact .tail _ (.tail _ (.tail _ hp))
theorem row_in {wd ht g : Int} {octs : List Int} {W : Nat} {y : Int} : KBa.In (rowV wd ht octs g W y) := fun x hx => by
  obtain ⟨z, _, e⟩ := List.mem_map.mp hx
  rw [← e]
  split <;> omega
theorem row_len {wd ht g : Int} {octs : List Int} {W : Nat} {y : Int} : (rowV wd ht octs g W y).length = W := by
  unfold rowV
  rw [List.length_map, rangeKs_length]
theorem mem_rot3 {α : Type} {a b c t : α} {l : List α} : ∀ p ∈ a :: b :: c :: t :: l, p ∈ t :: a :: b :: c :: l := by
  intro p hp
  rcases List.mem_cons.mp hp with q | hp
  · exact .tail _ (q ▸ .head _)
  rcases List.mem_cons.mp hp with q | hp
  · exact .tail _ (.tail _ (q ▸ .head _))
  rcases List.mem_cons.mp hp with q | hp
  · exact .tail _ (.tail _ (.tail _ (q ▸ .head _)))
  rcases List.mem_cons.mp hp with q | hp
  · exact q ▸ .head _
  · exact .tail _ (.tail _ (.tail _ (.tail _ hp)))
theorem bne_t {p : Prop} [Decidable p] (h : p) : ¬ ((true != decide p) = true) := by simp [h]
theorem bne_f {p : Prop} [Decidable p] (h : ¬ p) : ¬ ((false != decide p) = true) := by simp [h]
/-- the cells of _law_cell_right -/
noncomputable abbrev ceST (L' : Addr) (o6 o5 o4 o3 o2 o1 : Obj) : List (Addr × Obj) := [(L' + 1 + 1 + 1 + 1 + 1 + 1, o6), (L' + 1 + 1 + 1 + 1 + 1, o5), (L' + 1 + 1 + 1 + 1, o4), (L' + 1 + 1 + 1, o3), (L' + 1 + 1, o2), (L' + 1, o1)]
theorem menu_octs (i : Nat) : 0 ≤ ([0, 1, 2, 127, 128, 254, 255] : List Int).getD i 0 ∧ ([0, 1, 2, 127, 128, 254, 255] : List Int).getD i 0 < 256 := by
  by_cases h : i < 7
  · have : ∀ i : Fin 7, 0 ≤ ([0, 1, 2, 127, 128, 254, 255] : List Int).getD i.1 0 ∧ ([0, 1, 2, 127, 128, 254, 255] : List Int).getD i.1 0 < 256 := by decide
    exact this ⟨i, h⟩
  · rw [List.getD_eq_getElem?_getD, List.getElem?_eq_none (by simp; omega)]; decide
theorem in_snoc {os : List Int} {x : Int} (h : KBa.In os) (h0 : 0 ≤ x ∧ x < 256) : KBa.In (os ++ [x]) := fun y hy => by
  rcases List.mem_append.mp hy with hy | hy
  · exact h y hy
  · rw [List.mem_singleton.mp hy]; exact h0
set_option maxHeartbeats 0 in
theorem cell_ct (w : World) (d l : Addr) (n : Int) (wd ht : Int) (t u : Tok) (hn : n < 900) (h1 : 1 ≤ wd) (h2 : wd ≤ 4) (h3 : 1 ≤ ht) (h4 : ht ≤ 3) : DCtS w 251 [.ref d, .int wd t, .int ht u] 10 d l n 40 (fun v => v = .bool true) := by
  intro rest od ol hdl hrd hrl hD
  unfold CtS
  k_fill
  intro mean mg mb dp un gd cn cs a ccd cl outer A₀ base h₀ L m s Q E B F XB N TB D hk hd hu hret
  obtain ⟨hA1, hA2⟩ := area h1 h2 h3 h4
  have X := XB.keeps B.stays
  have T := TB.keeps B.stays
  refine wpAny_call ?_
  k_dflt (refine' code_ZC ?k1 ?k2 ?k3 ?k4 ?k5 ?kD ?kA ?kF ?kK ?k6 ?k7 ?k8 ?k9 ?kB ?kN ?_ ?c2 ?c3 ?c4; (case kA => exact rfl); (case kF => exact rfl); (case kK => assumption); (case k1 => exact B); (case k2 => exact F); (case k3 => exact X); (case k4 => exact N); (case k5 => exact T); (case kD => exact D); (case k6 => k_is); (case k7 => k_is); (case k8 => k_room); (case k9 => first | exact BindsTo.of_eq rfl | exact binds_K (by k_in) rfl (by k_is) rfl rfl rfl); (case kB => exact rfl); (case kN => decide +kernel); (case c2 => exact rfl); (case c3 => exact rfl); (case c4 => exact rfl); k_whole; intro g' L' h' tk' cells' FG' F' N' Y' B' X' T' D' l1; k_lt l1)
  obtain ⟨o6, o5, o4, o3, o2, o1, hE, e6, e5, e4, e3, e2, e1⟩ := kc_six Y'
  subst hE
  clear Y'
  replace e6 : o6.data = .cell none := e6
  replace e5 : o5.data = .cell none := e5
  replace e4 : o4.data = .cell none := e4
  replace e3 : o3.data = .cell (some (.int ht u)) := e3
  replace e2 : o2.data = .cell (some (.int wd t)) := e2
  replace e1 : o1.data = .cell (some (.ref d)) := e1
  simp only [List.cons_append, List.nil_append] at N'
  have r4 : ∀ p ∈ rest, p.1 ≠ L' + 1 + 1 + 1 + 1 := allLt_ne l1.2.2 (by omega)
  have r5 : ∀ p ∈ rest, p.1 ≠ L' + 1 + 1 + 1 + 1 + 1 := allLt_ne l1.2.2 (by omega)
  have r6 : ∀ p ∈ rest, p.1 ≠ L' + 1 + 1 + 1 + 1 + 1 + 1 := allLt_ne l1.2.2 (by omega)
  have hcd : ∀ (q6 q5 q4 q3 q2 q1 : Obj), ∀ p ∈ ceST L' q6 q5 q4 q3 q2 q1, p.1 ≠ d := fun _ _ _ _ _ _ => off_cons (neN (by dsimp only; omega)) (off_cons (neN (by dsimp only; omega)) (off_cons (neN (by dsimp only; omega)) (off_cons (neN (by dsimp only; omega)) (off_cons (neN (by dsimp only; omega)) (off_cons (neN (by dsimp only; omega)) off_nil)))))
  have hcl : ∀ (q6 q5 q4 q3 q2 q1 : Obj), ∀ p ∈ ceST L' q6 q5 q4 q3 q2 q1, p.1 ≠ l := fun _ _ _ _ _ _ => off_cons (neN (by dsimp only; omega)) (off_cons (neN (by dsimp only; omega)) (off_cons (neN (by dsimp only; omega)) (off_cons (neN (by dsimp only; omega)) (off_cons (neN (by dsimp only; omega)) (off_cons (neN (by dsimp only; omega)) off_nil)))))
  dsimp only
  k_lift B'
  try k_fold
  k_steps
  unfold Hold
  rename_i OC hA l1A hB o4n F9 N9 e4n _ _
  have nOd : OC ≠ d := Nat.ne_of_gt (by omega)
  have nOl : OC ≠ l := Nat.ne_of_gt (by omega)
  have rOC : ∀ p ∈ rest, p.1 ≠ OC := allLt_ne l1A.2.2.2.2.2.2.2.2 (Nat.le_refl _)
  refine For_G F9 (by intro _ _; rfl) (by rfl) ?_
  k_steps
  rename IsRange _ _ _ _ _ _ _ _ => hr
  rename Fr _ _ _ _ => F10
  rename News _ _ _ _ => N10
  refine iter_range_G (n := (wd * ht).toNat) (by rfl) F10 N10 hr (small_one (by omega) (by omega) (by omega) (by omega)) (by rw [rangeSize_nat, Int.sub_zero]) ?_
  intro g1
  clear N10 hr
  refine ForTurns.intro (fun i m' led => ∃ (od2 ol2 : Obj) (a b : Option Value) (vs : List Value) (nv : Nat) (os : List Int), Deck w (n + 2 * (i : Int)) l od2 ol2 ∧ m' = m2 (Str.ofString "turn") (Str.ofString "pick") a b (bm2 F10) ∧ led = (OC, listOf vs.toArray nv) :: (ceST L' o6 o5 o4n o3 o2 o1 ++ (d, od2) :: (l, ol2) :: rest) ∧ IntsAre vs os ∧ os.length = i ∧ KBa.In os) (xm7 _ _ _ _ [] _ [] (am6 (Deck.mono hD (by omega)) (m2_self _ _ _) rfl (.nil) rfl (fun _ h => nomatch h))) ?_ ?_
  · rintro i v m4 led4 h14 tk14 I oI hi ⟨t14, rfl⟩ pzz
    refine ex7 pzz ?_; clear pzz; intro od2 ol2 a1 b1 vs nv os pzz; refine and6 pzz ?_; clear pzz; rintro D2 rfl rfl hos hosl hosi _ F14 N14 off14
    dsimp only [bm2, ceST, List.cons_append, List.nil_append] at F14 N14 off14 ⊢
    have o9 := off1_of off14
    have nIO : @Ne Nat OC I := off14 (OC, _) (.head _)
    have nId : d ≠ I := off14 (d, od2) (by k_mem)
    have nIl : l ≠ I := off14 (l, ol2) (by k_mem)
    have hi12 : i < 12 := by clear nIO; omega
    have hvl : vs.length = i := by rw [hos.length, hosl]
    have hb1 : n + 2 * (i : Int) < 990 := by clear nIO; omega
    clear F10
    k_steps
    unfold Hold
    refine DCt.use2I ((I, oI) :: (OC, listOf vs.toArray nv) :: ceST L' o6 o5 o4n o3 o2 o1) (by k_asm) D2 (draw_ct w d l (n + 2 * (i : Int)) 9 _ (by decide) (by decide) (by clear nIO; omega)) (off_cons nId.symm (off_cons nOd (hcd _ _ _ _ _ _))) (off_cons nIl.symm (off_cons nOl (hcl _ _ _ _ _ _))) hrd hrl hdl (by k_asm) (by k_asm) (by k_asm) (by k_asm) rfl (by ktr_room) (by ktr_units) ?_
    intro x15 t15 od15 ol15 h15 tk15 lo15 hi15 D15 F15 N15
    dsimp only [ceST, List.cons_append, List.nil_append] at N15
    k_steps
    · rename Fr _ _ _ _ => F16
      rename News _ _ _ _ => N16
      rw [List.push_toArray] at N16
      exact ForEnd.intro (nOf (news_tail (news_tail N16))) (m2_fold (x := Str.ofString "turn") (y := Str.ofString "pick") (by decide) ▸ F16) N16 (fun p hp => .tail _ hp) (off1_mem (show Off1 I (nOf (news_tail (news_tail N16))) from o9)) trivial (xm7 od15 ol15 _ _ _ _ (os ++ [_]) (am6 (Deck.mono D15 (by clear nIO; omega)) rfl rfl (intsAre_snoc hos _ _) (by rw [List.length_append, hosl]; rfl) (in_snoc hosi (menu_octs _))))
    · unfold Hold
      refine DCt.use2I ((I, oI) :: (OC, listOf vs.toArray nv) :: ceST L' o6 o5 o4n o3 o2 o1) (by k_asm) D15 (draw_ct w d l (n + 2 * (i : Int) + 1) 256 _ (by decide) (by decide) (by clear nIO; omega)) (off_cons nId.symm (off_cons nOd (hcd _ _ _ _ _ _))) (off_cons nIl.symm (off_cons nOl (hcl _ _ _ _ _ _))) hrd hrl hdl (by k_asm) (by k_asm) (by k_asm) (by k_asm) rfl (by ktr_room) (by ktr_units) ?_
      intro x17 t17 od17 ol17 h17 tk17 lo17 hi17 D17 F17 N17
      dsimp only [ceST, List.cons_append, List.nil_append] at N17
      k_steps
      rename Fr _ _ _ _ => F18
      rename News _ _ _ _ => N18
      rw [List.push_toArray] at N18
      exact ForEnd.intro (nOf (news_tail N18)) (m2_fold (x := Str.ofString "turn") (y := Str.ofString "pick") (by decide) ▸ F18) N18 (fun p hp => hp) (off1_mem (show Off1 I (nOf (news_tail N18)) from o9)) trivial (xm7 od17 ol17 _ _ _ _ (os ++ [_]) (am6 (Deck.mono D17 (by clear nIO; omega)) rfl rfl (intsAre_snoc hos _ _) (by rw [List.length_append, hosl]; rfl) (in_snoc hosi ⟨lo17, hi17⟩)))
  · rintro m4 led4 h14 tk14 pzz
    refine ex7 pzz ?_; clear pzz; intro od2 ol2 a1 b1 vs nv os pzz; refine and6 pzz ?_; clear pzz; rintro D2 rfl rfl hos hosl hosi _ F14 N14
    dsimp only [bm2, ceST, List.cons_append, List.nil_append] at F14 N14 ⊢
    have hvl : vs.length = (wd * ht).toNat := by rw [hos.length, hosl]
    clear F10
    have hosA : (os.length : Int) = wd * ht := by omega
    have hos12 : os.length ≤ 12 := by omega
    have hos11 : os.length - 1 ≤ 11 := by omega
    have hos13 : os.length + 1 ≤ 13 := by omega
    have hos1 : 1 ≤ os.length := by omega
    replace hosl := held hosl
    replace hvl := held hvl
    k_steps
    unfold Hold
    rename News _ _ _ _ => N15
    refine Ct.use' N15 (thr_ct w _ wd ht _ _ _ _ os (KBa.ints_make hosi) h1 h2 h3 h4 hosA (by omega) (by omega)) (by k_asm) (by k_asm) (by k_asm) (by k_asm) rfl (by ktr_room) (by ktr_units) ?_
    rintro v15 news15 h15 tk15 pzz
    refine ex8 pzz ?_; clear pzz; intro CX CD tq uq tbq k1q k2q k3q pzz; refine and4 pzz ?_; clear pzz; rintro rfl lt15 lt15b rfl F15 N15
    k_lt lt15
    have hO : HtOk CX CD tq uq tbq k1q k2q k3q wd ht (byteArr os) os := ⟨KBa.ints_make hosi, h1, h2, h3, h4, hosA, by omega⟩
    have nCX : CX ≠ d ∧ CX ≠ l ∧ CD ≠ d ∧ CD ≠ l := ⟨Nat.ne_of_gt (by omega), Nat.ne_of_gt (by omega), Nat.ne_of_gt (by omega), Nat.ne_of_gt (by omega)⟩
    k_steps
    rename IsRange _ _ _ _ _ _ _ _ => hr
    unfold Hold
    rename News _ _ _ _ => N16
    refine CompSrc.range (n := 3) (by rfl) (by k_asm) N16 hr (small_one (by decide) (by decide) (by decide) (by decide)) (by rfl) (by rw [sizeLine_eq]; decide) ?_
    intro g5
    clear hr
    refine comp_inv (fun j zs led2 => ∃ od3 ol3 gs, Deck w (n + 24 + 2 * (j : Int)) l od3 ol3 ∧ led2 = (CX, instObj 173 CD) :: (CD, htObj w wd ht tq uq (byteArr os) tbq k1q k2q k3q) :: (OC, listOf vs.toArray nv) :: (ceST L' o6 o5 o4n o3 o2 o1 ++ (d, od3) :: (l, ol3) :: rest) ∧ IntsAre zs gs ∧ gs.length = j ∧ GraysIn gs) (xm3 _ _ [] (am5 (Deck.mono D2 (by omega)) rfl (.nil) rfl (fun _ h => nomatch h))) ?_ ?_
    · rintro j zs led2 v I2 oI2 C oC Dd m5 h10 tk10 E2 hj pzz
      refine ex3 pzz ?_; clear pzz; intro od3 ol3 gs pzz; refine and5 pzz ?_; clear pzz; rintro D3 rfl hZ hgl hgg ⟨t10, rfl⟩ hC' hm2 F10 N10 off10 ne10
      dsimp only [ceST, List.cons_append, List.nil_append] at N10 off10 ⊢
      clear N16
      have om := off10.mem
      have od := om (d, od3) (by k_mem)
      have ol := om (l, ol3) (by k_mem)
      have hb1 : n + 24 + 2 * (j : Int) < 998 := by clear ne10; omega
      k_steps
      unfold Hold
      refine DCt.use2I ((I2, oI2) :: (C, oC) :: (Dd, lst zs) :: (CX, instObj 173 CD) :: (CD, htObj w wd ht tq uq (byteArr os) tbq k1q k2q k3q) :: (OC, listOf vs.toArray nv) :: ceST L' o6 o5 o4n o3 o2 o1) N10 D3 (gray_ct w d l (n + 24 + 2 * (j : Int)) hb1) (off_cons od.1.symm (off_cons od.2.1.symm (off_cons od.2.2.symm (off_cons nCX.1 (off_cons nCX.2.2.1 (off_cons nOd (hcd _ _ _ _ _ _))))))) (off_cons ol.1.symm (off_cons ol.2.1.symm (off_cons ol.2.2.symm (off_cons nCX.2.1 (off_cons nCX.2.2.2 (off_cons nOl (hcl _ _ _ _ _ _))))))) hrd hrl hdl (by k_asm) (by k_asm) (by k_asm) (by k_asm) rfl (by ktr_room) (by ktr_units) ?_
      intro x11 t11 od11 ol11 h11 tk11 lo11 hi11 D11 F11 N11
      k_steps
      refine CompEnd.intro F11 N11 _ (fun p hp => hp) off10 trivial (xm3 od11 ol11 (gs ++ [x11]) (am5 (Deck.mono D11 (by clear ne10; omega)) rfl (intsAre_snoc hZ _ _) (by rw [List.length_append, hgl]; rfl) (fun p hp => ?_)))
      rcases List.mem_append.mp hp with hp | hp
      · exact hgg p hp
      · rw [List.mem_singleton.mp hp]; exact ⟨lo11, hi11⟩
    · rintro zs led2 pzz
      refine ex3 pzz ?_; clear pzz; intro od3 ol3 gs pzz; refine and5 pzz ?_; clear pzz; rintro D3 rfl hZ hgl hgg
      dsimp only [ceST, List.cons_append, List.nil_append]
      clear N16
      k_steps
      rename_i DG hGa tkGa oGa SG sv sn sc hSa is es ps osr bs p0s l1S s1 s2 DT hTa l1T hTb hTc hTd FS NS
      have es3 : sn.length = 3 := by rw [es, hgl]
      have hsg : GraysIn sn := fun x hx => hgg x (ps.mem_iff.mp hx)
      have hsvl : sv.length = 3 := by rw [is.length, es3]
      clear bs p0s s1 s2 oGa
      have nSG : SG ≠ d ∧ SG ≠ l := ⟨Nat.ne_of_gt (by omega), Nat.ne_of_gt (by omega)⟩
      have l1SG := l1S
      unfold Hold
      refine Ct.useB' NS (Ct.pullB (levels_ct w _ SG sv sc sn is hsg (by omega) osr) (by k_mem)) (by k_asm) (by k_asm) (by k_asm) (by k_asm) rfl (by ktr_room) (by ktr_units) ?_
      intro h20 tk20 F20 N20
      k_steps
      unfold Hold
      refine For_G F20 (by intro _ _; rfl) (by rfl) ?_
      k_steps
      have N21 := news_drop2nd (news_tail N20)
      refine iter_list_G (by rfl) F20 N21 (.inr ⟨_, .head _, rfl, _, rfl⟩) ?_
      intro g6
      clear N20 N21
      refine ForTurns.intro (fun i m' led => ∃ (p6 p5 od4 ol4 : Obj) (y6 y5 : Option Value), Deck w (n + 30 + 2 * (i : Int)) l od4 ol4 ∧ p6.data = .cell y6 ∧ p5.data = .cell y5 ∧ Off4 m' (bm2 F20) ∧ led = (SG, listOf sv.toArray sc) :: (CX, instObj 173 CD) :: (CD, htObj w wd ht tq uq (byteArr os) tbq k1q k2q k3q) :: (OC, listOf vs.toArray nv) :: (ceST L' p6 p5 o4n o3 o2 o1 ++ (d, od4) :: (l, ol4) :: rest)) (xm6 _ _ _ _ _ _ (am5 (Deck.mono D3 (by clear hGa; omega)) e6 e5 (fun _ _ _ _ _ => rfl) rfl)) ?_ ?_
      · rintro i v m5 led5 h14 tk14 I oI hi hiv pzz
        refine ex6 pzz ?_; clear pzz; intro p6 p5 od4 ol4 y6 y5 pzz; refine and5 pzz ?_; clear pzz; rintro D4 hp6 hp5 hm5 rfl _ F14 N14 off14
        obtain ⟨a4, b4, c4, e4', rfl⟩ := off4_form hm5
        dsimp only [bm2, ceST, List.cons_append, List.nil_append] at F14 N14 off14 ⊢
        obtain ⟨g, tg, rfl, hg⟩ := is.at i v (by simpa using hiv)
        have hgi := hsg g (List.mem_of_getElem? hg)
        have hi3 : i < 3 := by rw [← hsvl]; simpa using hi
        have o9 := off1_of off14
        have nI6 : @Ne Nat (L' + 1 + 1 + 1 + 1 + 1 + 1) I := off14 (_, p6) (by k_mem)
        have nI5 : @Ne Nat (L' + 1 + 1 + 1 + 1 + 1) I := off14 (_, p5) (by k_mem)
        clear hm5 F20
        k_steps
        unfold Hold
        refine Ct.useI' (by k_asm) (level_ct _ _ _ _ hgi.1 hgi.2) (by k_asm) (by k_asm) (by k_asm) (by k_asm) rfl (by ktr_room) (by ktr_units) ?_
        intro t21 h21 tk21 F21 N21
        rw [show (2 * (g * 255) + 1000000).fdiv (2 * 1000000) = lvl g from rfl]
        obtain ⟨lv0, lv1, -, -⟩ := lvl_facts hgi.1 hgi.2
        k_steps
        rename_i DU hB1 l1DU DT2 hB2 l1DT hB3 hB4 o5n e5n hB5 F22 N22
        unfold Hold
        have N23 := news_tail N22
        have nDUI : @Ne Nat DU I := Nat.ne_of_gt (by clear nI6 nI5; omega)
        have nDU6 : @Ne Nat DU (L' + 1 + 1 + 1 + 1 + 1 + 1) := Nat.ne_of_gt (by clear nI6 nI5; omega)
        have l1D' := l1DU
        refine For_G F22 (by intro _ _; rfl) (by rfl) ?_
        k_steps
        rename IsRange _ _ _ _ _ _ _ _ => hr
        rename Fr _ _ _ _ => F24
        rename News _ _ _ _ => N24
        refine iter_range_G (n := (ht + 1).toNat) (by rfl) F24 N24 hr (small_one (by omega) (by omega) (by omega) (by omega)) (by rw [rangeSize_nat, Int.sub_zero]) ?_
        intro g7
        clear N24 hr
        refine ForTurns.intro (fun j m' led => ∃ (q6 : Obj) (y6' wv : Option Value) (RR : List (Addr × Obj)) (rv : List Value) (nrv : Nat), q6.data = .cell y6' ∧ m' = wM wv (bm2 F24) ∧ led = (DU, listOf rv.toArray nrv) :: (I, oI) :: (SG, listOf sv.toArray sc) :: (CX, instObj 173 CD) :: (CD, htObj w wd ht tq uq (byteArr os) tbq k1q k2q k3q) :: (OC, listOf vs.toArray nv) :: (ceST L' q6 o5n o4n o3 o2 o1 ++ (d, od4) :: (l, ol4) :: RR) ∧ (∀ p ∈ rest, p ∈ RR) ∧ (∀ p ∈ RR, p.1 ≠ DU) ∧ (∀ p ∈ RR, p.1 ≠ L' + 1 + 1 + 1 + 1 + 1 + 1) ∧ ListsAre RR rv ((List.range j).map fun (y : Nat) => rowV wd ht os g (2 * wd + 1).toNat (y : Int))) (xm6 p6 _ _ rest [] _ (am7 hp6 (wM_self _) rfl (fun _ h => h) (allLt_ne l1D'.2.2.2.2.2.2.2.2.2.2.2.2.2 (Nat.le_refl _)) r6 (.nil))) ?_ ?_
        · rintro j v m6 led6 h15 tk15 I2 oI2 hj ⟨t15, rfl⟩ pzz
          refine ex6 pzz ?_; clear pzz; intro q6 y6' wv RR rv nrv pzz; refine and7 pzz ?_; clear pzz; rintro hq6 rfl rfl hRR hRD hR6 hLA _ F15 N15 off15
          dsimp only [bm2, ceST, List.cons_append, List.nil_append] at F15 N15 off15 ⊢
          have o10 := off1_of off15
          have nI26 : @Ne Nat (L' + 1 + 1 + 1 + 1 + 1 + 1) I2 := off15 (_, q6) (by k_mem)
          have nI2D : @Ne Nat DU I2 := off15 (DU, _) (.head _)
          have hj4 : j < 4 := by clear nI26 nI2D nI6 nI5; omega
          clear F24
          k_steps
          unfold Hold
          rename IsRange _ _ _ _ _ _ _ _ => hr
          rename News _ _ _ _ => N25
          rename _ = Data.cell (some (Value.int (0 + (j : Int)) t15)) => dY
          refine CompSrc.range (n := (2 * wd + 1).toNat) (by rfl) (by k_asm) N25 hr (small_one (by omega) (by omega) (by omega) (by omega)) (by rw [rangeSize_nat, Int.sub_zero]) (by rw [sizeLine_eq]; omega) ?_
          intro g8
          clear hr
          refine comp_inv (fun k ws led2 => led2 = nOf N25 ∧ IntsAre ws ((rangeKs 0 k).map fun x => os.getD ((0 + (j : Int)).fmod ht * wd + x.fmod wd).toNat 0)) ⟨rfl, .nil⟩ ?_ ?_
          · rintro k ws led2 v I3 oI3 C3 oC3 D3' m7 h16 tk16 E3 hk ⟨rfl, hW⟩ ⟨t16, rfl⟩ hC3 hm3 F16 N16 off16 ne16
            dsimp only [nOf] at N16 off16 ⊢
            obtain ⟨hi0, hi1⟩ := idx_in (x := 0 + (k : Int)) (y := 0 + (j : Int)) h1 h3
            rw [← hosA] at hi1
            have hz1 : (0 + (j : Int)).fmod ht < 4 := by
              have := fmod_hi (0 + (j : Int)) (show 0 < ht by omega)
              omega
            have hz0 : 0 ≤ (0 + (j : Int)).fmod ht := fmod_lo _ (by omega)
            clear N25 ne16
            k_steps
            exact CompEnd.intro (by k_asm) (by assumption) _ (fun p hp => hp) off16 trivial ⟨rfl, intsAre_one hW rfl⟩
          · rintro ws led2 ⟨rfl, hW⟩
            dsimp only [nOf]
            clear N25
            refine fun WD h17 tk17 F17 N17 o17 => ?_
            k_steps
            unfold Hold
            have hwsl : ws.length = (2 * wd + 1).toNat := by rw [hW.length, List.length_map, rangeKs_length]
            have hrvl : rv.length = j := by rw [hLA.1, List.length_map, List.length_range]
            refine CompSrc.ledger (by rfl) (by k_asm) (by k_asm) (by k_mem) (by rw [sizeLine_eq, List.size_toArray]; omega) ?_
            intro g9
            refine comp_inv (fun k rs led2 => led2 = nOf N17 ∧ IntsAre rs ((rangeKs 0 k).map fun x => if whiteV wd ht os g x (0 + (j : Int)) then 1 else 0)) ⟨rfl, .nil⟩ ?_ ?_
            · rintro k rs led2 v I3 oI3 C3 oC3 D3' m7 h16 tk16 E3 hk ⟨rfl, hR⟩ hv hC3 hm3 F16 N16 off16 ne16
              dsimp only [nOf] at N16 off16 ⊢
              have hk2 : k < (2 * wd + 1).toNat := by rw [← hwsl]; simpa using hk
              obtain ⟨o, to, rfl, ho⟩ := hW.at k v (by simpa using hv)
              have ho' : o = os.getD ((0 + (j : Int)).fmod ht * wd + (0 + (k : Int)).fmod wd).toNat 0 := by
                rw [List.getElem?_map] at ho
                have e : (rangeKs 0 (2 * wd + 1).toNat)[k]? = some (0 + (k : Int)) := by
                  unfold rangeKs
                  rw [List.getElem?_map, List.getElem?_range hk2]
                  rfl
                rw [e] at ho
                exact (Option.some.inj ho).symm
              clear ne16
              k_steps
              · exact CompEnd.intro (by k_asm) (by assumption) _ (fun p hp => hp) off16 (Or.inr ⟨_, .head _, rfl, _, rfl⟩) ⟨rfl, intsAre_one hR (row_one (by assumption) (by rw [← ho']; assumption))⟩
              · exact CompEnd.intro (by k_asm) (by assumption) _ (fun p hp => hp) off16 (Or.inr ⟨_, .head _, rfl, _, rfl⟩) ⟨rfl, intsAre_one hR (row_zero fun q => absurd (ho' ▸ q.2) (by assumption))⟩
              · exact CompEnd.intro (by k_asm) (by assumption) _ (fun p hp => hp) off16 (Or.inr ⟨_, .head _, rfl, _, rfl⟩) ⟨rfl, intsAre_one hR (row_zero fun q => absurd q.1 (by assumption))⟩
            · rintro rs led2 ⟨rfl, hR⟩
              rw [List.size_toArray, hwsl] at hR
              dsimp only [nOf]
              refine fun RD h18 tk18 F18 N18 o18 => ?_
              have nRD : @Ne Nat DU RD := off1_mem o18 (DU, _) (.tail _ (.tail _ (.head _)))
              have nWD : @Ne Nat DU WD := off1_mem o17 (DU, _) (.tail _ (.head _))
              clear N17
              have nR6 : RD ≠ L' + 1 + 1 + 1 + 1 + 1 + 1 := (off1_mem o18 (L' + 1 + 1 + 1 + 1 + 1 + 1, _) (.tail _ (.tail _ (.tail _ (.tail _ (.tail _ (.tail _ (.tail _ (.tail _ (.head _)))))))))).symm
              have nRI : RD ≠ I2 := (off1_mem o18 (I2, _) (.tail _ (.head _))).symm
              rw [Int.zero_add] at hR
              have hLA' : ListsAre ((RD, lst rs) :: RR) (rv ++ [.ref RD]) ((List.range (j + 1)).map fun (y : Nat) => rowV wd ht os g (2 * wd + 1).toNat (y : Int)) := by
                rw [List.range_succ, List.map_append]
                exact (hLA.more fun p hp => .tail _ hp).snoc (c := rs.length) (.head _) hR
              k_steps
              rename Fr _ _ _ _ => F30
              rename News _ _ _ _ => N30
              rw [List.push_toArray] at N30
              exact ForEnd.intro ([(DU, listOf (rv ++ [Value.ref RD]).toArray (nrv + 1)), (I, oI), (SG, listOf sv.toArray sc), (CX, instObj 173 CD), (CD, htObj w wd ht tq uq (byteArr os) tbq k1q k2q k3q), (OC, listOf vs.toArray nv), (L' + 1 + 1 + 1 + 1 + 1 + 1, oOf dY), (L' + 1 + 1 + 1 + 1 + 1, o5n), (L' + 1 + 1 + 1 + 1, o4n), (L' + 1 + 1 + 1, o3), (L' + 1 + 1, o2), (L' + 1, o1), (d, od4), (l, ol4)] ++ (RD, lst rs) :: RR) (wM_fold ▸ F30) N30 mem_mid (off_mid (off1_mem o10) nRI) trivial (xm6 _ _ _ ((RD, lst rs) :: RR) (rv ++ [.ref RD]) (nrv + 1) (am7 dY rfl rfl (fun p hp => .tail _ (hRR p hp)) (off_cons nRD.symm hRD) (off_cons nR6 hR6) hLA'))
        · rintro m6 led6 h15 tk15 pzz
          refine ex6 pzz ?_; clear pzz; intro q6 y6' wv RR rv nrv pzz; refine and7 pzz ?_; clear pzz; rintro hq6 rfl rfl hRR hRD hR6 hLA _ F15 N15
          dsimp only [bm2, ceST, List.cons_append, List.nil_append] at F15 N15 ⊢
          clear F24
          k_steps
          unfold Hold
          rename News _ _ _ _ => N26
          refine Ct.use' N26 (Ct.pullRows (rows_ct w _ CX CD wd ht g (2 * wd + 1) (ht + 1) _ _ _ _ _ _ _ _ _ _ os hO hgi.1 hgi.2 (by omega) (by omega) (by omega) (by omega)) (by k_mem) (by k_mem)) (by k_asm) (by k_asm) (by k_asm) (by k_asm) rfl (by ktr_room) (by ktr_units) ?_
          rintro v27 news27 h27 tk27 ⟨HD, hus, hnl, rfl, hrow, rfl⟩ F27 N27
          k_steps
          unfold Hold
          refine CompSrc.ledger (by rfl) F27 N27 (.head _) (by rw [sizeLine_eq, List.size_toArray, hrow.1]; omega) ?_
          intro g9
          refine comp_inv (fun k zs led2 => (∀ p ∈ nOf N27, p ∈ led2) ∧ ListsAre led2 zs ((List.range k).map fun (y : Nat) => rowV wd ht os g (2 * wd + 1).toNat (y : Int))) ⟨fun _ h => h, .nil⟩ ?_ ?_
          · rintro k zs led2 v I3 oI3 C3 oC3 D3' m7 h16 tk16 E3 hk ⟨hsub, hZ⟩ hv hC3 hm3 F16 N16 off16 ne16
            have hk2 : k < (ht + 1).toNat := by rw [← hrow.1]; simpa using hk
            obtain ⟨tb3, e3'⟩ := hrow.2 k hk2
            obtain rfl : v = .bytes (byteArr (rowV wd ht os g (2 * wd + 1).toNat k)) tb3 := by
              have : hus[k]? = some v := by simpa using hv
              rw [e3'] at this
              exact (Option.some.inj this).symm
            clear ne16
            k_steps
            unfold Hold
            refine list_bytes_K (by rfl) F16 N16 (KBa.ints_make row_in) (by rw [row_len]; omega) ?_
            intro Dn usn cn' h19 tk19 F19 N19 lt19 hI19
            refine CompEnd.intro F19 N19 ((Dn, listOf usn.toArray cn') :: led2) mem_rot3 ⟨⟨Nat.ne_of_gt (lt19 _ (.head _)), Nat.ne_of_gt (lt19 _ (.tail _ (.head _))), Nat.ne_of_gt (lt19 _ (.tail _ (.tail _ (.head _))))⟩, off16⟩ (Or.inr ⟨_, .tail _ (hsub _ (.head _)), rfl, _, rfl⟩) ⟨fun p hp => .tail _ (hsub p hp), ?_⟩
            rw [List.range_succ, List.map_append]
            exact (hZ.more fun p hp => .tail _ hp).snoc (c := cn') (.head _) hI19
          · rintro zs led2 ⟨hsub, hZ⟩
            rw [List.size_toArray, hrow.1] at hZ
            refine fun ED h18 tk18 F18 N18 o18 => ?_
            k_steps
            unfold Hold
            refine ne_rows N18 (.head _) (.tail _ (hsub (DU, listOf rv.toArray nrv) (.tail _ (.head _)))) (hZ.more fun p hp => .tail _ hp) (hLA.more fun p hp => .tail _ (hsub p (by dsimp only [nOf]; repeat (first | exact hp | refine List.Mem.tail _ ?_)))) (by units_room) ?_
            have N28 := cb_drop N18 (fun p hp => .tail _ (hsub p (.tail _ (.tail _ (mem_sub (pre := [(I, oI), (SG, listOf sv.toArray sc), (CX, instObj 173 CD), (CD, htObj w wd ht tq uq (byteArr os) tbq k1q k2q k3q), (OC, listOf vs.toArray nv), (L' + 1 + 1 + 1 + 1 + 1 + 1, q6), (L' + 1 + 1 + 1 + 1 + 1, o5n), (L' + 1 + 1 + 1 + 1, o4n), (L' + 1 + 1 + 1, o3), (L' + 1 + 1, o2), (L' + 1, o1), (d, od4), (l, ol4)]) hRR p hp)))))
            dsimp only [List.cons_append, List.nil_append] at N28
            have hF18 := F18
            clear hsub N18 o18 N27 F27
            have nId : d ≠ I := off14 (d, od4) (by k_mem)
            have nIl : l ≠ I := off14 (l, ol4) (by k_mem)
            k_steps
            unfold Hold
            refine DCt.use2I ([(I, oI), (SG, listOf sv.toArray sc), (CX, instObj 173 CD), (CD, htObj w wd ht tq uq (byteArr os) tbq k1q k2q k3q), (OC, listOf vs.toArray nv)] ++ ceST L' q6 o5n o4n o3 o2 o1) N28 D4 (draw_ct w d l (n + 30 + 2 * (i : Int)) 40 _ (by decide) (by decide) (by clear nDUI nDU6 nI6 nI5; omega)) (off_cons nId.symm (off_cons nSG.1 (off_cons nCX.1 (off_cons nCX.2.2.1 (off_cons nOd (hcd _ _ _ _ _ _)))))) (off_cons nIl.symm (off_cons nSG.2 (off_cons nCX.2.1 (off_cons nCX.2.2.2 (off_cons nOl (hcl _ _ _ _ _ _)))))) hrd hrl hdl (by k_asm) (by k_asm) (by k_asm) (by k_asm) rfl (by ktr_room) (by ktr_units) ?_
            intro x31 t31 od31 ol31 h31 tk31 lo31 hi31 D31 F31 N31
            dsimp only [ceST, List.cons_append, List.nil_append] at N31
            clear N28
            k_steps
            unfold Hold
            refine DCt.use2I ([(I, oI), (SG, listOf sv.toArray sc), (CX, instObj 173 CD), (CD, htObj w wd ht tq uq (byteArr os) tbq k1q k2q k3q), (OC, listOf vs.toArray nv)] ++ ceST L' q6 o5n o4n o3 o2 o1) (by k_asm) D31 (draw_ct w d l (n + 30 + 2 * (i : Int) + 1) 40 _ (by decide) (by decide) (by clear nDUI nDU6 nI6 nI5; omega)) (off_cons nId.symm (off_cons nSG.1 (off_cons nCX.1 (off_cons nCX.2.2.1 (off_cons nOd (hcd _ _ _ _ _ _)))))) (off_cons nIl.symm (off_cons nSG.2 (off_cons nCX.2.1 (off_cons nCX.2.2.2 (off_cons nOl (hcl _ _ _ _ _ _)))))) hrd hrl hdl (by k_asm) (by k_asm) (by k_asm) (by k_asm) rfl (by ktr_room) (by ktr_units) ?_
            intro x32 t32 od32 ol32 h32 tk32 lo32 hi32 D32 F32 N32
            dsimp only [ceST, List.cons_append, List.nil_append] at N32
            clear N31
            obtain ⟨hi0, hi1⟩ := idx_in (x := x31) (y := x32) h1 h3
            rw [← hosA] at hi1
            have hz1 : x32.fmod ht < 4 := by
              have := fmod_hi x32 (show 0 < ht by omega)
              clear nDUI nDU6 nI6 nI5
              omega
            have hz0 : 0 ≤ x32.fmod ht := fmod_lo _ (by clear nDUI nDU6 nI6 nI5; omega)
            clear nDUI nDU6
            k_steps
            unfold Hold
            rename _ = Data.cell (some (Value.int x32 t32)) => dZ
            refine Ct.useB' (by k_asm) (white_led hO (by k_mem) (by k_mem) hgi.1 hgi.2 lo31 (by clear nI6 nI5; omega) lo32 (by clear nI6 nI5; omega)) (by k_asm) (by k_asm) (by k_asm) (by k_asm) rfl (by ktr_room) (by ktr_units) ?_
            intro h33 tk33 F33 N33
            rw [white_val]
            by_cases hL : 0 < lvl g
            · by_cases hW : os.getD (x32.fmod ht * wd + x31.fmod wd).toNat 0 ≤ lvl g
              · rw [decide_eq_true (And.intro hL hW)]
                k_steps
                · exact absurd (by assumption) (bne_t hW)
                · rename Fr _ _ _ _ => F40
                  rename News _ _ _ _ => N40
                  exact ForEnd.intro ((SG, listOf sv.toArray sc) :: (CX, instObj 173 CD) :: (CD, htObj w wd ht tq uq (byteArr os) tbq k1q k2q k3q) :: (OC, listOf vs.toArray nv) :: (ceST L' (oOf dZ) o5n o4n o3 o2 o1 ++ (d, od32) :: (l, ol32) :: rest)) F40 N40 (fun p hp => .tail _ hp) (off1_mem o9) (Or.inr ⟨_, .head _, rfl, _, rfl⟩) (xm6 _ _ od32 ol32 _ _ (am5 (Deck.mono D32 (by clear nI6 nI5; omega)) dZ e5n (fun z q1 q2 q3 q4 => by simp only [wM, m4, m2, if_neg q1, if_neg q2, if_neg q3, if_neg q4]) rfl))
              · rw [decide_eq_false (fun q : 0 < lvl g ∧ os.getD (x32.fmod ht * wd + x31.fmod wd).toNat 0 ≤ lvl g => hW q.2)]
                k_steps
                · exact absurd (by assumption) (bne_f hW)
                · rename Fr _ _ _ _ => F40
                  rename News _ _ _ _ => N40
                  exact ForEnd.intro ((SG, listOf sv.toArray sc) :: (CX, instObj 173 CD) :: (CD, htObj w wd ht tq uq (byteArr os) tbq k1q k2q k3q) :: (OC, listOf vs.toArray nv) :: (ceST L' (oOf dZ) o5n o4n o3 o2 o1 ++ (d, od32) :: (l, ol32) :: rest)) F40 N40 (fun p hp => .tail _ hp) (off1_mem o9) (Or.inr ⟨_, .head _, rfl, _, rfl⟩) (xm6 _ _ od32 ol32 _ _ (am5 (Deck.mono D32 (by clear nI6 nI5; omega)) dZ e5n (fun z q1 q2 q3 q4 => by simp only [wM, m4, m2, if_neg q1, if_neg q2, if_neg q3, if_neg q4]) rfl))
            · rw [decide_eq_false (fun q : 0 < lvl g ∧ os.getD (x32.fmod ht * wd + x31.fmod wd).toNat 0 ≤ lvl g => hL q.1)]
              k_steps
              · exact absurd (by assumption) (bne_f hL)
              · rename Fr _ _ _ _ => F40
                rename News _ _ _ _ => N40
                exact ForEnd.intro ((SG, listOf sv.toArray sc) :: (CX, instObj 173 CD) :: (CD, htObj w wd ht tq uq (byteArr os) tbq k1q k2q k3q) :: (OC, listOf vs.toArray nv) :: (ceST L' (oOf dZ) o5n o4n o3 o2 o1 ++ (d, od32) :: (l, ol32) :: rest)) F40 N40 (fun p hp => .tail _ hp) (off1_mem o9) (Or.inr ⟨_, .head _, rfl, _, rfl⟩) (xm6 _ _ od32 ol32 _ _ (am5 (Deck.mono D32 (by clear nI6 nI5; omega)) dZ e5n (fun z q1 q2 q3 q4 => by simp only [wM, m4, m2, if_neg q1, if_neg q2, if_neg q3, if_neg q4]) rfl))
      · rintro m5 led5 h14 tk14 pzz
        refine ex6 pzz ?_; clear pzz; intro p6 p5 od4 ol4 y6 y5 pzz; refine and5 pzz ?_; clear pzz; rintro D4 hp6 hp5 hm5 rfl _ F14 N14
        obtain ⟨a4, b4, c4, e4', rfl⟩ := off4_form hm5
        dsimp only [bm2, ceST, List.cons_append, List.nil_append] at F14 N14 ⊢
        have hIn0 : KBa.In (os ++ [0]) := in_snoc hosi (by decide)
        have hIn1 : KBa.In (os.drop 1) := fun x hx => hosi x (List.mem_of_mem_drop hx)
        clear hm5 F20
        k_steps
        unfold Hold
        rename Fr _ _ _ _ => F42
        rename News _ _ _ _ => N42
        refine (refused_thr w _ wd ht _ _ _ (thr_x w _ wd ht _ _ _ _ (os ++ [0]) (KBa.ints_make hIn0) h1 h2 h3 h4 (by rw [List.length_append]; show ((os.length + 1 : Nat) : Int) ≠ _; omega) (by rw [List.length_append]; show os.length + 1 ≤ 13; omega))) _ _ _ _ _ _ _ _ _ _ _ _ _ _ _ _ _ _ _ _ B' F42 XB N42 TB D' rfl (by ktr_room) (by ktr_units) ?_
        rintro v43 news43 h43 tk43 g43 ⟨rfl, rfl⟩ T43 F43 N43 B43
        have X43 := XB.keeps B43.stays
        have TT43 := TB.keeps B43.stays
        have D43 := D'.turn T43
        clear F42 N42
        k_steps
        unfold Hold
        rename Fr _ _ _ _ => F44
        rename News _ _ _ _ => N44
        refine (refused_thr w _ wd ht _ _ _ (thr_x w _ wd ht _ _ _ _ (os.drop 1) (KBa.ints_make hIn1) h1 h2 h3 h4 (by rw [List.length_drop]; omega) (by rw [List.length_drop]; omega))) _ _ _ _ _ _ _ _ _ _ _ _ _ _ _ _ _ _ _ _ B43 F44 XB N44 TB D43 rfl (by ktr_room) (by ktr_units) ?_
        rintro v45 news45 h45 tk45 g45 ⟨rfl, rfl⟩ T45 F45 N45 B45
        have X45 := XB.keeps B45.stays
        have TT45 := TB.keeps B45.stays
        clear F44 N44
        k_steps
        refine ⟨g45, L', _, (d, od4) :: (l, ol4) :: rest, T43.trans T45, F45, cb_drop N45 (by intro p hp; repeat (first | exact hp | refine List.Mem.tail _ ?_)), fun h₀' Tz Fz Nz Bz => hret _ _ _ _ _ ⟨od4, ol4, Deck.mono D4 (by rw [List.size_toArray, hsvl]; omega), rfl, rfl⟩ Tz Fz Nz Bz⟩
end
end Mine
end

section
theorem Mine.rstDK {M : Model} {A : Around} {env : Env} {Q : Flow → Shared → Prop} {E : Value → Shared → Prop} {s : Shared} (h : Q .next s) : wpAny M A (execs [] env) Q E s := by
  w_top off
  walk1
  exact h
open PySem PySem.W PyProof.Rows PySem.Calls PyProof.Rows.LCg
set_option Elab.async false
set_option maxRecDepth 100000
set_option linter.unusedVariables false
set_option maxHeartbeats 4000000
namespace Mine
section
local macro_rules | `(tactic| walk_at "eval ListComp") => `(tactic| (k_dflt (refine LCg.ListComp_U (F₀ := by k_asm) (by with_unfolding_all rfl) (by decide) (by rfl) (by decide) (by rfl) ?_); (first | k_dflt lcg_toSrc | skip)))
local macro_rules | `(tactic| walk_at "CompSrc") => `(tactic| ((try k_fold); refine hold ?_))
local macro_rules | `(tactic| walk_at "exec For Name Name cons nil") => `(tactic| ((try k_fold); refine hold ?_))
/-- the contract of _law_deck, the script's list standing below the caller -/
theorem deck_ct (w : World) (news : List (Addr × Obj)) (sc : Addr) (vs : List Value) (ns : List Int) (hI : IntsAre vs ns) (hlen : ns.length ≤ 63) :
  ∀ (mean : ExcName → Option Value) (mg mb : Str → Option Value) (dp un : Nat) (gd : Option (List Code)) (cn : Str) (cs : Scope) (a : Addr) (ccd : Value) (cl : List (Str × Addr)) (outer : List Env) (A₀ : Around) (base h₀ : Heap) (L : Addr) (m : Str → Option Value) (s : Shared) (Q E : Value → Shared → Prop),
    Below A₀ base outer h₀ → Fr h₀ L s.heap m → (Mine.hd.heap_1 w.params).In h₀ → News h₀ L s.heap news → Top vw (looseW vw loose) mean mg mb h₀ → cs.kind = .function → dp + 2 < recursionLimit → un + 100 * 2 < cLine → base.IsList sc vs.toArray →
    (∀ d l od ol h' tk', Deck w 0 l od ol → (∀ p ∈ news, @LT.lt Nat _ p.1 l) → (∀ p ∈ news, @LT.lt Nat _ p.1 d) → (@Ne Nat d l) → Fr h₀ L h' m → News h₀ L h' ((d, od) :: (l, ol) :: news) → Q (.ref d) { s with heap := h', toks := tk' }) →
    wpAny (model PySem.Challenge.rw_pb0512_01.row.prog w) (ktrTop dp un gd cn cs L a ccd cl outer) (call (.ref 220) [.ref sc]) Q E s := by
  k_fill
  intro mean mg mb dp un gd cn cs a ccd cl outer A₀ base h₀ L m s Q E B F X N T hk hd hu hL hret
  have hL0 := stays_list B.stays hL
  refine wpAny_call ?_
  k_dflt cell_enter
  have hvl : vs.length = ns.length := hI.length
  k_steps
  unfold Hold
  rename News _ _ _ _ => N5
  rename IntsAre _ (List.take _ _) => hW
  have hwl := hW.length
  have hw12 : (List.take 12 ns).length ≤ 12 := List.length_take_le _ _
  change IntsAre _ (List.take 12 ns) at hW
  refine CompSrc.ledger (by rfl) (by k_asm) N5 (.head _) (by rw [sizeLine_eq, List.size_toArray, hW.length]; omega) ?_
  intro g1
  refine comp_inv (fun k zs led2 => led2 = nOf N5 ∧ IntsAre zs ((List.take 12 ns).take k)) ⟨rfl, .nil⟩ ?_ ?_
  · rintro k zs led2 v I2 oI2 C oC Dd m5 h10 tk10 E2 hk ⟨rfl, hZ⟩ hv hC' hm2 F10 N10 off10 ne10
    obtain ⟨x, tx, rfl, hx⟩ := hW.at k v (by simpa using hv)
    dsimp only [nOf] at N10 off10 ⊢
    clear N5 ne10
    k_steps
    refine CompEnd.intro (by k_asm) (by assumption) _ (fun p hp => hp) off10 (Or.inr ⟨_, .head _, rfl, _, rfl⟩) ⟨rfl, ?_⟩
    rw [List.take_add_one, hx]
    exact intsAre_snoc hZ _ _
  · rintro zs led2 ⟨rfl, hZ⟩
    rw [List.size_toArray, hW.length, List.take_length] at hZ
    have hzl := hZ.length
    dsimp only [nOf]
    k_steps
    unfold Hold
    rename Fr _ _ _ _ => F6
    rename News _ _ _ _ => N6
    have N7 := news_tail N6
    refine For_G F6 (by intro _ _; rfl) (by rfl) ?_
    k_steps
    obtain ⟨tm0, htm0⟩ : ∃ tm0, bm2 F6 (Str.ofString "mixed") = some (.int 7575 tm0) := ⟨_, rfl⟩
    refine iter_list_G (by rfl) F6 N7 (.inr ⟨_, .head _, rfl, _, rfl⟩) ?_
    intro g2
    refine ForTurns.intro (fun i m' led => ∃ (a : Option Value) (mx : Int) (tm : Tok), m' = m2 (Str.ofString "cell") (Str.ofString "mixed") a (some (.int mx tm)) (bm2 F6) ∧ led = nOf N7 ∧ 0 ≤ mx ∧ mx < 2147483648) (xm3 _ 7575 tm0 (am4 (by rw [← htm0]; exact m2_self _ _ _) rfl (by decide) (by decide))) ?_ ?_
    · rintro i v m4 led4 h14 tk14 I oI hi hiv pzz
      refine ex3 pzz ?_; clear pzz; intro a1 mx tm pzz; refine and4 pzz ?_; clear pzz; rintro rfl rfl hm0 hm1 hS14 F14 N14 off14
      obtain ⟨x, tx, rfl, hx⟩ := hZ.at i v (by simpa using hiv)
      dsimp only [bm2, nOf] at F14 N14 off14 hS14 ⊢
      clear htm0 N7 N6 F6
      k_steps
      rename Fr _ _ _ _ => F20
      rename News _ _ _ _ => N20
      obtain ⟨b1, b2⟩ := fmod_in (mx * 48271 + x.fmod 2147483629 + 7575) (show (0 : Int) < 2147483587 by decide)
      exact ForEnd.intro _ (m2_fold (x := Str.ofString "cell") (y := Str.ofString "mixed") (by decide) ▸ F20) N20 (fun p hp => hp) off14 (.inr ⟨_, .head _, rfl, _, rfl⟩) (xm3 _ _ _ (am4 rfl rfl b1 (by omega)))
    · rintro m4 led4 h14 tk14 pzz
      refine ex3 pzz ?_; clear pzz; intro a1 mx tm pzz; refine and4 pzz ?_; clear pzz; rintro rfl rfl hm0 hm1 hS14 F14 N14
      dsimp only [bm2, nOf] at F14 N14 hS14 ⊢
      clear htm0 N7 N6 F6
      k_steps
      rename IntsAre _ (List.reverse _) => hI9
      rename Obj.IsDictOf _ _ (strPairs _) => hdd
      rename _ ∧ _ ∧ _ ∧ AllLt _ _ => l9
      rename _ ∧ _ ∧ AllLt _ _ => l8
      rename News h₀ _ _ _ => N30
      refine hret _ _ _ (listOf _ 0) _ _ ⟨mx, 0, tm, _, _, _, 0, hdd, rfl, hI9, by rw [List.length_reverse]; exact hw12, hm0, hm1, by decide, by decide⟩ (fun p hp => allLt_mem l9.2.2.2 p hp) (fun p hp => allLt_mem l8.2.2 p hp) (Nat.ne_of_lt l9.1) (by k_asm) (cb_drop N30 fun p hp => ?_)
      rcases List.mem_cons.mp hp with rfl | hp
      · k_mem
      rcases List.mem_cons.mp hp with rfl | hp
      · k_mem
      · repeat (first | exact hp | refine List.Mem.tail _ ?_)
end
end Mine
end

section
open PySem PySem.W PyProof.Rows PySem.Calls PyProof.Rows.LCg PySem.Spec
set_option Elab.async false
set_option maxRecDepth 100000
set_option linter.unusedVariables false
set_option maxHeartbeats 4000000
namespace Mine
/-- the written tuple stands on the ledger -/
noncomputable def TAt (T : Addr) (its : Array Value) (led : List (Addr × Obj)) : Prop := ∃ o, (T, o) ∈ led ∧ o.cls = .type "tuple" ∧ ∃ n, o.data = .seq its n
section
variable {prog : Program} {w : World} {A : Around} {E : Value → Shared → Prop} {s : Shared} {h₀ : Heap} {L : Addr} {m : Str → Option Value} {env : Env}
theorem TAt.tup {T : Addr} {its : Array Value} {led : List (Addr × Obj)} {h : Heap} (x : TAt T its led) (N : News h₀ L h led) : h.IsTuple T its := by
  obtain ⟨o, hm, hc, n, hd⟩ := x; exact ⟨o, (N _ hm).1, hc, n, hd⟩
theorem tup_st {ax I : Addr} {its : Array Value} : ∀ i (h h' : Heap) (o : Obj) (nw : List (Addr × Obj)), (h.IsTupleIter I ax i ∧ h.IsTuple ax its) → h.get? I = some o → h'.get? I = some o → (∀ b o, h₀.get? b = some o → h'.get? b = some o) → News h₀ L h' nw → TAt ax its nw → (h'.IsTupleIter I ax i ∧ h'.IsTuple ax its) :=
  fun i h h' o nw st e e' k N S => ⟨by obtain ⟨o', q, r⟩ := st.1; rw [e] at q; cases q; exact ⟨o, e', r⟩, S.tup N⟩
noncomputable def SrcT (prog : Program) (w : World) (A : Around) (h₀ : Heap) (L : Addr) (m : Str → Option Value) (env : Env) (elt : Expr) (x : Str) (scope : Scope) (cl : List (Str × Addr)) (Fin : Shared → List Value → List (Addr × Obj) → Prop) (xv : Value) (s₁ : Shared) : Prop :=
  ∃ ax its news, xv = .ref ax ∧ A.handled = none ∧ Fr h₀ L s₁.heap m ∧ News h₀ L s₁.heap news ∧ TAt ax its news ∧ its.size ≤ sizeLine ∧
    ∀ s₂ : Shared, (∃ h, s₂ = { s₁ with heap := h }) → CompRest prog w A h₀ L m env elt x scope cl s₂ (TAt ax its) (fun i v => its[i]? = some v) (Fin s₂) its.size 0 [] news
theorem SrcT.intro {elt : Expr} {x : Str} {scope : Scope} {cl : List (Str × Addr)} {Fin : Shared → List Value → List (Addr × Obj) → Prop} {ax : Addr} {its : Array Value} {k : Nat} {news : List (Addr × Obj)} {s₁ : Shared}
    (hh : A.handled = none) (F : Fr h₀ L s₁.heap m) (N : News h₀ L s₁.heap news) (hm : (ax, ({ cls := .type "tuple", data := .seq its k } : Obj)) ∈ news) (hsz : its.size ≤ sizeLine)
    (h : ∀ g, CompRest prog w A h₀ L m env elt x scope cl { s₁ with heap := g } (TAt ax its) (fun i v => its[i]? = some v) (Fin { s₁ with heap := g }) its.size 0 [] news) :
    SrcT prog w A h₀ L m env elt x scope cl Fin (.ref ax) s₁ := ⟨ax, its, news, rfl, hh, F, N, ⟨_, hm, rfl, _, rfl⟩, hsz, fun _ ⟨g, e⟩ => e ▸ h g⟩
theorem ListComp_T {elt iter : Expr} {x : Str} {px : Pos} {scope : Scope} {cl : List (Str × Addr)} {pos : Pos} {Q : Value → Shared → Prop} (F₀ : Fr h₀ L s.heap m)
    (hclos : closureFor scope env = pure cl) (hcell : ∀ y ∈ scope.names, y.2 ≠ .cell) (hkind : scope.kind = .function)
    (hnames : ∀ y ∈ scope.names, y.2 = .local → scope.names.lookup y.1 = some .local) (hx : scope.names.lookup x = some .local)
    (h : wpAny (model prog w) A (eval iter env) (SrcT prog w A h₀ L m env elt x scope cl (fun s₂ => FinE h₀ L m s₂ Q)) E s)
    (hs : ∀ x, foldedSetIterable iter env x = pure x := by intro _; rfl) :
    wpAny (model prog w) A (eval (.ListComp elt [⟨.Name x px, iter, [], 0⟩] scope pos) env) Q E s := by
  rw [eval_ListComp]
  refine wpAny_comprehension_free (use := none) rfl hs hclos hkind hnames (wpAny_mono h (fun xv s₁ h₁ => ?_) fun _ _ e => e)
  obtain ⟨ax, its, news, rfl, hh, F, N, S, hsz, R⟩ := h₁
  have hl := S.tup N
  have hlt : ax < s₁.heap.objs.size := by obtain ⟨_, e, _⟩ := hl; exact Heap.lt_size e
  refine wpAny_pyIter_tuple hl ?_
  have up : ∀ b o, s₁.heap.get? b = some o → (s₁.heap.push { cls := .type "tuple_iterator", data := .fields #[.ref ax, .int 0 0] }).get? b = some o := fun b o e => Heap.get?_push_of_some _ e
  refine block_U (Walks.tuple hh s₁.heap.objs.size ax (Nat.ne_of_lt hlt) its) hsz (fun i h st => by obtain ⟨o, e, _⟩ := st.1; exact ⟨o, e⟩) tup_st hcell hkind hx ⟨⟨_, Heap.get?_push_size _ rfl, rfl, rfl⟩, hl.at fun o e => up _ o e⟩ (fun b hb => ?_)
    (F.keeps up) (N.grown up) (Nat.ne_of_lt F.ns.lt) (next_is_new F) (fun p hp => Nat.ne_of_lt (Heap.lt_size (N p hp).1)) S (R _ ⟨_, rfl⟩) ?_
  · show b < (s₁.heap.push _).objs.size
    rw [Heap.size_push]
    rcases List.mem_cons.mp hb with rfl | hb
    · exact Nat.lt_succ_self _
    · rw [List.mem_singleton.mp hb]; exact Nat.lt_succ_of_lt hlt
  · intro D C h tk m' ys news' F' N' o1 hn hC₀ hD₀ hCL hDL hCD offC fin
    refine ⟨m', hn, fun h'' hs'' => fin D h'' tk (F'.change hs'' hCL hC₀) (fun p hp => ?_) o1⟩
    refine ⟨hs''.extBut _ _ ?_ (N' p hp).1, (N' p hp).2⟩
    rcases List.mem_cons.mp hp with rfl | hp
    · exact Ne.symm hCD
    · exact offC p hp
theorem Assign_ListComp_T {elt iter : Expr} {x y : Str} {px py : Pos} {scope : Scope} {cl : List (Str × Addr)} {pos spos : Pos} {Q : Flow → Shared → Prop} (F₀ : Fr h₀ L s.heap m) (hLe : env.locals = L)
    (hsw : swapsWith (.ListComp elt [⟨.Name x px, iter, [], 0⟩] scope pos) (some (.Name y py)) spos.line env = pure true)
    (hclos : closureFor scope env = pure cl) (hcell : ∀ z ∈ scope.names, z.2 ≠ .cell) (hkind : scope.kind = .function)
    (hnames : ∀ z ∈ scope.names, z.2 = .local → scope.names.lookup z.1 = some .local) (hx : scope.names.lookup x = some .local)
    (hy : env.kindOf y = some .local) (hp : (env.scope.kind == .class || (env.scope.kind == .module && env.locals != env.globals)) = false)
    (h : wpAny (model prog w) A (eval iter env) (SrcT prog w A h₀ L m env elt x scope cl (fun s₂ => FinA h₀ L m s₂ y Q)) E s)
    (hs : ∀ x, foldedSetIterable iter env x = pure x := by intro _; rfl) :
    wpAny (model prog w) A (exec (.Assign [.Name y py] (.ListComp elt [⟨.Name x px, iter, [], 0⟩] scope pos) spos) env) Q E s := by
  subst hLe
  rw [exec_Assign_Name_used _ _ _ _ hsw]
  refine wpAny_bind (wpAny_standAt (wpAny_bind ?_))
  show wpAny _ A (do let _ ← comprehension (.ListComp elt [⟨.Name x px, iter, [], 0⟩] scope pos) scope env _ (newList []) false (eval iter env) (some (assign (.Name y py) env))) _ _ s
  refine wpAny_bind (wpAny_mono (wpAny_comprehension_free (use := some (assign (.Name y py) env)) (Q := fun _ s' => Q .next s') rfl hs hclos hkind hnames
    (wpAny_mono h (fun xv s₁ h₁ => ?_) fun _ _ e => e)) (fun _ s' hq => wpAny_pure (wpAny_pure hq)) fun _ _ e => e)
  obtain ⟨ax, its, news, rfl, hh, F, N, S, hsz, R⟩ := h₁
  have hl := S.tup N
  have hlt : ax < s₁.heap.objs.size := by obtain ⟨_, e, _⟩ := hl; exact Heap.lt_size e
  refine wpAny_pyIter_tuple hl ?_
  have up : ∀ b o, s₁.heap.get? b = some o → (s₁.heap.push { cls := .type "tuple_iterator", data := .fields #[.ref ax, .int 0 0] }).get? b = some o := fun b o e => Heap.get?_push_of_some _ e
  refine block_U (Walks.tuple hh s₁.heap.objs.size ax (Nat.ne_of_lt hlt) its) hsz (fun i h st => by obtain ⟨o, e, _⟩ := st.1; exact ⟨o, e⟩) tup_st hcell hkind hx ⟨⟨_, Heap.get?_push_size _ rfl, rfl, rfl⟩, hl.at fun o e => up _ o e⟩ (fun b hb => ?_)
    (F.keeps up) (N.grown up) (Nat.ne_of_lt F.ns.lt) (next_is_new F) (fun p hp => Nat.ne_of_lt (Heap.lt_size (N p hp).1)) S (R _ ⟨_, rfl⟩) ?_
  · show b < (s₁.heap.push _).objs.size
    rw [Heap.size_push]
    rcases List.mem_cons.mp hb with rfl | hb
    · exact Nat.lt_succ_self _
    · rw [List.mem_singleton.mp hb]; exact Nat.lt_succ_of_lt hlt
  · intro D C h' tk m' ys news' F' N' o1 hn hC₀ hD₀ hCL hDL hCD offC fin
    show wpAny _ A (assign (.Name y py) env (.ref D)) _ _ _
    refine wpAny_assign_Name (wpAny_storeName_local hy F'.ns (fun h₂ hn₂ hs₂ => ?_) hp)
    have hL₀ : h₀.get? env.locals = none := Heap.get?_none_of_le F'.above
    have F₂ : Fr h₀ env.locals h₂ (fun z => if z = y then some (.ref D) else m z) := ⟨hn₂, fun b o e => hs₂.extBut b o (fun q => by rw [q, hL₀] at e; cases e) (F'.keep b o e), F'.above⟩
    refine ⟨m', hn.sameBut hs₂ hCL, fun h'' hs'' => fin D h'' _ (F₂.change hs'' hCL hC₀) (fun p hp => ?_) o1⟩
    have z : h₂.get? p.1 = some p.2 := hs₂.extBut _ _ (N' p hp).2.1 (N' p hp).1
    refine ⟨hs''.extBut _ _ ?_ z, (N' p hp).2⟩
    rcases List.mem_cons.mp hp with rfl | hp
    · exact Ne.symm hCD
    · exact offC p hp
end
end Mine
end

section
open PySem PySem.W PyProof.Rows PySem.Calls PyProof.Rows.LCg PySem.Spec
set_option Elab.async false
set_option maxRecDepth 100000
set_option linter.unusedVariables false
set_option maxHeartbeats 4000000
namespace Mine
noncomputable def dpEs (P : Params) : Array DictEntry := #[⟨PyData.keyHash P ⟨#[68, 101, 118, 105, 99, 101, 71, 114, 97, 121]⟩, .bytes #[68, 101, 118, 105, 99, 101, 71, 114, 97, 121] 297, .int 1 309⟩,
  ⟨PyData.keyHash P ⟨#[68, 101, 118, 105, 99, 101, 82, 71, 66]⟩, .bytes #[68, 101, 118, 105, 99, 101, 82, 71, 66] 299, .int 3 310⟩, ⟨PyData.keyHash P ⟨#[68, 101, 118, 105, 99, 101, 67, 77, 89, 75]⟩, .bytes #[68, 101, 118, 105, 99, 101, 67, 77, 89, 75] 301, .int 4 311⟩]
theorem o84_data (P : Params) : (o84g5 P).data = .dict (dpEs P) 3 := rfl
theorem reduce_key (P : Params) (x : Str) : reduceHash (PyData.keyHash P x) = PyData.keyHash P x := by
  obtain ⟨a, b, c⟩ := keyHash_range P x
  generalize PyData.keyHash P x = i at a b c
  unfold reduceHash
  have h2 : (i == -1) = false := by simpa using c
  rw [h2]
  simp only [a, b, decide_true, Bool.and_self, if_true, Bool.false_eq_true, if_false]
theorem hash_b (P : Params) (k : List UInt8) {x : Array Nat} (e : k.toArray.map (·.toNat) = x) : PyData.keyHash P ⟨x⟩ = hashW P (.bytes k) := by
  rw [hashW, reduce_key, e]
theorem dp_mem {P : Params} {e : DictEntry} (he : e ∈ dpEs P) : ∃ k : List UInt8, isBytes k e.key = true ∧ e.hash = hashW P (.bytes k) := by
  have he' : e ∈ [_, _, _] := Array.mem_toList_iff.mpr he
  rcases List.mem_cons.mp he' with rfl | he'
  · exact ⟨[68, 101, 118, 105, 99, 101, 71, 114, 97, 121], rfl, hash_b P [68, 101, 118, 105, 99, 101, 71, 114, 97, 121] (x := #[68, 101, 118, 105, 99, 101, 71, 114, 97, 121]) (by simp)⟩
  · rcases List.mem_cons.mp he' with rfl | he'
    · exact ⟨[68, 101, 118, 105, 99, 101, 82, 71, 66], rfl, hash_b P [68, 101, 118, 105, 99, 101, 82, 71, 66] (x := #[68, 101, 118, 105, 99, 101, 82, 71, 66]) (by simp)⟩
    · rw [List.mem_singleton.mp he']
      exact ⟨[68, 101, 118, 105, 99, 101, 67, 77, 89, 75], rfl, hash_b P [68, 101, 118, 105, 99, 101, 67, 77, 89, 75] (x := #[68, 101, 118, 105, 99, 101, 67, 77, 89, 75]) (by simp)⟩
noncomputable def dpNames : List (List UInt8) := [[68, 101, 118, 105, 99, 101, 71, 114, 97, 121], [68, 101, 118, 105, 99, 101, 82, 71, 66], [68, 101, 118, 105, 99, 101, 67, 77, 89, 75]]
section
variable {prog : Program} {w : World} {A : Around} {E : Value → Shared → Prop} {s : Shared} {L : Addr} {m : Str → Option Value}
theorem dp_map {prog : Program} {w : World} {h : Heap} (he : h.get? 84 = some (o84g5 w.params)) : h.MapOf (bytesKind prog w) 84 (findBy (bytesKind prog w).is (dpEs w.params)) :=
  ⟨_, _, _, he, ⟨rfl, rfl, rfl⟩, o84_data _, fun e he => let ⟨k, h1, h2⟩ := dp_mem he; ⟨k, h1, h2⟩, fun _ => rfl⟩
theorem dp_find (P : Params) (k : List UInt8) : (findBy isBytes (dpEs P) k).isSome = dpNames.contains k := by
  show ((([⟨_, .bytes #[68, 101, 118, 105, 99, 101, 71, 114, 97, 121] 297, _⟩, ⟨_, .bytes #[68, 101, 118, 105, 99, 101, 82, 71, 66] 299, _⟩, ⟨_, .bytes #[68, 101, 118, 105, 99, 101, 67, 77, 89, 75] 301, _⟩] : List DictEntry).toArray.find? fun e => isBytes k e.key).map (·.val)).isSome = _
  rw [List.find?_toArray]
  unfold dpNames
  by_cases h1 : ([68, 101, 118, 105, 99, 101, 71, 114, 97, 121] : List UInt8) = k
  · subst h1; rfl
  by_cases h2 : ([68, 101, 118, 105, 99, 101, 82, 71, 66] : List UInt8) = k
  · subst h2; rfl
  by_cases h3 : ([68, 101, 118, 105, 99, 101, 67, 77, 89, 75] : List UInt8) = k
  · subst h3; rfl
  have e1 : (([68, 101, 118, 105, 99, 101, 71, 114, 97, 121] : List UInt8) == k) = false := beq_eq_false_iff_ne.mpr h1
  have e2 : (([68, 101, 118, 105, 99, 101, 82, 71, 66] : List UInt8) == k) = false := beq_eq_false_iff_ne.mpr h2
  have e3 : (([68, 101, 118, 105, 99, 101, 67, 77, 89, 75] : List UInt8) == k) = false := beq_eq_false_iff_ne.mpr h3
  have f1 : (k == ([68, 101, 118, 105, 99, 101, 71, 114, 97, 121] : List UInt8)) = false := beq_eq_false_iff_ne.mpr (Ne.symm h1)
  have f2 : (k == ([68, 101, 118, 105, 99, 101, 82, 71, 66] : List UInt8)) = false := beq_eq_false_iff_ne.mpr (Ne.symm h2)
  have f3 : (k == ([68, 101, 118, 105, 99, 101, 67, 77, 89, 75] : List UInt8)) = false := beq_eq_false_iff_ne.mpr (Ne.symm h3)
  simp only [List.find?, isBytes, e1, e2, e3, List.contains, List.elem, f1, f2, f3]
  rfl
/-- a name of a space that is none of those of devices -/
theorem dp_notin {b : Array UInt8} {t : Tok} {Q : Value → Shared → Prop} (he : s.heap.get? 84 = some (o84g5 w.params)) (h : Q (.bool (!dpNames.contains b.toList)) { s with toks := s.toks + 1 }) :
    wpAny (model prog w) A (compareOp .NotIn (.bytes b t) (.ref 84)) Q E s := by
  refine wpAny_notIn_of (knd := bytesKind prog w) (k := b.toList) (by show (b.toList == b.toList) = true; exact beq_self_eq_true _) (by decide) (dp_map he) ?_
  rw [show findBy (bytesKind prog w).is (dpEs w.params) = findBy isBytes (dpEs w.params) from rfl, dp_find]; exact h
theorem dp_notinF {b : Array UInt8} {t : Tok} {Q : Value → Shared → Prop} {h₀ base : Heap} {outer : List Env} {A' : Around} (F : Fr h₀ L s.heap m) (K : Below A' base outer h₀) (he : base.get? 84 = some (o84g5 w.params)) (r : Bool) (hr : (!dpNames.contains b.toList) = r)
    (h : Q (.bool r) { s with toks := s.toks + 1 }) : wpAny (model prog w) A (compareOp .NotIn (.bytes b t) (.ref 84)) Q E s :=
  dp_notin (F.keep _ _ (K.stays _ _ he)) (hr ▸ h)
end
end Mine
end

section
theorem Mine.rstSP {M : Model} {A : Around} {env : Env} {Q : Flow → Shared → Prop} {E : Value → Shared → Prop} {s : Shared} (h : Q .next s) : wpAny M A (execs [] env) Q E s := by
  w_top off
  walk1
  exact h
open PySem PySem.W PyProof.Rows PySem.Calls
set_option Elab.async false
set_option maxRecDepth 100000
set_option linter.unusedVariables false
set_option maxHeartbeats 4000000
namespace Mine
noncomputable abbrev spO (w : World) (b : Array UInt8) (tb : Tok) (bv : Value) (t1 t2 t3 t4 t5 t6 t7 : Tok) : Obj :=
  dictOf [{ hash := PyData.keyHash w.params (Str.ofString "name"), key := .str (Str.ofString "name") t1, val := .bytes b tb },
    { hash := PyData.keyHash w.params (Str.ofString "thing"), key := .str (Str.ofString "thing") t2, val := .none },
    { hash := PyData.keyHash w.params (Str.ofString "base"), key := .str (Str.ofString "base") t3, val := bv },
    { hash := PyData.keyHash w.params (Str.ofString "most"), key := .str (Str.ofString "most") t4, val := .int 0 337 },
    { hash := PyData.keyHash w.params (Str.ofString "table"), key := .str (Str.ofString "table") t5, val := .bytes #[] 338 },
    { hash := PyData.keyHash w.params (Str.ofString "ink"), key := .str (Str.ofString "ink") t6, val := .bytes #[] 339 },
    { hash := PyData.keyHash w.params (Str.ofString "way"), key := .str (Str.ofString "way") t7, val := .none }] 7
noncomputable abbrev SpNew (w : World) (b : Array UInt8) (tb : Tok) (bv : Value) (news : List (Addr × Obj)) (v : Value) (news' : List (Addr × Obj)) : Prop :=
  ∃ (x d : Addr) (t1 t2 t3 t4 t5 t6 t7 : Tok), v = .ref x ∧ news' = (x, instObj 124 d) :: (d, spO w b tb bv t1 t2 t3 t4 t5 t6 t7) :: news
section
theorem device_ct (w : World) (news : List (Addr × Obj)) (b : Array UInt8) (tb : Tok) : Ct w 149 [.bytes b tb] 4 news (SpNew w b tb .none news) := by
  unfold Ct
  k_fill
  intro mean mg mb dp un gd cn cs a ccd cl outer A₀ base h₀ L m s Q E B F X N T hk hd hu hret
  refine wpAny_call ?_
  k_dflt cell_enter
  k_steps
  exact ct_end hret ⟨_, _, _, _, _, _, _, _, _, rfl, rfl⟩ (by k_asm) (by k_asm) (fun p hp => by repeat (first | exact hp | refine List.Mem.tail _ ?_))
theorem space_ct (w : World) (news : List (Addr × Obj)) (b : Array UInt8) (tb : Tok) (y : Addr) : Ct w 124 [.bytes b tb, .none, .ref y] 4 news (SpNew w b tb (.ref y) news) := by
  unfold Ct
  k_fill
  intro mean mg mb dp un gd cn cs a ccd cl outer A₀ base h₀ L m s Q E B F X N T hk hd hu hret
  k_dflt (refine' call_cls ?k1 ?k2 ?k3 ?k4 ?k5 ?k6 ?_; (case k1 => k_asm); (case k2 => k_asm); (case k3 => k_asm); (case k4 => k_is); (case k5 => k_is); (case k6 => k_is); k_whole; intro x' d' h1' F1' N1' l1 l2; (try k_lt l1); (try k_lt2 l2); (try k_sweep))
  k_dflt (refine' code_def ?k1 ?k2 ?k3 ?k4 ?k5 ?kA ?kF ?kK ?k6 ?k7 ?k8 ?k9 ?kB ?_ ?c2 ?c3 ?c4 ?c5; (case kA => exact rfl); (case kF => exact rfl); (case kK => first | exact rfl | assumption); (case k1 => k_asm); (case k2 => k_asm); (case k3 => k_asm); (case k4 => k_asm); (case k5 => k_asm); (case k6 => k_is); (case k7 => k_is); (case k8 => k_room); (case k9 => first | exact BindsTo.of_eq rfl | exact binds_K (by k_in) rfl (by k_is) rfl rfl rfl); (case c5 => decide); (case kB => exact locs rfl); (case c2 => exact rfl); (case c3 => exact rfl); (case c4 => exact rfl); k_whole; intro g' L' h2' FG' F' N' B' X' T')
  dsimp only
  k_lift B'
  try k_fold
  k_steps
  exact ct_end hret ⟨_, _, _, _, _, _, _, _, _, rfl, rfl⟩ (by k_asm) (by k_asm) (fun p hp => by repeat (first | exact hp | refine List.Mem.tail _ ?_))
/-- is_special_space, where the base carries the dict of the devices' parts -/
theorem special_ct (w : World) (news : List (Addr × Obj)) (x d : Addr) (b : Array UInt8) (tb : Tok) (bv : Value) (t1 t2 t3 t4 t5 t6 t7 : Tok) (r : Bool) (hr : (!dpNames.contains b.toList) = r)
    {mean : ExcName → Option Value} {mg mb : Str → Option Value} {dp un : Nat} {gd : Option (List Code)} {cn : Str} {cs : Scope} {a : Addr} {ccd : Value} {cl : List (Str × Addr)} {outer : List Env} {A₀ : Around} {base h₀ : Heap} {L : Addr} {m : Str → Option Value} {s : Shared} {Q E : Value → Shared → Prop}
    (B : Below A₀ base outer h₀) (F : Fr h₀ L s.heap m) (X : (Mine.hd.heap_1 w.params).In h₀) (N : News h₀ L s.heap ((x, instObj 124 d) :: (d, spO w b tb bv t1 t2 t3 t4 t5 t6 t7) :: news)) (T : Top vw (looseW vw loose) mean mg mb h₀) (hk : cs.kind = .function) (hd : dp + 3 < recursionLimit) (hu : un + 100 * 3 < cLine)
    (h84 : base.get? 84 = some (o84g5 w.params))
    (hret : ∀ h' tk', Fr h₀ L h' m → News h₀ L h' ((x, instObj 124 d) :: (d, spO w b tb bv t1 t2 t3 t4 t5 t6 t7) :: news) → Q (.bool r) { s with heap := h', toks := tk' }) :
    wpAny (model PySem.Challenge.rw_pb0512_01.row.prog w) (ktrTop dp un gd cn cs L a ccd cl outer) (call (.ref 142) [.ref x]) Q E s := by
  revert hret
  k_fill
  intro hret
  refine wpAny_call ?_
  k_dflt cell_enter
  k_steps
  refine dp_notinF (by assumption) (by assumption) h84 r hr ?_
  k_steps
  exact hret _ _ (by k_asm) (cb_drop (by k_asm) (fun p hp => by repeat (first | exact hp | refine List.Mem.tail _ ?_)))
end
end Mine
end

section
theorem Mine.rstLW {M : Model} {A : Around} {env : Env} {Q : Flow → Shared → Prop} {E : Value → Shared → Prop} {s : Shared} (h : Q .next s) : wpAny M A (execs [] env) Q E s := by
  w_top off
  walk1
  exact h
open PySem PySem.W PyProof.Rows PySem.Calls PyProof.Rows.LCg
set_option Elab.async false
set_option maxRecDepth 100000
set_option linter.unusedVariables false
set_option maxHeartbeats 0
namespace Mine
theorem three_of {i : Nat} (h : i < 3) : i = 0 ∨ i = 1 ∨ i = 2 := by omega
theorem fr_unturn {h₀ h₀' h : Heap} {L : Addr} {m : Str → Option Value} (T : KtsTurn [] h₀ h₀') (F : Fr h₀' L h m) : Fr h₀ L h m :=
  ⟨F.ns, fun b o e => F.keep b o (T.other b o e (fun q => nomatch q)), by rw [← T.size]; exact F.above⟩
theorem news_unturn {h₀ h₀' h : Heap} {L : Addr} {l : List (Addr × Obj)} (T : KtsTurn [] h₀ h₀') (N : News h₀' L h l) : News h₀ L h l := fun p hp => by
  refine ⟨(N p hp).1, (N p hp).2.1, ?_⟩
  cases q : h₀.get? p.1 with
  | none => rfl
  | some o => have := T.other _ _ q (fun z => nomatch z); rw [(N p hp).2.2] at this; cases this
section
local macro_rules | `(tactic| walk_at "call ref") => `(tactic| ((first | (with_reducible refine Mine.calS ?_) | ((fail_if_success (with_reducible refine Mine.calDG ?_)); (with_reducible refine Mine.calR (by with_unfolding_all rfl) ?_))); ((try k_fold); refine hold ?_)))
local macro_rules | `(tactic| walk_at "exec Assign cons ListComp") => `(tactic| ((try k_fold); refine hold ?_))
local macro_rules | `(tactic| walk_at "eval ListComp") => `(tactic| ((try k_fold); refine hold ?_))
local macro_rules | `(tactic| ktr_room) => `(tactic| decide)
local macro_rules | `(tactic| ktr_units) => `(tactic| first | decide | (rw [cLine_is]; decide))
local macro_rules | `(tactic| units_room) => `(tactic| first | decide | (rw [cLine_is]; decide))
local macro_rules | `(tactic| k_room) => `(tactic| decide)
local macro_rules | `(tactic| k_qdec) => `(tactic| kernel_rfl)
theorem law_holds : PySem.Challenge.rw_pb0512_01.Holds := by
  refine holds_law said_ok fun hx => ?_
  clear hx
  refine Mine.hd ?_
  k_fill
  intro w s₀ s₁ mg mb G Y fa o pm cd doc dV kV ho hdd hcd hD hmg hg args vals as hpre hlay hrd hwl hlo
  obtain ⟨Y1, Y84⟩ := Y
  have KX := kIn_of Y1
  k_behind G ho hdd hcd hD hmg hpre hlay hrd hwl hlo cd
  all_goals try k_fold
  k_steps
  unfold Hold
  rename List Int => ns
  rename IntsAre _ _ => hI
  rename Heap.IsList _ _ _ => hL
  rename ¬ (_ : Int) < _ => hlen
  rename Below _ _ _ _ => K0
  rename Fr _ _ _ _ => F1
  rename News _ _ _ _ => N1
  rename Top _ _ _ _ _ _ => T1
  rename Obj => wc
  rename _ = Data.cell _ => ec
  replace ec : wc.data = .cell none := ec
  refine deck_ct w _ _ _ ns hI (by omega) _ _ _ _ _ _ _ _ _ _ _ _ _ _ _ _ _ _ _ _ K0 F1 KX N1 T1 rfl (by ktr_room) (by ktr_units) hL ?_
  intro d l od ol h2 tk2 D2 lt2 lt2b hdl F2 N2
  have hc1 : @LT.lt Nat _ (s₁.heap.objs.size + 1) l := lt2 _ (.head _)
  have hc2 : @LT.lt Nat _ (s₁.heap.objs.size + 1) d := lt2b _ (.head _)
  have hrd : ∀ p ∈ [(s₁.heap.objs.size + 1, wc)], p.1 ≠ d := off_cons (Nat.ne_of_lt hc2) off_nil
  have hrl : ∀ p ∈ [(s₁.heap.objs.size + 1, wc)], p.1 ≠ l := off_cons (Nat.ne_of_lt hc1) off_nil
  clear lt2 lt2b
  k_steps
  unfold Hold
  refine Ct.use' (by k_asm) (thr_ct w _ 1 1 _ _ _ _ [0] rfl (by decide) (by decide) (by decide) (by decide) (by decide) (by decide) (by decide)) (by k_asm) (by k_asm) (by k_asm) (by k_asm) rfl (by ktr_room) (by ktr_units) ?_
  rintro v4 news4 h4 tk4 pzz
  refine ex8 pzz ?_; clear pzz; intro CX CD tq uq tbq k1q k2q k3q pzz; refine and4 pzz ?_; clear pzz; rintro rfl lt4 lt4b rfl F4 N4
  k_steps
  unfold Hold
  refine Ct.useB' (by k_asm) (white_led (octs := [0]) ⟨rfl, by decide, by decide, by decide, by decide, by decide, by decide⟩ (.head _) (.tail _ (.head _)) (by decide) (by decide) (by decide) (by decide) (by decide) (by decide)) (by k_asm) (by k_asm) (by k_asm) (by k_asm) rfl (by ktr_room) (by ktr_units) ?_
  intro h5 tk5 F5 N5
  rw [show whiteV 1 1 [0] 0 0 0 = false from rfl]
  have N6 := cb_drop N5 (show ∀ p ∈ [(d, od), (l, ol), (s₁.heap.objs.size + 1, wc)], p ∈ _ from by intro p hp; repeat (first | exact hp | refine List.Mem.tail _ ?_))
  clear N5 lt4
  k_steps
  unfold Hold
  refine DCt.use2I [] (by assumption) D2 (draw_ct w d l _ 4 _ (by decide) (by decide) (by decide)) off_nil off_nil hrd hrl hdl (by k_asm) (by k_asm) (by k_asm) (by k_asm) rfl (by ktr_room) (by ktr_units) ?_
  intro x60 t60 od60 ol60 h60 tk60 lo60 hi60 D60 F60 N60
  dsimp only [List.nil_append] at N60
  k_steps
  unfold Hold
  refine DCt.use2I [] (by assumption) D60 (draw_ct w d l _ 3 _ (by decide) (by decide) (by decide)) off_nil off_nil hrd hrl hdl (by k_asm) (by k_asm) (by k_asm) (by k_asm) rfl (by ktr_room) (by ktr_units) ?_
  intro x61 t61 od61 ol61 h61 tk61 lo61 hi61 D61 F61 N61
  dsimp only [List.nil_append] at N61
  k_steps
  unfold Hold
  rename Fr _ _ _ _ => F62
  rename News _ _ _ _ => N62
  refine cell_ct w d l _ (1 + x60) (1 + x61) _ _ (by decide) (by omega) (by omega) (by omega) (by omega) [(s₁.heap.objs.size + 1, wc)] od61 ol61 hdl hrd hrl D61 _ _ _ _ _ _ _ _ _ _ _ _ _ _ _ _ _ _ _ _ K0 F62 KX N62 T1 ktsDicts_nil rfl (by ktr_room) (by ktr_units) ?_
  rintro v63 news63 h63 tk63 g63 ⟨od63, ol63, D63, rfl, rfl⟩ T63 F63 N63 B63
  replace F63 := fr_unturn T63 F63
  replace N63 := news_unturn T63 N63
  clear F62 N62 B63 T63
  k_steps
  unfold Hold
  refine DCt.use2I [] (by assumption) D63 (draw_ct w d l _ 4 _ (by decide) (by decide) (by decide)) off_nil off_nil hrd hrl hdl (by k_asm) (by k_asm) (by k_asm) (by k_asm) rfl (by ktr_room) (by ktr_units) ?_
  intro x70 t70 od70 ol70 h70 tk70 lo70 hi70 D70 F70 N70
  dsimp only [List.nil_append] at N70
  k_steps
  unfold Hold
  refine DCt.use2I [] (by assumption) D70 (draw_ct w d l _ 3 _ (by decide) (by decide) (by decide)) off_nil off_nil hrd hrl hdl (by k_asm) (by k_asm) (by k_asm) (by k_asm) rfl (by ktr_room) (by ktr_units) ?_
  intro x71 t71 od71 ol71 h71 tk71 lo71 hi71 D71 F71 N71
  dsimp only [List.nil_append] at N71
  k_steps
  unfold Hold
  rename Fr _ _ _ _ => F72
  rename News _ _ _ _ => N72
  refine spots_ct w d l _ (1 + x70) (1 + x71) _ _ (by decide) (by omega) (by omega) (by omega) (by omega) [(s₁.heap.objs.size + 1, wc)] od71 ol71 hdl hrd hrl D71 _ _ _ _ _ _ _ _ _ _ _ _ _ _ _ _ _ _ _ _ K0 F72 KX N72 T1 ktsDicts_nil rfl (by ktr_room) (by ktr_units) ?_
  rintro v73 news73 h73 tk73 g73 ⟨od73, ol73, D73, rfl, rfl⟩ T73 F73 N73 B73
  replace F73 := fr_unturn T73 F73
  replace N73 := news_unturn T73 N73
  clear F72 N72 B73 T73
  k_steps
  unfold Hold
  k_dflt (refine Mine.Assign_ListComp_T (F₀ := by k_asm) (by rfl) (by with_unfolding_all rfl) (by rfl) (by decide) (by rfl) (by decide) (by rfl) (by rfl) (by rfl) ?_)
  k_steps
  rename News _ _ _ _ => NT
  k_dflt (refine SrcT.intro (by rfl) (by k_asm) NT (by k_mem) (by first | size_fits | exact Nat.le_of_ble_eq_true rfl) ?_)
  intro g1
  refine comp_inv (fun i ys led => led = nOf NT ∧ ys = List.replicate i (.bool false)) ⟨rfl, rfl⟩ ?_ ?_
  · rintro i ys led2 v I2 oI2 C oC D m2 h80 tk80 E2 hj ⟨rfl, rfl⟩ hv hC hm2 F80 N80 off80 ne80
    obtain ⟨b, tb, rfl, hr⟩ : ∃ b tb, v = .bytes b tb ∧ (!dpNames.contains b.toList) = false := by
      have hj3 : i < 3 := hj
      have : i = 0 ∨ i = 1 ∨ i = 2 := three_of hj3
      rcases this with rfl | rfl | rfl <;> (cases hv; exact ⟨_, _, rfl, by decide⟩)
    dsimp only [nOf] at N80 off80 ⊢
    have o1 := off80
    simp only [Off3] at off80
    clear NT hv hj
    k_steps
    unfold Hold
    refine Ct.use' N80 (device_ct w _ b tb) (by k_asm) (by k_asm) (by k_asm) (by k_asm) rfl (by ktr_room) (by ktr_units) ?_
    rintro v81 news81 h81 tk81 pzz
    refine ex9 pzz ?_; clear pzz; intro x dd t1 t2 t3 t4 t5 t6 t7 pzz; refine and2 pzz ?_; clear pzz; rintro rfl rfl F81 N81
    k_steps
    unfold Hold
    refine special_ct w _ x dd b tb .none t1 t2 t3 t4 t5 t6 t7 false hr (by k_asm) F81 (by k_asm) N81 (by k_asm) rfl (by ktr_room) (by ktr_units) Y84 ?_
    intro h82 tk82 F82 N82
    k_steps
    refine CompEnd.intro F82 (news_tail (news_tail N82)) _ (fun p hp => hp) o1 ⟨_, by k_mem, rfl, _, rfl⟩ ⟨rfl, by rw [List.replicate_succ']⟩
  · rintro ys led2 ⟨rfl, hy⟩
    obtain rfl : ys = [.bool false, .bool false, .bool false] := hy
    dsimp only [nOf]
    clear NT
    k_steps
    unfold Hold
    k_dflt (refine Mine.ListComp_T (F₀ := by k_asm) (by with_unfolding_all rfl) (by decide) (by rfl) (by decide) (by rfl) ?_)
    k_steps
    rename News _ _ _ _ => NT
    k_dflt (refine SrcT.intro (by rfl) (by k_asm) NT (by k_mem) (by first | size_fits | exact Nat.le_of_ble_eq_true rfl) ?_)
    intro g2
    refine comp_inv (fun i ys led => led = nOf NT ∧ ys = List.replicate i (.bool true)) ⟨rfl, rfl⟩ ?_ ?_
    · rintro i ys led2 v I2 oI2 C oC D m2 h80 tk80 E2 hj ⟨rfl, rfl⟩ hv hC hm2 F80 N80 off80 ne80
      obtain ⟨b, tb, rfl, hr⟩ : ∃ b tb, v = .bytes b tb ∧ (!dpNames.contains b.toList) = true := by
        have hj3 : i < 3 := hj
        have : i = 0 ∨ i = 1 ∨ i = 2 := three_of hj3
        rcases this with rfl | rfl | rfl <;> (cases hv; exact ⟨_, _, rfl, by decide⟩)
      dsimp only [nOf] at N80 off80 ⊢
      have o1 := off80
      simp only [Off3] at off80
      clear NT hv hj
      k_steps
      unfold Hold
      refine Ct.use' N80 (space_ct w _ b tb _) (by k_asm) (by k_asm) (by k_asm) (by k_asm) rfl (by ktr_room) (by ktr_units) ?_
      rintro v81 news81 h81 tk81 pzz
      refine ex9 pzz ?_; clear pzz; intro x dd t1 t2 t3 t4 t5 t6 t7 pzz; refine and2 pzz ?_; clear pzz; rintro rfl rfl F81 N81
      k_steps
      unfold Hold
      refine special_ct w _ x dd b tb _ t1 t2 t3 t4 t5 t6 t7 true hr (by k_asm) F81 (by k_asm) N81 (by k_asm) rfl (by ktr_room) (by ktr_units) Y84 ?_
      intro h82 tk82 F82 N82
      k_steps
      refine CompEnd.intro F82 (news_tail (news_tail N82)) _ (fun p hp => hp) o1 ⟨_, by k_mem, rfl, _, rfl⟩ ⟨rfl, by rw [List.replicate_succ']⟩
    · rintro ys led2 ⟨rfl, hy⟩
      obtain rfl : ys = [.bool true, .bool true, .bool true] := hy
      dsimp only [nOf]
      clear NT
      k_steps
      unfold Hold
      refine DCt.use (by k_asm) D73 (transfer_ct w d l _ (by decide)) (by k_updF) (by (intro _; k_updF)) hdl (by k_asm) (by k_asm) (by k_asm) (by k_asm) rfl (by ktr_room) (by ktr_units) ?_
      rintro v90 od90 ol90 h90 tk90 rfl D90 F90 N90
      k_steps
end
end Mine
end

end

theorem PySem.Challenge.cw_pb0512_01_holds : PySem.Challenge.rw_pb0512_01.Holds := by
  exact Mine.law_holds

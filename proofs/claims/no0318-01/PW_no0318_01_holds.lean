import PyProof.Rows.All
import Wide.All
import OpenK.AllK
import Wide.FinOn
import Lean
import PySem.Challenge.RW_no0318_01
set_option Elab.async false
set_option compiler.extract_closed false

namespace Lrn
def macArg : Char → Lean.MacroM (Lean.TSyntax `term)
  | 'a' => `(by assumption) | 'f' => `(by rfl) | 'n' => `(by walk_at "nm") | 'b' => `(by walk_at "bt") | 'l' => `(fun _ => ?_) | 'u' => `(_) | 'o' => `(by walk_at "o") | _ => `(?_)
def macAlt (w : String) : Lean.MacroM (Lean.TSyntax `tactic) := do
  let l := w.splitOn ":"
  let as ← (l.getD 2 "").toList.toArray.mapM macArg
  let f := Lean.mkIdent (l.getD 1 "").toName
  let t ← if as.isEmpty then `($f) else `($f $as*)
  match l.getD 0 "" with
  | "e" => `(tactic| exact $t)
  | "q" => `(tactic| (refine $t; exact Nat.le_of_ble_eq_true rfl))
  | _ => `(tactic| refine' $t)
def macFirst (s : String) : Lean.MacroM (Lean.TSyntax `tactic) := do
  let ts ← (s.splitOn " ").toArray.mapM macAlt
  `(tactic| first $[| $ts:tactic]*)
end Lrn
local macro_rules | `(tactic| walk_at "o") => do
  let t ← Lrn.macFirst "e:Nat.le_of_succ_le:a q:Nat.le_trans:_a q:Nat.le_trans:a_ q:Nat.lt_of_le_of_lt:a_ q:Nat.lt_of_lt_of_le:a_ e:Nat.le_of_lt_succ:a"
  `(tactic| first | assumption | $t:tactic | lia | omega)
local macro_rules | `(tactic| walk_at "m") => do
  let t ← Lrn.macFirst "e:mlen:o e:mlenlt:o"
  `(tactic| first | $t:tactic | (rw [List.length_map]; walk_at "o") | (simp; walk_at "o"))

section
set_option autoImplicit false
set_option linter.unusedVariables false
namespace Lrn
theorem ex0_2 {P1 P2 : Prop} {G : Prop} (h : P1 ∧ P2) (k : P1 → P2 → G) : G := k h.1 h.2
theorem ex0_3 {P1 P2 P3 : Prop} {G : Prop} (h : P1 ∧ P2 ∧ P3) (k : P1 → P2 → P3 → G) : G := k h.1 h.2.1 h.2.2
theorem ex0_4 {P1 P2 P3 P4 : Prop} {G : Prop} (h : P1 ∧ P2 ∧ P3 ∧ P4) (k : P1 → P2 → P3 → P4 → G) : G := k h.1 h.2.1 h.2.2.1 h.2.2.2
theorem ex0_5 {P1 P2 P3 P4 P5 : Prop} {G : Prop} (h : P1 ∧ P2 ∧ P3 ∧ P4 ∧ P5) (k : P1 → P2 → P3 → P4 → P5 → G) : G := k h.1 h.2.1 h.2.2.1 h.2.2.2.1 h.2.2.2.2
theorem ex0_6 {P1 P2 P3 P4 P5 P6 : Prop} {G : Prop} (h : P1 ∧ P2 ∧ P3 ∧ P4 ∧ P5 ∧ P6) (k : P1 → P2 → P3 → P4 → P5 → P6 → G) : G := k h.1 h.2.1 h.2.2.1 h.2.2.2.1 h.2.2.2.2.1 h.2.2.2.2.2
theorem ex0_7 {P1 P2 P3 P4 P5 P6 P7 : Prop} {G : Prop} (h : P1 ∧ P2 ∧ P3 ∧ P4 ∧ P5 ∧ P6 ∧ P7) (k : P1 → P2 → P3 → P4 → P5 → P6 → P7 → G) : G := k h.1 h.2.1 h.2.2.1 h.2.2.2.1 h.2.2.2.2.1 h.2.2.2.2.2.1 h.2.2.2.2.2.2
theorem ex0_15 {P1 P2 P3 P4 P5 P6 P7 P8 P9 P10 P11 P12 P13 P14 P15 : Prop} {G : Prop} (h : P1 ∧ P2 ∧ P3 ∧ P4 ∧ P5 ∧ P6 ∧ P7 ∧ P8 ∧ P9 ∧ P10 ∧ P11 ∧ P12 ∧ P13 ∧ P14 ∧ P15) (k : P1 → P2 → P3 → P4 → P5 → P6 → P7 → P8 → P9 → P10 → P11 → P12 → P13 → P14 → P15 → G) : G := k h.1 h.2.1 h.2.2.1 h.2.2.2.1 h.2.2.2.2.1 h.2.2.2.2.2.1 h.2.2.2.2.2.2.1 h.2.2.2.2.2.2.2.1 h.2.2.2.2.2.2.2.2.1 h.2.2.2.2.2.2.2.2.2.1 h.2.2.2.2.2.2.2.2.2.2.1 h.2.2.2.2.2.2.2.2.2.2.2.1 h.2.2.2.2.2.2.2.2.2.2.2.2.1 h.2.2.2.2.2.2.2.2.2.2.2.2.2.1 h.2.2.2.2.2.2.2.2.2.2.2.2.2.2
theorem ex1_1 {α : Sort _} {P1 : α → Prop} {G : Prop} (h : ∃ a, P1 a) (k : ∀ a, P1 a → G) : G := h.elim fun a h => k a h
theorem ex1_2 {α : Sort _} {P1 P2 : α → Prop} {G : Prop} (h : ∃ a, P1 a ∧ P2 a) (k : ∀ a, P1 a → P2 a → G) : G := h.elim fun a h => k a h.1 h.2
theorem ex1_3 {α : Sort _} {P1 P2 P3 : α → Prop} {G : Prop} (h : ∃ a, P1 a ∧ P2 a ∧ P3 a) (k : ∀ a, P1 a → P2 a → P3 a → G) : G := h.elim fun a h => k a h.1 h.2.1 h.2.2
theorem ex1_4 {α : Sort _} {P1 P2 P3 P4 : α → Prop} {G : Prop} (h : ∃ a, P1 a ∧ P2 a ∧ P3 a ∧ P4 a) (k : ∀ a, P1 a → P2 a → P3 a → P4 a → G) : G := h.elim fun a h => k a h.1 h.2.1 h.2.2.1 h.2.2.2
theorem ex1_5 {α : Sort _} {P1 P2 P3 P4 P5 : α → Prop} {G : Prop} (h : ∃ a, P1 a ∧ P2 a ∧ P3 a ∧ P4 a ∧ P5 a) (k : ∀ a, P1 a → P2 a → P3 a → P4 a → P5 a → G) : G := h.elim fun a h => k a h.1 h.2.1 h.2.2.1 h.2.2.2.1 h.2.2.2.2
theorem ex1_6 {α : Sort _} {P1 P2 P3 P4 P5 P6 : α → Prop} {G : Prop} (h : ∃ a, P1 a ∧ P2 a ∧ P3 a ∧ P4 a ∧ P5 a ∧ P6 a) (k : ∀ a, P1 a → P2 a → P3 a → P4 a → P5 a → P6 a → G) : G := h.elim fun a h => k a h.1 h.2.1 h.2.2.1 h.2.2.2.1 h.2.2.2.2.1 h.2.2.2.2.2
theorem ex1_7 {α : Sort _} {P1 P2 P3 P4 P5 P6 P7 : α → Prop} {G : Prop} (h : ∃ a, P1 a ∧ P2 a ∧ P3 a ∧ P4 a ∧ P5 a ∧ P6 a ∧ P7 a) (k : ∀ a, P1 a → P2 a → P3 a → P4 a → P5 a → P6 a → P7 a → G) : G := h.elim fun a h => k a h.1 h.2.1 h.2.2.1 h.2.2.2.1 h.2.2.2.2.1 h.2.2.2.2.2.1 h.2.2.2.2.2.2
theorem ex1_8 {α : Sort _} {P1 P2 P3 P4 P5 P6 P7 P8 : α → Prop} {G : Prop} (h : ∃ a, P1 a ∧ P2 a ∧ P3 a ∧ P4 a ∧ P5 a ∧ P6 a ∧ P7 a ∧ P8 a) (k : ∀ a, P1 a → P2 a → P3 a → P4 a → P5 a → P6 a → P7 a → P8 a → G) : G := h.elim fun a h => k a h.1 h.2.1 h.2.2.1 h.2.2.2.1 h.2.2.2.2.1 h.2.2.2.2.2.1 h.2.2.2.2.2.2.1 h.2.2.2.2.2.2.2
theorem ex2_1 {α β : Sort _} {P1 : α → β → Prop} {G : Prop} (h : ∃ a b, P1 a b) (k : ∀ a b, P1 a b → G) : G := h.elim fun a h => h.elim fun b h => k a b h
theorem ex2_2 {α β : Sort _} {P1 P2 : α → β → Prop} {G : Prop} (h : ∃ a b, P1 a b ∧ P2 a b) (k : ∀ a b, P1 a b → P2 a b → G) : G := h.elim fun a h => h.elim fun b h => k a b h.1 h.2
theorem ex2_3 {α β : Sort _} {P1 P2 P3 : α → β → Prop} {G : Prop} (h : ∃ a b, P1 a b ∧ P2 a b ∧ P3 a b) (k : ∀ a b, P1 a b → P2 a b → P3 a b → G) : G := h.elim fun a h => h.elim fun b h => k a b h.1 h.2.1 h.2.2
theorem ex2_4 {α β : Sort _} {P1 P2 P3 P4 : α → β → Prop} {G : Prop} (h : ∃ a b, P1 a b ∧ P2 a b ∧ P3 a b ∧ P4 a b) (k : ∀ a b, P1 a b → P2 a b → P3 a b → P4 a b → G) : G := h.elim fun a h => h.elim fun b h => k a b h.1 h.2.1 h.2.2.1 h.2.2.2
theorem ex2_5 {α β : Sort _} {P1 P2 P3 P4 P5 : α → β → Prop} {G : Prop} (h : ∃ a b, P1 a b ∧ P2 a b ∧ P3 a b ∧ P4 a b ∧ P5 a b) (k : ∀ a b, P1 a b → P2 a b → P3 a b → P4 a b → P5 a b → G) : G := h.elim fun a h => h.elim fun b h => k a b h.1 h.2.1 h.2.2.1 h.2.2.2.1 h.2.2.2.2
theorem ex2_6 {α β : Sort _} {P1 P2 P3 P4 P5 P6 : α → β → Prop} {G : Prop} (h : ∃ a b, P1 a b ∧ P2 a b ∧ P3 a b ∧ P4 a b ∧ P5 a b ∧ P6 a b) (k : ∀ a b, P1 a b → P2 a b → P3 a b → P4 a b → P5 a b → P6 a b → G) : G := h.elim fun a h => h.elim fun b h => k a b h.1 h.2.1 h.2.2.1 h.2.2.2.1 h.2.2.2.2.1 h.2.2.2.2.2
theorem ex2_7 {α β : Sort _} {P1 P2 P3 P4 P5 P6 P7 : α → β → Prop} {G : Prop} (h : ∃ a b, P1 a b ∧ P2 a b ∧ P3 a b ∧ P4 a b ∧ P5 a b ∧ P6 a b ∧ P7 a b) (k : ∀ a b, P1 a b → P2 a b → P3 a b → P4 a b → P5 a b → P6 a b → P7 a b → G) : G := h.elim fun a h => h.elim fun b h => k a b h.1 h.2.1 h.2.2.1 h.2.2.2.1 h.2.2.2.2.1 h.2.2.2.2.2.1 h.2.2.2.2.2.2
theorem ex2_9 {α β : Sort _} {P1 P2 P3 P4 P5 P6 P7 P8 P9 : α → β → Prop} {G : Prop} (h : ∃ a b, P1 a b ∧ P2 a b ∧ P3 a b ∧ P4 a b ∧ P5 a b ∧ P6 a b ∧ P7 a b ∧ P8 a b ∧ P9 a b) (k : ∀ a b, P1 a b → P2 a b → P3 a b → P4 a b → P5 a b → P6 a b → P7 a b → P8 a b → P9 a b → G) : G := h.elim fun a h => h.elim fun b h => k a b h.1 h.2.1 h.2.2.1 h.2.2.2.1 h.2.2.2.2.1 h.2.2.2.2.2.1 h.2.2.2.2.2.2.1 h.2.2.2.2.2.2.2.1 h.2.2.2.2.2.2.2.2
theorem ex3_1 {α β γ : Sort _} {P1 : α → β → γ → Prop} {G : Prop} (h : ∃ a b c, P1 a b c) (k : ∀ a b c, P1 a b c → G) : G := h.elim fun a h => h.elim fun b h => h.elim fun c h => k a b c h
theorem ex3_3 {α β γ : Sort _} {P1 P2 P3 : α → β → γ → Prop} {G : Prop} (h : ∃ a b c, P1 a b c ∧ P2 a b c ∧ P3 a b c) (k : ∀ a b c, P1 a b c → P2 a b c → P3 a b c → G) : G := h.elim fun a h => h.elim fun b h => h.elim fun c h => k a b c h.1 h.2.1 h.2.2
theorem ex3_4 {α β γ : Sort _} {P1 P2 P3 P4 : α → β → γ → Prop} {G : Prop} (h : ∃ a b c, P1 a b c ∧ P2 a b c ∧ P3 a b c ∧ P4 a b c) (k : ∀ a b c, P1 a b c → P2 a b c → P3 a b c → P4 a b c → G) : G := h.elim fun a h => h.elim fun b h => h.elim fun c h => k a b c h.1 h.2.1 h.2.2.1 h.2.2.2
theorem ex3_5 {α β γ : Sort _} {P1 P2 P3 P4 P5 : α → β → γ → Prop} {G : Prop} (h : ∃ a b c, P1 a b c ∧ P2 a b c ∧ P3 a b c ∧ P4 a b c ∧ P5 a b c) (k : ∀ a b c, P1 a b c → P2 a b c → P3 a b c → P4 a b c → P5 a b c → G) : G := h.elim fun a h => h.elim fun b h => h.elim fun c h => k a b c h.1 h.2.1 h.2.2.1 h.2.2.2.1 h.2.2.2.2
theorem ex3_6 {α β γ : Sort _} {P1 P2 P3 P4 P5 P6 : α → β → γ → Prop} {G : Prop} (h : ∃ a b c, P1 a b c ∧ P2 a b c ∧ P3 a b c ∧ P4 a b c ∧ P5 a b c ∧ P6 a b c) (k : ∀ a b c, P1 a b c → P2 a b c → P3 a b c → P4 a b c → P5 a b c → P6 a b c → G) : G := h.elim fun a h => h.elim fun b h => h.elim fun c h => k a b c h.1 h.2.1 h.2.2.1 h.2.2.2.1 h.2.2.2.2.1 h.2.2.2.2.2
theorem ex4_2 {α β γ δ : Sort _} {P1 P2 : α → β → γ → δ → Prop} {G : Prop} (h : ∃ a b c d, P1 a b c d ∧ P2 a b c d) (k : ∀ a b c d, P1 a b c d → P2 a b c d → G) : G := h.elim fun a h => h.elim fun b h => h.elim fun c h => h.elim fun d h => k a b c d h.1 h.2
theorem ex4_6 {α β γ δ : Sort _} {P1 P2 P3 P4 P5 P6 : α → β → γ → δ → Prop} {G : Prop} (h : ∃ a b c d, P1 a b c d ∧ P2 a b c d ∧ P3 a b c d ∧ P4 a b c d ∧ P5 a b c d ∧ P6 a b c d) (k : ∀ a b c d, P1 a b c d → P2 a b c d → P3 a b c d → P4 a b c d → P5 a b c d → P6 a b c d → G) : G := h.elim fun a h => h.elim fun b h => h.elim fun c h => h.elim fun d h => k a b c d h.1 h.2.1 h.2.2.1 h.2.2.2.1 h.2.2.2.2.1 h.2.2.2.2.2
theorem ex4_7 {α β γ δ : Sort _} {P1 P2 P3 P4 P5 P6 P7 : α → β → γ → δ → Prop} {G : Prop} (h : ∃ a b c d, P1 a b c d ∧ P2 a b c d ∧ P3 a b c d ∧ P4 a b c d ∧ P5 a b c d ∧ P6 a b c d ∧ P7 a b c d) (k : ∀ a b c d, P1 a b c d → P2 a b c d → P3 a b c d → P4 a b c d → P5 a b c d → P6 a b c d → P7 a b c d → G) : G := h.elim fun a h => h.elim fun b h => h.elim fun c h => h.elim fun d h => k a b c d h.1 h.2.1 h.2.2.1 h.2.2.2.1 h.2.2.2.2.1 h.2.2.2.2.2.1 h.2.2.2.2.2.2
theorem ex5_2 {α β γ δ ε : Sort _} {P1 P2 : α → β → γ → δ → ε → Prop} {G : Prop} (h : ∃ a b c d e, P1 a b c d e ∧ P2 a b c d e) (k : ∀ a b c d e, P1 a b c d e → P2 a b c d e → G) : G := h.elim fun a h => h.elim fun b h => h.elim fun c h => h.elim fun d h => h.elim fun e h => k a b c d e h.1 h.2
theorem ex5_6 {α β γ δ ε : Sort _} {P1 P2 P3 P4 P5 P6 : α → β → γ → δ → ε → Prop} {G : Prop} (h : ∃ a b c d e, P1 a b c d e ∧ P2 a b c d e ∧ P3 a b c d e ∧ P4 a b c d e ∧ P5 a b c d e ∧ P6 a b c d e) (k : ∀ a b c d e, P1 a b c d e → P2 a b c d e → P3 a b c d e → P4 a b c d e → P5 a b c d e → P6 a b c d e → G) : G := h.elim fun a h => h.elim fun b h => h.elim fun c h => h.elim fun d h => h.elim fun e h => k a b c d e h.1 h.2.1 h.2.2.1 h.2.2.2.1 h.2.2.2.2.1 h.2.2.2.2.2
theorem ex6_6 {α β γ δ ε ζ : Sort _} {P1 P2 P3 P4 P5 P6 : α → β → γ → δ → ε → ζ → Prop} {G : Prop} (h : ∃ a b c d e f, P1 a b c d e f ∧ P2 a b c d e f ∧ P3 a b c d e f ∧ P4 a b c d e f ∧ P5 a b c d e f ∧ P6 a b c d e f) (k : ∀ a b c d e f, P1 a b c d e f → P2 a b c d e f → P3 a b c d e f → P4 a b c d e f → P5 a b c d e f → P6 a b c d e f → G) : G := h.elim fun a h => h.elim fun b h => h.elim fun c h => h.elim fun d h => h.elim fun e h => h.elim fun f h => k a b c d e f h.1 h.2.1 h.2.2.1 h.2.2.2.1 h.2.2.2.2.1 h.2.2.2.2.2
theorem ex6_8 {α β γ δ ε ζ : Sort _} {P1 P2 P3 P4 P5 P6 P7 P8 : α → β → γ → δ → ε → ζ → Prop} {G : Prop} (h : ∃ a b c d e f, P1 a b c d e f ∧ P2 a b c d e f ∧ P3 a b c d e f ∧ P4 a b c d e f ∧ P5 a b c d e f ∧ P6 a b c d e f ∧ P7 a b c d e f ∧ P8 a b c d e f) (k : ∀ a b c d e f, P1 a b c d e f → P2 a b c d e f → P3 a b c d e f → P4 a b c d e f → P5 a b c d e f → P6 a b c d e f → P7 a b c d e f → P8 a b c d e f → G) : G := h.elim fun a h => h.elim fun b h => h.elim fun c h => h.elim fun d h => h.elim fun e h => h.elim fun f h => k a b c d e f h.1 h.2.1 h.2.2.1 h.2.2.2.1 h.2.2.2.2.1 h.2.2.2.2.2.1 h.2.2.2.2.2.2.1 h.2.2.2.2.2.2.2
theorem mlen {α β : Type} {f : α → β} {xs : List α} {n : Nat} (h : xs.length ≤ n) : (xs.map f).length ≤ n := Nat.le_trans (Nat.le_of_eq (List.length_map f)) h
theorem mlenlt {α β : Type} {f : α → β} {xs : List α} {n : Nat} (h : xs.length < n) : (xs.map f).length < n := Nat.lt_of_le_of_lt (Nat.le_of_eq (List.length_map f)) h
theorem lt3 : ∀ q : Nat, q < 3 → q = 0 ∨ q = 1 ∨ q = 2 := by decide
theorem lt4 : ∀ q : Nat, q < 4 → q = 0 ∨ q = 1 ∨ q = 2 ∨ q = 3 := by decide
end Lrn
end
section
open PySem PySem.W PyProof.Rows PySem.Calls
set_option linter.unusedVariables false
namespace Lrn
noncomputable def ldT : List Obj → Nat → BT → Option BT
  | [], _, t => some t
  | o :: r, n, t => match ((t.ins n o).get n).isSome with
    | true => ldT r (n + 1) (t.ins n o)
    | false => none
theorem list_ins {t : BT} {n : Nat} {o : Obj} (g : ((t.ins n o).get n).isSome = true) : (t.ins n o).list (n + 1) = t.list n ++ [o] := by
  have e := congrArg (fun h : Heap => h.objs.toList) (absHeap_ins (life := default) g)
  have e2 : (t.ins n o).list (n + 1) = ((t.list n).toArray.push o).toList := e
  rw [e2, Array.toList_push]
theorem ldT_ok : ∀ {l : List Obj} {n : Nat} {t t' : BT}, ldT l n t = some t' → t'.list (n + l.length) = t.list n ++ l
  | [], n, t, t', h => by cases h; exact (List.append_nil _).symm
  | o :: r, n, t, t', h => by
    unfold ldT at h
    cases g : ((t.ins n o).get n).isSome with
    | false => rw [g] at h; cases h
    | true =>
      rw [g] at h
      have e := ldT_ok h
      rw [list_ins g, List.append_assoc] at e
      rw [List.length_cons, Nat.add_comm r.length 1, ← Nat.add_assoc]; exact e
noncomputable def ldS (s : Shared) : Option SharedT := (ldT s.heap.objs.toList 0 .nil).map fun t => ⟨t, s.heap.objs.size, s.heap.life, s.gens, s.drawn, s.toks, s.os⟩
theorem ldS_ok {s : Shared} {sT : SharedT} (h : ldS s = some sT) : sT.abs = s := by
  refine ex1_2 (Option.map_eq_some_iff.mp h) fun t e e2 => ?_
  subst e2
  have q := ldT_ok e
  rw [Nat.zero_add, Array.length_toList] at q
  have q2 : t.list s.heap.objs.size = s.heap.objs.toList := q
  unfold SharedT.abs absHeap
  dsimp only
  rw [q2]
section
variable {tb : String → Option Builtin} {p : Program} {w : World} {n₀ : Nat} {ann : Option Value}
noncomputable def topRunT (tb : String → Option Builtin) (p : Program) (w : World) (n₀ : Nat) (ann : Option Value) : Nat → SharedT → Thread → Option SharedT
  | 0, _, _ => none
  | n + 1, s, t => match through t with
    | true => some s
    | false => match stepOk n₀ ann t with
      | false => none
      | true => match stepT (denote tb) p w s t with
        | some (s', t') => topRunT tb p w n₀ ann n s' t'
        | none => none
theorem topRunT_ok : ∀ {n : Nat} {s s' : SharedT} {t : Thread}, topRunT tb p w n₀ ann n s t = some s' → topRun tb p w n₀ ann n s.abs t = some s'.abs
  | 0, _, _, _, h => by cases h
  | n + 1, s, s', t, h => by
    unfold topRunT at h
    unfold topRun
    cases he : through t with
    | true => rw [he] at h; cases h; rfl
    | false =>
      rw [he] at h
      cases hk : stepOk n₀ ann t with
      | false => rw [hk] at h; cases h
      | true =>
        rw [hk] at h
        cases hs : stepT (denote tb) p w s t with
        | none => rw [hs] at h; cases h
        | some r => obtain ⟨s₂, t₂⟩ := r; rw [hs] at h; rw [stepT_spec hs]; exact topRunT_ok h
end
noncomputable def fromT (tb : String → Option Builtin) (p : Program) (w : World) (N : Nat) (s₀ : Shared) : Option SharedT :=
  match s₀.heap.isNs mainGlobals && s₀.gens.size == 0 with
  | true => (ldS s₀).bind fun sT => (topRunT tb p w s₀.heap.objs.size (s₀.heap.nsMap mainGlobals "__annotations__") N sT (topStub p)).bind fun s₁ => match staticsOk (importedModules p.main.body) s₀.heap s₁.abs.heap && namesBound p s₁.abs.heap && gensDone s₁.abs && laidKept s₀.heap s₁.abs.heap with
      | true => some s₁
      | false => none
  | false => none
theorem fromT_ok {tb : String → Option Builtin} {p : Program} {w : World} {N : Nat} {s₀ : Shared} {s₁ : SharedT} (h : fromT tb p w N s₀ = some s₁) : topFrom tb p w N s₀ = some s₁.abs := by
  unfold fromT at h
  unfold topFrom
  cases hc : s₀.heap.isNs mainGlobals && s₀.gens.size == 0 with
  | false => rw [hc] at h; cases h
  | true =>
    rw [hc] at h
    refine ex1_2 (Option.bind_eq_some_iff.mp h) fun sT e h => ?_
    refine ex1_2 (Option.bind_eq_some_iff.mp h) fun s2 e2 h => ?_
    have r := topRunT_ok e2
    rw [ldS_ok e] at r
    show (topRun _ _ _ _ _ _ _ _).bind _ = _
    rw [r]
    show (match _ with | true => some s2.abs | false => none) = _
    cases hk : staticsOk (importedModules p.main.body) s₀.heap s2.abs.heap && namesBound p s2.abs.heap && gensDone s2.abs && laidKept s₀.heap s2.abs.heap with
    | false => rw [hk] at h; cases h
    | true => rw [hk] at h; cases h; rfl
theorem left_ofT {p q : Program} {loose : List Str} {Xt : Shared → Bool} {α : Type} {Yf : Shared → α} {Ya : World → α} {N : Nat}
    (h : ∀ w : World, ((fencedOpening treeTable p w N).bind (fromT treeTable p w N)).map (fun s => (openSeen q loose (importedModules p.main.body) Xt true s.abs, Yf s.abs)) = some (openGood q loose, Ya w)) : LeftO p q loose Xt Yf Ya N := fun w => by
  refine ex1_2 (Option.map_eq_some_iff.mp (h w)) fun s e e2 => ?_
  refine ex1_2 (Option.bind_eq_some_iff.mp e) fun s₀ e3 e4 => ?_
  unfold openEnds
  rw [e3]
  show (topFrom treeTable p w N s₀).map _ = _
  rw [fromT_ok e4]
  exact congrArg some e2
end Lrn
end
section
open PySem PySem.W PyProof.Rows PySem.Calls
set_option maxRecDepth 100000
set_option linter.unusedVariables false
namespace Lrn

noncomputable def top (i : Nat) : Stmt := (PySem.Challenge.pw_no0318_01.main.body[i]?).getD (.Pass ⟨0, 0, 0, 0⟩)
noncomputable def bodyOf : Stmt → List Stmt
  | .FunctionDef _ _ b .. => b
  | .ClassDef (body := b) .. => b
  | _ => []
noncomputable def scopeOf : Stmt → Scope
  | .FunctionDef (scope := s) .. => s
  | .ClassDef (scope := s) .. => s
  | _ => { kind := .function, names := [], isGenerator := false, isCoroutine := false, more := [] }
noncomputable def paramsOf : Stmt → Arguments
  | .FunctionDef (args := a) .. => a
  | _ => { posonlyargs := [], args := [], vararg := none, kwonlyargs := [], kw_defaults := [], kwarg := none, defaults := [] }
noncomputable def meth (i j : Nat) : Stmt := ((bodyOf (top i))[j]?).getD (.Pass ⟨0, 0, 0, 0⟩)

noncomputable def sv (x : Str) (t : Tok) : Value := .str x t
noncomputable def en (x : Str) (t : Tok) (v : Value) : Str × Tok × Value := (x, t, v)
noncomputable def dictP (P : Params) (n : Nat) (es : List (Str × Tok × Value)) : Obj := { cls := .type "dict", data := .dict (es.map fun e => ⟨PyData.keyHash P e.1, .str e.1 e.2.1, e.2.2⟩).toArray n }
noncomputable def fnO (name qual : Str) (st : Stmt) (code mod ct : Value) (clos : List (Str × Addr)) : Obj :=
  { cls := .type "function", data := .func { name := name, qualname := qual, params := paramsOf st, body := .stmts (bodyOf st), scope := scopeOf st, globals := mainGlobals, closure := clos, defaults := .none, kwdefaults := .none, doc := .none, pyModule := mod, annotations := none, code := code, closureTuple := ct, builtins := builtinsNs } }
noncomputable def clsO (name : Str) (bases mro : List Value) (ns : Addr) (qual : Str) (hasDict : Bool) (sn : List Str) (subs : List Value) (abs : Bool) (coll : Option Bool) (del : Bool) (slots : List (Option Value)) : Obj :=
  { cls := .type "type", data := .cls { name := name, bases := bases, mro := mro, ns := ns, qualname := qual, hasDict := hasDict, slotNames := sn, subclasses := subs, abstract := abs, collection := coll, hasDel := del }, slots := slots.toArray }
noncomputable def codeName (h : Heap) (c : Addr) : Option Value := match h.get? c with
  | some ⟨_, _, .fields vs, _⟩ => vs[1]?
  | _ => none

noncomputable def KF (P : Params) : Frag := [
  (3, dictP P 38 [(en "__name__" 165 (sv "law_no0318_01" 712)), (en "__doc__" 166 .none), (en "__package__" 167 .none), (en "__loader__" 168 (.builtin "__main__.__loader__#opaque")), (en "__spec__" 169 .none), (en "__annotations__" 170 (.ref 6)), (en "__builtins__" 171 (.ref 4)), (en "__file__" 173 (sv "/claim/cut.py" 172)), (en "__cached__" 174 .none), (en "_wall" 193 (.ref 21)), (en "least" 202 (.ref 28)), (en "greatest" 209 (.ref 35)), (en "next_from" 219 (.ref 42)), (en "has" 227 (.ref 49)), (en "has_domains" 228 (.ref 49)), (en "up_to" 234 (.ref 54)), (en "from_on" 240 (.ref 59)), (en "without" 248 (.ref 66)), (en "meet" 261 (.ref 73)), (en "negation" 271 (.ref 80)), (en "struck" 281 (.ref 87)), (en "said_of" 290 (.ref 94)), (en "FdError" 330 (.ref 120)), (en "ProofFault" 365 (.ref 149)), (en "is_met" 377 (.ref 158)), (en "implies" 387 (.ref 165)), (en "elders" 402 (.ref 172)), (en "spot_of" 413 (.ref 179)), (en "Analyst" 517 (.ref 249)), (en "Store" 711 (.ref 403)), (en "_law_literal" 720 (.ref 414)), (en "_law_says" 731 (.ref 421)), (en "_law_has_all" 737 (.ref 426)), (en "_law_points" 743 (.ref 431)), (en "_law_run" 749 (.ref 436)), (en "_law_are_entries_right" 755 (.ref 441)), (en "_law_is_learnt" 761 (.ref 446)), (en "law" 767 (.ref 451))]),
  (28, fnO "least" "least" (top 2) (.ref 27) (sv "fdsolve.domains" 194) .none []),
  (35, fnO "greatest" "greatest" (top 3) (.ref 34) (sv "fdsolve.domains" 194) .none []),
  (42, fnO "next_from" "next_from" (top 4) (.ref 41) (sv "fdsolve.domains" 194) .none []),
  (49, fnO "has" "has" (top 5) (.ref 48) (sv "fdsolve.domains" 194) .none []),
  (54, fnO "up_to" "up_to" (top 7) (.ref 53) (sv "fdsolve.domains" 194) .none []),
  (59, fnO "from_on" "from_on" (top 8) (.ref 58) (sv "fdsolve.domains" 194) .none []),
  (66, fnO "without" "without" (top 9) (.ref 65) (sv "fdsolve.domains" 194) .none []),
  (73, fnO "meet" "meet" (top 10) (.ref 72) (sv "fdsolve.domains" 194) .none []),
  (80, fnO "negation" "negation" (top 11) (.ref 79) (sv "fdsolve.domains" 194) .none []),
  (87, fnO "struck" "struck" (top 12) (.ref 86) (sv "fdsolve.domains" 194) .none []),
  (94, fnO "said_of" "said_of" (top 13) (.ref 93) (sv "fdsolve.domains" 194) .none []),
  (158, fnO "is_met" "is_met" (top 18) (.ref 157) (sv "fdsolve.learn" 366) .none []),
  (165, fnO "implies" "implies" (top 19) (.ref 164) (sv "fdsolve.learn" 366) .none []),
  (172, fnO "elders" "elders" (top 20) (.ref 171) (sv "fdsolve.learn" 366) .none []),
  (179, fnO "spot_of" "spot_of" (top 21) (.ref 178) (sv "fdsolve.learn" 366) .none []),
  (193, fnO "__init__" "Analyst.__init__" (meth 22 0) (.ref 192) (sv "fdsolve.learn" 366) .none []),
  (198, fnO "level_of" "Analyst.level_of" (meth 22 1) (.ref 197) (sv "fdsolve.learn" 366) .none []),
  (205, fnO "put" "Analyst.put" (meth 22 2) (.ref 204) (sv "fdsolve.learn" 366) .none []),
  (210, fnO "is_said" "Analyst.is_said" (meth 22 3) (.ref 209) (sv "fdsolve.learn" 366) .none []),
  (217, fnO "is_decision" "Analyst.is_decision" (meth 22 4) (.ref 216) (sv "fdsolve.learn" 366) .none []),
  (224, fnO "opened" "Analyst.opened" (meth 22 5) (.ref 223) (sv "fdsolve.learn" 366) .none []),
  (229, fnO "late_ones" "Analyst.late_ones" (meth 22 6) (.ref 228) (sv "fdsolve.learn" 366) .none []),
  (236, fnO "latest" "Analyst.latest" (meth 22 7) (.ref 235) (sv "fdsolve.learn" 366) .none []),
  (241, fnO "next_one" "Analyst.next_one" (meth 22 8) (.ref 240) (sv "fdsolve.learn" 366) .none []),
  (246, fnO "learn" "Analyst.learn" (meth 22 9) (.ref 245) (sv "fdsolve.learn" 366) .none []),
  (248, dictP P 4 [(en "__module__" 421 (sv "fdsolve.learn" 366)), (en "__firstlineno__" 425 (.int 111 424)), (en "__init__" 433 (.ref 193)), (en "level_of" 439 (.ref 198)), (en "put" 448 (.ref 205)), (en "is_said" 454 (.ref 210)), (en "is_decision" 463 (.ref 217)), (en "opened" 478 (.ref 224)), (en "late_ones" 484 (.ref 229)), (en "latest" 494 (.ref 236)), (en "next_one" 500 (.ref 241)), (en "learn" 506 (.ref 246)), (en "__static_attributes__" 510 (.ref 247)), (en "__dict__" 512 (.ref 250)), (en "__weakref__" 514 (.ref 251)), (en "__doc__" 515 .none)]),
  (249, clsO "Analyst" [(.type "object")] [(.ref 249), (.type "object")] 248 "Analyst" true [] [] false none false [none, none, some (sv "Analyst" 414), some (sv "Analyst" 422), some (.builtin "object.__new__"), some (.bool true)]),
  (267, fnO "__init__" "Store.__init__" (meth 24 0) (.ref 266) (sv "fdsolve.store" 518) .none []),
  (274, fnO "new_var" "Store.new_var" (meth 24 1) (.ref 273) (sv "fdsolve.store" 518) .none []),
  (295, fnO "initial" "Store.initial" (meth 24 4) (.ref 294) (sv "fdsolve.store" 518) .none []),
  (344, fnO "holds" "Store.holds" (meth 24 11) (.ref 343) (sv "fdsolve.store" 518) .none []),
  (351, fnO "enter" "Store.enter" (meth 24 12) (.ref 350) (sv "fdsolve.store" 518) .none []),
  (358, fnO "strike" "Store.strike" (meth 24 13) (.ref 357) (sv "fdsolve.store" 518) .none []),
  (365, fnO "decide" "Store.decide" (meth 24 14) (.ref 364) (sv "fdsolve.store" 518) .none []),
  (372, fnO "fail" "Store.fail" (meth 24 15) (.ref 371) (sv "fdsolve.store" 518) .none []),
  (379, fnO "push" "Store.push" (meth 24 16) (.ref 378) (sv "fdsolve.store" 518) .none []),
  (386, fnO "pop" "Store.pop" (meth 24 17) (.ref 385) (sv "fdsolve.store" 518) .none []),
  (393, fnO "depth" "Store.depth" (meth 24 18) (.ref 392) (sv "fdsolve.store" 518) .none []),
  (402, dictP P 4 [(en "__module__" 527 (sv "fdsolve.store" 518)), (en "__firstlineno__" 531 (.int 174 530)), (en "__init__" 538 (.ref 267)), (en "new_var" 546 (.ref 274)), (en "size" 553 (.ref 281)), (en "dom" 561 (.ref 288)), (en "initial" 569 (.ref 295)), (en "low" 577 (.ref 302)), (en "high" 585 (.ref 309)), (en "has" 594 (.ref 316)), (en "is_fixed" 602 (.ref 323)), (en "value" 610 (.ref 330)), (en "width" 618 (.ref 337)), (en "holds" 626 (.ref 344)), (en "enter" 639 (.ref 351)), (en "strike" 648 (.ref 358)), (en "decide" 656 (.ref 365)), (en "fail" 664 (.ref 372)), (en "push" 671 (.ref 379)), (en "pop" 681 (.ref 386)), (en "depth" 688 (.ref 393)), (en "changed" 695 (.ref 400)), (en "__static_attributes__" 704 (.ref 401)), (en "__dict__" 706 (.ref 404)), (en "__weakref__" 708 (.ref 405)), (en "__doc__" 709 .none)]),
  (403, clsO "Store" [(.type "object")] [(.ref 403), (.type "object")] 402 "Store" true [] [] false none false [none, none, some (sv "Store" 520), some (sv "Store" 528), some (.builtin "object.__new__"), some (.bool true)]),
  (414, fnO "_law_literal" "_law_literal" (top 26) (.ref 413) (sv "law_no0318_01" 712) .none []),
  (421, fnO "_law_says" "_law_says" (top 27) (.ref 420) (sv "law_no0318_01" 712) .none []),
  (426, fnO "_law_has_all" "_law_has_all" (top 28) (.ref 425) (sv "law_no0318_01" 712) .none []),
  (431, fnO "_law_points" "_law_points" (top 29) (.ref 430) (sv "law_no0318_01" 712) .none []),
  (436, fnO "_law_run" "_law_run" (top 30) (.ref 435) (sv "law_no0318_01" 712) .none []),
  (441, fnO "_law_are_entries_right" "_law_are_entries_right" (top 31) (.ref 440) (sv "law_no0318_01" 712) .none []),
  (446, fnO "_law_is_learnt" "_law_is_learnt" (top 32) (.ref 445) (sv "law_no0318_01" 712) .none []),
  (451, fnO "law" "law" (top 33) (.ref 450) (sv "law_no0318_01" 712) .none [])]
noncomputable def KA : List Addr := [3, 28, 35, 42, 49, 54, 59, 66, 73, 80, 87, 94, 158, 165, 172, 179, 193, 198, 205, 210, 217, 224, 229, 236, 241, 246, 248, 249, 267, 274, 295, 344, 351, 358, 365, 372, 379, 386, 393, 402, 403, 414, 421, 426, 431, 436, 441, 446, 451]
noncomputable def kc (a : Addr) (x : Str) (t : Tok) : Addr × Str × Tok := (a, x, t)
noncomputable def KC : List (Addr × Str × Tok) := [kc 27 "least" 197, kc 34 "greatest" 204, kc 41 "next_from" 211, kc 48 "has" 221, kc 53 "up_to" 230, kc 58 "from_on" 236, kc 65 "without" 242, kc 72 "meet" 250, kc 79 "negation" 263, kc 86 "struck" 273, kc 93 "said_of" 283, kc 157 "is_met" 369, kc 164 "implies" 379, kc 171 "elders" 389, kc 178 "spot_of" 404, kc 192 "Analyst.__init__" 427, kc 197 "Analyst.level_of" 435, kc 204 "Analyst.put" 441, kc 209 "Analyst.is_said" 450, kc 216 "Analyst.is_decision" 456, kc 223 "Analyst.opened" 465, kc 228 "Analyst.late_ones" 480, kc 235 "Analyst.latest" 486, kc 240 "Analyst.next_one" 496, kc 245 "Analyst.learn" 502, kc 266 "Store.__init__" 533, kc 273 "Store.new_var" 540, kc 294 "Store.initial" 563, kc 343 "Store.holds" 620, kc 350 "Store.enter" 628, kc 357 "Store.strike" 641, kc 364 "Store.decide" 650, kc 371 "Store.fail" 658, kc 378 "Store.push" 666, kc 385 "Store.pop" 673, kc 392 "Store.depth" 683, kc 413 "_law_literal" 715, kc 420 "_law_says" 722, kc 425 "_law_has_all" 733, kc 430 "_law_points" 739, kc 435 "_law_run" 745, kc 440 "_law_are_entries_right" 751, kc 445 "_law_is_learnt" 757, kc 450 "law" 763]
noncomputable def codesIn (h : Heap) : Prop := ∀ p ∈ KC, codeName h p.1 = some (.str p.2.1 p.2.2)
theorem codeName_keeps {h h' : Heap} (k : ∀ b o, h.get? b = some o → h'.get? b = some o) {c : Addr} {v : Value} (e : codeName h c = some v) : codeName h' c = some v := by
  unfold codeName at e ⊢
  cases ho : h.get? c with
  | none => rw [ho] at e; cases e
  | some o => rw [ho] at e; rw [k _ _ ho]; exact e
theorem codeRec_of_name {h : Heap} {c : Addr} {q : Str} {t : Tok} (e : codeName h c = some (.str q t)) : h.CodeRec (.ref c) q := by
  unfold codeName at e
  split at e
  · rename_i ho; exact ⟨c, _, _, t, rfl, ho, rfl, e⟩
  · cases e
noncomputable def looseN : List Str := ["_wall", "least", "greatest", "next_from", "has", "has_domains", "up_to", "from_on", "without", "meet", "negation", "struck", "said_of", "FdError", "ProofFault", "is_met", "implies", "elders", "spot_of", "Analyst", "Store", "_law_literal", "_law_says", "_law_has_all", "_law_points", "_law_run", "_law_are_entries_right", "_law_is_learnt"]
noncomputable def qv : Program := view PySem.Challenge.pw_no0318_01 [33]

noncomputable def hk2 : Hook := ⟨(List (Option Obj) × List (Option Value)) × Bool, fun s => ((KA.map s.heap.get?, KC.map fun p => codeName s.heap p.1), (s.heap.get? sysModules).isSome),
  fun w => (((KF w.params).map fun p => some p.2, KC.map fun p => some (.str p.2.1 p.2.2)), true),
  fun w h => ((KF w.params).In h ∧ codesIn h) ∧ (h.get? sysModules).isSome = true, fun w s e => ⟨⟨Frag.in_of (as := KA) (by kernel_rfl) (congrArg (fun x => x.1.1) e), fun p hp => by
    have e2 : KC.map (fun p => codeName s.heap p.1) = KC.map (fun p => some (.str p.2.1 p.2.2)) := congrArg (fun x => x.1.2) e
    exact List.map_inj_left.mp e2 p hp⟩, congrArg (fun x => x.2) e⟩, fun w h h' x k => ⟨⟨x.1.1.keeps k, fun p hp => codeName_keeps k (x.1.2 p hp)⟩, by
      refine ex1_1 (Option.isSome_iff_exists.mp x.2) fun o ho => ?_
      rw [k _ _ ho]; rfl⟩⟩
set_option maxHeartbeats 0
theorem headH (hc : ∀ {d : DefRec} {kwd : List (Str × Expr)}, d.name = "law" → WalkO qv looseN (XL qv []) (Hook.says hk2) PySem.Challenge.rw_no0318_01.row.toRowW d kwd fun f vs => PySem.call f vs) : PySem.Challenge.rw_no0318_01.Holds := by
  refine holds_law (by decide +kernel) fun said => ?_
  refine holds_open (q := qv) (loose := looseN) (Xt := fun s => xlAt qv [] s && recOk (RowW.records (PySem.Challenge.rw_no0318_01.row).toRowW) s) (XP := XL qv []) (Yf := Hook.obs hk2) (Ya := Hook.val hk2) (YP := Hook.says hk2) (N := 5486) ?hl (Hook.of hk2) (Hook.keeps hk2) (fun s e => xl_of s (Bool.and_eq_true_iff.mp e).1) XL.keeps (by rfl) (by rfl) (by rfl) (fun s e => recFacts_of (Bool.and_eq_true_iff.mp e).2) (by rfl) (by first | assumption | decide +kernel) (by decide +kernel) ⟨rfl, rfl, rfl, rfl, rfl, by decide +kernel⟩ ?hw ?hc
  case hw => w_witness2
  case hl => exact left_ofT (by intro w; kernel_rfl)
  case hc => exact hc rfl
end Lrn
end
section
open PySem PySem.W PyProof.Rows
set_option maxRecDepth 100000
set_option linter.unusedVariables false
namespace Lrn

inductive D where
  | none
  | bool (b : Bool)
  | int (i : Int)
  | str (s : Str)
  | tup (xs : List D)
  | lst (xs : List D)
  | rng (lo hi : Int)

inductive V where
  | d (x : D)
  | o (a : Addr)

inductive Ob where
  | lst (xs : List D)
  | dI (ep : Nat) (es : List (Int × D))
  | dT (ep : Nat) (es : List (List (Int ⊕ Str) × D))
  | view (d : Addr)
  | inst (C dx : Addr) (k : Nat) (attrs : Str → Option V)

abbrev St := Addr → Option Ob
abbrev Gh := Addr → Option (Bool × Obj)
abbrev Loc := Str → Option V

noncomputable def seqO (c : String) (vs : List Value) (n : Nat) : Obj := { cls := .type c, data := .seq vs.toArray n }
noncomputable def rngO (a b : Int) (t u v : Tok) : Obj := { cls := .type "range", data := .fields #[.int a t, .int b u, .int 1 v] }
noncomputable def dictO (es : List DictEntry) (n : Nat) : Obj := { cls := .type "dict", data := .dict es.toArray n }

mutual
inductive RepD (G : Gh) : Value → D → Prop
  | none : RepD G .none .none
  | bool (b : Bool) : RepD G (.bool b) (.bool b)
  | int (i : Int) (t : Tok) : RepD G (.int i t) (.int i)
  | str (x : Str) (t : Tok) : RepD G (.str x t) (.str x)
  | tup {a : Addr} {vs : List Value} {n : Nat} {xs : List D} : G a = some (true, seqO "tuple" vs n) → RepDs G vs xs → RepD G (.ref a) (.tup xs)
  | lst {a : Addr} {vs : List Value} {n : Nat} {xs : List D} : G a = some (true, seqO "list" vs n) → RepDs G vs xs → RepD G (.ref a) (.lst xs)
  | rng {a : Addr} {lo hi : Int} {t u v : Tok} : G a = some (true, rngO lo hi t u v) → RepD G (.ref a) (.rng lo hi)
inductive RepDs (G : Gh) : List Value → List D → Prop
  | nil : RepDs G [] []
  | cons {v : Value} {vs : List Value} {x : D} {xs : List D} : RepD G v x → RepDs G vs xs → RepDs G (v :: vs) (x :: xs)
end

inductive Rep (G : Gh) : Value → V → Prop
  | d {v : Value} {x : D} : RepD G v x → Rep G v (.d x)
  | o (a : Addr) : Rep G (.ref a) (.o a)

inductive Reps (G : Gh) : List Value → List V → Prop
  | nil : Reps G [] []
  | cons {v : Value} {vs : List Value} {x : V} {xs : List V} : Rep G v x → Reps G vs xs → Reps G (v :: vs) (x :: xs)

inductive ORep (G : Gh) : Option Value → Option V → Prop
  | none : ORep G none none
  | some {v : Value} {x : V} : Rep G v x → ORep G (some v) (some x)

noncomputable def Gh.le (G G' : Gh) : Prop := ∀ a o, G a = some o → G' a = some o
noncomputable def Gh.seqLe (G G' : Gh) : Prop := ∀ a o, G a = some (true, o) → G' a = some (true, o)
theorem Gh.le.seq {G G' : Gh} (h : G.le G') : G.seqLe G' := fun a o e => h a _ e
theorem Gh.le.refl (G : Gh) : G.le G := fun u0 u1 e => e
theorem Gh.le.trans {G G' G'' : Gh} (h : G.le G') (h' : G'.le G'') : G.le G'' := fun a o e => h' a o (h a o e)
theorem Gh.seqLe.refl (G : Gh) : G.seqLe G := fun u0 u1 e => e
theorem Gh.seqLe.trans {G G' G'' : Gh} (h : G.seqLe G') (h' : G'.seqLe G'') : G.seqLe G'' := fun a o e => h' a o (h a o e)

theorem RepD.mono {G G' : Gh} (h : G.seqLe G') {v : Value} {x : D} (r : RepD G v x) : RepD G' v x :=
  RepD.rec (motive_1 := fun v x _ => RepD G' v x) (motive_2 := fun vs xs _ => RepDs G' vs xs) .none .bool .int .str (fun e _ q => .tup (h _ _ e) q) (fun e _ q => .lst (h _ _ e) q) (fun e => .rng (h _ _ e)) .nil (fun _ _ a b => .cons a b) r
theorem RepDs.mono {G G' : Gh} (h : G.seqLe G') {v : List Value} {x : List D} (r : RepDs G v x) : RepDs G' v x :=
  RepDs.rec (motive_1 := fun v x _ => RepD G' v x) (motive_2 := fun vs xs _ => RepDs G' vs xs) .none .bool .int .str (fun e _ q => .tup (h _ _ e) q) (fun e _ q => .lst (h _ _ e) q) (fun e => .rng (h _ _ e)) .nil (fun _ _ a b => .cons a b) r
theorem Rep.mono {G G' : Gh} (h : G.seqLe G') {v : Value} {x : V} (r : Rep G v x) : Rep G' v x := by
  cases r with
  | d r => exact .d (r.mono h)
  | o a => exact .o a
theorem Reps.mono {G G' : Gh} (h : G.seqLe G') {v : List Value} {x : List V} (r : Reps G v x) : Reps G' v x := by
  induction r with
  | nil => exact .nil
  | cons a _ ih => exact .cons (a.mono h) ih
theorem ORep.mono {G G' : Gh} (h : G.seqLe G') {v : Option Value} {x : Option V} (r : ORep G v x) : ORep G' v x := by
  cases r with
  | none => exact .none
  | some r => exact .some (r.mono h)
theorem RepDs.length {G : Gh} {vs : List Value} {xs : List D} (r : RepDs G vs xs) : vs.length = xs.length := by
  induction xs generalizing vs with
  | nil => cases r; rfl
  | cons x xs ih => cases r with | cons _ r => simp [ih r]
theorem RepDs.append {G : Gh} {vs ws : List Value} {xs ys : List D} (r : RepDs G vs xs) (q : RepDs G ws ys) : RepDs G (vs ++ ws) (xs ++ ys) := by
  induction xs generalizing vs with
  | nil => cases r; exact q
  | cons x xs ih => cases r with | cons a r => exact .cons a (ih r)
theorem RepDs.get {G : Gh} {vs : List Value} {xs : List D} (r : RepDs G vs xs) {i : Nat} {x : D} (e : xs[i]? = some x) : ∃ v, vs[i]? = some v ∧ RepD G v x := by
  induction xs generalizing vs i with
  | nil => cases e
  | cons y xs ih =>
    cases r with
    | cons a r =>
      cases i with
      | zero => cases e; exact ⟨_, rfl, a⟩
      | succ i => exact ih r e

noncomputable def cellA (a : Addr) : Ob → Addr
  | .inst _ dx _ _ => dx
  | _ => a

abbrev Atom := Int ⊕ Str
noncomputable def atomD : Atom → D
  | .inl i => .int i
  | .inr x => .str x
noncomputable def atomHash (w : World) : Atom → Int
  | .inl i => hashInt i
  | .inr x => hashStr w x
noncomputable def keyD (k : List Atom) : D := .tup (k.map atomD)

inductive RepI (G : Gh) : List DictEntry → List (Int × D) → Prop
  | nil : RepI G [] []
  | cons {i : Int} {tk : Tok} {v : Value} {x : D} {es : List DictEntry} {xs : List (Int × D)} : RepD G v x → RepI G es xs → RepI G (⟨hashInt i, .int i tk, v⟩ :: es) ((i, x) :: xs)
theorem RepI.mono {G G' : Gh} (h : G.seqLe G') {es : List DictEntry} {xs : List (Int × D)} (r : RepI G es xs) : RepI G' es xs := by
  induction r with
  | nil => exact .nil
  | cons a _ ih => exact .cons (a.mono h) ih

inductive RepT (w : World) (G : Gh) : List DictEntry → List (List Atom × D) → Prop
  | nil : RepT w G [] []
  | cons {k : List Atom} {a : Addr} {v : Value} {x : D} {es : List DictEntry} {xs : List (List Atom × D)} : RepD G (.ref a) (keyD k) → RepD G v x → RepT w G es xs →
      RepT w G (⟨reduceHash (Builtin.Tuple.tupleHashOf (k.map (atomHash w))), .ref a, v⟩ :: es) ((k, x) :: xs)
theorem RepT.mono {w : World} {G G' : Gh} (h : G.seqLe G') {es : List DictEntry} {xs : List (List Atom × D)} (r : RepT w G es xs) : RepT w G' es xs := by
  induction r with
  | nil => exact .nil
  | cons a c _ ih => exact .cons (a.mono h) (c.mono h) ih

noncomputable def NsK (h : Heap) (a : Addr) (m : Str → Option Value) (k : Nat) : Prop := ∃ o es ep, h.get? a = some o ∧ o.data = .dict es ep ∧ StrKeys es ∧ (∀ name, nsFind es name = m name) ∧ es.size ≤ k
theorem NsK.ns {h : Heap} {a : Addr} {m : Str → Option Value} {k : Nat} (x : NsK h a m k) : h.Ns a m := let ⟨o, es, ep, a, b, c, d, _⟩ := x; ⟨o, es, ep, a, b, c, d⟩

noncomputable def ObRep (w : World) (G : Gh) (h : Heap) (a : Addr) : Ob → Prop
  | .lst xs => ∃ vs n, h.get? a = some (seqO "list" vs n) ∧ RepDs G vs xs
  | .dI ep es => ∃ ents, h.get? a = some (dictO ents ep) ∧ RepI G ents es ∧ (es.map (·.1)).Nodup
  | .dT ep es => ∃ ents, h.get? a = some (dictO ents ep) ∧ RepT w G ents es ∧ (es.map (·.1)).Nodup
  | .view d => h.get? a = some { cls := .type "dict_values", data := .fields #[.ref d] }
  | .inst C dx k attrs => G a = some (true, instObj C dx) ∧ ∃ m, NsK h dx m k ∧ ∀ x, ORep G (m x) (attrs x)

structure Ctx where
  prog : Program
  w : World
  h0 : Heap
  K : Frag
  gens : Array GenState
  os : OsState

structure Conc (c : Ctx) (G : Gh) (st : St) (s : Shared) : Prop where
  base : ∀ a o, c.h0.get? a = some o → G a = some (true, o)
  fz : ∀ a o, G a = some o → s.heap.get? a = some o.2
  own : ∀ a ob, st a = some ob → ObRep c.w G s.heap a ob
  free : ∀ a ob, st a = some ob → G (cellA a ob) = none
  apart : ∀ a b oa ob, st a = some oa → st b = some ob → a ≠ b → cellA a oa ≠ cellA b ob
  gens : s.gens = c.gens
  os : s.os = c.os

structure Own (G : Gh) (st : St) (a : Addr) : Prop where
  g : G a = none
  st : ∀ b ob, st b = some ob → cellA b ob ≠ a

structure FrameOK (env : Env) (ρ : Loc) (G : Gh) (st : St) (h : Heap) : Prop where
  kind : env.scope.kind = .function
  glob : env.globals = mainGlobals
  blt : env.builtins = builtinsNs
  loc : ∃ m, h.Ns env.locals m ∧ ∀ x, env.kindOf x = some .local → ORep G (m x) (ρ x)
  lown : Own G st env.locals
  cel : ∀ x c, env.cells.lookup x = some c → env.kindOf x = some .cell ∨ env.kindOf x = some .free → ∃ mv, h.IsCell c mv ∧ ORep G mv (ρ x)
  cown : ∀ x c, env.cells.lookup x = some c → env.kindOf x = some .cell → Own G st c ∧ c ≠ env.locals
  cinj : ∀ x y c, env.cells.lookup x = some c → env.cells.lookup y = some c → env.kindOf x = some .cell → x = y
  cfree : ∀ x c, env.cells.lookup x = some c → env.kindOf x = some .free → ∃ o, G c = some o

structure Room (n : Nat) (A : Around) : Prop where
  depth : A.depth + 4 * n + 8 < recursionLimit
  units : A.units + 20 * n + 200 < cLine
  handled : A.handled = none

noncomputable def PostE (c : Ctx) (env : Env) (ρ : Loc) (G : Gh) (K : V → St → Prop) : Value → Shared → Prop :=
  fun v s' => ∃ G' st' pv, G.le G' ∧ Conc c G' st' s' ∧ FrameOK env ρ G' st' s'.heap ∧ Rep G' v pv ∧ K pv st'
noncomputable def PostT (c : Ctx) (env : Env) (ρ : Loc) (G : Gh) (K : Bool → St → Prop) : Bool → Shared → Prop :=
  fun b s' => ∃ G' st', G.le G' ∧ Conc c G' st' s' ∧ FrameOK env ρ G' st' s'.heap ∧ K b st'

noncomputable def AWE (c : Ctx) (n : Nat) (env : Env) (ρ : Loc) (st : St) (e : Expr) (K : V → St → Prop) : Prop :=
  ∀ A G s, Room n A → Conc c G st s → FrameOK env ρ G st s.heap → wpAny (model c.prog c.w) A (eval e env) (PostE c env ρ G K) (fun u0 u1 => False) s
noncomputable def AWT (c : Ctx) (n : Nat) (env : Env) (ρ : Loc) (st : St) (e : Expr) (K : Bool → St → Prop) : Prop :=
  ∀ A G s, Room n A → Conc c G st s → FrameOK env ρ G st s.heap → wpAny (model c.prog c.w) A (isTrue e env (eval e env)) (PostT c env ρ G K) (fun u0 u1 => False) s

inductive Fl where
  | next | brk | cont | ret (v : V)
inductive RepF (G : Gh) : Flow → Fl → Prop
  | next : RepF G .next .next
  | brk : RepF G .brk .brk
  | cont : RepF G .cont .cont
  | ret {v : Value} {x : V} : Rep G v x → RepF G (.ret v) (.ret x)

noncomputable def PostX (c : Ctx) (env : Env) (G : Gh) (K : Fl → Loc → St → Prop) : Flow → Shared → Prop :=
  fun f s' => ∃ G' st' ρ' pf, G.le G' ∧ Conc c G' st' s' ∧ FrameOK env ρ' G' st' s'.heap ∧ RepF G' f pf ∧ K pf ρ' st'
noncomputable def AWX (c : Ctx) (n : Nat) (env : Env) (ρ : Loc) (st : St) (b : List Stmt) (K : Fl → Loc → St → Prop) : Prop :=
  ∀ A G s, Room n A → Conc c G st s → FrameOK env ρ G st s.heap → wpAny (model c.prog c.w) A (execs b env) (PostX c env G K) (fun u0 u1 => False) s
noncomputable def AWS (c : Ctx) (n : Nat) (env : Env) (ρ : Loc) (st : St) (b : Stmt) (K : Fl → Loc → St → Prop) : Prop :=
  ∀ A G s, Room n A → Conc c G st s → FrameOK env ρ G st s.heap → wpAny (model c.prog c.w) A (exec b env) (PostX c env G K) (fun u0 u1 => False) s

noncomputable def PostC (c : Ctx) (G : Gh) (K : V → St → Prop) : Value → Shared → Prop :=
  fun v s' => ∃ G' st' pv, G.le G' ∧ Conc c G' st' s' ∧ Rep G' v pv ∧ K pv st'
noncomputable def AWC (c : Ctx) (n : Nat) (f : Value) (args : List V) (st : St) (K : V → St → Prop) : Prop :=
  ∀ A G s vs, Room n A → Conc c G st s → Reps G vs args →
    codeAny (model c.prog c.w) A (.call f ⟨vs, []⟩) (fun r s' => match r with | .ok (.ret v) => PostC c G K v s' | _ => False) s

section
variable {α β γ δ : Type} {Q : Prop}
theorem e24 {P1 P2 P3 P4 : α → β → Prop} (h : ∃ a b, P1 a b ∧ P2 a b ∧ P3 a b ∧ P4 a b) (k : ∀ a b, P1 a b → P2 a b → P3 a b → P4 a b → Q) : Q :=
  h.elim fun a h => h.elim fun b h => k a b h.1 h.2.1 h.2.2.1 h.2.2.2
theorem e34 {P1 P2 P3 P4 : α → β → γ → Prop} (h : ∃ a b c, P1 a b c ∧ P2 a b c ∧ P3 a b c ∧ P4 a b c) (k : ∀ a b c, P1 a b c → P2 a b c → P3 a b c → P4 a b c → Q) : Q :=
  h.elim fun a h => h.elim fun b h => h.elim fun d h => k a b d h.1 h.2.1 h.2.2.1 h.2.2.2
theorem e35 {P1 P2 P3 P4 P5 : α → β → γ → Prop} (h : ∃ a b c, P1 a b c ∧ P2 a b c ∧ P3 a b c ∧ P4 a b c ∧ P5 a b c) (k : ∀ a b c, P1 a b c → P2 a b c → P3 a b c → P4 a b c → P5 a b c → Q) : Q :=
  h.elim fun a h => h.elim fun b h => h.elim fun d h => k a b d h.1 h.2.1 h.2.2.1 h.2.2.2.1 h.2.2.2.2
theorem e45 {P1 P2 P3 P4 P5 : α → β → γ → δ → Prop} (h : ∃ a b c d, P1 a b c d ∧ P2 a b c d ∧ P3 a b c d ∧ P4 a b c d ∧ P5 a b c d) (k : ∀ a b c d, P1 a b c d → P2 a b c d → P3 a b c d → P4 a b c d → P5 a b c d → Q) : Q :=
  h.elim fun a h => h.elim fun b h => h.elim fun d h => h.elim fun e h => k a b d e h.1 h.2.1 h.2.2.1 h.2.2.2.1 h.2.2.2.2
end
end Lrn
end
section
open PySem PySem.W PyProof.Rows
set_option maxRecDepth 100000
set_option linter.unusedVariables false
namespace Lrn

theorem ObRep.mono {w : World} {G G' : Gh} {h h' : Heap} {a : Addr} {ob : Ob} (r : ObRep w G h a ob) (hg : G.seqLe G') (hc : h'.get? (cellA a ob) = h.get? (cellA a ob)) : ObRep w G' h' a ob := by
  cases ob with
  | lst xs => obtain ⟨vs, n, e, q⟩ := r; exact ⟨vs, n, hc.trans e, q.mono hg⟩
  | dI ep es => obtain ⟨vs, e, q, nd⟩ := r; exact ⟨vs, hc.trans e, q.mono hg, nd⟩
  | dT ep es => obtain ⟨vs, e, q, nd⟩ := r; exact ⟨vs, hc.trans e, q.mono hg, nd⟩
  | view d => exact hc.trans r
  | inst C dx k attrs => obtain ⟨g, m, ⟨o, es, ep, e, rest⟩, q⟩ := r; exact ⟨hg _ _ g, m, ⟨o, es, ep, hc.trans e, rest⟩, fun x => (q x).mono hg⟩

theorem ObRep.cell {w : World} {G : Gh} {h : Heap} {a : Addr} {ob : Ob} (r : ObRep w G h a ob) : ∃ o, h.get? (cellA a ob) = some o := by
  cases ob with
  | lst xs => obtain ⟨vs, n, e, q⟩ := r; exact ⟨_, e⟩
  | dI ep es => obtain ⟨vs, e, q, nd⟩ := r; exact ⟨_, e⟩
  | dT ep es => obtain ⟨vs, e, q, nd⟩ := r; exact ⟨_, e⟩
  | view d => exact ⟨_, r⟩
  | inst C dx k attrs => obtain ⟨g, m, ⟨o, es, ep, e, rest⟩, q⟩ := r; exact ⟨_, e⟩

section
variable {c : Ctx} {n : Nat} {env : Env} {ρ : Loc} {G : Gh} {st : St} {s : Shared}

noncomputable def own (env : Env) (a : Addr) : Prop := a = env.locals ∨ ∃ x, env.cells.lookup x = some a ∧ env.kindOf x = some .cell

theorem own_none (F : FrameOK env ρ G st s.heap) {a : Addr} (h : own env a) : G a = none := by
  rcases h with rfl | ⟨x, hx, hk⟩
  · exact F.lown.g
  · exact (F.cown x a hx hk).1.g
theorem own_st (F : FrameOK env ρ G st s.heap) {a : Addr} (h : own env a) : ∀ b ob, st b = some ob → cellA b ob ≠ a := by
  rcases h with rfl | ⟨x, hx, hk⟩
  · exact F.lown.st
  · exact (F.cown x a hx hk).1.st
theorem own_obj (F : FrameOK env ρ G st s.heap) {a : Addr} (h : own env a) : ∃ o, s.heap.get? a = some o := by
  rcases h with rfl | ⟨x, hx, hk⟩
  · obtain ⟨m, ⟨o, es, ep, ho, hd, _⟩, _⟩ := F.loc
    exact ⟨o, ho⟩
  · obtain ⟨mv, ⟨o, ho, hd⟩, _⟩ := F.cel x a hx (.inl hk)
    exact ⟨o, ho⟩

open Classical in
theorem freezeBut (P : Addr → Prop) (hP : ∀ a, P a → own env a ∧ a ≠ env.locals) (C : Conc c G st s) (F : FrameOK env ρ G st s.heap) :
    ∃ G1, G.le G1 ∧ Conc c G1 st s ∧ (∀ a, P a → G1 a = none) ∧ (∀ a, own env a → ¬ P a → ∃ o, G1 a = some (false, o) ∧ s.heap.get? a = some o) ∧ (∀ b, ¬ own env b → G1 b = G b) ∧ ∀ G' st' s', G1.le G' → Conc c G' st' s' →
      (∀ x a, P a → env.cells.lookup x = some a → env.kindOf x = some .cell → Own G' st' a ∧ ∃ mv, s'.heap.IsCell a mv ∧ ORep G' mv (ρ x)) →
      ∃ G'', G.le G'' ∧ Conc c G'' st' s' ∧ FrameOK env ρ G'' st' s'.heap ∧ G'.seqLe G'' ∧ ∀ b, G' b = none → G'' b = none := by
  let G1 : Gh := fun a => if own env a ∧ ¬ P a then (s.heap.get? a).map (fun o => (false, o)) else G a
  have hG1 : ∀ a, own env a → ¬ P a → ∃ o, G1 a = some (false, o) ∧ s.heap.get? a = some o := fun a h hp => by
    refine ex1_1 (own_obj F h) fun o ho => ?_
    refine ⟨o, ?_, ho⟩
    show (if own env a ∧ ¬ P a then _ else _) = _; rw [if_pos ⟨h, hp⟩, ho]; rfl
  have hG1' : ∀ a, ¬ (own env a ∧ ¬ P a) → G1 a = G a := fun a h => by show (if own env a ∧ ¬ P a then _ else _) = _; rw [if_neg h]
  have le1 : G.le G1 := fun a o e => by
    rw [hG1']; exact e
    intro h; rw [own_none F h.1] at e; cases e
  have C1 : Conc c G1 st s := by
    refine ⟨fun a o e => le1 _ _ (C.base a o e), fun a o e => ?_, fun a ob e => (C.own a ob e).mono le1.seq rfl, fun a ob e => ?_, C.apart, C.gens, C.os⟩
    · by_cases h : own env a ∧ ¬ P a
      · refine ex1_2 (hG1 a h.1 h.2) fun o' ho' hh => ?_
        rw [ho'] at e; cases e; exact hh
      · rw [hG1' a h] at e; exact C.fz a o e
    · rw [hG1']; exact C.free a ob e
      intro h; exact own_st F h.1 a ob e rfl
  refine ⟨G1, le1, C1, fun a ha => by rw [hG1' a (fun h => h.2 ha)]; exact own_none F (hP a ha).1, hG1, fun b hb => hG1' b (fun h => hb h.1), fun G' st' s' le' C' hback => ?_⟩
  let G2 : Gh := fun a => if own env a then none else G' a
  have hG2 : ∀ a, own env a → G2 a = none := fun a h => by show (if own env a then _ else _) = _; rw [if_pos h]
  have hG2' : ∀ a, ¬ own env a → G2 a = G' a := fun a h => by show (if own env a then _ else _) = _; rw [if_neg h]
  have keep : ∀ a, own env a → ¬ P a → ∃ o, s.heap.get? a = some o ∧ G' a = some (false, o) ∧ s'.heap.get? a = some o := fun a h hp => by
    refine ex1_2 (hG1 a h hp) fun o ho hh => ?_
    have := le' a _ ho
    exact ⟨o, hh, this, C'.fz _ _ this⟩
  have noval : ∀ a o, own env a → G' a ≠ some (true, o) := fun a o h e => by
    by_cases hp : P a
    · rcases (hP a hp).1 with q | ⟨x, hx, hk⟩
      · exact (hP a hp).2 q
      · rw [(hback x a hp hx hk).1.g] at e; cases e
    · refine ex1_3 (keep a h hp) fun o' u0 ho u1 => ?_
      rw [ho] at e; cases e
  have sq : G'.seqLe G2 := fun a o' e => by
    rw [hG2']; exact e
    intro h; exact noval a o' h e
  have lee : G.le G2 := fun a o e => by
    rw [hG2']; exact le' _ _ (le1 _ _ e)
    intro h; rw [own_none F h] at e; cases e
  have C2 : Conc c G2 st' s' := by
    refine ⟨fun a o e => lee _ _ (C.base a o e), fun a o e => ?_, fun a ob e => (C'.own a ob e).mono sq rfl, fun a ob e => ?_, C'.apart, C'.gens, C'.os⟩
    · by_cases h : own env a
      · rw [hG2 a h] at e; cases e
      · rw [hG2' a h] at e; exact C'.fz a o e
    · by_cases h : own env (cellA a ob)
      · exact hG2 _ h
      · rw [hG2' _ h]; exact C'.free a ob e
  have ownst : ∀ a, own env a → Own G2 st' a := fun a h => ⟨hG2 a h, fun b ob e q => by
    by_cases hp : P a
    · rcases (hP a hp).1 with q' | ⟨x, hx, hk⟩
      · exact (hP a hp).2 q'
      · exact (hback x a hp hx hk).1.st b ob e q
    · refine ex1_3 (keep a h hp) fun o u0 ho u1 => ?_
      have := C'.free b ob e
      rw [q, ho] at this; cases this⟩
  refine ⟨G2, lee, C2, ⟨F.kind, F.glob, F.blt, ?_, ownst _ (.inl rfl), fun x a hx hk => ?_, fun x a hx hk => ⟨ownst _ (.inr ⟨x, hx, hk⟩), (F.cown x a hx hk).2⟩, F.cinj, fun x a hx hk => ?_⟩, sq, fun b hb => by
    by_cases h : own env b
    · exact hG2 b h
    · rw [hG2' b h]; exact hb⟩
  · obtain ⟨m, ⟨o, es, ep, ho, hd⟩, hm⟩ := F.loc
    refine ex1_3 (keep _ (.inl rfl) (fun h => (hP _ h).2 rfl)) fun o' ho' u0 hs' => ?_
    rw [ho] at ho'; cases ho'
    exact ⟨m, ⟨o, es, ep, hs', hd⟩, fun x hx => (hm x hx).mono lee.seq⟩
  · obtain ⟨mv, ⟨o, ho, hd⟩, hr⟩ := F.cel x a hx hk
    by_cases hp : P a
    · rcases hk with hk | hk
      · obtain ⟨_, mv', hm', hr'⟩ := hback x a hp hx hk
        exact ⟨mv', hm', hr'.mono sq⟩
      · refine ex1_1 (F.cfree x a hx hk) fun o' ho' => ?_
        rw [own_none F (hP a hp).1] at ho'; cases ho'
    · refine ⟨mv, ⟨o, ?_, hd⟩, hr.mono lee.seq⟩
      by_cases h : own env a
      · refine ex1_3 (keep _ h hp) fun o' ho' u0 hs' => ?_
        rw [ho] at ho'; cases ho'; exact hs'
      · rcases hk with hk | hk
        · exact absurd (.inr ⟨x, hx, hk⟩) h
        · refine ex1_1 (F.cfree x a hx hk) fun o' ho' => ?_
          have e := C.fz _ _ ho'
          rw [ho] at e; cases e
          exact C'.fz _ _ (le' _ _ (le1 _ _ ho'))
  · refine ex1_1 (F.cfree x a hx hk) fun o ho => ?_
    exact ⟨o, lee _ _ ho⟩

theorem freeze (C : Conc c G st s) (F : FrameOK env ρ G st s.heap) :
    ∃ G1, G.le G1 ∧ Conc c G1 st s ∧ ∀ G' st' s', G1.le G' → Conc c G' st' s' → ∃ G'', G.le G'' ∧ Conc c G'' st' s' ∧ FrameOK env ρ G'' st' s'.heap ∧ G'.seqLe G'' := by
  refine ex1_6 (freezeBut (fun u0 => False) (fun u0 h => h.elim) C F) fun G1 l1 C1 u0 u1 u2 back => ?_
  exact ⟨G1, l1, C1, fun G' st' s' l C' => let ⟨G2, a, b, d, e, _⟩ := back G' st' s' l C' (fun u0 u1 h => h.elim); ⟨G2, a, b, d, e⟩⟩
end
end Lrn
end
section
open PySem PySem.W PyProof.Rows
set_option maxRecDepth 100000
set_option linter.unusedVariables false
namespace Lrn

section
variable {c : Ctx} {n : Nat} {env : Env} {ρ : Loc} {G : Gh} {st : St} {s : Shared} {A : Around}

theorem Conc.tok (C : Conc c G st s) (t : Nat) : Conc c G st { s with toks := t } := ⟨C.base, C.fz, C.own, C.free, C.apart, C.gens, C.os⟩
theorem Conc.drop {st' : St} (C : Conc c G st s) (h : ∀ a ob, st' a = some ob → st a = some ob) : Conc c G st' s :=
  ⟨C.base, C.fz, fun a ob e => C.own a ob (h a ob e), fun a ob e => C.free a ob (h a ob e), fun a b oa ob ea eb hn => C.apart a b oa ob (h _ _ ea) (h _ _ eb) hn, C.gens, C.os⟩
theorem Own.drop {st' : St} {a : Addr} (C : Own G st a) (h : ∀ a ob, st' a = some ob → st a = some ob) : Own G st' a := ⟨C.g, fun b ob e => C.st b ob (h _ _ e)⟩
theorem FrameOK.drop {st' : St} {h : Heap} (F : FrameOK env ρ G st h) (hs : ∀ a ob, st' a = some ob → st a = some ob) : FrameOK env ρ G st' h :=
  ⟨F.kind, F.glob, F.blt, F.loc, F.lown.drop hs, F.cel, fun x a hx hk => ⟨(F.cown x a hx hk).1.drop hs, (F.cown x a hx hk).2⟩, F.cinj, F.cfree⟩

theorem PostE.mono {K K' : V → St → Prop} (h : ∀ v st, K v st → K' v st) {v : Value} (p : PostE c env ρ G K v s) : PostE c env ρ G K' v s :=
  let ⟨G', st', pv, a, b, d, e, k⟩ := p; ⟨G', st', pv, a, b, d, e, h _ _ k⟩
theorem AWE.mono {st : St} {e : Expr} {K K' : V → St → Prop} (p : AWE c n env ρ st e K) (h : ∀ v st, K v st → K' v st) : AWE c n env ρ st e K' :=
  fun A G s R C F => wpAny_mono (p A G s R C F) (fun u0 u1 q => q.mono h) fun u0 u1 q => q
theorem AWE.conseq {st : St} {e : Expr} {K K' : V → St → Prop} (p : AWE c n env ρ st e K) (h : ∀ v st, K v st → ∃ st', (∀ a ob, st' a = some ob → st a = some ob) ∧ K' v st') : AWE c n env ρ st e K' :=
  fun A G s R C F => wpAny_mono (p A G s R C F) (fun u0 u1 hq => e35 hq fun G' st' pv a b d e k => let ⟨st2, h1, h2⟩ := h _ _ k; ⟨G', st2, pv, a, b.drop h1, d.drop h1, e, h2⟩) fun u0 u1 q => q
theorem AWC.conseq {f : Value} {args : List V} {st : St} {K K' : V → St → Prop} (p : AWC c n f args st K) (h : ∀ v st, K v st → ∃ st', (∀ a ob, st' a = some ob → st a = some ob) ∧ K' v st') : AWC c n f args st K' :=
  fun A G s vs R C F => codeAny_mono (p A G s vs R C F) fun r s' q => by
    match r, q with
    | .ok (.ret v), ⟨G', st', pv, a, b, d, k⟩ => exact let ⟨st2, h1, h2⟩ := h _ _ k; ⟨G', st2, pv, a, b.drop h1, d, h2⟩
    | .ok .next, q => exact q.elim
    | .ok .brk, q => exact q.elim
    | .ok .cont, q => exact q.elim
    | .error _, q => exact q.elim
theorem PostE.of {K : V → St → Prop} {v : Value} {x : V} (C : Conc c G st s) (F : FrameOK env ρ G st s.heap) (r : Rep G v x) (k : K x st) : PostE c env ρ G K v s := ⟨G, st, x, .refl _, C, F, r, k⟩
theorem PostE.le {G' : Gh} {K : V → St → Prop} {v : Value} (h : G.le G') (p : PostE c env ρ G' K v s) : PostE c env ρ G K v s :=
  let ⟨G2, st', pv, a, r⟩ := p; ⟨G2, st', pv, h.trans a, r⟩
theorem PostT.le {G' : Gh} {K : Bool → St → Prop} {v : Bool} (h : G.le G') (p : PostT c env ρ G' K v s) : PostT c env ρ G K v s :=
  let ⟨G2, st', a, r⟩ := p; ⟨G2, st', h.trans a, r⟩
theorem PostX.le {G' : Gh} {K : Fl → Loc → St → Prop} {v : Flow} (h : G.le G') (p : PostX c env G' K v s) : PostX c env G K v s :=
  let ⟨G2, st', r1, pf, a, r⟩ := p; ⟨G2, st', r1, pf, h.trans a, r⟩

theorem AWE.then {st : St} {e : Expr} {J : V → St → Prop} {Q : Value → Shared → Prop} (p : AWE c n env ρ st e J) (R : Room n A) (C : Conc c G st s) (F : FrameOK env ρ G st s.heap)
    (h : ∀ v s' G' st' x, G.le G' → Conc c G' st' s' → FrameOK env ρ G' st' s'.heap → Rep G' v x → J x st' → Q v s') : wpAny (model c.prog c.w) A (eval e env) Q (fun u0 u1 => False) s :=
  wpAny_mono (p A G s R C F) (fun v s' hq => e35 hq fun G' st' x a b d e k => h v s' G' st' x a b d e k) fun u0 u1 q => q

theorem lift {t : Sem Value} {K : V → St → Prop} (C : Conc c G st s) (F : FrameOK env ρ G st s.heap)
    (h : ∀ G1, G.le G1 → Conc c G1 st s → wpAny (model c.prog c.w) A t (PostC c G1 K) (fun u0 u1 => False) s) : wpAny (model c.prog c.w) A t (PostE c env ρ G K) (fun u0 u1 => False) s := by
  refine ex1_3 (freeze C F) fun G1 l1 C1 back => ?_
  refine wpAny_mono (h G1 l1 C1) (fun v s' hq => e34 hq fun G' st' pv a b d k => ?_) fun u0 u1 q => q
  refine ex1_4 (back G' st' s' a b) fun G2 l2 C2 F2 sq => ?_
  exact ⟨G2, st', pv, l2, C2, F2, d.mono sq, k⟩
noncomputable def PostB (c : Ctx) (G : Gh) (K : Bool → St → Prop) : Bool → Shared → Prop := fun b s' => ∃ G' st', G.le G' ∧ Conc c G' st' s' ∧ K b st'
theorem liftB {t : Sem Bool} {K : Bool → St → Prop} (C : Conc c G st s) (F : FrameOK env ρ G st s.heap)
    (h : ∀ G1, G.le G1 → Conc c G1 st s → wpAny (model c.prog c.w) A t (PostB c G1 K) (fun u0 u1 => False) s) : wpAny (model c.prog c.w) A t (PostT c env ρ G K) (fun u0 u1 => False) s := by
  refine ex1_3 (freeze C F) fun G1 l1 C1 back => ?_
  refine wpAny_mono (h G1 l1 C1) (fun v s' ⟨G', st', a, b, k⟩ => ?_) fun u0 u1 q => q
  refine ex1_4 (back G' st' s' a b) fun G2 l2 C2 F2 sq => ?_
  exact ⟨G2, st', l2, C2, F2, k⟩
noncomputable def PostU (c : Ctx) (G : Gh) (K : St → Prop) : Unit → Shared → Prop := fun u0 s' => ∃ G' st', G.le G' ∧ Conc c G' st' s' ∧ K st'
theorem liftU {t : Sem Unit} {K : Fl → Loc → St → Prop} (C : Conc c G st s) (F : FrameOK env ρ G st s.heap)
    (h : ∀ G1, G.le G1 → Conc c G1 st s → wpAny (model c.prog c.w) A t (PostU c G1 fun st' => K .next ρ st') (fun u0 u1 => False) s) : wpAny (model c.prog c.w) A t (fun u0 s' => PostX c env G K .next s') (fun u0 u1 => False) s := by
  refine ex1_3 (freeze C F) fun G1 l1 C1 back => ?_
  refine wpAny_mono (h G1 l1 C1) (fun v s' ⟨G', st', a, b, k⟩ => ?_) fun u0 u1 q => q
  refine ex1_4 (back G' st' s' a b) fun G2 l2 C2 F2 sq => ?_
  exact ⟨G2, st', ρ, .next, l2, C2, F2, .next, k⟩

theorem AWE_int {i : Int} {k : Nat} {pos : Pos} {K : V → St → Prop} (h : K (.d (.int i)) st) : AWE c n env ρ st (.Constant (.int i) k pos) K :=
  fun A G s R C F => wpAny_Constant_int (.of (C.tok _) F (.d (.int _ _)) h)
theorem AWE_str {x : Str} {k : Nat} {pos : Pos} {K : V → St → Prop} (h : K (.d (.str x)) st) : AWE c n env ρ st (.Constant (.str x) k pos) K :=
  fun A G s R C F => wpAny_Constant_str (.of (C.tok _) F (.d (.str _ _)) h)
theorem AWE_none {k : Nat} {pos : Pos} {K : V → St → Prop} (h : K (.d .none) st) : AWE c n env ρ st (.Constant .none k pos) K :=
  fun A G s R C F => wpAny_Constant_none (.of C F (.d .none) h)
theorem AWE_bool {b : Bool} {k : Nat} {pos : Pos} {K : V → St → Prop} (h : K (.d (.bool b)) st) : AWE c n env ρ st (.Constant (.bool b) k pos) K :=
  fun A G s R C F => wpAny_Constant_bool (.of C F (.d (.bool b)) h)

theorem AWE_local {x : Str} {pos : Pos} {p : V} {K : V → St → Prop} (hk : env.kindOf x = some .local) (hv : ρ x = some p) (h : K p st) (hd : (x == ("__debug__" : Str)) = false := by decide) :
    AWE c n env ρ st (.Name x pos) K := fun A G s R C F => by
  refine ex1_2 F.loc fun m hm hr => ?_
  have r := hr x hk
  rw [hv] at r
  cases e : m x with
  | none => rw [e] at r; cases r
  | some v =>
    rw [e] at r
    cases r with
    | some r => exact wpAny_Name (wpAny_loadName_local F.kind hk hm e (.of C F r h)) hd
theorem AWE_cell {x : Str} {pos : Pos} {p : V} {a : Addr} {K : V → St → Prop} (hk : env.kindOf x = some .cell) (hc : env.cells.lookup x = some a) (hv : ρ x = some p) (h : K p st) (hd : (x == ("__debug__" : Str)) = false := by decide) :
    AWE c n env ρ st (.Name x pos) K := fun A G s R C F => by
  refine ex1_2 (F.cel x a hc (.inl hk)) fun mv hm r => ?_
  rw [hv] at r
  cases r with
  | some r => exact wpAny_Name (wpAny_loadName_cell F.kind hk hc hm (.of C F r h)) hd
noncomputable def AWL (c : Ctx) (n : Nat) (env : Env) (ρ : Loc) (st : St) (es : List Expr) (K : List V → St → Prop) : Prop :=
  ∀ A G s pos, Room n A → Conc c G st s → FrameOK env ρ G st s.heap → wpAny (model c.prog c.w) A (spliced (backTo pos (starEach es env)))
    (fun vs s' => ∃ G' st' pvs, G.le G' ∧ Conc c G' st' s' ∧ FrameOK env ρ G' st' s'.heap ∧ Reps G' vs pvs ∧ K pvs st') (fun u0 u1 => False) s
theorem AWL_nil {K : List V → St → Prop} (h : K [] st) : AWL c n env ρ st [] K := fun A G s pos R C F => args_nil ⟨G, st, [], .refl _, C, F, .nil, h⟩
theorem AWL_cons {e : Expr} {es : List Expr} {K : List V → St → Prop} (h : AWE c n env ρ st e fun x st1 => AWL c n env ρ st1 es fun xs st2 => K (x :: xs) st2)
    (he : starEach (e :: es) env = (false, eval e env) :: starEach es env := by rfl) : AWL c n env ρ st (e :: es) K := fun A G s pos R C F =>
  args_cons (AWE.then h R C F fun v s1 G1 st1 x l1 C1 F1 r1 k1 => wpAny_mono (k1 A G1 s1 pos R C1 F1) (fun vs s2 hq => e35 hq fun G2 st2 xs l2 C2 F2 r2 k2 => ⟨G2, st2, x :: xs, l1.trans l2, C2, F2, .cons (r1.mono l2.seq) r2, k2⟩) fun u0 u1 q => q) he

inductive AreD : List V → List D → Prop
  | nil : AreD [] []
  | cons {x : D} {vs : List V} {xs : List D} : AreD vs xs → AreD (.d x :: vs) (x :: xs)
theorem Reps.data {vs : List Value} {ps : List V} {xs : List D} (h : AreD ps xs) (r : Reps G vs ps) : RepDs G vs xs := by
  induction h generalizing vs with
  | nil => cases r; exact .nil
  | cons _ ih => cases r with | cons a r => cases a with | d a => exact .cons a (ih r)
theorem Reps.length {vs : List Value} {ps : List V} (r : Reps G vs ps) : vs.length = ps.length := by
  induction r with
  | nil => rfl
  | cons _ _ ih => simp [ih]

theorem Conc.newG (C : Conc c G st s) (o : Obj) (ho : o.isFreed = false := by rfl) : ∃ G', G.le G' ∧ G' s.heap.objs.size = some (true, o) ∧ Conc c G' st { s with heap := s.heap.push o } := by
  have hfresh : G s.heap.objs.size = none := by
    cases e : G s.heap.objs.size with
    | none => rfl
    | some o => exact absurd (Heap.lt_size (C.fz _ _ e)) (Nat.lt_irrefl _)
  have le : G.le (fun a => if a = s.heap.objs.size then some (true, o) else G a) := fun a o' e => by
    show (if a = _ then _ else G a) = _
    rw [if_neg]; exact e
    rintro rfl; rw [hfresh] at e; cases e
  refine ⟨fun a => if a = s.heap.objs.size then some (true, o) else G a, le, by simp, ⟨fun a o' e => le _ _ (C.base a o' e), fun a o' e => ?_, fun a ob e => ?_, fun a ob e => ?_, C.apart, C.gens, C.os⟩⟩
  · by_cases h : a = s.heap.objs.size
    · subst h; simp only [if_true] at e; cases e
      exact Heap.get?_push_size _ ho
    · simp only [if_neg h] at e; exact Heap.get?_push_of_some _ (C.fz a o' e)
  · refine ex1_1 ((C.own a ob e).cell) fun o' ho' => ?_
    refine (C.own a ob e).mono le.seq ?_
    show (s.heap.push o).get? _ = _
    rw [ho']; exact Heap.get?_push_of_some _ ho'
  · have := C.free a ob e
    refine ex1_1 ((C.own a ob e).cell) fun o' ho' => ?_
    show (if cellA a ob = _ then _ else _) = _
    rw [if_neg]; exact this
    intro h; exact absurd (Heap.lt_size ho') (by rw [h]; exact Nat.lt_irrefl _)

theorem PostE.alloc {K : V → St → Prop} (C : Conc c G st s) (F : FrameOK env ρ G st s.heap) (o : Obj) (x : V)
    (hr : ∀ G', G.le G' → G' s.heap.objs.size = some (true, o) → Rep G' (.ref s.heap.objs.size) x) (k : K x st) (ho : o.isFreed = false := by rfl) :
    PostE c env ρ G K (.ref s.heap.objs.size) { s with heap := s.heap.push o } := by
  refine ex1_3 (freeze C F) fun G1 l1 C1 back => ?_
  refine ex1_3 (C1.newG o ho) fun G2 l2 e2 C2 => ?_
  refine ex1_4 (back G2 st _ l2 C2) fun G3 l3 C3 F3 sq => ?_
  exact ⟨G3, st, x, l3, C3, F3, (hr G2 (l1.trans l2) e2).mono sq, k⟩

theorem AWE_Tuple {es : List Expr} {k : Nat} {pos : Pos} {K : V → St → Prop} (h : AWL c n env ρ st es fun ps st1 => ∃ xs, AreD ps xs ∧ xs.length ≤ 1000 ∧ K (.d (.tup xs)) st1) :
    AWE c n env ρ st (.Tuple es k pos) K := fun A G s R C F =>
  wpAny_Tuple (wpAny_mono (h A G s pos R C F) (fun vs s1 hq => e35 hq fun G1 st1 ps l1 C1 F1 r1 ⟨xs, hd, hl, k1⟩ => by
    have hlen : vs.length = xs.length := (r1.data hd).length
    refine ⟨by rw [hlen, sizeLine_eq]; walk_at "o", .le l1 (.alloc C1 F1 _ _ (fun G' l e => .d (.tup (vs := vs) (n := 0) e ((r1.data hd).mono l.seq))) k1)⟩) fun u0 u1 q => q)
theorem AWE_List {es : List Expr} {pos : Pos} {K : V → St → Prop} (h : AWL c n env ρ st es fun ps st1 => ∃ xs, AreD ps xs ∧ xs.length ≤ 1000 ∧ K (.d (.lst xs)) st1) :
    AWE c n env ρ st (.List es pos) K := fun A G s R C F =>
  wpAny_List (wpAny_mono (h A G s pos R C F) (fun vs s1 hq => e35 hq fun G1 st1 ps l1 C1 F1 r1 ⟨xs, hd, hl, k1⟩ => by
    have hlen : vs.length = xs.length := (r1.data hd).length
    refine ⟨by rw [hlen, sizeLine_eq]; walk_at "o", .le l1 (.alloc C1 F1 _ _ (fun G' l e => .d (.lst (vs := vs) (n := 0) e ((r1.data hd).mono l.seq))) k1)⟩) fun u0 u1 q => q)

noncomputable def OpB (c : Ctx) (n : Nat) (op : Operator) (x y : V) (st : St) (K : V → St → Prop) : Prop :=
  ∀ A G s a b, Room n A → Conc c G st s → Rep G a x → Rep G b y → wpAny (model c.prog c.w) A (binaryOp op a b) (PostC c G K) (fun u0 u1 => False) s
noncomputable def OpC (c : Ctx) (n : Nat) (op : CmpOp) (x y : V) (st : St) (K : V → St → Prop) : Prop :=
  ∀ A G s a b, Room n A → Conc c G st s → Rep G a x → Rep G b y → wpAny (model c.prog c.w) A (compareOp op a b) (PostC c G K) (fun u0 u1 => False) s
noncomputable def OpU (c : Ctx) (n : Nat) (op : UnaryOp) (x : V) (st : St) (K : V → St → Prop) : Prop :=
  ∀ A G s a, Room n A → Conc c G st s → Rep G a x → wpAny (model c.prog c.w) A (unaryOp op a) (PostC c G K) (fun u0 u1 => False) s
noncomputable def OpT (c : Ctx) (n : Nat) (x : V) (st : St) (K : Bool → St → Prop) : Prop :=
  ∀ A G s a, Room n A → Conc c G st s → Rep G a x → wpAny (model c.prog c.w) A (truthy a) (PostB c G K) (fun u0 u1 => False) s

theorem AWE_BinOp {l r : Expr} {op : Operator} {pos : Pos} {K : V → St → Prop} (h : AWE c n env ρ st l fun x st1 => AWE c n env ρ st1 r fun y st2 => OpB c n op x y st2 K) :
    AWE c n env ρ st (.BinOp l op r pos) K := fun A G s R C F =>
  wpAny_BinOp (AWE.then h R C F fun a s1 G1 st1 x l1 C1 F1 r1 k1 => AWE.then k1 R C1 F1 fun b s2 G2 st2 y l2 C2 F2 r2 k2 =>
    wpAny_mono (lift C2 F2 fun G3 l3 C3 => k2 A G3 s2 a b R C3 (r1.mono (l2.trans l3).seq) (r2.mono l3.seq)) (fun u0 u1 q => q.le (l1.trans l2)) fun u0 u1 q => q)
theorem AWE_Compare {l r : Expr} {op : CmpOp} {pos : Pos} {K : V → St → Prop} (h : AWE c n env ρ st l fun x st1 => AWE c n env ρ st1 r fun y st2 => OpC c n op x y st2 K)
    (hm : behindInMarks op r = false := by with_unfolding_all rfl) :
    AWE c n env ρ st (.Compare l [op] [r] pos) K := fun A G s R C F =>
  wpAny_Compare1 (AWE.then h R C F fun a s1 G1 st1 x l1 C1 F1 r1 k1 => AWE.then k1 R C1 F1 fun b s2 G2 st2 y l2 C2 F2 r2 k2 =>
    wpAny_mono (lift C2 F2 fun G3 l3 C3 => k2 A G3 s2 a b R C3 (r1.mono (l2.trans l3).seq) (r2.mono l3.seq)) (fun u0 u1 q => q.le (l1.trans l2)) fun u0 u1 q => q) hm
theorem AWT_Compare {l r : Expr} {op : CmpOp} {pos : Pos} {K : Bool → St → Prop} (h : AWE c n env ρ st l fun x st1 => AWE c n env ρ st1 r fun y st2 => OpC c n op x y st2 fun v st3 => ∃ b, v = .d (.bool b) ∧ K b st3)
    (hm : behindInMarks op r = false := by with_unfolding_all rfl) :
    AWT c n env ρ st (.Compare l [op] [r] pos) K := fun A G s R C F =>
  wpAny_isTrue_Compare1 (AWE.then h R C F fun a s1 G1 st1 x l1 C1 F1 r1 k1 => AWE.then k1 R C1 F1 fun b s2 G2 st2 y l2 C2 F2 r2 k2 =>
    wpAny_mono (lift C2 F2 fun G3 l3 C3 => k2 A G3 s2 a b R C3 (r1.mono (l2.trans l3).seq) (r2.mono l3.seq)) (fun v s3 hq => e35 hq fun G3 st3 pv l3 C3 F3 r3 ⟨b', e, k3⟩ => by
      subst e
      cases r3 with
      | d r3 => cases r3 with | bool _ => exact wpAny_truthy_bool ⟨G3, st3, (l1.trans l2).trans l3, C3, F3, k3⟩) fun u0 u1 q => q) hm
theorem AWT_val {e : Expr} {K : Bool → St → Prop} (h : AWE c n env ρ st e fun x st1 => OpT c n x st1 K)
    (he : isTrue e env (eval e env) = (do let v ← eval e env; standAt e.pos; holding [v] (truthy v)) := by rfl) : AWT c n env ρ st e K := fun A G s R C F => by
  rw [he]
  exact wpAny_bind (AWE.then h R C F fun a s1 G1 st1 x l1 C1 F1 r1 k1 => wpAny_bind (wpAny_standAt (wpAny_holding (wpAny_mono (liftB C1 F1 fun G2 l2 C2 => k1 A G2 s1 a R C2 (r1.mono l2.seq)) (fun u0 u1 q => q.le l1) fun u0 u1 q => q))))
theorem OpT_bool {b : Bool} {K : Bool → St → Prop} (h : K b st) : OpT c n (.d (.bool b)) st K := fun A G s a R C r => by
  cases r with | d r => cases r with | bool b => exact wpAny_truthy_bool ⟨G, st, .refl _, C, h⟩
theorem AWE_UnaryOp {x : Expr} {op : UnaryOp} {pos : Pos} {K : V → St → Prop} (h : AWE c n env ρ st x fun y st1 => OpU c n op y st1 K) : AWE c n env ρ st (.UnaryOp op x pos) K := fun A G s R C F =>
  wpAny_UnaryOp (AWE.then h R C F fun a s1 G1 st1 x l1 C1 F1 r1 k1 => wpAny_mono (lift C1 F1 fun G2 l2 C2 => k1 A G2 s1 a R C2 (r1.mono l2.seq)) (fun u0 u1 q => q.le l1) fun u0 u1 q => q)
theorem AWT_Not {x : Expr} {pos : Pos} {K : Bool → St → Prop} (h : AWT c n env ρ st x fun b st1 => K (!b) st1) : AWT c n env ρ st (.UnaryOp .Not x pos) K := fun A G s R C F =>
  wpAny_isTrue_Not (wpAny_mono (h A G s R C F) (fun b s1 hq => e24 hq fun G1 st1 l1 C1 F1 k1 => ⟨G1, st1, l1, C1, F1, k1⟩) fun u0 u1 q => q)
theorem AWE_IfExp {t b o : Expr} {pos : Pos} {K : V → St → Prop} (h : AWT c n env ρ st t fun q st1 => if q = true then AWE c n env ρ st1 b K else AWE c n env ρ st1 o K) :
    AWE c n env ρ st (.IfExp t b o pos) K := fun A G s R C F =>
  wpAny_IfExp (wpAny_mono (h A G s R C F) (fun q s1 hq => e24 hq fun G1 st1 l1 C1 F1 k1 => by
    cases q with
    | true => exact wpAny_mono (k1 A G1 s1 R C1 F1) (fun u0 u1 q => q.le l1) fun u0 u1 q => q
    | false => exact wpAny_mono (k1 A G1 s1 R C1 F1) (fun u0 u1 q => q.le l1) fun u0 u1 q => q) fun u0 u1 q => q)
end
end Lrn
end
section
open PySem PySem.W PyProof.Rows
set_option maxRecDepth 100000
set_option linter.unusedVariables false
namespace Lrn

section
variable {c : Ctx} {n : Nat} {env : Env} {ρ : Loc} {G : Gh} {st : St} {s : Shared} {A : Around}

theorem AWT.then {st : St} {e : Expr} {J : Bool → St → Prop} {Q : Bool → Shared → Prop} (p : AWT c n env ρ st e J) (R : Room n A) (C : Conc c G st s) (F : FrameOK env ρ G st s.heap)
    (h : ∀ b s' G' st', G.le G' → Conc c G' st' s' → FrameOK env ρ G' st' s'.heap → J b st' → Q b s') : wpAny (model c.prog c.w) A (isTrue e env (eval e env)) Q (fun u0 u1 => False) s :=
  wpAny_mono (p A G s R C F) (fun v s' hq => e24 hq fun G' st' a b d k => h v s' G' st' a b d k) fun u0 u1 q => q
theorem AWT.mono {st : St} {e : Expr} {K K' : Bool → St → Prop} (p : AWT c n env ρ st e K) (h : ∀ v st, K v st → K' v st) : AWT c n env ρ st e K' :=
  fun A G s R C F => wpAny_mono (p A G s R C F) (fun u0 u1 hq => e24 hq fun G' st' a b d k => ⟨G', st', a, b, d, h _ _ k⟩) fun u0 u1 q => q

theorem AWE_And {x y : Expr} {pos : Pos} {K : V → St → Prop} (h : AWE c n env ρ st x fun v st1 => OpT c n v st1 fun b st2 => if b = true then AWE c n env ρ st2 y K else K v st2) :
    AWE c n env ρ st (.BoolOp .And [x, y] pos) K := fun A G s R C F => by
  refine BoolOp_and (AWE.then h R C F fun a s1 G1 st1 v l1 C1 F1 r1 k1 => ?_)
  refine wpAny_mono (liftB C1 F1 fun G2 l2 C2 => k1 A G2 s1 a R C2 (r1.mono l2.seq)) (fun b s2 hq => e24 hq fun G2 st2 l2 C2 F2 k2 => ?_) fun u0 u1 q => q
  cases b with
  | true => exact BoolOp_one (wpAny_mono (k2 A G2 s2 R C2 F2) (fun u0 u1 q => q.le (l1.trans l2)) fun u0 u1 q => q)
  | false => exact ⟨G2, st2, v, l1.trans l2, C2, F2, r1.mono l2.seq, k2⟩
theorem AWE_Or {x y : Expr} {pos : Pos} {K : V → St → Prop} (h : AWE c n env ρ st x fun v st1 => OpT c n v st1 fun b st2 => if b = true then K v st2 else AWE c n env ρ st2 y K) :
    AWE c n env ρ st (.BoolOp .Or [x, y] pos) K := fun A G s R C F => by
  refine BoolOp_or (AWE.then h R C F fun a s1 G1 st1 v l1 C1 F1 r1 k1 => ?_)
  refine wpAny_mono (liftB C1 F1 fun G2 l2 C2 => k1 A G2 s1 a R C2 (r1.mono l2.seq)) (fun b s2 hq => e24 hq fun G2 st2 l2 C2 F2 k2 => ?_) fun u0 u1 q => q
  cases b with
  | false => exact BoolOp_one (wpAny_mono (k2 A G2 s2 R C2 F2) (fun u0 u1 q => q.le (l1.trans l2)) fun u0 u1 q => q)
  | true => exact ⟨G2, st2, v, l1.trans l2, C2, F2, r1.mono l2.seq, k2⟩
theorem AWT_AndNil {pos : Pos} {K : Bool → St → Prop} (h : K true st) : AWT c n env ρ st (.BoolOp .And [] pos) K := fun A G s R C F => isTrue_and_nil ⟨G, st, .refl _, C, F, h⟩
theorem AWT_OrNil {pos : Pos} {K : Bool → St → Prop} (h : K false st) : AWT c n env ρ st (.BoolOp .Or [] pos) K := fun A G s R C F => isTrue_or_nil ⟨G, st, .refl _, C, F, h⟩
theorem isTrue_bool_any {op vs pos env w w'} : isTrue (.BoolOp op vs pos) env w = isTrue (.BoolOp op vs pos) env w' := rfl
theorem AWT_And {x : Expr} {xs : List Expr} {pos : Pos} {K : Bool → St → Prop} (h : AWT c n env ρ st x fun b st1 => if b = true then AWT c n env ρ st1 (.BoolOp .And xs pos) K else K false st1) :
    AWT c n env ρ st (.BoolOp .And (x :: xs) pos) K := fun A G s R C F =>
  isTrue_and (AWT.then h R C F fun b s1 G1 st1 l1 C1 F1 k1 => by
    cases b with
    | true => rw [if_pos rfl] at k1 ⊢; rw [isTrue_bool_any (w' := eval (.BoolOp .And xs pos) env)]; exact wpAny_mono (k1 A G1 s1 R C1 F1) (fun u0 u1 q => q.le l1) fun u0 u1 q => q
    | false => exact ⟨G1, st1, l1, C1, F1, k1⟩)
theorem AWT_Or {x : Expr} {xs : List Expr} {pos : Pos} {K : Bool → St → Prop} (h : AWT c n env ρ st x fun b st1 => if b = true then K true st1 else AWT c n env ρ st1 (.BoolOp .Or xs pos) K) :
    AWT c n env ρ st (.BoolOp .Or (x :: xs) pos) K := fun A G s R C F =>
  isTrue_or (AWT.then h R C F fun b s1 G1 st1 l1 C1 F1 k1 => by
    cases b with
    | false => rw [if_neg (by decide)] at k1 ⊢; rw [isTrue_bool_any (w' := eval (.BoolOp .Or xs pos) env)]; exact wpAny_mono (k1 A G1 s1 R C1 F1) (fun u0 u1 q => q.le l1) fun u0 u1 q => q
    | true => exact ⟨G1, st1, l1, C1, F1, k1⟩)

noncomputable def upd (ρ : Loc) (x : Str) (v : V) : Loc := fun y => if y = x then some v else ρ y

theorem store_local {x : Str} {v : Value} {p : V} (C : Conc c G st s) (F : FrameOK env ρ G st s.heap) (hk : env.kindOf x = some .local) (r : Rep G v p) {Q : Unit → Shared → Prop}
    (h : ∀ s', Conc c G st s' → FrameOK env (upd ρ x p) G st s'.heap → Q () s') {E : Value → Shared → Prop} : wpAny (model c.prog c.w) A (storeName env x v) Q E s := by
  refine ex1_2 F.loc fun m hm hr => ?_
  refine wpAny_storeName_local hk hm (fun h' hn hs => h _ ?_ ?_) (by rw [F.kind]; rfl)
  · refine ⟨C.base, fun a o e => ?_, fun a ob e => (C.own a ob e).mono (.refl _) (hs.2 _ (F.lown.st a ob e)), C.free, C.apart, C.gens, C.os⟩
    exact (hs.2 a (by rintro rfl; rw [F.lown.g] at e; cases e)).trans (C.fz a o e)
  · have nc : ∀ y a, env.cells.lookup y = some a → env.kindOf y = some .cell ∨ env.kindOf y = some .free → a ≠ env.locals := fun y a ha hk' => by
      rcases hk' with hk' | hk'
      · exact (F.cown y a ha hk').2
      · refine ex1_1 (F.cfree y a ha hk') fun o ho => ?_
        rintro rfl; rw [F.lown.g] at ho; cases ho
    refine ⟨F.kind, F.glob, F.blt, ⟨_, hn, fun y hy => ?_⟩, F.lown, fun y a ha hk' => ?_, F.cown, F.cinj, F.cfree⟩
    · unfold upd
      by_cases hyx : y = x
      · rw [if_pos hyx, if_pos hyx]; exact .some r
      · rw [if_neg hyx, if_neg hyx]; exact hr y hy
    · obtain ⟨mv, ⟨o, ho, hd⟩, q⟩ := F.cel y a ha hk'
      refine ⟨mv, ⟨o, (hs.2 a (nc y a ha hk')).trans ho, hd⟩, ?_⟩
      unfold upd
      rw [if_neg]; exact q
      rintro rfl
      rcases hk' with hk' | hk' <;> rw [hk] at hk' <;> cases hk'

theorem store_cell {x : Str} {v : Value} {p : V} {ca : Addr} (C : Conc c G st s) (F : FrameOK env ρ G st s.heap) (hk : env.kindOf x = some .cell) (hc : env.cells.lookup x = some ca) (r : Rep G v p) {Q : Unit → Shared → Prop}
    (h : ∀ s', Conc c G st s' → FrameOK env (upd ρ x p) G st s'.heap → Q () s') {E : Value → Shared → Prop} : wpAny (model c.prog c.w) A (storeName env x v) Q E s := by
  refine ex1_2 (F.cel x ca hc (.inl hk)) fun mv hcell u0 => ?_
  have ow := F.cown x ca hc hk
  refine wpAny_storeName_cell F.kind hk hc hcell (fun h' hn hs => h _ ?_ ?_)
  · refine ⟨C.base, fun a o e => ?_, fun a ob e => (C.own a ob e).mono (.refl _) (hs.2 _ (ow.1.st a ob e)), C.free, C.apart, C.gens, C.os⟩
    exact (hs.2 a (by rintro rfl; rw [ow.1.g] at e; cases e)).trans (C.fz a o e)
  · refine ⟨F.kind, F.glob, F.blt, ?_, F.lown, fun y a ha hk' => ?_, F.cown, F.cinj, F.cfree⟩
    · refine ex1_2 F.loc fun m hm hr => ?_
      refine ⟨m, hm.sameBut hs (Ne.symm ow.2), fun y hy => ?_⟩
      unfold upd
      rw [if_neg]; exact hr y hy
      rintro rfl; rw [hk] at hy; cases hy
    · by_cases hyx : y = x
      · subst hyx
        rw [hc] at ha; cases ha
        refine ⟨some v, hn, ?_⟩
        unfold upd; rw [if_pos rfl]; exact .some r
      · obtain ⟨mv', ⟨o, ho, hd⟩, q⟩ := F.cel y a ha hk'
        refine ⟨mv', ⟨o, (hs.2 a ?_).trans ho, hd⟩, ?_⟩
        · rintro rfl; exact hyx (F.cinj x y a hc ha hk).symm
        · unfold upd; rw [if_neg hyx]; exact q

noncomputable def Keeps (env : Env) (x : Str) : Prop := env.kindOf x = some .local ∨ ∃ ca, env.kindOf x = some .cell ∧ env.cells.lookup x = some ca
theorem store_any {x : Str} {v : Value} {p : V} (C : Conc c G st s) (F : FrameOK env ρ G st s.heap) (hk : Keeps env x) (r : Rep G v p) {Q : Unit → Shared → Prop}
    (h : ∀ s', Conc c G st s' → FrameOK env (upd ρ x p) G st s'.heap → Q () s') {E : Value → Shared → Prop} : wpAny (model c.prog c.w) A (storeName env x v) Q E s := by
  rcases hk with hk | ⟨ca, hk, hc⟩
  · exact store_local C F hk r h
  · exact store_cell C F hk hc r h

theorem AWX_nil {K : Fl → Loc → St → Prop} (h : K .next ρ st) : AWX c n env ρ st [] K := fun A G s R C F => wpAny_execs_nil ⟨G, st, ρ, .next, .refl _, C, F, .next, h⟩
noncomputable abbrev seqK (c : Ctx) (n : Nat) (env : Env) (bs : List Stmt) (K : Fl → Loc → St → Prop) : Fl → Loc → St → Prop := fun f ρ1 st1 => match f with | .next => AWX c n env ρ1 st1 bs K | f => K f ρ1 st1
theorem AWX_cons {b : Stmt} {bs : List Stmt} {K : Fl → Loc → St → Prop} (h : AWS c n env ρ st b (seqK c n env bs K)) :
    AWX c n env ρ st (b :: bs) K := fun A G s R C F =>
  wpAny_execs_cons (wpAny_mono (h A G s R C F) (fun f s1 hq => e45 hq fun G1 st1 ρ1 pf l1 C1 F1 rf k1 => by
    cases rf with
    | next => exact wpAny_mono (k1 A G1 s1 R C1 F1) (fun u0 u1 q => q.le l1) fun u0 u1 q => q
    | brk => exact ⟨G1, st1, ρ1, .brk, l1, C1, F1, .brk, k1⟩
    | cont => exact ⟨G1, st1, ρ1, .cont, l1, C1, F1, .cont, k1⟩
    | ret r => exact ⟨G1, st1, ρ1, _, l1, C1, F1, .ret r, k1⟩) fun u0 u1 q => q)
theorem AWX.mono {b : List Stmt} {K K' : Fl → Loc → St → Prop} (p : AWX c n env ρ st b K) (h : ∀ f ρ st, K f ρ st → K' f ρ st) : AWX c n env ρ st b K' :=
  fun A G s R C F => wpAny_mono (p A G s R C F) (fun u0 u1 hq => e45 hq fun G' st' r1 pf a b d e k => ⟨G', st', r1, pf, a, b, d, e, h _ _ _ k⟩) fun u0 u1 q => q
theorem AWS_Return {e : Expr} {pos : Pos} {K : Fl → Loc → St → Prop} (h : AWE c n env ρ st e fun v st1 => K (.ret v) ρ st1) : AWS c n env ρ st (.Return (some e) pos) K := fun A G s R C F =>
  wpAny_Return_some (AWE.then h R C F fun a s1 G1 st1 v l1 C1 F1 r1 k1 => ⟨G1, st1, ρ, .ret v, l1, C1, F1, .ret r1, k1⟩)
theorem AWS_If {t : Expr} {b o : List Stmt} {pos : Pos} {K : Fl → Loc → St → Prop} (h : AWT c n env ρ st t fun q st1 => if q = true then AWX c n env ρ st1 b K else AWX c n env ρ st1 o K) :
    AWS c n env ρ st (.If t b o pos) K := fun A G s R C F =>
  wpAny_If (AWT.then h R C F fun q s1 G1 st1 l1 C1 F1 k1 => by
    cases q with
    | true => exact wpAny_mono (k1 A G1 s1 R C1 F1) (fun u0 u1 q => q.le l1) fun u0 u1 q => q
    | false => exact wpAny_mono (k1 A G1 s1 R C1 F1) (fun u0 u1 q => q.le l1) fun u0 u1 q => q)
theorem AWS_Assign {x : Str} {xp : Pos} {e : Expr} {pos : Pos} {K : Fl → Loc → St → Prop} (hk : Keeps env x) (h : AWE c n env ρ st e fun v st1 => K .next (upd ρ x v) st1)
    (hs : swapsWith e (some (.Name x xp)) pos.line env = pure false := by rfl) : AWS c n env ρ st (.Assign [.Name x xp] e pos) K := fun A G s R C F =>
  wpAny_Assign_Name (AWE.then h R C F fun a s1 G1 st1 v l1 C1 F1 r1 k1 => store_any C1 F1 hk r1 fun s2 C2 F2 => ⟨G1, st1, _, .next, l1, C2, F2, .next, k1⟩) hs
end
end Lrn
end
section
open PySem PySem.W PyProof.Rows
set_option maxRecDepth 100000
set_option linter.unusedVariables false
namespace Lrn

section
variable {c : Ctx} {n : Nat} {env : Env} {ρ : Loc} {G : Gh} {st : St} {s : Shared} {A : Around}

theorem Conc.butA {h' : Heap} {a : Addr} (C : Conc c G st s) (ow : Own G st a) (hk : ∀ b o, b ≠ a → s.heap.get? b = some o → h'.get? b = some o) (t : Nat) : Conc c G st { s with heap := h', toks := t } := by
  refine ⟨C.base, fun b o e => hk b _ (by rintro rfl; rw [ow.g] at e; cases e) (C.fz b o e), fun b ob e => ?_, C.free, C.apart, C.gens, C.os⟩
  refine ex1_1 ((C.own b ob e).cell) fun o ho => ?_
  exact (C.own b ob e).mono (.refl _) ((hk _ _ (ow.st b ob e) ho).trans ho.symm)
theorem FrameOK.butA {h h' : Heap} {a : Addr} (F : FrameOK env ρ G st h) (na : ¬ own env a) (ow : Own G st a) (hk : ∀ b o, b ≠ a → h.get? b = some o → h'.get? b = some o) : FrameOK env ρ G st h' := by
  refine ⟨F.kind, F.glob, F.blt, ?_, F.lown, fun x b hx hk' => ?_, F.cown, F.cinj, F.cfree⟩
  · obtain ⟨m, ⟨o, es, ep, ho, hd⟩, hm⟩ := F.loc
    exact ⟨m, ⟨o, es, ep, hk _ _ (fun q => na (.inl q.symm)) ho, hd⟩, hm⟩
  · obtain ⟨mv, ⟨o, ho, hd⟩, r⟩ := F.cel x b hx hk'
    refine ⟨mv, ⟨o, hk _ _ ?_ ho, hd⟩, r⟩
    rintro rfl
    rcases hk' with hk' | hk'
    · exact na (.inr ⟨x, hx, hk'⟩)
    · refine ex1_1 (F.cfree x _ hx hk') fun o ho => ?_
      rw [ow.g] at ho; cases ho
theorem Conc.fresh (C : Conc c G st s) : G s.heap.objs.size = none := by
  cases e : G s.heap.objs.size with
  | none => rfl
  | some o => exact absurd (Heap.lt_size (C.fz _ _ e)) (Nat.lt_irrefl _)
theorem Conc.freshOwn (C : Conc c G st s) : Own G st s.heap.objs.size := ⟨C.fresh, fun b ob e q => by
  refine ex1_1 ((C.own b ob e).cell) fun o ho => ?_
  rw [q] at ho; exact absurd (Heap.lt_size ho) (Nat.lt_irrefl _)⟩
theorem FrameOK.fresh (F : FrameOK env ρ G st s.heap) : ¬ own env s.heap.objs.size := fun h => by
  refine ex1_1 (own_obj F h) fun o ho => ?_
  exact absurd (Heap.lt_size ho) (Nat.lt_irrefl _)
theorem Conc.grow {h' : Heap} (C : Conc c G st s) (hk : ∀ b o, b ≠ s.heap.objs.size → s.heap.get? b = some o → h'.get? b = some o) (t : Nat) : Conc c G st { s with heap := h', toks := t } := C.butA C.freshOwn hk t
theorem FrameOK.grow {h' : Heap} (F : FrameOK env ρ G st s.heap) (C : Conc c G st s) (hk : ∀ b o, b ≠ s.heap.objs.size → s.heap.get? b = some o → h'.get? b = some o) : FrameOK env ρ G st h' := F.butA F.fresh C.freshOwn hk

open Classical in
theorem lock {a : Addr} {o : Obj} (C : Conc c G st s) (ow : Own G st a) (ho : s.heap.get? a = some o) :
    ∃ G1, G.le G1 ∧ Conc c G1 st s ∧ (∀ env ρ, FrameOK env ρ G st s.heap → ¬ own env a → FrameOK env ρ G1 st s.heap) ∧ (∀ b, b ≠ a → G1 b = G b) ∧
      ∀ G' st' s', G1.le G' → Conc c G' st' s' → s'.heap.get? a = some o ∧ ∃ G'', G.le G'' ∧ Conc c G'' st' s' ∧ Own G'' st' a ∧ G'.seqLe G'' ∧ (∀ b, b ≠ a → G'' b = G' b) ∧ (∀ env ρ, FrameOK env ρ G' st' s'.heap → ¬ own env a → (∀ x, env.cells.lookup x = some a → env.kindOf x ≠ some .free) → FrameOK env ρ G'' st' s'.heap) := by
  let G1 : Gh := fun b => if b = a then some (false, o) else G b
  have e1 : G1 a = some (false, o) := by show (if a = a then _ else _) = _; rw [if_pos rfl]
  have e2 : ∀ b, b ≠ a → G1 b = G b := fun b h => by show (if b = a then _ else _) = _; rw [if_neg h]
  have le1 : G.le G1 := fun b o' e => by rw [e2]; exact e; rintro rfl; rw [ow.g] at e; cases e
  have C1 : Conc c G1 st s := by
    refine ⟨fun a o e => le1 _ _ (C.base a o e), fun b o' e => ?_, fun b ob e => (C.own b ob e).mono le1.seq rfl, fun b ob e => ?_, C.apart, C.gens, C.os⟩
    · by_cases h : b = a
      · subst h; rw [e1] at e; cases e; exact ho
      · rw [e2 b h] at e; exact C.fz _ _ e
    · rw [e2 _ (ow.st b ob e)]; exact C.free b ob e
  refine ⟨G1, le1, C1, fun env ρ F na => ⟨F.kind, F.glob, F.blt, ?_, ⟨by rw [e2]; exact F.lown.g; exact fun q => na (.inl q.symm), F.lown.st⟩, fun x b hx hk => ?_, fun x b hx hk => ⟨⟨?_, (F.cown x b hx hk).1.st⟩, (F.cown x b hx hk).2⟩, F.cinj, fun x b hx hk => let ⟨o, ho⟩ := F.cfree x b hx hk; ⟨o, le1 _ _ ho⟩⟩, e2, fun G' st' s' le' C' => ?_⟩
  · refine ex1_2 F.loc fun m hm hr => ?_
    exact ⟨m, hm, fun x hx => (hr x hx).mono le1.seq⟩
  · refine ex1_2 (F.cel x b hx hk) fun mv hm r => ?_
    exact ⟨mv, hm, r.mono le1.seq⟩
  · rw [e2]; exact (F.cown x b hx hk).1.g
    rintro rfl; exact na (.inr ⟨x, hx, hk⟩)
  have g' : G' a = some (false, o) := le' _ _ e1
  have h' := C'.fz _ _ g'
  refine ⟨h', ?_⟩
  let G2 : Gh := fun b => if b = a then none else G' b
  have f1 : G2 a = none := by show (if a = a then _ else _) = _; rw [if_pos rfl]
  have f2 : ∀ b, b ≠ a → G2 b = G' b := fun b h => by show (if b = a then _ else _) = _; rw [if_neg h]
  have sq : G'.seqLe G2 := fun b o' e => by
    rw [f2]; exact e
    rintro rfl; rw [g'] at e; cases e
  have lee : G.le G2 := fun b o' e => by
    rw [f2]; exact le' _ _ (le1 _ _ e)
    rintro rfl; rw [ow.g] at e; cases e
  have ow2 : Own G2 st' a := ⟨f1, fun b ob e q => by have := C'.free b ob e; rw [q, g'] at this; cases this⟩
  refine ⟨G2, lee, ⟨fun a o e => lee _ _ (C.base a o e), fun b o' e => ?_, fun b ob e => (C'.own b ob e).mono sq rfl, fun b ob e => ?_, C'.apart, C'.gens, C'.os⟩, ow2, sq, f2, fun env ρ F na nf => ⟨F.kind, F.glob, F.blt, ?_, ⟨by rw [f2]; exact F.lown.g; exact fun q => na (.inl q.symm), F.lown.st⟩, fun x b hx hk => ?_, fun x b hx hk => ⟨⟨?_, (F.cown x b hx hk).1.st⟩, (F.cown x b hx hk).2⟩, F.cinj, fun x b hx hk => ?_⟩⟩
  · by_cases h : b = a
    · subst h; rw [f1] at e; cases e
    · rw [f2 b h] at e; exact C'.fz _ _ e
  · by_cases h : cellA b ob = a
    · exact absurd h (ow2.st b ob e)
    · rw [f2 _ h]; exact C'.free b ob e
  · refine ex1_2 F.loc fun m hm hr => ?_
    exact ⟨m, hm, fun x hx => (hr x hx).mono sq⟩
  · refine ex1_2 (F.cel x b hx hk) fun mv hm r => ?_
    exact ⟨mv, hm, r.mono sq⟩
  · rw [f2]; exact (F.cown x b hx hk).1.g
    rintro rfl; exact na (.inr ⟨x, hx, hk⟩)
  · refine ex1_1 (F.cfree x b hx hk) fun o' ho' => ?_
    exact ⟨o', by rw [f2]; exact ho'; rintro rfl; exact nf x hx hk⟩

theorem while_turn {prog : Program} {w : World} {A : Around} {R : Result → Shared → Prop} {s : Shared} {test body orelse env}
    (h : wpAny (model prog w) A (isTrue test env (eval test env)) (fun b s₂ =>
        if b = true then wpAny (model prog w) A (execs body env) (fun f s₃ => match f with
            | .next | .cont => codeAny (model prog w) A (.whileLoop test body orelse env) R s₃
            | .brk => R (.ok .next) s₃
            | .ret v => R (.ok (.ret v)) s₃) (fun u0 u1 => False) s₂
        else wpAny (model prog w) A (execs orelse env) (fun f s₃ => R (.ok f) s₃) (fun u0 u1 => False) s₂)
        (fun u0 u1 => False) s) : codeAny (model prog w) A (.whileLoop test body orelse env) R s := by
  refine codeAny_of_tree ?_
  show wpAny _ A ((whileTurn test body orelse env).onRaise (fun x => do noteFrame x env; theTreesLotGoes x)) _ _ s
  refine wpAny_noted ?_
  simp only [whileTurn]
  refine wpAny_bind (wpAny_mono h (fun b s₂ h₂ => ?_) fun u0 u1 q => q.elim)
  cases b with
  | true =>
    simp only [if_true] at h₂ ⊢
    refine wpAny_bind (wpAny_mono h₂ (fun f s₃ h₃ => ?_) fun u0 u1 q => q.elim)
    cases f with
    | next => exact wpAny_pure ⟨rfl, h₃⟩
    | cont => exact wpAny_pure ⟨rfl, h₃⟩
    | brk => exact wpAny_pure h₃
    | ret v => exact wpAny_pure h₃
  | false =>
    rw [if_neg (by decide)] at h₂ ⊢
    exact wpAny_bind (wpAny_mono h₂ (fun f s₃ h₃ => wpAny_pure h₃) fun u0 u1 q => q.elim)

noncomputable def AWW (c : Ctx) (n : Nat) (env : Env) (ρ : Loc) (st : St) (t : Expr) (b o : List Stmt) (K : Fl → Loc → St → Prop) : Prop :=
  ∀ A G s, Room n A → Conc c G st s → FrameOK env ρ G st s.heap → codeAny (model c.prog c.w) A (.whileLoop t b o env) (fun r s' => match r with | .ok f => PostX c env G K f s' | .error _ => False) s
theorem AWS_While {t : Expr} {b o : List Stmt} {pos : Pos} {K : Fl → Loc → St → Prop} (h : AWW c n env ρ st t b o K) : AWS c n env ρ st (.While t b o pos) K := fun A G s R C F =>
  wpAny_While (codeAny_mono (h A G s R C F) fun r s' q => match r, q with
    | .ok _, q => q
    | .error _, q => q.elim)
noncomputable abbrev turnK (J : Loc → St → Prop) (K : Fl → Loc → St → Prop) : Fl → Loc → St → Prop := fun f ρ2 st2 => match f with
  | .next => J ρ2 st2 | .cont => J ρ2 st2 | .brk => K .next ρ2 st2 | .ret v => K (.ret v) ρ2 st2
theorem AWW_turn {t : Expr} {b o : List Stmt} {K : Fl → Loc → St → Prop} (h : AWT c n env ρ st t fun q st1 => if q = true then AWX c n env ρ st1 b (turnK (fun ρ2 st2 => AWW c n env ρ2 st2 t b o K) K) else AWX c n env ρ st1 o K) : AWW c n env ρ st t b o K := fun A G s R C F =>
  while_turn (AWT.then h R C F fun q s1 G1 st1 l1 C1 F1 k1 => by
    cases q with
    | true =>
      rw [if_pos rfl] at k1 ⊢
      refine wpAny_mono (k1 A G1 s1 R C1 F1) (fun f s2 hq => e45 hq fun G2 st2 ρ2 pf l2 C2 F2 rf k2 => ?_) fun u0 u1 q => q
      cases rf with
      | next => exact codeAny_mono (k2 A G2 s2 R C2 F2) fun r s3 q => by cases r with | ok f => exact PostX.le (l1.trans l2) q | error e => exact q
      | cont => exact codeAny_mono (k2 A G2 s2 R C2 F2) fun r s3 q => by cases r with | ok f => exact PostX.le (l1.trans l2) q | error e => exact q
      | brk => exact ⟨G2, st2, ρ2, .next, l1.trans l2, C2, F2, .next, k2⟩
      | ret r => exact ⟨G2, st2, ρ2, _, l1.trans l2, C2, F2, .ret r, k2⟩
    | false =>
      rw [if_neg (by decide)] at k1 ⊢
      exact wpAny_mono (k1 A G1 s1 R C1 F1) (fun u0 u1 q => q.le l1) fun u0 u1 q => q)

noncomputable def AWA (c : Ctx) (n : Nat) (env : Env) (ρ : Loc) (st : St) (t : Expr) (v : V) (K : Loc → St → Prop) : Prop :=
  ∀ A G s a, Room n A → Conc c G st s → FrameOK env ρ G st s.heap → Rep G a v → wpAny (model c.prog c.w) A (assign t env a) (fun u0 s' => ∃ G' st' ρ', G.le G' ∧ Conc c G' st' s' ∧ FrameOK env ρ' G' st' s'.heap ∧ K ρ' st') (fun u0 u1 => False) s
theorem AWA_Name {x : Str} {pos : Pos} {v : V} {K : Loc → St → Prop} (hk : Keeps env x) (h : K (upd ρ x v) st) : AWA c n env ρ st (.Name x pos) v K := fun A G s a R C F r =>
  wpAny_assign_Name (store_any C F hk r fun s' C' F' => ⟨G, st, _, .refl _, C', F', h⟩)
noncomputable def AWAs (c : Ctx) (n : Nat) (env : Env) (ρ : Loc) (st : St) : List Expr → List D → (Loc → St → Prop) → Prop
  | [], [], K => K ρ st
  | t :: ts, x :: xs, K => ∀ A G s a, Room n A → Conc c G st s → FrameOK env ρ G st s.heap → Rep G a (.d x) → wpAny (model c.prog c.w) A (assign t env a) (fun u0 s' => ∃ G' st' ρ', G.le G' ∧ Conc c G' st' s' ∧ FrameOK env ρ' G' st' s'.heap ∧ AWAs c n env ρ' st' ts xs K) (fun u0 u1 => False) s
  | _, _, _ => False
theorem AWAs_cons {t : Expr} {ts : List Expr} {x : D} {xs : List D} {K : Loc → St → Prop} (h : AWA c n env ρ st t (.d x) fun ρ1 st1 => AWAs c n env ρ1 st1 ts xs K) : AWAs c n env ρ st (t :: ts) (x :: xs) K := h
theorem AWAs_run {K : Loc → St → Prop} : ∀ (ts : List Expr) (xs : List D) {ρ : Loc} {st : St}, AWAs c n env ρ st ts xs K → (∀ t ∈ ts, ∀ r, assignEach (t :: r) env = (false, assign t env) :: assignEach r env) →
    ∀ A G s vs, Room n A → Conc c G st s → FrameOK env ρ G st s.heap → RepDs G vs xs → wpAny (model c.prog c.w) A (assignInOrder ((assignEach ts env).map (·.2)) vs) (fun u0 s' => ∃ G' st' ρ', G.le G' ∧ Conc c G' st' s' ∧ FrameOK env ρ' G' st' s'.heap ∧ K ρ' st') (fun u0 u1 => False) s
  | [], [], ρ, st, h, _, A, G, s, vs, R, C, F, r => by
    cases r
    exact wpAny_pure ⟨G, st, ρ, .refl _, C, F, h⟩
  | t :: ts, x :: xs, ρ, st, h, hs, A, G, s, vs, R, C, F, r => by
    cases r with
    | cons a r =>
      rw [hs t (.head _)]
      refine wpAny_bind (wpAny_holding (wpAny_mono (h A G s _ R C F (.d a)) (fun u0 s1 hq => e34 hq fun G1 st1 ρ1 l1 C1 F1 k1 => ?_) fun u0 u1 q => q))
      exact wpAny_mono (AWAs_run ts xs k1 (fun t ht => hs t (.tail _ ht)) A G1 s1 _ R C1 F1 (r.mono l1.seq)) (fun _ s2 ⟨G2, st2, ρ2, l2, q⟩ => ⟨G2, st2, ρ2, l1.trans l2, q⟩) fun u0 u1 q => q
  | [], _ :: _, _, _, h, _, _, _, _, _, _, _, _, _ => h.elim
  | _ :: _, [], _, _, h, _, _, _, _, _, _, _, _, _ => h.elim

theorem assignEach_length : ∀ (ts : List Expr) (env : Env), (assignEach ts env).length = ts.length
  | [], env => by rw [assignEach]; rfl
  | t :: r, env => by
    cases t <;> (rw [assignEach, List.length_cons, List.length_cons, assignEach_length r env]; try (intro _ _ h; cases h))
theorem AWA_Tuple {ts : List Expr} {k : Nat} {pos : Pos} {xs : List D} {K : Loc → St → Prop} (h : AWAs c n env ρ st ts xs K) (hl : ts.length = xs.length)
    (hs : ∀ t ∈ ts, ∀ r, assignEach (t :: r) env = (false, assign t env) :: assignEach r env) (hstar : (assignEach ts env).findIdx? (·.1) = none) :
    AWA c n env ρ st (.Tuple ts k pos) (.d (.tup xs)) K := fun A G s a R C F r => by
  cases r with
  | d r =>
    cases r with
    | tup e rs =>
      rename_i ad vs nn
      have hh := C.fz _ _ e
      refine wpAny_assign_Tuple (items := vs.toArray) R.handled ⟨_, hh, rfl, nn, rfl⟩ (by rw [assignEach_length, hl, List.size_toArray, rs.length]) hstar fun h' hk => ?_
      have C' := C.grow (h' := h') (fun b o hb e => hk b o hb e) s.toks
      exact AWAs_run ts xs h hs A G { s with heap := h' } vs R C' (F.grow C fun b o hb e => hk b o hb e) rs
end
end Lrn
end
section
open PySem PySem.W PyProof.Rows
set_option maxRecDepth 100000
set_option linter.unusedVariables false
namespace Lrn
noncomputable def IsDIter (cl : String) (h : Heap) (it d : Addr) (i n ep : Nat) : Prop := ∃ o, h.get? it = some o ∧ o.cls = .type cl ∧ o.data = .fields #[.ref d, .int i 0, .int n 0, .int ep 0]
noncomputable def IsDView (h : Heap) (v d : Addr) : Prop := ∃ o, h.get? v = some o ∧ o.cls = .type "dict_values" ∧ o.data = .fields #[.ref d]
section
variable {prog : Program} {w : World} {A : Around} {E : Value → Shared → Prop} {s : Shared} {d it : Addr} {es : List DictEntry} {ep i : Nat}
theorem IsDIter.typeIs {cl : String} {n : Nat} (x : IsDIter cl s.heap it d i n ep) : s.TypeIs (.ref it) cl := let ⟨o, ho, hc, _⟩ := x; ⟨o, ho, hc⟩
theorem raw_iter {Q : Value → Shared → Prop} (hd : (d == sysModules) = false) (ho : s.heap.get? d = some (dictO es ep))
    (hQ : ∀ h', h' = s.heap.push { cls := .type "dict_keyiterator", data := .fields #[.ref d, .int 0 0, .int es.length 0, .int ep 0] } → Q (.ref s.heap.objs.size) { s with heap := h' }) :
    wpAny (model prog w) A (pyIter (.ref d)) Q E s := by
  have hT : s.TypeIs (.ref d) "dict" := ⟨_, ho, rfl⟩
  refine wpAny_pyIter_slot hT F.slot_dict_iter (wpAny_call_entry F.slot_dict_iter hT F.entry_dict_iter ?_ (F.args_dict_iter_1 _))
  unfold Builtin.«dict.__iter__»
  refine wpAny_bind ?_
  unfold Builtin.Dict.dictSlotNone
  refine wpAny_bind (wpAny_notOrdered_dict hT ?_)
  show wpAny _ _ (pure (Value.ref d)) _ _ s
  refine wpAny_pure ?_
  show wpAny _ _ (Builtin.Dict.showsAll d >>= _) _ _ s
  unfold Builtin.Dict.showsAll
  rw [if_neg (by rw [hd]; exact Bool.false_ne_true)]
  refine wpAny_bind (wpAny_pure (wpAny_bind (wpAny_dictEntries ho rfl (wpAny_bind (wpAny_dictEpoch ho rfl ?_)))))
  refine wpAny_bind (wpAny_newObj_type (wpAny_pure ⟨_, rfl, "dict_keyiterator", _, ⟨_, Heap.get?_push_size _ rfl, rfl⟩, F.slot_dict_keyiterator_next.lookup, ?_⟩))
  exact hQ _ (by simp [rawInt])
theorem raw_view {Q : Value → Shared → Prop} (hd : (d == sysModules) = false) (ho : s.heap.get? d = some (dictO es ep))
    (hQ : Q (.ref s.heap.objs.size) { s with heap := s.heap.push { cls := .type "dict_values", data := .fields #[.ref d] } }) :
    wpAny (model prog w) A (call (.builtin "dict.values") [.ref d]) Q E s := by
  have hT : s.TypeIs (.ref d) "dict" := ⟨_, ho, rfl⟩
  refine wpAny_call_entry F.slot_dict_values hT F.entry_dict_values ?_ (F.args_dict_values_1 _)
  unfold Builtin.«dict.values»
  refine wpAny_bind ?_
  unfold Builtin.Dict.noArgs
  refine wpAny_bind (wpAny_notOrdered_dict hT ?_)
  show wpAny _ _ (pure d) _ _ s
  refine wpAny_pure ?_
  show wpAny _ _ (Builtin.Dict.showsAll d >>= _) _ _ s
  unfold Builtin.Dict.showsAll
  rw [if_neg (by rw [hd]; exact Bool.false_ne_true)]
  exact wpAny_bind (wpAny_pure (wpAny_bind (wpAny_newObj_type (wpAny_pure ⟨_, rfl, hQ⟩))))
theorem raw_viter {v : Addr} {Q : Value → Shared → Prop} (hv : IsDView s.heap v d) (ho : s.heap.get? d = some (dictO es ep))
    (hQ : ∀ h', h' = s.heap.push { cls := .type "dict_valueiterator", data := .fields #[.ref d, .int 0 0, .int es.length 0, .int ep 0] } → Q (.ref s.heap.objs.size) { s with heap := h' }) :
    wpAny (model prog w) A (pyIter (.ref v)) Q E s := by
  refine ex1_3 (id hv) fun ov hov hcv hdv => ?_
  have hT : s.TypeIs (.ref v) "dict_values" := ⟨ov, hov, hcv⟩
  refine wpAny_pyIter_slot hT F.slot_dict_values_iter (wpAny_call_entry F.slot_dict_values_iter hT F.entry_dict_values_iter ?_ (F.args_dict_values_iter_1 _))
  unfold Builtin.«dict_values.__iter__»
  refine wpAny_bind (wpAny_pure ?_)
  refine wpAny_bind ?_
  unfold Builtin.Dict_items.dictOf
  refine wpAny_bind (wpAny_field hov hdv (x := .ref d) rfl (wpAny_pure ?_))
  refine wpAny_bind ?_
  unfold Builtin.Dict_items.newIterator
  refine wpAny_bind (wpAny_dictEntries ho rfl (wpAny_bind (wpAny_dictEpoch ho rfl ?_)))
  have hown : Builtin.Dict_items.ownsTuple "dict_valueiterator" = false := by decide
  simp only [hown, Bool.false_eq_true, if_false]
  refine wpAny_newObj_type (wpAny_pure ⟨_, rfl, "dict_valueiterator", _, ⟨_, Heap.get?_push_size _ rfl, rfl⟩, F.slot_dict_valueiterator_next.lookup, ?_⟩)
  exact hQ _ (by simp [rawInt])

theorem raw_keyiter_head {Q : Option Value → Shared → Prop} (hit : IsDIter "dict_keyiterator" s.heap it d i es.length ep) (ho : s.heap.get? d = some (dictO es ep))
    (hs : ∀ e, es[i]? = some e → ∀ h', IsDIter "dict_keyiterator" h' it d (i + 1) es.length ep → Heap.SameBut it s.heap h' → Q (some e.key) { s with heap := h' })
    (hn : es[i]? = none → ∀ h', Heap.ExtBut it s.heap h' → Q none { s with heap := h' }) (hh : A.handled = none) :
    wpAny (model prog w) A (pyNext (.ref it)) Q E s := by
  refine ex1_3 (id hit) fun oi hoi hc hd => ?_
  unfold pyNext
  refine wpAny_bind (wpAny_attempt (wpAny_callSpecial?_slot (name := Str.ofString "__next__") hit.typeIs F.slot_dict_keyiterator_next
    (wpAny_call_entry F.slot_dict_keyiterator_next hit.typeIs F.entry_dict_keyiterator_next ?_ (F.args_dict_keyiterator_next_1 _))))
  refine wpAny_bind (wpAny_pure (wpAny_bind (wpAny_bind ?_)))
  first | refine wpAny_bind (wpAny_typeNameOfWhole_keyiter hit.typeIs (wpAny_pure ?_)) | refine wpAny_bind (wpAny_typeNameOf_keyiter hit.typeIs (wpAny_pure ?_))
  refine wpAny_bind (wpAny_fieldsOf hoi hd ?_)
  have hown : Builtin.Dict_items.ownsTuple "dict_keyiterator" = false := by decide
  rw [hown, if_neg Bool.false_ne_true]
  show wpAny _ _ (if (Value.ref d == Value.none) = true then _ else _) _ _ s
  rw [if_neg (show ¬ ((Value.ref d == Value.none) = true) from Bool.false_ne_true)]
  refine wpAny_bind (wpAny_pure (wpAny_bind (wpAny_dictEntries ho rfl ?_)))
  rw [if_neg (by simp)]
  refine wpAny_bind (wpAny_pure (wpAny_bind (wpAny_dictEpoch ho rfl ?_)))
  rw [if_neg (by simp)]
  refine wpAny_pure ?_
  have hj : es.toArray[i]? = es[i]? := by simp
  cases he : es[i]? with
  | some e =>
    dsimp only; rw [if_neg (show ¬ ((i : Int) < 0) from by walk_at "o"), Int.toNat_natCast, hj, he]
    refine wpAny_bind ?_
    first | refine wpAny_bind (wpAny_typeNameOfWhole_keyiter hit.typeIs (wpAny_pure ?_)) | refine wpAny_bind (wpAny_typeNameOf_keyiter hit.typeIs (wpAny_pure ?_))
    refine wpAny_bind (wpAny_isOneOf_keyiter hit.typeIs ?_)
    show wpAny _ _ (setField (.ref it) 1 (rawInt ((i : Int) + 1)) >>= _) _ _ s
    refine wpAny_bind (wpAny_setField hoi hd (by simp) ?_)
    have hit' : IsDIter "dict_keyiterator" (s.heap.update it (Obj.mapFields (·.setIfInBounds 1 (rawInt ((i : Int) + 1))))) it d (i + 1) es.length ep :=
      ⟨_, Heap.get?_update_self _ hoi (Obj.isFreed_of_fields (Obj.data_mapFields hd _)), (Obj.cls_mapFields ..).trans hc, by rw [Obj.data_mapFields hd]; simp [rawInt]⟩
    have hT' := IsDIter.typeIs (s := { s with heap := s.heap.update it (Obj.mapFields (·.setIfInBounds 1 (rawInt ((i : Int) + 1)))) }) hit'
    refine wpAny_bind (wpAny_holding ?_)
    refine wpAny_bind (wpAny_isOneOf_keyiter (s := { s with heap := s.heap.update it (Obj.mapFields (·.setIfInBounds 1 (rawInt ((i : Int) + 1)))) }) hT' ?_)
    show wpAny _ _ (pure e.key) _ _ _
    exact wpAny_pure (wpAny_pure ⟨_, rfl, wpAny_pure (hs e he _ hit' (Heap.SameBut.update ..))⟩)
  | none =>
    dsimp only; rw [if_neg (show ¬ ((i : Int) < 0) from by walk_at "o"), Int.toNat_natCast, hj, he]
    refine wpAny_bind ?_
    first | refine wpAny_bind (wpAny_typeNameOfWhole_keyiter hit.typeIs (wpAny_pure ?_)) | refine wpAny_bind (wpAny_typeNameOf_keyiter hit.typeIs (wpAny_pure ?_))
    show wpAny _ _ (setField (.ref it) 0 .none >>= _) _ _ s
    refine wpAny_bind (wpAny_setField hoi hd (by simp) ?_)
    show wpAny _ _ (newExc (.type "StopIteration") [] >>= _) _ _ _
    refine wpAny_bind ?_
    simp only [newExc, newTuple]
    refine wpAny_bind (wpAny_newObj_type ?_ (by size_fits))
    refine wpAny_bind (m := firstArgMember _ _) (wpAny_of_eq (a := Value.none) (by first | rfl | (simp only [firstArgMember]; rfl)) ?_)
    refine wpAny_newObj_type ?_ (by size_fits)
    simp only [raiseNew]
    refine wpAny_bind (wpAny_handled ?_)
    rw [show A.in1.handled = none from hh]
    refine wpAny_bind (wpAny_pure (wpAny_throw ?_))
    refine wpAny_bind (wpAny_isInstance (T := "StopIteration") (b := true) ⟨_, Heap.get?_push_size _ rfl, rfl⟩ isSubtype_stop ?_)
    exact wpAny_pure (hn he _ (((Heap.SameBut.update ..).extBut.push _).push _))

theorem raw_valiter_head {Q : Option Value → Shared → Prop} (hit : IsDIter "dict_valueiterator" s.heap it d i es.length ep) (ho : s.heap.get? d = some (dictO es ep))
    (hs : ∀ e, es[i]? = some e → ∀ h', IsDIter "dict_valueiterator" h' it d (i + 1) es.length ep → Heap.SameBut it s.heap h' → Q (some e.val) { s with heap := h' })
    (hn : es[i]? = none → ∀ h', Heap.ExtBut it s.heap h' → Q none { s with heap := h' }) (hh : A.handled = none) :
    wpAny (model prog w) A (pyNext (.ref it)) Q E s := by
  refine ex1_3 (id hit) fun oi hoi hc hd => ?_
  unfold pyNext
  refine wpAny_bind (wpAny_attempt (wpAny_callSpecial?_slot (name := Str.ofString "__next__") hit.typeIs F.slot_dict_valueiterator_next
    (wpAny_call_entry F.slot_dict_valueiterator_next hit.typeIs F.entry_dict_valueiterator_next ?_ (F.args_dict_valueiterator_next_1 _))))
  refine wpAny_bind (wpAny_pure (wpAny_bind (wpAny_bind ?_)))
  first | refine wpAny_bind (wpAny_typeNameOfWhole_valiter hit.typeIs (wpAny_pure ?_)) | refine wpAny_bind (wpAny_typeNameOf_valiter hit.typeIs (wpAny_pure ?_))
  refine wpAny_bind (wpAny_fieldsOf hoi hd ?_)
  have hown : Builtin.Dict_items.ownsTuple "dict_valueiterator" = false := by decide
  rw [hown, if_neg Bool.false_ne_true]
  show wpAny _ _ (if (Value.ref d == Value.none) = true then _ else _) _ _ s
  rw [if_neg (show ¬ ((Value.ref d == Value.none) = true) from Bool.false_ne_true)]
  refine wpAny_bind (wpAny_pure (wpAny_bind (wpAny_dictEntries ho rfl ?_)))
  rw [if_neg (by simp)]
  refine wpAny_bind (wpAny_pure (wpAny_bind (wpAny_dictEpoch ho rfl ?_)))
  rw [if_neg (by simp)]
  refine wpAny_pure ?_
  have hj : es.toArray[i]? = es[i]? := by simp
  cases he : es[i]? with
  | some e =>
    dsimp only; rw [if_neg (show ¬ ((i : Int) < 0) from by walk_at "o"), Int.toNat_natCast, hj, he]
    refine wpAny_bind ?_
    first | refine wpAny_bind (wpAny_typeNameOfWhole_valiter hit.typeIs (wpAny_pure ?_)) | refine wpAny_bind (wpAny_typeNameOf_valiter hit.typeIs (wpAny_pure ?_))
    refine wpAny_bind (wpAny_isOneOf_valiter hit.typeIs ?_)
    show wpAny _ _ (setField (.ref it) 1 (rawInt ((i : Int) + 1)) >>= _) _ _ s
    refine wpAny_bind (wpAny_setField hoi hd (by simp) ?_)
    have hit' : IsDIter "dict_valueiterator" (s.heap.update it (Obj.mapFields (·.setIfInBounds 1 (rawInt ((i : Int) + 1))))) it d (i + 1) es.length ep :=
      ⟨_, Heap.get?_update_self _ hoi (Obj.isFreed_of_fields (Obj.data_mapFields hd _)), (Obj.cls_mapFields ..).trans hc, by rw [Obj.data_mapFields hd]; simp [rawInt]⟩
    have hT' := IsDIter.typeIs (s := { s with heap := s.heap.update it (Obj.mapFields (·.setIfInBounds 1 (rawInt ((i : Int) + 1)))) }) hit'
    refine wpAny_bind (wpAny_holding ?_)
    refine wpAny_bind (wpAny_isOneOf_valiter (s := { s with heap := s.heap.update it (Obj.mapFields (·.setIfInBounds 1 (rawInt ((i : Int) + 1)))) }) hT' ?_)
    refine wpAny_bind (wpAny_isOneOf_valiter (s := { s with heap := s.heap.update it (Obj.mapFields (·.setIfInBounds 1 (rawInt ((i : Int) + 1)))) }) hT' ?_)
    show wpAny _ _ (pure e.val) _ _ _
    exact wpAny_pure (wpAny_pure ⟨_, rfl, wpAny_pure (hs e he _ hit' (Heap.SameBut.update ..))⟩)
  | none =>
    dsimp only; rw [if_neg (show ¬ ((i : Int) < 0) from by walk_at "o"), Int.toNat_natCast, hj, he]
    refine wpAny_bind ?_
    first | refine wpAny_bind (wpAny_typeNameOfWhole_valiter hit.typeIs (wpAny_pure ?_)) | refine wpAny_bind (wpAny_typeNameOf_valiter hit.typeIs (wpAny_pure ?_))
    show wpAny _ _ (setField (.ref it) 0 .none >>= _) _ _ s
    refine wpAny_bind (wpAny_setField hoi hd (by simp) ?_)
    show wpAny _ _ (newExc (.type "StopIteration") [] >>= _) _ _ _
    refine wpAny_bind ?_
    simp only [newExc, newTuple]
    refine wpAny_bind (wpAny_newObj_type ?_ (by size_fits))
    refine wpAny_bind (m := firstArgMember _ _) (wpAny_of_eq (a := Value.none) (by first | rfl | (simp only [firstArgMember]; rfl)) ?_)
    refine wpAny_newObj_type ?_ (by size_fits)
    simp only [raiseNew]
    refine wpAny_bind (wpAny_handled ?_)
    rw [show A.in1.handled = none from hh]
    refine wpAny_bind (wpAny_pure (wpAny_throw ?_))
    refine wpAny_bind (wpAny_isInstance (T := "StopIteration") (b := true) ⟨_, Heap.get?_push_size _ rfl, rfl⟩ isSubtype_stop ?_)
    exact wpAny_pure (hn he _ (((Heap.SameBut.update ..).extBut.push _).push _))

end
end Lrn
end
section
open PySem PySem.W PyProof.Rows
set_option maxRecDepth 100000
set_option linter.unusedVariables false
namespace Lrn

noncomputable def rangeD (lo : Int) (k : Nat) : List D := (List.range k).map fun (i : Nat) => D.int (lo + (i : Int))
theorem rangeD_zero (lo : Int) : rangeD lo 0 = [] := rfl
theorem rangeD_succ (lo : Int) (k : Nat) : rangeD lo (k + 1) = .int lo :: rangeD (lo + 1) k := by
  unfold rangeD
  rw [List.range_succ_eq_map, List.map_cons, List.map_map]
  have e0 : D.int (lo + ((0 : Nat) : Int)) = D.int lo := by simp
  rw [e0]
  refine congrArg (D.int lo :: ·) (List.map_congr_left fun i u0 => ?_)
  show D.int (lo + ((i + 1 : Nat) : Int)) = D.int (lo + 1 + (i : Int))
  congr 1; push_cast; walk_at "o"

inductive ItAt (G : Gh) (st : St) (h : Heap) (r : Addr) : List D → Option Addr → Prop
  | list {l : Addr} {i : Nat} {vs : List Value} {n : Nat} {ds : List D} : h.IsListIter r l i → G l = some (true, seqO "list" vs n) → RepDs G (vs.drop i) ds → ItAt G st h r ds none
  | mlist {l : Addr} {i : Nat} {ds : List D} : h.IsListIter r l i → st l = some (.lst ds) → ItAt G st h r (ds.drop i) (some l)
  | tup {l : Addr} {i : Nat} {vs : List Value} {n : Nat} {ds : List D} : h.IsTupleIter r l i → G l = some (true, seqO "tuple" vs n) → RepDs G (vs.drop i) ds → ItAt G st h r ds none
  | rng {x : Int} {left : Nat} : IsRangeIter h r x left 1 → ItAt G st h r (rangeD x left) none
  | dictT {d : Addr} {i ep : Nat} {es : List (List Atom × D)} : IsDIter "dict_keyiterator" h r d i es.length ep → st d = some (.dT ep es) → ItAt G st h r ((es.map fun e => keyD e.1).drop i) (some d)
  | dictI {d : Addr} {i ep : Nat} {es : List (Int × D)} : IsDIter "dict_keyiterator" h r d i es.length ep → st d = some (.dI ep es) → ItAt G st h r ((es.map fun e => D.int e.1).drop i) (some d)
  | valsT {d : Addr} {i ep : Nat} {es : List (List Atom × D)} : IsDIter "dict_valueiterator" h r d i es.length ep → st d = some (.dT ep es) → ItAt G st h r ((es.map fun e => e.2).drop i) (some d)

theorem RepI.length {G : Gh} {ents : List DictEntry} {es : List (Int × D)} (r : RepI G ents es) : ents.length = es.length := by
  induction r with
  | nil => rfl
  | cons _ _ ih => simp [ih]
theorem RepT.length {w : World} {G : Gh} {ents : List DictEntry} {es : List (List Atom × D)} (r : RepT w G ents es) : ents.length = es.length := by
  induction r with
  | nil => rfl
  | cons _ _ _ ih => simp [ih]
theorem RepI.keys {G : Gh} {ents : List DictEntry} {es : List (Int × D)} (r : RepI G ents es) : RepDs G (ents.map (·.key)) (es.map fun e => D.int e.1) := by
  induction r with
  | nil => exact .nil
  | cons _ _ ih => exact .cons (.int _ _) ih
theorem RepT.keys {w : World} {G : Gh} {ents : List DictEntry} {es : List (List Atom × D)} (r : RepT w G ents es) : RepDs G (ents.map (·.key)) (es.map fun e => keyD e.1) := by
  induction r with
  | nil => exact .nil
  | cons a _ _ ih => exact .cons a ih
theorem RepT.vals {w : World} {G : Gh} {ents : List DictEntry} {es : List (List Atom × D)} (r : RepT w G ents es) : RepDs G (ents.map (·.val)) (es.map fun e => e.2) := by
  induction r with
  | nil => exact .nil
  | cons _ a _ ih => exact .cons a ih

section
variable {c : Ctx} {n : Nat} {env : Env} {ρ : Loc} {G : Gh} {st : St} {s : Shared} {A : Around}

theorem ItAt.mono {G' : Gh} {st' : St} {h h' : Heap} {r : Addr} {xs : List D} {src : Option Addr} (I : ItAt G st h r xs src) (l : G.le G') (hr : h'.get? r = h.get? r) (hs : ∀ a, src = some a → st' a = st a) : ItAt G' st' h' r xs src := by
  cases I with
  | list hi e q => obtain ⟨o, ho, x⟩ := hi; exact .list ⟨o, hr.trans ho, x⟩ (l _ _ e) (q.mono l.seq)
  | mlist hi e => obtain ⟨o, ho, x⟩ := hi; exact .mlist ⟨o, hr.trans ho, x⟩ ((hs _ rfl).trans e)
  | tup hi e q => obtain ⟨o, ho, x⟩ := hi; exact .tup ⟨o, hr.trans ho, x⟩ (l _ _ e) (q.mono l.seq)
  | rng hi => exact .rng (hr.trans hi)
  | dictT hi e => obtain ⟨o, ho, x⟩ := hi; exact .dictT ⟨o, hr.trans ho, x⟩ ((hs _ rfl).trans e)
  | dictI hi e => obtain ⟨o, ho, x⟩ := hi; exact .dictI ⟨o, hr.trans ho, x⟩ ((hs _ rfl).trans e)
  | valsT hi e => obtain ⟨o, ho, x⟩ := hi; exact .valsT ⟨o, hr.trans ho, x⟩ ((hs _ rfl).trans e)

theorem RepDs.drop_cons {vs : List Value} {i : Nat} {x : D} {xs : List D} (r : RepDs G (vs.drop i) (x :: xs)) : ∃ v, vs[i]? = some v ∧ RepD G v x ∧ RepDs G (vs.drop (i + 1)) xs := by
  cases e : vs.drop i with
  | nil => rw [e] at r; cases r
  | cons v ws =>
    rw [e] at r
    cases r with
    | cons a r =>
      refine ⟨v, ?_, a, ?_⟩
      · have : (vs.drop i)[0]? = some v := by rw [e]; rfl
        simpa using this
      · have : vs.drop (i + 1) = ws := by rw [show i + 1 = 1 + i from Nat.add_comm ..]; rw [Nat.add_comm, ← List.drop_drop, e]; rfl
        rw [this]; exact r
theorem RepDs.drop_nil {vs : List Value} {i : Nat} (r : RepDs G (vs.drop i) []) : vs[i]? = none := by
  cases e : vs.drop i with
  | nil =>
    have : vs.length ≤ i := List.drop_eq_nil_iff.mp e
    simp [this]
  | cons v ws => rw [e] at r; cases r
theorem RepDs.drop {vs : List Value} {xs : List D} : ∀ (i : Nat), RepDs G vs xs → RepDs G (vs.drop i) (xs.drop i)
  | 0, r => by simpa using r
  | i + 1, .nil => by simpa using RepDs.nil
  | i + 1, .cons _ r => by simpa using RepDs.drop i r
theorem arr_get {vs : List Value} (i : Nat) : vs.toArray[i]? = vs[i]? := by simp

theorem it_next {r : Addr} {x : D} {xs : List D} {src : Option Addr} (I : ItAt G st s.heap r (x :: xs) src) (C : Conc c G st s) (ow : Own G st r) (hr : ∀ a, src = some a → a ≠ r) (hh : A.handled = none) {Q : Option Value → Shared → Prop}
    (h : ∀ v h' t, RepD G v x → ItAt G st h' r xs src → (∀ b o, b ≠ r → s.heap.get? b = some o → h'.get? b = some o) → Q (some v) { s with heap := h', toks := t }) {E : Value → Shared → Prop} :
    wpAny (model c.prog c.w) A (pyNext (.ref r)) Q E s := by
  generalize hx : x :: xs = ys at I
  cases I with
  | list hi e q =>
    subst hx
    refine ex1_3 q.drop_cons fun v hv a b => ?_
    exact wpAny_pyNext_list_item hi ⟨_, C.fz _ _ e, rfl, _, rfl⟩ (by rw [arr_get]; exact hv) fun h' hi' hs => h v h' s.toks a (.list hi' e b) hs.extBut
  | @mlist l i ds hi e =>
    refine ex2_2 (C.own _ _ e) fun vs nn ho q => ?_
    have q2 : RepDs G (vs.drop i) (x :: xs) := hx ▸ q.drop i
    refine ex1_3 q2.drop_cons fun v hv a b => ?_
    have hxs : xs = ds.drop (i + 1) := by rw [show i + 1 = i + 1 from rfl, ← List.drop_drop, ← hx]; rfl
    exact wpAny_pyNext_list_item hi ⟨_, ho, rfl, _, rfl⟩ (by rw [arr_get]; exact hv) fun h' hi' hs => h v h' s.toks a (by rw [hxs]; exact .mlist hi' e) hs.extBut
  | tup hi e q =>
    subst hx
    refine ex1_3 q.drop_cons fun v hv a b => ?_
    exact wpAny_pyNext_tuple_item hi ⟨_, C.fz _ _ e, rfl, _, rfl⟩ (by rw [arr_get]; exact hv) fun h' hi' hs => h v h' s.toks a (.tup hi' e b) hs.extBut
  | @rng y left hi =>
    cases left with
    | zero => rw [rangeD_zero] at hx; cases hx
    | succ k =>
      rw [rangeD_succ] at hx
      cases hx
      exact wpAny_pyNext_range_item hi (by walk_at "o") fun h' hi' hs => h _ h' _ (.int _ _) (.rng (by simpa using hi')) hs.extBut
  | @dictT d i ep es hi e =>
    refine ex1_3 (C.own _ _ e) fun ents ho q u0 => ?_
    have hl := q.length
    have q2 : RepDs G ((ents.map (·.key)).drop i) (x :: xs) := hx ▸ q.keys.drop i
    refine ex1_3 q2.drop_cons fun v hv a b => ?_
    have hxs : xs = (es.map fun e => keyD e.1).drop (i + 1) := by rw [← List.drop_drop, ← hx]; rfl
    rw [← hl] at hi
    refine raw_keyiter_head hi ho (fun en he h' hi' hs => ?_) (fun hn => by rw [List.getElem?_map, hn] at hv; cases hv) hh
    rw [List.getElem?_map, he] at hv; cases hv
    exact h _ h' s.toks a (by rw [hxs]; exact .dictT (hl ▸ hi') e) hs.extBut
  | @dictI d i ep es hi e =>
    refine ex1_3 (C.own _ _ e) fun ents ho q u0 => ?_
    have hl := q.length
    have q2 : RepDs G ((ents.map (·.key)).drop i) (x :: xs) := hx ▸ q.keys.drop i
    refine ex1_3 q2.drop_cons fun v hv a b => ?_
    have hxs : xs = (es.map fun e => D.int e.1).drop (i + 1) := by rw [← List.drop_drop, ← hx]; rfl
    rw [← hl] at hi
    refine raw_keyiter_head hi ho (fun en he h' hi' hs => ?_) (fun hn => by rw [List.getElem?_map, hn] at hv; cases hv) hh
    rw [List.getElem?_map, he] at hv; cases hv
    exact h _ h' s.toks a (by rw [hxs]; exact .dictI (hl ▸ hi') e) hs.extBut
  | @valsT d i ep es hi e =>
    refine ex1_3 (C.own _ _ e) fun ents ho q u0 => ?_
    have hl := q.length
    have q2 : RepDs G ((ents.map (·.val)).drop i) (x :: xs) := hx ▸ q.vals.drop i
    refine ex1_3 q2.drop_cons fun v hv a b => ?_
    have hxs : xs = (es.map fun e => e.2).drop (i + 1) := by rw [← List.drop_drop, ← hx]; rfl
    rw [← hl] at hi
    refine raw_valiter_head hi ho (fun en he h' hi' hs => ?_) (fun hn => by rw [List.getElem?_map, hn] at hv; cases hv) hh
    rw [List.getElem?_map, he] at hv; cases hv
    exact h _ h' s.toks a (by rw [hxs]; exact .valsT (hl ▸ hi') e) hs.extBut
theorem it_end {r : Addr} {src : Option Addr} (I : ItAt G st s.heap r [] src) (C : Conc c G st s) (hh : A.handled = none) {Q : Option Value → Shared → Prop}
    (h : ∀ h', (∀ b o, b ≠ r → s.heap.get? b = some o → h'.get? b = some o) → Q none { s with heap := h' }) {E : Value → Shared → Prop} :
    wpAny (model c.prog c.w) A (pyNext (.ref r)) Q E s := by
  generalize hx : ([] : List D) = ys at I
  cases I with
  | list hi e q => subst hx; exact wpAny_pyNext_list_end hh hi ⟨_, C.fz _ _ e, rfl, _, rfl⟩ (by rw [arr_get]; exact q.drop_nil) fun h' hs => h h' hs
  | @mlist l i ds hi e =>
    refine ex2_2 (C.own _ _ e) fun vs nn ho q => ?_
    have q2 : RepDs G (vs.drop i) [] := hx ▸ q.drop i
    exact wpAny_pyNext_list_end hh hi ⟨_, ho, rfl, _, rfl⟩ (by rw [arr_get]; exact q2.drop_nil) fun h' hs => h h' hs
  | tup hi e q => subst hx; exact wpAny_pyNext_tuple_end hh hi ⟨_, C.fz _ _ e, rfl, _, rfl⟩ (by rw [arr_get]; exact q.drop_nil) fun h' hs => h h' hs
  | @rng y left hi =>
    cases left with
    | zero => exact wpAny_pyNext_range_end hh hi (by walk_at "o") fun h' hs => h h' hs
    | succ k => rw [rangeD_succ] at hx; cases hx
  | @dictT d i ep es hi e =>
    refine ex1_3 (C.own _ _ e) fun ents ho q u0 => ?_
    have q2 : RepDs G ((ents.map (·.key)).drop i) [] := hx ▸ q.keys.drop i
    have hv := q2.drop_nil
    rw [← q.length] at hi
    exact raw_keyiter_head hi ho (fun en he => by rw [List.getElem?_map, he] at hv; cases hv) (fun u0 h' hs => h h' hs) hh
  | @dictI d i ep es hi e =>
    refine ex1_3 (C.own _ _ e) fun ents ho q u0 => ?_
    have q2 : RepDs G ((ents.map (·.key)).drop i) [] := hx ▸ q.keys.drop i
    have hv := q2.drop_nil
    rw [← q.length] at hi
    exact raw_keyiter_head hi ho (fun en he => by rw [List.getElem?_map, he] at hv; cases hv) (fun u0 h' hs => h h' hs) hh
  | @valsT d i ep es hi e =>
    refine ex1_3 (C.own _ _ e) fun ents ho q u0 => ?_
    have q2 : RepDs G ((ents.map (·.val)).drop i) [] := hx ▸ q.vals.drop i
    have hv := q2.drop_nil
    rw [← q.length] at hi
    exact raw_valiter_head hi ho (fun en he => by rw [List.getElem?_map, he] at hv; cases hv) (fun u0 h' hs => h h' hs) hh

theorem letOwned_it {r : Addr} {o : Obj} {t : Expr} {v : Value} {Q : Unit → Shared → Prop} {E : Value → Shared → Prop} (ho : s.heap.get? r = some o) (hc : ∃ cl vs, o.cls = .type cl ∧ o.data = .fields vs ∧ ["enumerate", "zip", "dict_itemiterator", "dict_reverseitemiterator", "odict_iterator", "itertools.zip_longest", "itertools.pairwise"].contains cl = false) (h : Q () s) :
    wpAny (model c.prog c.w) A (letOwnedTupleGo t (.ref r) v) Q E s := by
  refine ex2_3 hc fun cl vs h1 h2 h3 => ?_
  unfold letOwnedTupleGo
  split
  · cases v with
    | ref a =>
      refine wpAny_bind (wpAny_load ho ?_)
      rw [h1, h2]
      simp only [h3, Bool.false_and, Bool.false_eq_true, if_false]
      exact wpAny_pure h
    | _ => exact wpAny_pure h
  · cases v with
    | ref a =>
      refine wpAny_bind (wpAny_load ho ?_)
      rw [h1, h2]
      simp only [h3, Bool.false_and, Bool.false_eq_true, if_false]
      exact wpAny_pure h
    | _ => exact wpAny_pure h
  · exact wpAny_pure h
theorem ItAt.cls {h : Heap} {r : Addr} {xs : List D} {src : Option Addr} (I : ItAt G st h r xs src) : ∃ o, h.get? r = some o ∧ ∃ cl vs, o.cls = .type cl ∧ o.data = .fields vs ∧ ["enumerate", "zip", "dict_itemiterator", "dict_reverseitemiterator", "odict_iterator", "itertools.zip_longest", "itertools.pairwise"].contains cl = false := by
  cases I with
  | list hi _ _ => obtain ⟨o, ho, hc, hd⟩ := hi; exact ⟨o, ho, _, _, hc, hd, by decide⟩
  | mlist hi _ => obtain ⟨o, ho, hc, hd⟩ := hi; exact ⟨o, ho, _, _, hc, hd, by decide⟩
  | tup hi _ _ => obtain ⟨o, ho, hc, hd⟩ := hi; exact ⟨o, ho, _, _, hc, hd, by decide⟩
  | rng hi => exact ⟨_, hi, _, _, rfl, rfl, by decide⟩
  | dictT hi _ => obtain ⟨o, ho, hc, hd⟩ := hi; exact ⟨o, ho, _, _, hc, hd, by decide⟩
  | dictI hi _ => obtain ⟨o, ho, hc, hd⟩ := hi; exact ⟨o, ho, _, _, hc, hd, by decide⟩
  | valsT hi _ => obtain ⟨o, ho, hc, hd⟩ := hi; exact ⟨o, ho, _, _, hc, hd, by decide⟩

theorem for_turn {prog : Program} {w : World} {A : Around} {R : Result → Shared → Prop} {s : Shared} {target it body orelse env}
    (h : wpAny (model prog w) A (pyNext it) (fun r s₁ => match r with
      | none => wpAny (model prog w) A (execs orelse env) (fun f s₃ => R (.ok f) s₃) (fun u0 u1 => False) s₁
      | some v => wpAny (model prog w) A (letOwnedTupleGo target it v) (fun u0 s₂ => wpAny (model prog w) A (assign target env v) (fun u0 s₂ => wpAny (model prog w) A (execs body env) (fun f s₃ => match f with
          | .next | .cont => codeAny (model prog w) A (.forLoop target it body orelse env) R s₃
          | .brk => R (.ok .next) s₃
          | .ret v => R (.ok (.ret v)) s₃) (fun u0 u1 => False) s₂) (fun u0 u1 => False) s₂) (fun u0 u1 => False) s₁) (fun u0 u1 => False) s) :
    codeAny (model prog w) A (.forLoop target it body orelse env) R s := by
  refine codeAny_of_tree ?_
  show wpAny _ _ ((forTurn target it body orelse env).onRaise (fun x => do noteFrame x env; theTreesLotGoes x)) _ _ s
  refine wpAny_noted ?_
  simp only [forTurn]
  refine wpAny_bind (wpAny_standAt (wpAny_bind (wpAny_onRaise (wpAny_mono h (fun r s₁ h₁ => ?_) fun u0 u1 q => q.elim))))
  cases r with
  | none => exact wpAny_pure ⟨rfl, codeAny_block (wpAny_mono h₁ (fun u0 u1 q => q) fun u0 u1 q => q.elim)⟩
  | some v =>
    refine wpAny_bind (wpAny_mono h₁ (fun u0 s₁' h₁' => wpAny_bind (wpAny_mono h₁' (fun u0 s₂ h₂ => wpAny_bind (wpAny_mono h₂ (fun f s₃ h₃ => ?_) fun u0 u1 q => q.elim)) fun u0 u1 q => q.elim)) fun u0 u1 q => q.elim)
    cases f with
    | next => exact wpAny_pure ⟨rfl, h₃⟩
    | cont => exact wpAny_pure ⟨rfl, h₃⟩
    | brk => exact wpAny_pure h₃
    | ret v => exact wpAny_pure h₃

noncomputable def AWF (c : Ctx) (n : Nat) (env : Env) (ρ : Loc) (st : St) (t : Expr) (b o : List Stmt) (xs : List D) (src : Option Addr) (K : Fl → Loc → St → Prop) : Prop :=
  ∀ A G s r, Room n A → Conc c G st s → FrameOK env ρ G st s.heap → Own G st r → ¬ own env r → (∀ x, env.cells.lookup x = some r → env.kindOf x ≠ some .free) → (∀ a, src = some a → a ≠ r) → ItAt G st s.heap r xs src →
    codeAny (model c.prog c.w) A (.forLoop t (.ref r) b o env) (fun res s' => match res with | .ok f => PostX c env G K f s' | .error _ => False) s
theorem AWF_nil {t : Expr} {b o : List Stmt} {src : Option Addr} {K : Fl → Loc → St → Prop} (h : AWX c n env ρ st o K) : AWF c n env ρ st t b o [] src K := fun A G s r R C F ow na nf sr I =>
  for_turn (it_end I C R.handled fun h' hk => wpAny_mono (h A G _ R (C.butA ow hk s.toks) (F.butA na ow hk)) (fun u0 u1 q => q) fun u0 u1 q => q)
theorem AWF_cons {t : Expr} {b o : List Stmt} {x : D} {xs : List D} {src : Option Addr} {K : Fl → Loc → St → Prop}
    (h : AWA c n env ρ st t (.d x) fun ρ1 st1 => AWX c n env ρ1 st1 b (turnK (fun ρ2 st2 => (∀ a, src = some a → st2 a = st a) ∧ AWF c n env ρ2 st2 t b o xs src K) K)) : AWF c n env ρ st t b o (x :: xs) src K := fun A G s r R C F ow na nf sr I => by
  refine for_turn (it_next I C ow sr R.handled fun v h' tk rv I' hk => ?_)
  have C1 := C.butA ow hk tk
  have F1 := F.butA na ow hk
  refine ex1_2 I'.cls fun o ho hc => ?_
  refine letOwned_it (s := { s with heap := h', toks := tk }) ho hc ?_
  have ho' := ho
  refine ex1_5 (lock (s := { s with heap := h', toks := tk }) C1 ow ho') fun G1 l1 C1' Fl1 u0 back => ?_
  refine wpAny_mono (h A G1 _ v R C1' (Fl1 _ _ F1 na) (.d (rv.mono l1.seq))) (fun u0 s2 hq => e34 hq fun G2 st2 ρ2 l2 C2 F2 k2 => ?_) fun u0 u1 q => q
  refine wpAny_mono (k2 A G2 s2 R C2 F2) (fun f s3 hq => e45 hq fun G3 st3 ρ3 pf l3 C3 F3 rf k3 => ?_) fun u0 u1 q => q
  obtain ⟨hr3, G4, l4, C4, ow4, sq4, _, Fb⟩ := back G3 st3 s3 (l2.trans l3) C3
  have F4 := Fb _ _ F3 na nf
  have again : (∀ a, src = some a → st3 a = st a) ∧ AWF c n env ρ3 st3 t b ‹_› xs src K → codeAny (model c.prog c.w) A (.forLoop t (.ref r) b ‹_› env) (fun res s' => match res with | .ok f => PostX c env G K f s' | .error _ => False) s3 := fun ⟨q1, q2⟩ =>
    codeAny_mono (q2 A G4 s3 r R C4 F4 ow4 na nf sr (I'.mono l4 (hr3.trans ho'.symm) q1)) fun res s4 q => match res, q with
      | .ok _, q => q.le l4
      | .error _, q => q.elim
  cases rf with
  | next => exact again k3
  | cont => exact again k3
  | brk => exact ⟨G4, st3, ρ3, .next, l4, C4, F4, .next, k3⟩
  | ret q => exact ⟨G4, st3, ρ3, _, l4, C4, F4, .ret (q.mono sq4), k3⟩

noncomputable def OpI (c : Ctx) (n : Nat) (v : V) (st : St) (K : List D → Option Addr → Prop) : Prop :=
  ∀ A G s a, Room n A → Conc c G st s → Rep G a v → ∀ Q : Value → Shared → Prop, (∀ h' xs src, K xs src → (∀ b o, b ≠ s.heap.objs.size → s.heap.get? b = some o → h'.get? b = some o) → ItAt G st h' s.heap.objs.size xs src → (∀ b, src = some b → b ≠ s.heap.objs.size) → Q (.ref s.heap.objs.size) { s with heap := h' }) →
    wpAny (model c.prog c.w) A (pyIter a) Q (fun u0 u1 => False) s
theorem OpI_tup {xs : List D} {K : List D → Option Addr → Prop} (h : K xs none) : OpI c n (.d (.tup xs)) st K := fun A G s a R C r Q hQ => by
  cases r with | d r => cases r with | tup e rs =>
    refine wpAny_pyIter_tuple ⟨_, C.fz _ _ e, rfl, _, rfl⟩ (hQ _ _ _ h (fun b o hb e => Heap.get?_push_of_some _ e) ?_ (by simp))
    exact .tup (i := 0) ⟨_, Heap.get?_push_size _ rfl, rfl, rfl⟩ e (by simpa using rs)
theorem OpI_lst {xs : List D} {K : List D → Option Addr → Prop} (h : K xs none) : OpI c n (.d (.lst xs)) st K := fun A G s a R C r Q hQ => by
  cases r with | d r => cases r with | lst e rs =>
    refine wpAny_pyIter_list ⟨_, C.fz _ _ e, rfl, _, rfl⟩ (hQ _ _ _ h (fun b o hb e => Heap.get?_push_of_some _ e) ?_ (by simp))
    exact .list (i := 0) ⟨_, Heap.get?_push_size _ rfl, rfl, rfl⟩ e (by simpa using rs)
theorem OpI_mlst {a : Addr} {xs : List D} {K : List D → Option Addr → Prop} (hs : st a = some (.lst xs)) (h : K xs (some a)) : OpI c n (.o a) st K := fun A G s v R C r Q hQ => by
  cases r with | o a =>
    refine ex2_2 (C.own _ _ hs) fun vs nn ho q => ?_
    refine wpAny_pyIter_list ⟨_, ho, rfl, _, rfl⟩ (hQ _ _ _ h (fun b o hb e => Heap.get?_push_of_some _ e) ?_ (by rintro b hb; cases hb; exact Nat.ne_of_lt (Heap.lt_size ho)))
    simpa using ItAt.mlist (i := 0) (h := s.heap.push _) (r := s.heap.objs.size) ⟨_, Heap.get?_push_size _ rfl, rfl, rfl⟩ hs
theorem OpI_rng {lo hi : Int} {K : List D → Option Addr → Prop} (hsm : Builtin.Range.small lo hi 1 = true) (h : K (rangeD lo (hi - lo).toNat) none) : OpI c n (.d (.rng lo hi)) st K := fun A G s a R C r Q hQ => by
  cases r with | d r => cases r with | rng e =>
    refine wpAny_pyIter_range (C.fz _ _ e) hsm (hQ _ _ _ h (fun b o hb e => Heap.get?_push_of_some _ e) ?_ (by simp))
    have e2 : Builtin.Range.rangeSize lo hi 1 = (((hi - lo).toNat : Nat) : Int) := by
      unfold Builtin.Range.rangeSize; simp; walk_at "o"
    refine .rng ?_
    rw [← e2]
    exact Heap.get?_push_size _ rfl

theorem AWS_For {t iter : Expr} {b o : List Stmt} {pos : Pos} {K : Fl → Loc → St → Prop} (h : AWE c n env ρ st iter fun v st1 => OpI c n v st1 fun xs src => AWF c n env ρ st1 t b o xs src K)
    (hs : ∀ x, foldedSetIterable iter env x = pure x := by intro _; rfl) : AWS c n env ρ st (.For t iter b o pos) K := fun A G s R C F =>
  wpAny_For (AWE.then h R C F fun v s1 G1 st1 x l1 C1 F1 r1 k1 => k1 A G1 s1 v R C1 r1 _ fun h' xs src q hk I hsrc => by
    have C2 := C1.grow (h' := h') hk s1.toks
    have F2 := F1.grow C1 hk
    have nf : ∀ x, env.cells.lookup x = some s1.heap.objs.size → env.kindOf x ≠ some .free := fun x hx hk => by
      refine ex1_1 (F1.cfree x _ hx hk) fun o ho => ?_
      rw [C1.fresh] at ho; cases ho
    exact codeAny_mono (q A G1 { s1 with heap := h' } _ R C2 F2 C1.freshOwn F1.fresh nf hsrc I) fun res s4 q => match res, q with
      | .ok _, q => q.le l1
      | .error _, q => q.elim) hs
end
end Lrn
end
section
open PySem PySem.W PyProof.Rows
set_option maxRecDepth 100000
set_option linter.unusedVariables false
namespace Lrn

theorem tests_le1 {prog : Program} {w : World} {A : Around} {env : Env} {ifs : List Expr} {Q : Bool → Shared → Prop} {E : Value → Shared → Prop} {s : Shared} (hi : ifs = [] ∨ ∃ c, ifs = [c])
    (h : (ifs = [] → Q true s) ∧ ∀ c, ifs = [c] → wpAny (model prog w) A (isTrue c env (eval c env)) Q E s) :
    wpAny (model prog w) A (forIn ifs true fun c r => if r = true then do let ok ← isTrue c env (eval c env); pure (ForInStep.yield ok) else pure (ForInStep.yield r)) Q E s := by
  rcases hi with rfl | ⟨c, rfl⟩
  · exact wpAny_tests_nil (h.1 rfl)
  · exact wpAny_tests_one (h.2 c rfl)

theorem comp_turn {prog : Program} {w : World} {A : Around} {R : Result → Shared → Prop} {s : Shared} {elt : Expr} {gens : List Comprehension} {scope : Scope} {pos : Pos} {d : Nat} {it acc : Value} {env : Env} {t iter : Expr} {ifs : List Expr}
    (hg : gens[d]? = some ⟨t, iter, ifs, 0⟩)
    (h : wpAny (model prog w) A (pyNext it) (fun r s₁ => match r with
      | none => R (.ok .next) s₁
      | some v => wpAny (model prog w) A (letOwnedTupleGo t it v) (fun u0 s₂ => wpAny (model prog w) A (assign t env v) (fun u0 s₂ =>
          wpAny (model prog w) A (forIn ifs true fun c r => if r = true then do let ok ← isTrue c env (eval c env); pure (ForInStep.yield ok) else pure (ForInStep.yield r)) (fun ok s₃ =>
            if ok = true then (match gens[d + 1]? with
              | some g' => wpAny (model prog w) A (eval g'.iter env) (fun x s₄ => (∀ y, foldedSetIterable g'.iter env y = pure y) ∧ g'.is_async = 0 ∧ wpAny (model prog w) A (pyIter x) (fun it' s₅ =>
                  codeAny (model prog w) A (.compStart (.ListComp elt gens scope pos) (d + 1) it' acc env) (fun r s₆ => match r with | .ok _ => codeAny (model prog w) A (.compLoop (.ListComp elt gens scope pos) d it acc env) R s₆ | .error _ => False) s₅) (fun u0 u1 => False) s₄) (fun u0 u1 => False) s₃
              | none => wpAny (model prog w) A (eval elt env) (fun x s₄ => wpAny (model prog w) A (call (.builtin "list.append") [acc, x]) (fun u0 s₅ => codeAny (model prog w) A (.compLoop (.ListComp elt gens scope pos) d it acc env) R s₅) (fun u0 u1 => False) s₄) (fun u0 u1 => False) s₃)
            else codeAny (model prog w) A (.compLoop (.ListComp elt gens scope pos) d it acc env) R s₃) (fun u0 u1 => False) s₂) (fun u0 u1 => False) s₂) (fun u0 u1 => False) s₁) (fun u0 u1 => False) s) :
    codeAny (model prog w) A (.compLoop (.ListComp elt gens scope pos) d it acc env) R s := by
  refine codeAny_of_tree ?_
  show wpAny _ A ((compTurn (.ListComp elt gens scope pos) d it acc env).onRaise (fun x => do noteFrame x env; theTreesLotGoes x)) _ _ s
  refine wpAny_noted ?_
  unfold compTurn
  simp only [hg]
  refine wpAny_bind (wpAny_standAt (wpAny_bind (wpAny_mono h (fun r s₁ h₁ => ?_) fun u0 u1 q => q.elim)))
  cases r with
  | none => exact wpAny_pure h₁
  | some v =>
    refine wpAny_bind (wpAny_mono h₁ (fun u0 s₂ h₂ => wpAny_bind (wpAny_mono h₂ (fun u0 s₃ h₃ => wpAny_bind (wpAny_mono h₃ (fun ok s₄ h₄ => ?_) fun u0 u1 q => q.elim)) fun u0 u1 q => q.elim)) fun u0 u1 q => q.elim)
    cases ok with
    | false => exact wpAny_pure ⟨rfl, h₄⟩
    | true =>
      rw [if_pos rfl] at h₄ ⊢
      cases hg' : gens[d + 1]? with
      | none =>
        rw [hg'] at h₄
        refine wpAny_bind (wpAny_bind (wpAny_mono h₄ (fun x s₅ h₅ => wpAny_bind (wpAny_mono h₅ (fun u0 s₆ h₆ => wpAny_pure (wpAny_pure ⟨rfl, h₆⟩)) fun u0 u1 q => q.elim)) fun u0 u1 q => q.elim))
      | some g' =>
        rw [hg'] at h₄
        refine wpAny_bind (wpAny_mono h₄ (fun x s₅ ⟨hf, ha, h₅⟩ => wpAny_bind (wpAny_standAt ?_)) fun u0 u1 q => q.elim)
        simp only [ha, bne_self_eq_false, Bool.false_eq_true, if_false]
        refine wpAny_bind (wpAny_of_eq (hf x) ?_)
        refine wpAny_bind (wpAny_holding (wpAny_mono h₅ (fun it' s₆ h₆ => wpAny_bind (wpAny_runOwn (codeAny_mono (show codeAny (model prog w) (A.mark none) _ _ s₆ from h₆) fun r s₇ h₇ => ?_))) fun u0 u1 q => q.elim))
        cases r with
        | ok f => exact wpAny_pure ⟨rfl, h₇⟩
        | error e => exact h₇.elim

theorem comp_start {prog : Program} {w : World} {A : Around} {R : Result → Shared → Prop} {s : Shared} {elt : Expr} {gens : List Comprehension} {scope : Scope} {pos : Pos} {d : Nat} {it acc : Value} {env : Env} {t iter : Expr} {ifs : List Expr}
    (hg : gens[d]? = some ⟨t, iter, ifs, 0⟩) (hi : ∀ Q : Value → Shared → Prop, Q it s → wpAny (model prog w) A (pyIter it) Q (fun u0 u1 => False) s)
    (h : codeAny (model prog w) A (.compLoop (.ListComp elt gens scope pos) d it acc env) R s) : codeAny (model prog w) A (.compStart (.ListComp elt gens scope pos) d it acc env) R s := by
  refine codeAny_of_tree ?_
  show wpAny _ _ ((compStart (.ListComp elt gens scope pos) d it acc env).onRaise (fun x => do noteFrame x env; standAt theWindowsPlace)) _ _ s
  refine wpAny_notedAt ?_
  unfold compStart
  have hc : (clausesOf (.ListComp elt gens scope pos))[d]? = some ⟨t, iter, ifs, 0⟩ := hg
  simp only [hc]
  refine wpAny_bind (wpAny_askSetting (wpAny_ite ?_))
  split
  · first
      | exact wpAny_bind (wpAny_pure (wpAny_pure (And.intro rfl h)))
      | exact wpAny_pure (And.intro rfl h)
  · refine wpAny_bind (wpAny_rule (wpAny_bind (wpAny_standAt (wpAny_bind (wpAny_mono (hi (fun v s' => v = it ∧ s' = s) ⟨rfl, rfl⟩) (fun it' s' h' => ?_) fun u0 u1 q => q.elim)))))
    refine ex0_2 h' fun hr1 hr2 => ?_; subst hr1; subst hr2
    exact wpAny_pure ⟨rfl, h⟩
end Lrn
end
section
open PySem PySem.W PyProof.Rows
set_option maxRecDepth 100000
set_option linter.unusedVariables false
namespace Lrn

section
variable {c : Ctx} {n : Nat} {env : Env} {ρ : Loc} {G : Gh} {st : St} {s : Shared} {A : Around}

theorem append_ex {acc : Addr} {vs : List Value} {m : Nat} {x : Value} {Q : Value → Shared → Prop} {E : Value → Shared → Prop} (ho : s.heap.get? acc = some (seqO "list" vs m)) (hsz : vs.length ≤ 1000)
    (h : ∀ h', h'.get? acc = some (seqO "list" (vs ++ [x]) (m + 1)) → Heap.SameBut acc s.heap h' → Q .none { s with heap := h' }) :
    wpAny (model c.prog c.w) A (call (.builtin "list.append") [.ref acc, x]) Q E s := by
  have hl : s.heap.IsList acc vs.toArray := ⟨_, ho, rfl, m, rfl⟩
  refine wpAny_call_entry slot_list_append hl.typeIs entry_list_append ?_ (args_list_append _ _)
  show wpAny _ _ (updateSeq acc (·.push x) >>= fun u0 => ret .none) _ _ s
  refine wpAny_bind (wpAny_updateSeq ho rfl (wpAny_pure ⟨.none, rfl, h _ ?_ (Heap.SameBut.update ..)⟩) (by rw [List.size_toArray, sizeLine_eq]; walk_at "o") (by rw [Array.size_push, List.size_toArray, sizeLine_eq]; walk_at "o"))
  have e : Obj.mapSeq (·.push x) (seqO "list" vs m) = seqO "list" (vs ++ [x]) (m + 1) := by
    simp [Obj.mapSeq, seqO]
  rw [← e]
  exact Heap.get?_update_self _ ho (by rw [e]; rfl)

structure Off (env : Env) (a : Addr) : Prop where
  own : ¬ own env a
  free : ∀ x, env.cells.lookup x = some a → env.kindOf x ≠ some .free

structure CompAt (c : Ctx) (env : Env) (ρ : Loc) (G : Gh) (st : St) (s : Shared) (r acc : Addr) (xs : List D) (src : Option Addr) (ds : List D) : Prop where
  C : Conc c G st s
  F : FrameOK env ρ G st s.heap
  or : Own G st r
  oa : Own G st acc
  ne : r ≠ acc
  fr : Off env r
  fa : Off env acc
  sr : ∀ a, src = some a → a ≠ r
  it : ItAt G st s.heap r xs src
  ac : ∃ vs m, s.heap.get? acc = some (seqO "list" vs m) ∧ RepDs G vs ds

structure CompEnd (c : Ctx) (env : Env) (G : Gh) (s : Shared) (acc : Addr) (K : Loc → St → List D → Prop) : Prop where
  out : ∃ G' st' ρ' ds, G.le G' ∧ Conc c G' st' s ∧ FrameOK env ρ' G' st' s.heap ∧ Own G' st' acc ∧ (∃ vs m, s.heap.get? acc = some (seqO "list" vs m) ∧ RepDs G' vs ds) ∧ K ρ' st' ds
theorem CompEnd.le {G' : Gh} {acc : Addr} {K : Loc → St → List D → Prop} (h : G.le G') (p : CompEnd c env G' s acc K) : CompEnd c env G s acc K :=
  ⟨ex4_2 p.1 fun G2 st' r' ds a r => ⟨G2, st', r', ds, h.trans a, r⟩⟩

noncomputable def AWG (c : Ctx) (n : Nat) (env : Env) (ρ : Loc) (st : St) (elt : Expr) (gens : List Comprehension) (scope : Scope) (pos : Pos) (d : Nat) (xs : List D) (src : Option Addr) (ds : List D) (K : Loc → St → List D → Prop) : Prop :=
  ∀ A G s r acc, Room n A → CompAt c env ρ G st s r acc xs src ds →
    codeAny (model c.prog c.w) A (.compLoop (.ListComp elt gens scope pos) d (.ref r) (.ref acc) env) (fun res s' => match res with | .ok _ => CompEnd c env G s' acc K | .error _ => False) s

theorem AWG_nil {elt : Expr} {gens : List Comprehension} {scope : Scope} {pos : Pos} {d : Nat} {t iter : Expr} {ifs : List Expr} {src : Option Addr} {ds : List D} {K : Loc → St → List D → Prop}
    (hg : gens[d]? = some ⟨t, iter, ifs, 0⟩) (h : K ρ st ds) : AWG c n env ρ st elt gens scope pos d [] src ds K := fun A G s r acc R P =>
  comp_turn hg (it_end P.it P.C R.handled fun h' hk => by
    refine ex2_2 P.ac fun vs m ho hr => ?_
    exact ⟨⟨G, st, ρ, ds, .refl _, P.C.butA P.or hk s.toks, P.F.butA P.fr.own P.or hk, P.oa, ⟨vs, m, hk _ _ (Ne.symm P.ne) ho, hr⟩, h⟩⟩)

theorem AWG_cons {elt : Expr} {gens : List Comprehension} {scope : Scope} {pos : Pos} {d : Nat} {t iter : Expr} {ifs : List Expr} {x : D} {xs : List D} {src : Option Addr} {ds : List D} {K : Loc → St → List D → Prop}
    (hg : gens[d]? = some ⟨t, iter, ifs, 0⟩) (hl : gens[d + 1]? = none) (hi : ifs = [] ∨ ∃ q, ifs = [q]) (hn : ds.length ≤ 999)
    (h : AWA c n env ρ st t (.d x) fun ρ1 st1 =>
      (ifs = [] → AWE c n env ρ1 st1 elt fun v st3 => ∃ y, v = .d y ∧ (∀ a, src = some a → st3 a = st a) ∧ AWG c n env ρ1 st3 elt gens scope pos d xs src (ds ++ [y]) K) ∧
      ∀ q, ifs = [q] → AWT c n env ρ1 st1 q fun b st2 => if b = true then AWE c n env ρ1 st2 elt fun v st3 => ∃ y, v = .d y ∧ (∀ a, src = some a → st3 a = st a) ∧ AWG c n env ρ1 st3 elt gens scope pos d xs src (ds ++ [y]) K
        else (∀ a, src = some a → st2 a = st a) ∧ AWG c n env ρ1 st2 elt gens scope pos d xs src ds K) :
    AWG c n env ρ st elt gens scope pos d (x :: xs) src ds K := fun A G s r acc R P => by
  refine comp_turn hg (it_next P.it P.C P.or P.sr R.handled fun v h' tk rv I' hk => ?_)
  have C1 := P.C.butA P.or hk tk
  have F1 := P.F.butA P.fr.own P.or hk
  refine ex1_2 I'.cls fun o ho hc => ?_
  refine letOwned_it (s := { s with heap := h', toks := tk }) ho hc ?_
  refine ex2_2 P.ac fun vs m hacc hvs => ?_
  have hacc' : h'.get? acc = some (seqO "list" vs m) := hk _ _ (Ne.symm P.ne) hacc
  refine ex1_5 (lock (s := { s with heap := h', toks := tk }) C1 P.or ho) fun G1 l1 C1' Fl1 eq1 back1 => ?_
  have oa1 : Own G1 st acc := ⟨by rw [eq1 _ (Ne.symm P.ne)]; exact P.oa.g, P.oa.st⟩
  refine ex1_5 (lock (s := { s with heap := h', toks := tk }) C1' oa1 hacc') fun G2 l2 C2' Fl2 eq2 back2 => ?_
  have F2 := Fl2 _ _ (Fl1 _ _ F1 P.fr.own) P.fa.own
  have le2 := l1.trans l2
  -- what is restored behind
  have restore : ∀ G' st' s' ρ', G2.le G' → Conc c G' st' s' → FrameOK env ρ' G' st' s'.heap → (∀ a, src = some a → st' a = st a) → s'.heap.get? r = some o ∧ s'.heap.get? acc = some (seqO "list" vs m) ∧
      ∃ G'', G.le G'' ∧ G'.seqLe G'' ∧ CompAt c env ρ' G'' st' s' r acc xs src ds := fun G' st' s' ρ' l' C' F' hs => by
    obtain ⟨ha, G4, l4, C4, o4, sq4, eq4, Fb4⟩ := back2 G' st' s' l' C'
    obtain ⟨hr, G5, l5, C5, o5, sq5, eq5, Fb5⟩ := back1 G4 st' s' l4 C4
    refine ⟨hr, ha, G5, l5, sq4.trans sq5, ⟨C5, Fb5 _ _ (Fb4 _ _ F' P.fa.own P.fa.free) P.fr.own P.fr.free, o5, ⟨by rw [eq5 _ (Ne.symm P.ne)]; exact o4.g, o4.st⟩, P.ne, P.fr, P.fa, P.sr, I'.mono l5 (hr.trans ho.symm) hs, ⟨vs, m, ha, hvs.mono l5.seq⟩⟩⟩
  have emit : ∀ G' st' s' ρ', G2.le G' → Conc c G' st' s' → FrameOK env ρ' G' st' s'.heap → (AWE c n env ρ' st' elt fun v st3 => ∃ y, v = .d y ∧ (∀ a, src = some a → st3 a = st a) ∧ AWG c n env ρ' st3 elt gens scope pos d xs src (ds ++ [y]) K) →
      wpAny (model c.prog c.w) A (eval elt env) (fun x s₄ => wpAny (model c.prog c.w) A (call (.builtin "list.append") [.ref acc, x]) (fun u0 s₅ => codeAny (model c.prog c.w) A (.compLoop (.ListComp elt gens scope pos) d (.ref r) (.ref acc) env) (fun res s' => match res with | .ok _ => CompEnd c env G s' acc K | .error _ => False) s₅) (fun u0 u1 => False) s₄) (fun u0 u1 => False) s' := fun G' st' s' ρ' l' C' F' k => by
    refine AWE.then k R C' F' fun v s3 G3 st3 y l3 C3 F3 r3 ⟨y', hy, hs, k3⟩ => ?_
    subst hy
    obtain ⟨hr, ha, G5, l5, sq5, P5⟩ := restore G3 st3 s3 ρ' (l'.trans l3) C3 F3 hs
    cases r3 with
    | d r3 =>
      refine append_ex ha (by rw [hvs.length]; walk_at "o") fun h6 ha6 hs6 => ?_
      have nr : ∀ b o, b ≠ acc → s3.heap.get? b = some o → h6.get? b = some o := fun b o hb e => (hs6.2 b hb).trans e
      refine codeAny_mono (k3 A G5 { s3 with heap := h6 } r acc R ⟨P5.C.butA P5.oa nr s3.toks, P5.F.butA P5.fa.own P5.oa nr, P5.or, P5.oa, P.ne, P.fr, P.fa, P.sr, P5.it.mono (.refl _) (hs6.2 r P.ne) (fun u0 u1 => rfl), ⟨_, _, ha6, (hvs.mono l5.seq).append (.cons (r3.mono sq5) .nil)⟩⟩) fun res s7 q => ?_
      match res, q with
      | .ok _, q => exact q.le l5
      | .error _, q => exact q.elim
  refine wpAny_mono (h A G2 _ v R C2' F2 (.d (rv.mono le2.seq))) (fun u0 s2 hq => e34 hq fun G3 st3 ρ3 l3 C3 F3 k3 => ?_) fun u0 u1 q => q
  refine tests_le1 hi ⟨fun he => ?_, fun q he => ?_⟩
  · rw [if_pos rfl]
    simp only [hl]
    exact emit G3 st3 s2 ρ3 l3 C3 F3 (k3.1 he)
  · refine AWT.then (k3.2 q he) R C3 F3 fun b s4 G4 st4 l4 C4 F4 k4 => ?_
    cases b with
    | true =>
      rw [if_pos rfl] at k4 ⊢
      simp only [hl]
      exact emit G4 st4 s4 ρ3 (l3.trans l4) C4 F4 k4
    | false =>
      rw [if_neg (by decide)] at k4 ⊢
      obtain ⟨hr, ha, G5, l5, sq5, P5⟩ := restore G4 st4 s4 ρ3 (l3.trans l4) C4 F4 k4.1
      refine codeAny_mono (k4.2 A G5 s4 r acc R P5) fun res s7 q => ?_
      match res, q with
      | .ok _, q => exact q.le l5
      | .error _, q => exact q.elim
end
end Lrn
end
section
open PySem PySem.W PyProof.Rows
set_option maxRecDepth 100000
set_option linter.unusedVariables false
namespace Lrn

section
variable {c : Ctx} {n : Nat} {env : Env} {ρ : Loc} {G : Gh} {st : St} {s : Shared} {A : Around}

theorem it_iter {r : Addr} {xs : List D} {src : Option Addr} (I : ItAt G st s.heap r xs src) {Q : Value → Shared → Prop} {E : Value → Shared → Prop} (h : Q (.ref r) s) : wpAny (model c.prog c.w) A (pyIter (.ref r)) Q E s := by
  cases I with
  | list hi _ _ => exact wpAny_pyIter_listiter hi h
  | mlist hi _ => exact wpAny_pyIter_listiter hi h
  | tup hi _ _ => exact wpAny_pyIter_tupleiter hi h
  | rng hi => exact wpAny_pyIter_rangeiter hi h
  | dictT hi _ => exact wpAny_pyIter_keyiter hi h
  | dictI hi _ => exact wpAny_pyIter_keyiter hi h
  | valsT hi _ => exact wpAny_pyIter_valiter hi h

theorem AWG_nest {elt : Expr} {gens : List Comprehension} {scope : Scope} {pos : Pos} {d : Nat} {t iter t' iter' : Expr} {ifs' : List Expr} {x : D} {xs : List D} {src : Option Addr} {ds : List D} {K : Loc → St → List D → Prop}
    (hg : gens[d]? = some ⟨t, iter, [], 0⟩) (hl : gens[d + 1]? = some ⟨t', iter', ifs', 0⟩) (hf : ∀ (e : Env) y, foldedSetIterable iter' e y = pure y)
    (h : AWA c n env ρ st t (.d x) fun ρ1 st1 => AWE c n env ρ1 st1 iter' fun v st2 => OpI c n v st2 fun ys src' => (∀ a, src = some a → st2 a = st a) ∧ AWG c n env ρ1 st2 elt gens scope pos (d + 1) ys src' ds fun ρ3 st3 ds3 =>
      (∀ a, src = some a → st3 a = st a) ∧ AWG c n env ρ3 st3 elt gens scope pos d xs src ds3 K) :
    AWG c n env ρ st elt gens scope pos d (x :: xs) src ds K := fun A G s r acc R P => by
  refine comp_turn hg (it_next P.it P.C P.or P.sr R.handled fun v h' tk rv I' hk => ?_)
  have C1 := P.C.butA P.or hk tk
  have F1 := P.F.butA P.fr.own P.or hk
  refine ex1_2 I'.cls fun o ho hc => ?_
  refine letOwned_it (s := { s with heap := h', toks := tk }) ho hc ?_
  refine ex2_2 P.ac fun vs m hacc hvs => ?_
  have hacc' : h'.get? acc = some (seqO "list" vs m) := hk _ _ (Ne.symm P.ne) hacc
  refine ex1_5 (lock (s := { s with heap := h', toks := tk }) C1 P.or ho) fun G1 l1 C1' Fl1 eq1 back1 => ?_
  have oa1 : Own G1 st acc := ⟨by rw [eq1 _ (Ne.symm P.ne)]; exact P.oa.g, P.oa.st⟩
  refine ex1_5 (lock (s := { s with heap := h', toks := tk }) C1' oa1 hacc') fun G2 l2 C2' Fl2 eq2 back2 => ?_
  have F2 := Fl2 _ _ (Fl1 _ _ F1 P.fr.own) P.fa.own
  have le2 := l1.trans l2
  refine wpAny_mono (h A G2 _ v R C2' F2 (.d (rv.mono le2.seq))) (fun u0 s2 hq => e34 hq fun G3 st3 ρ3 l3 C3 F3 k3 => ?_) fun u0 u1 q => q
  refine tests_le1 (.inl rfl) ⟨fun u0 => ?_, fun q he => by cases he⟩
  rw [if_pos rfl]
  simp only [hl]
  refine AWE.then k3 R C3 F3 fun w s4 G4 st4 y l4 C4 F4 r4 k4 => ⟨hf env, by first | trivial | rfl, ?_⟩
  obtain ⟨ha, G5, l5, C5, o5, sq5, eq5, Fb5⟩ := back2 G4 st4 s4 (l3.trans l4) C4
  have F5 := Fb5 _ _ F4 P.fa.own P.fa.free
  have r1 := l5
  refine k4 A G5 s4 w R C5 (r4.mono sq5) _ fun h6 ys src' ⟨q1, q2⟩ hk6 I6 hs6 => ?_
  have C6 := C5.grow (h' := h6) hk6 s4.toks
  have F6 := F5.grow C5 hk6
  have nacc : s4.heap.objs.size ≠ acc := Ne.symm (Nat.ne_of_lt (Heap.lt_size ha))
  have offs : Off env s4.heap.objs.size := ⟨F5.fresh, fun z hz hk => by
    refine ex1_1 (F5.cfree z _ hz hk) fun o ho => ?_
    rw [C5.fresh] at ho; cases ho⟩
  refine comp_start hl (fun Q hq => it_iter I6 hq) (codeAny_mono (q2 A G5 { s4 with heap := h6 } _ acc R ⟨C6, F6, C5.freshOwn, o5, nacc, offs, P.fa, hs6, I6, ⟨vs, m, hk6 _ _ (Ne.symm nacc) ha, hvs.mono (l1.trans l5).seq⟩⟩) fun res s7 q => ?_)
  cases res with
  | error u0 => exact q.elim
  | ok u0 =>
    have q1 : CompEnd _ _ _ _ _ _ := q
    refine ex4_7 q1.out fun G7 st7 ρ7 ds7 l7 C7 F7 o7 hq q7 k7 => ?_
    refine ex2_2 hq fun vs7 m7 ha7 hv7 => ?_
    obtain ⟨hr, G8, l8, C8, o8, sq8, eq8, Fb8⟩ := back1 G7 st7 s7 (l5.trans l7) C7
    refine codeAny_mono (k7 A G8 s7 r acc R ⟨C8, Fb8 _ _ F7 P.fr.own P.fr.free, o8, ⟨by rw [eq8 _ (Ne.symm P.ne)]; exact o7.g, o7.st⟩, P.ne, P.fr, P.fa, P.sr, I'.mono l8 (hr.trans ho.symm) q7, ⟨vs7, m7, ha7, hv7.mono sq8⟩⟩) fun res s9 q => ?_
    cases res with
    | ok u0 => exact CompEnd.le l8 q
    | error u0 => exact q.elim

noncomputable def closeL (env : Env) : List (Str × NameKind) → List (Str × Addr) → Option (List (Str × Addr))
  | [], acc => some acc
  | (x, k) :: r, acc => if k == .free then match env.cells.lookup x with
      | some a => closeL env r ((x, a) :: acc)
      | none => none
    else closeL env r acc
theorem closure_of {env : Env} {scope : Scope} {cl : List (Str × Addr)} (h : closeL env scope.names [] = some cl) : closureFor scope env = pure cl := by
  simp only [closureFor]
  have aux : ∀ (l : List (Str × NameKind)) (acc cl : List (Str × Addr)), closeL env l acc = some cl →
      forIn (m := Sem) l acc (fun x r => match x with | (name, kind) => if (kind == NameKind.free) = true then do let a ← cellOf env name; pure (ForInStep.yield ((name, a) :: r)) else pure (ForInStep.yield r)) = pure cl := by
    intro l
    induction l with
    | nil => intro acc cl h; simp only [closeL, Option.some.injEq] at h; subst h; rfl
    | cons y l ih =>
      obtain ⟨x, k⟩ := y
      intro acc cl h
      rw [List.forIn_cons]
      unfold closeL at h
      by_cases hk : (k == NameKind.free) = true
      · rw [if_pos hk] at h
        cases e : env.cells.lookup x with
        | none => rw [e] at h; cases h
        | some a =>
          rw [e] at h
          have hc : cellOf env x = pure a := by unfold cellOf; rw [e]
          show ((if (k == NameKind.free) = true then _ else _) >>= _) = _
          rw [if_pos hk, hc]
          exact ih _ _ h
      · rw [if_neg hk] at h
        show ((if (k == NameKind.free) = true then _ else _) >>= _) = _
        rw [if_neg hk]
        exact ih _ _ h
  have := aux scope.names [] cl h
  first
    | exact this
    | (rw [this]; rfl)
    | (refine Eq.trans (congrArg (· >>= pure) this) rfl)
end
end Lrn
end
section
open PySem PySem.W PyProof.Rows
set_option maxRecDepth 100000
set_option linter.unusedVariables false
namespace Lrn

section
variable {c : Ctx} {n : Nat} {env : Env} {ρ : Loc} {G : Gh} {st : St} {s : Shared} {A : Around}

open Classical in
theorem Conc.settle {a : Addr} {o : Obj} (C : Conc c G st s) (ow : Own G st a) (ho : s.heap.get? a = some o) : ∃ G', G.le G' ∧ Conc c G' st s ∧ G' a = some (true, o) ∧ ∀ b, b ≠ a → G' b = G b := by
  let G1 : Gh := fun b => if b = a then some (true, o) else G b
  have e1 : G1 a = some (true, o) := by show (if a = a then _ else _) = _; rw [if_pos rfl]
  have e2 : ∀ b, b ≠ a → G1 b = G b := fun b h => by show (if b = a then _ else _) = _; rw [if_neg h]
  have le1 : G.le G1 := fun b o' e => by rw [e2]; exact e; rintro rfl; rw [ow.g] at e; cases e
  refine ⟨G1, le1, ⟨fun a o e => le1 _ _ (C.base a o e), fun b o' e => ?_, fun b ob e => (C.own b ob e).mono le1.seq rfl, fun b ob e => ?_, C.apart, C.gens, C.os⟩, e1, e2⟩
  · by_cases h : b = a
    · subst h; rw [e1] at e; cases e; exact ho
    · rw [e2 b h] at e; exact C.fz _ _ e
  · rw [e2 _ (ow.st b ob e)]; exact C.free b ob e

structure CompSc (env : Env) (scope : Scope) (cl : List (Str × Addr)) (ρ ρ0 : Loc) : Prop where
  clos : closeL env scope.names [] = some cl
  kind : scope.kind = .function
  capt : ∀ x a, cl.lookup x = some a → env.cells.lookup x = some a ∧ env.kindOf x = some .cell ∧ ρ0 x = ρ x
  kcap : ∀ x a, cl.lookup x = some a → (relabel scope env).names.lookup x = some .cell
  nofree : ∀ x, (relabel scope env).names.lookup x ≠ some .free
  nocell : ∀ x ∈ scope.names, x.2 ≠ .cell
  locals : ∀ x ∈ scope.names, x.2 = .local → scope.names.lookup x.1 = some .local
  fresh : ∀ x, (relabel scope env).names.lookup x = some .local → ρ0 x = none

noncomputable def cenvOf (env : Env) (scope : Scope) (cl : List (Str × Addr)) (L : Addr) : Env := compEnvC scope cl L env

theorem comp_run {elt : Expr} {gens : List Comprehension} {scope : Scope} {pos : Pos} {cl : List (Str × Addr)} {ρ0 : Loc} {t iter : Expr} {ifs : List Expr} {xs : List D} {src : Option Addr} {K : St → List D → Prop} {it : Addr}
    {RR : Value → Addr → Result → Shared → Prop}
    (hg : gens[0]? = some ⟨t, iter, ifs, 0⟩) (S : CompSc env scope cl ρ ρ0) (R : Room n A) (C : Conc c G st s) (F : FrameOK env ρ G st s.heap) (oi : Own G st it) (nit : Off env it) (hsr : ∀ a, src = some a → a ≠ it) (I : ItAt G st s.heap it xs src)
    (h : ∀ L, AWG c n (cenvOf env scope cl L) ρ0 st elt gens scope pos 0 xs src [] fun ρe ste ds => (∀ x a, cl.lookup x = some a → ρe x = ρ x) ∧ K ste ds)
    (hR : ∀ acc L s' G' st' ds, G.le G' → Conc c G' st' s' → FrameOK env ρ G' st' s'.heap → RepD G' (.ref acc) (.lst ds) → K st' ds → (∃ m, s'.heap.Ns L m) → Own G' st' L → Off env L → RR (.ref acc) L (.ok .next) s')
    (hRany : ∀ acc L f s', RR acc L (.ok .next) s' → RR acc L (.ok f) s') :
    wpAny (model c.prog c.w) A (newList []) (fun acc s₃ => wpAny (model c.prog c.w) A (newFunctionEnv scope env.globals cl [] env.qual none .none (some env)) (fun cenv s₄ =>
      codeAny (model c.prog c.w) A (.compStart (.ListComp elt gens scope pos) 0 (.ref it) acc { cenv with scope := relabel scope env }) (RR acc cenv.locals) s₄) (fun u0 u1 => False) s₃) (fun u0 u1 => False) s := by
  refine wpAny_newObj_type (wpAny_newFunctionEnv S.nocell (by intro y hy; simp at hy) (fun h₁ hns₁ hsb₁ => ?_) S.kind) (by size_fits)
  dsimp only at hns₁ hsb₁ ⊢
  have itlt : it < s.heap.objs.size := by obtain ⟨o, ho, _⟩ := I.cls; exact Heap.lt_size ho
  -- the two new addresses
  generalize hH2 : s.heap.push { cls := .type "list", dict := none, data := .seq ([] : List Value).toArray } = H2 at hns₁ hsb₁ ⊢
  have hC : H2.objs.size = s.heap.objs.size + 1 := by rw [← hH2, Heap.size_push]
  have keep : ∀ b o, s.heap.get? b = some o → h₁.get? b = some o := fun b o e =>
    hsb₁.extBut b o (by rw [hC]; exact Nat.ne_of_lt (Nat.lt_succ_of_lt (Heap.lt_size e))) (Heap.get?_push_of_some _ (hH2 ▸ Heap.get?_push_of_some _ e))
  have hacc : h₁.get? s.heap.objs.size = some (seqO "list" [] 0) := hsb₁.extBut _ _ (by rw [hC]; exact Nat.ne_of_lt (Nat.lt_succ_self _)) (Heap.get?_push_of_some _ (hH2 ▸ Heap.get?_push_size _ rfl))
  have C1 : Conc c G st { s with heap := h₁, toks := s.toks + ([] : List (Str × Value)).length } := C.grow (fun b o u0 e => keep b o e) _
  have F1 : FrameOK env ρ G st h₁ := F.grow C (fun b o u0 e => keep b o e)
  have big : ∀ b, s.heap.objs.size ≤ b → Own G st b := fun b hb => ⟨by
    cases e : G b with
    | none => rfl
    | some o => exact absurd (Nat.lt_of_lt_of_le (Heap.lt_size (C.fz _ _ e)) hb) (Nat.lt_irrefl _), fun a ob e q => by
    refine ex1_1 ((C.own a ob e).cell) fun o ho => ?_
    rw [q] at ho; exact absurd (Nat.lt_of_lt_of_le (Heap.lt_size ho) hb) (Nat.lt_irrefl _)⟩
  have bigOff : ∀ b, s.heap.objs.size ≤ b → Off env b := fun b hb => ⟨fun h => by
    refine ex1_1 (own_obj F h) fun o ho => ?_
    exact absurd (Nat.lt_of_lt_of_le (Heap.lt_size ho) hb) (Nat.lt_irrefl _), fun x hx hk => by
    refine ex1_1 (F.cfree x b hx hk) fun o ho => ?_
    exact absurd (Nat.lt_of_lt_of_le (Heap.lt_size (C.fz _ _ ho)) hb) (Nat.lt_irrefl _)⟩
  let acc : Addr := s.heap.objs.size
  let L : Addr := H2.objs.size
  have hL : L = s.heap.objs.size + 1 := hC
  have accL : acc ≠ L := by rw [hL]; show s.heap.objs.size ≠ _; walk_at "o"
  -- freeze the outer frame, but for the captured cells
  obtain ⟨G1, l1, Cf, hP1, hfr, hG1, back⟩ := freezeBut (fun a => ∃ x, cl.lookup x = some a) (fun a ⟨x, hx⟩ => by
    refine ex0_3 (S.capt x a hx) fun h1 h2 u0 => ?_
    exact ⟨.inr ⟨x, h1, h2⟩, (F1.cown x a h1 h2).2⟩) C1 F1
  have G1new : ∀ b, s.heap.objs.size ≤ b → G1 b = none := fun b hb => by rw [hG1 b (bigOff b hb).own]; exact (big b hb).g
  have caplt : ∀ x a, cl.lookup x = some a → a < s.heap.objs.size := fun x a hx => by
    refine ex0_3 (S.capt x a hx) fun h1 h2 u0 => ?_
    obtain ⟨mv, ⟨o, ho, _⟩, _⟩ := F.cel x a h1 (.inl h2)
    exact Heap.lt_size ho
  have Lge : s.heap.objs.size ≤ L := by rw [hL]; exact Nat.le_succ _
  have capOwn : ∀ x a, cl.lookup x = some a → own env a := fun x a hx => let ⟨h1, h2, _⟩ := S.capt x a hx; .inr ⟨x, h1, h2⟩
  have F2 : FrameOK (cenvOf env scope cl L) ρ0 G1 st h₁ := by
    refine ⟨S.kind, F.glob, F.blt, ⟨_, hns₁, fun x hx => ?_⟩, ⟨G1new _ Lge, (big _ Lge).st⟩, fun x a hx hk => ?_, fun x a hx hk => ⟨⟨hP1 a ⟨x, hx⟩, ?_⟩, ?_⟩, fun x y a hx hy hk => ?_, fun x a hx hk => absurd hk (S.nofree x)⟩
    · rw [S.fresh x hx]; exact .none
    · refine ex0_3 (S.capt x a hx) fun h1 h2 h3 => ?_
      refine ex1_2 (F1.cel x a h1 (.inl h2)) fun mv hm r => ?_
      exact ⟨mv, hm, by rw [h3]; exact r.mono l1.seq⟩
    · refine ex0_3 (S.capt x a hx) fun h1 h2 h3 => ?_
      exact (F1.cown x a h1 h2).1.st
    · exact Nat.ne_of_lt (Nat.lt_of_lt_of_le (caplt x a hx) Lge)
    · refine ex0_3 (S.capt x a hx) fun h1 h2 u0 => ?_
      refine ex0_3 (S.capt y a hy) fun h3 u0 u1 => ?_
      exact F1.cinj x y a h1 h3 h2
  have offC : ∀ b, (b ≠ L) → ¬ own env b → Off (cenvOf env scope cl L) b := fun b hb ho => ⟨by
    rintro (h | ⟨x, hx, hk⟩)
    · exact hb h
    · exact ho (capOwn x b hx), fun x hx hk => S.nofree x hk⟩
  have P : CompAt c (cenvOf env scope cl L) ρ0 G1 st { s with heap := h₁, toks := s.toks + ([] : List (Str × Value)).length } it acc xs src [] :=
    ⟨Cf, F2, ⟨by rw [hG1 _ nit.own]; exact oi.g, oi.st⟩, ⟨G1new _ (Nat.le_refl _), (big _ (Nat.le_refl _)).st⟩, Nat.ne_of_lt itlt, offC it (Nat.ne_of_lt (Nat.lt_of_lt_of_le itlt Lge)) nit.own, offC acc accL (bigOff _ (Nat.le_refl _)).own, hsr,
      I.mono l1 (by obtain ⟨o, ho, _⟩ := I.cls; rw [ho]; exact keep _ _ ho) (fun u0 u1 => rfl), ⟨[], 0, hacc, .nil⟩⟩
  refine comp_start hg (fun Q hq => it_iter P.it hq) (codeAny_mono (h L A G1 _ it acc R P) fun res s7 q => ?_)
  cases res with
  | error u0 => exact q.elim
  | ok f =>
    have q1 : CompEnd _ _ _ _ _ _ := q
    refine ex4_7 q1.out fun G7 st7 ρ7 ds7 l7 C7 F7 o7 hq q7 k7 => ?_
    refine ex2_2 hq fun vs7 m7 ha7 hv7 => ?_
    refine hRany _ _ _ _ ?_
    refine ex1_4 (C7.settle o7 ha7) fun G8 l8 C8 e8 eq8 => ?_
    have anacc : ∀ x a, cl.lookup x = some a → a ≠ acc := fun x a hx => Nat.ne_of_lt (caplt x a hx)
    obtain ⟨G9, l9, C9, F9, sq9, n9⟩ := back G8 st7 s7 (l7.trans l8) C8 (fun x a ⟨y, hy⟩ hx hk => by
      refine ex0_3 (S.capt y a hy) fun h1 h2 u0 => ?_
      obtain rfl : x = y := F1.cinj x y a hx h1 hk
      have kC : (cenvOf env scope cl L).kindOf x = some .cell := S.kcap x a hy
      have ow := (F7.cown x a hy kC).1
      refine ex1_2 (F7.cel x a hy (.inl kC)) fun mv hm r => ?_
      exact ⟨⟨by rw [eq8 _ (anacc x a hy)]; exact ow.g, ow.st⟩, mv, hm, by rw [← q7 x a hy]; exact r.mono l8.seq⟩)
    refine ex1_2 F7.loc fun m hm u0 => ?_
    exact hR acc L s7 G9 st7 ds7 l9 C9 F9 (.lst (sq9 _ _ e8) ((hv7.mono l8.seq).mono sq9)) k7 ⟨m, hm⟩ ⟨n9 _ (by rw [eq8 _ (Ne.symm accL)]; exact F7.lown.g), F7.lown.st⟩ (bigOff _ Lge)
end
end Lrn

namespace Lrn
section
variable {c : Ctx} {n : Nat} {env : Env} {ρ : Loc} {G : Gh} {st : St} {s : Shared} {A : Around}

theorem AWE_ListComp {elt t iter : Expr} {ifs : List Expr} {rest : List Comprehension} {scope : Scope} {pos : Pos} {cl : List (Str × Addr)} {ρ0 : Loc} {K : V → St → Prop} (S : CompSc env scope cl ρ ρ0)
    (h : AWE c n env ρ st iter fun v st1 => OpI c n v st1 fun xs src => ∀ L, AWG c n (cenvOf env scope cl L) ρ0 st1 elt (⟨t, iter, ifs, 0⟩ :: rest) scope pos 0 xs src [] fun ρe ste ds => (∀ x a, cl.lookup x = some a → ρe x = ρ x) ∧ K (.d (.lst ds)) ste)
    (hs : ∀ x, foldedSetIterable iter env x = pure x := by intro _; rfl) :
    AWE c n env ρ st (.ListComp elt (⟨t, iter, ifs, 0⟩ :: rest) scope pos) K := fun A G s R C F => by
  rw [eval_ListComp]
  refine wpAny_comprehension_free (use := none) rfl hs (closure_of S.clos) S.kind S.locals (AWE.then h R C F fun v s1 G1 st1 x l1 C1 F1 r1 k1 => k1 A G1 s1 v R C1 r1 _ fun h' xs src k hk I hsrc => ?_)
  have C2 := C1.grow (h' := h') hk s1.toks
  have F2 := F1.grow C1 hk
  have off : Off env s1.heap.objs.size := ⟨F1.fresh, fun z hz hk => by
    refine ex1_1 (F1.cfree z _ hz hk) fun o ho => ?_
    rw [C1.fresh] at ho; cases ho⟩
  refine comp_run (s := { s1 with heap := h' }) (RR := fun acc L => compPost (model c.prog c.w) A (fun u0 u1 => False) none (PostE c env ρ G K) acc L) (K := fun ste ds => K (.d (.lst ds)) ste) rfl S R C2 F2 C1.freshOwn off hsrc I k ?_ ?_
  · intro acc L s' G' st' ds l C' F' r k' ⟨m, hm⟩ oL fL
    refine ⟨m, hm, fun h2 hs2 => ?_⟩
    have nr : ∀ b o, b ≠ L → s'.heap.get? b = some o → h2.get? b = some o := fun b o hb e => (hs2.2 b hb).trans e
    exact ⟨G', st', _, l1.trans l, C'.butA oL nr s'.toks, F'.butA fL.own oL nr, .d r, k'⟩
  · intro acc L f s' h; exact h

theorem AWS_AssignComp {y : Str} {py : Pos} {elt t iter : Expr} {ifs : List Expr} {rest : List Comprehension} {scope : Scope} {pos spos : Pos} {cl : List (Str × Addr)} {ρ0 : Loc} {K : Fl → Loc → St → Prop} (S : CompSc env scope cl ρ ρ0) (hk : Keeps env y)
    (h : AWE c n env ρ st iter fun v st1 => OpI c n v st1 fun xs src => ∀ L, AWG c n (cenvOf env scope cl L) ρ0 st1 elt (⟨t, iter, ifs, 0⟩ :: rest) scope pos 0 xs src [] fun ρe ste ds => (∀ x a, cl.lookup x = some a → ρe x = ρ x) ∧ K .next (upd ρ y (.d (.lst ds))) ste)
    (hsw : swapsWith (.ListComp elt (⟨t, iter, ifs, 0⟩ :: rest) scope pos) (some (.Name y py)) spos.line env = pure true)
    (hs : ∀ x, foldedSetIterable iter env x = pure x := by intro _; rfl) :
    AWS c n env ρ st (.Assign [.Name y py] (.ListComp elt (⟨t, iter, ifs, 0⟩ :: rest) scope pos) spos) K := fun A G s R C F => by
  rw [exec_Assign_Name_used _ _ _ _ hsw]
  refine wpAny_bind (wpAny_standAt (wpAny_bind ?_))
  show wpAny _ A (do let _ ← comprehension (.ListComp elt (⟨t, iter, ifs, 0⟩ :: rest) scope pos) scope env _ (newList []) false (eval iter env) (some (assign (.Name y py) env))) _ _ s
  refine wpAny_bind (wpAny_mono (wpAny_comprehension_free (use := some (assign (.Name y py) env)) (Q := fun u0 s' => PostX c env G K .next s') rfl hs (closure_of S.clos) S.kind S.locals ?_) (fun u0 s' hq => wpAny_pure (wpAny_pure hq)) fun u0 u1 e => e)
  refine AWE.then h R C F fun v s1 G1 st1 x l1 C1 F1 r1 k1 => k1 A G1 s1 v R C1 r1 _ fun h' xs src k hk' I hsrc => ?_
  have C2 := C1.grow (h' := h') hk' s1.toks
  have F2 := F1.grow C1 hk'
  have off : Off env s1.heap.objs.size := ⟨F1.fresh, fun z hz hk => by
    refine ex1_1 (F1.cfree z _ hz hk) fun o ho => ?_
    rw [C1.fresh] at ho; cases ho⟩
  refine comp_run (s := { s1 with heap := h' }) (RR := fun acc L => compPost (model c.prog c.w) A (fun u0 u1 => False) (some (assign (.Name y py) env)) (fun u0 s' => PostX c env G K .next s') acc L) (K := fun ste ds => K .next (upd ρ y (.d (.lst ds))) ste) rfl S R C2 F2 C1.freshOwn off hsrc I k ?_ ?_
  · intro acc L s' G' st' ds l C' F' r k' ⟨m, oL', es, ep, hoL, hdL⟩ oL fL
    refine ex1_5 (lock C' oL hoL) fun G3 l3 C3 Fl3 u0 back => ?_
    have F3 := Fl3 _ _ F' fL.own
    refine wpAny_assign_Name (store_any C3 F3 hk (.d (r.mono l3.seq)) fun s4 C4 F4 => ?_)
    obtain ⟨hL4, G5, l5, C5, o5, sq5, _, Fb⟩ := back G3 st' s4 (.refl _) C4
    have F5 := Fb _ _ F4 fL.own fL.free
    refine ⟨m, ⟨oL', es, ep, hL4, hdL⟩, fun h2 hs2 => ?_⟩
    have nr : ∀ b o, b ≠ L → s4.heap.get? b = some o → h2.get? b = some o := fun b o hb e => (hs2.2 b hb).trans e
    exact ⟨G5, st', _, .next, (l1.trans l).trans l5, C5.butA o5 nr s4.toks, F5.butA fL.own o5 nr, .next, k'⟩
  · intro acc L f s' h; exact h
end
end Lrn
end
section
open PySem PySem.W PyProof.Rows
set_option maxRecDepth 100000
set_option linter.unusedVariables false
namespace Lrn

structure PlainFn (fd : FuncData) (names : List Str) (body : List Stmt) (scope : Scope) : Prop where
  pos : fd.params.posonlyargs = []
  args : fd.params.args.map (·.arg) = names
  va : fd.params.vararg = none
  ko : fd.params.kwonlyargs = []
  kw : fd.params.kwarg = none
  dflt : fd.defaults = .none
  body : fd.body = .stmts body
  scope : fd.scope = scope
  clos : fd.closure = []
  glob : fd.globals = mainGlobals
  blt : fd.builtins = builtinsNs
  co : fd.scope.isCoroutine = false
  gen : fd.scope.isGenerator = false
  kind : fd.scope.kind = .function

theorem lookup_zip_isSome : ∀ {names : List Str} {vs : List Value} (x : Str), names.length = vs.length → x ∈ names → ((names.zip vs).lookup x).isSome = true
  | [], _, x, _, h => by cases h
  | a :: r, [], x, hl, _ => by cases hl
  | a :: r, v :: vs, x, hl, h => by
    rw [List.zip_cons_cons, List.lookup_cons]
    cases e : x == a with
    | true => rfl
    | false =>
      have : x ∈ r := by
        rcases List.mem_cons.mp h with rfl | h
        · simp at e
        · exact h
      exact lookup_zip_isSome x (by simpa using hl) this
theorem filterMap_zip : ∀ (names : List Str) (vs : List Value), names.length = vs.length → names.Nodup → names.filterMap (fun n => ((names.zip vs).lookup n).map (n, ·)) = names.zip vs
  | [], [], _, _ => rfl
  | [], _ :: _, h, _ => by cases h
  | _ :: _, [], h, _ => by cases h
  | a :: r, v :: vs, hl, hn => by
    refine ex0_2 (List.nodup_cons.mp hn) fun h1 h2 => ?_
    rw [List.filterMap_cons]
    simp only [List.zip_cons_cons, List.lookup_cons, beq_self_eq_true, Option.map_some]
    congr 1
    have e0 := filterMap_zip r vs (by simpa using hl) h2
    refine Eq.trans ?_ e0
    have aux : ∀ l : List Str, (∀ x ∈ l, x ≠ a) → l.filterMap (fun n => (match n == a with | true => some v | false => (r.zip vs).lookup n).map (n, ·)) = l.filterMap (fun n => ((r.zip vs).lookup n).map (n, ·)) := by
      intro l
      induction l with
      | nil => intro _; rfl
      | cons y l ih =>
        intro h
        have hy : (y == a) = false := by rw [beq_eq_false_iff_ne]; exact h y (.head _)
        simp only [List.filterMap_cons, hy, ih fun x hx => h x (.tail _ hx)]
    exact aux r fun x hx e => h1 (e ▸ hx)

theorem bindArgs_core {ar : List Arg} {vs : List Value} {nm qn : Str} {kd : List (Option Expr)} {df : List Expr} {bd : FuncBody} {sc : Scope} {gl blt : Addr} {cl : List (Str × Addr)} {kV doc pmod code ct : Value} {ann : Option Addr}
    (hl : (ar.map (·.arg)).length = vs.length) (hn : (ar.map (·.arg)).Nodup) :
    bindArgs ⟨nm, qn, ⟨[], ar, none, [], kd, none, df⟩, bd, sc, gl, cl, .none, kV, doc, pmod, ann, code, ct, blt⟩ ⟨vs, []⟩ = pure ((ar.map (·.arg)).zip vs) := by
  have hf : ∀ k, (((ar.map (·.arg)).take k).filter fun n => (((ar.map (·.arg)).zip vs).lookup n).isNone) = [] := fun k => by
    refine List.filter_eq_nil_iff.mpr fun x hx => ?_
    have := lookup_zip_isSome (vs := vs) x hl (List.mem_of_mem_take hx)
    cases e : List.lookup x ((ar.map (·.arg)).zip vs) with
    | none => rw [e] at this; cases this
    | some v => exact fun h => nomatch h
  have key : ∀ ns : List Str, ns.length = vs.length → ns.Nodup → (((pure (((ns ++ []).filterMap fun n => ((ns.zip vs).lookup n).map (n, ·)))) : Sem (List (Str × Value))) = pure (ns.zip vs)) := fun ns h1 h2 => by rw [List.append_nil, filterMap_zip ns vs h1 h2]
  refine Eq.trans (if_neg (fun h => absurd (of_decide_eq_true (Bool.and_eq_true_iff.mp h).1) (Nat.not_lt_of_ge (Nat.le_of_eq hl.symm)))) ?_
  refine Eq.trans (if_neg (fun h => ?_)) ?_
  · exact absurd (h.symm.trans (congrArg (fun l : List Str => !l.isEmpty) (hf _))) (fun q => nomatch q)
  show (forIn ((List.drop _ _).zip (List.drop _ [])) _ _ >>= _) = _
  rw [List.drop_nil, List.zip_nil_right]
  exact key _ hl hn
theorem bindArgs_plain {fd : FuncData} {names : List Str} {body : List Stmt} {scope : Scope} {vs : List Value} (P : PlainFn fd names body scope) (hl : names.length = vs.length) (hn : names.Nodup) : bindArgs fd ⟨vs, []⟩ = pure (names.zip vs) := by
  have p1 := P.pos
  have p2 := P.args
  have p3 := P.va
  have p4 := P.ko
  have p5 := P.kw
  have p6 := P.dflt
  clear P
  obtain ⟨nm, qn, ⟨po, ar, va, ko, kd, kw, df⟩, bd, sc, gl, cl, dV, kV, doc, pmod, ann, code, ct, blt⟩ := fd
  obtain rfl : po = [] := p1
  obtain rfl : va = none := p3
  obtain rfl : ko = [] := p4
  obtain rfl : kw = none := p5
  obtain rfl : dV = .none := p6
  obtain rfl : ar.map (·.arg) = names := p2
  exact bindArgs_core hl hn

noncomputable def bindV : List (Str × V) → Loc → Loc
  | [], ρ => ρ
  | (x, v) :: r, ρ => bindV r (upd ρ x v)

section
variable {G : Gh}
theorem bindL_rep {k : Str → Option NameKind} : ∀ {names : List Str} {vs : List Value} {ps : List V}, Reps G vs ps → ∀ {m : Str → Option Value} {ρ : Loc}, (∀ x, k x = some .local → ORep G (m x) (ρ x)) →
    ∀ x, k x = some .local → ORep G (bindL k (names.zip vs) m x) (bindV (names.zip ps) ρ x)
  | [], _, _, _, m, ρ, h, x, hx => h x hx
  | a :: r, _, _, .nil, m, ρ, h, x, hx => h x hx
  | a :: r, _, _, .cons q rs, m, ρ, h, x, hx => by
    rw [List.zip_cons_cons, List.zip_cons_cons]
    unfold bindL bindV
    refine bindL_rep rs (fun y hy => ?_) x hx
    unfold upd
    by_cases hya : y = a
    · subst hya; rw [if_pos hy, if_pos rfl, if_pos rfl]; exact .some q
    · rw [if_neg hya]
      by_cases ha : k a = some .local
      · rw [if_pos ha, if_neg hya]; exact h y hy
      · rw [if_neg ha]; exact h y hy
theorem bindC_rep {k : Str → Option NameKind} : ∀ {names : List Str} {vs : List Value} {ps : List V}, Reps G vs ps → ∀ {m : Str → Option Value} {ρ : Loc}, (∀ x, k x ≠ some .local → ORep G (m x) (ρ x)) →
    ∀ x, k x ≠ some .local → ORep G (bindC k (names.zip vs) m x) (bindV (names.zip ps) ρ x)
  | [], _, _, _, m, ρ, h, x, hx => h x hx
  | a :: r, _, _, .nil, m, ρ, h, x, hx => h x hx
  | a :: r, _, _, .cons q rs, m, ρ, h, x, hx => by
    rw [List.zip_cons_cons, List.zip_cons_cons]
    unfold bindC bindV
    refine bindC_rep rs (fun y hy => ?_) x hx
    unfold upd
    by_cases hya : y = a
    · subst hya; rw [if_neg hy, if_pos rfl, if_pos rfl]; exact .some q
    · rw [if_neg hya]
      by_cases ha : k a = some .local
      · rw [if_pos ha]; exact h y hy
      · rw [if_neg ha, if_neg hya]; exact h y hy
end

structure EnvOf (env : Env) (sc : Scope) : Prop where
  scope : env.scope = sc
  cells : ∀ x, sc.names.lookup x = some .cell → ∃ a, env.cells.lookup x = some a

structure FnAt (c : Ctx) (f : Addr) (names : List Str) (body : List Stmt) (scope : Scope) : Prop where
  ex : ∃ o fd, c.h0.get? f = some o ∧ o.data = .func fd ∧ PlainFn fd names body scope ∧ c.h0.CodeRec fd.code fd.qualname
  nolimit : c.h0.NoLimit
  nd : names.Nodup
  kinds : ∀ x ∈ names, scope.names.lookup x = some .local ∨ scope.names.lookup x = some .cell
  nofree : ∀ x, scope.names.lookup x ≠ some .free

theorem AWC_def {c : Ctx} {n : Nat} {f : Addr} {names : List Str} {body : List Stmt} {scope : Scope} {args : List V} {st : St} {K : V → St → Prop} (hf : FnAt c f names body scope) (hl : names.length = args.length)
    (h : ∀ env, EnvOf env scope → AWX c n env (bindV (names.zip args) fun u0 => none) st body fun fl u0 st' => match fl with | .ret v => K v st' | .next => K (.d .none) st' | _ => False) : AWC c (n + 1) (.ref f) args st K := fun A G s vs R C rs => by
  refine ex2_4 hf.ex fun o fd ho hd P hcd => ?_
  have keep0 : ∀ b o, c.h0.get? b = some o → s.heap.get? b = some o := fun b o e => C.fz _ _ (C.base b o e)
  have hlen : names.length = vs.length := hl.trans rs.length.symm
  refine codeAny_call_function (by have := R.depth; walk_at "o") (keep0 _ _ ho) hd P.co P.gen P.body (hcd.keeps keep0) ?_
  rw [bindArgs_plain P hlen hf.nd, P.clos]
  refine wpAny_pure (wpAny_newFunctionEnv_cells P.kind (fun x hx => ?_) fun env he s1 X => ⟨(hf.nolimit.keeps keep0).keeps X.toInCall.keep, codeAny_func ?_⟩)
  · have hx' : x.1 ∈ names := (List.of_mem_zip hx).1
    rw [P.scope]
    rcases hf.kinds x.1 hx' with q | q
    · exact .inl q
    · exact .inr ⟨q, cellsFrom_some _ _ _ (.inl q)⟩
  have hsc : env.scope = scope := by rw [he]; exact P.scope
  have hk : env.kindOf = fun x => scope.names.lookup x := by funext x; show env.scope.names.lookup x = _; rw [hsc]
  have hL : env.locals = s.heap.objs.size := by rw [he]; rfl
  have hcells : env.cells = cellsFrom (s.heap.objs.size + 1) scope.names [] := by rw [he, ← P.scope]; rfl
  refine ex2_1 X.toInCall.same fun h1 tk hs1 => ?_
  have C1 : Conc c G st s1 := by rw [hs1]; exact C.grow (fun b o u0 e => by have := X.toInCall.keep b o e; rw [hs1] at this; exact this) tk
  have big : ∀ b, s.heap.objs.size ≤ b → Own G st b := fun b hb => ⟨by
    cases e : G b with
    | none => rfl
    | some o => exact absurd (Nat.lt_of_lt_of_le (Heap.lt_size (C.fz _ _ e)) hb) (Nat.lt_irrefl _), fun a ob e q => by
    refine ex1_1 ((C.own a ob e).cell) fun o ho => ?_
    rw [q] at ho; exact absurd (Nat.lt_of_lt_of_le (Heap.lt_size ho) hb) (Nat.lt_irrefl _)⟩
  have F1 : FrameOK env (bindV (names.zip args) fun u0 => none) G st s1.heap := by
    refine ⟨by rw [hsc, ← P.scope]; exact P.kind, by rw [he]; exact P.glob, by rw [he]; exact P.blt, ⟨_, X.toInCall.ns, fun x hx => bindL_rep rs (fun u0 u1 => .none) x hx⟩, big _ (by rw [hL]; exact Nat.le_refl _), fun x a hx hk' => ⟨_, X.cell x a hx, ?_⟩, fun x a hx hk' => ?_, fun x y a hx hy u0 => name_of_addr X.apart (mem_of_lookup hx) (mem_of_lookup hy), fun x a hx hk' => ?_⟩
    · refine bindC_rep rs (fun u0 u1 => .none) x ?_
      rcases hk' with hk' | hk' <;> rw [hk'] <;> decide
    · have := X.above x a (mem_of_lookup hx)
      rw [hL] at this
      exact ⟨big _ (Nat.le_of_lt this), by rw [hL]; exact Nat.ne_of_gt this⟩
    · rw [hk] at hk'; exact absurd hk' (hf.nofree x)
  refine wpAny_mono (h env ⟨hsc, fun x hx => ?_⟩ (A.deeper env) G s1 ⟨by have := R.depth; show A.depth + 1 + 4 * n + 8 < _; walk_at "o", by have := R.units; show A.units + 3 + 20 * n + 200 < _; walk_at "o", R.handled⟩ C1 F1) (fun fl s2 hq => e45 hq fun G2 st2 ρ2 pf l2 C2 F2 rf k2 => ?_) fun u0 u1 q => q.elim
  · have := cellsFrom_some scope.names (s.heap.objs.size + 1) [] (x := x) (.inl hx)
    rw [← hcells] at this
    exact Option.isSome_iff_exists.mp this
  · cases rf with
    | next => exact ⟨G2, st2, .d .none, l2, C2, .d .none, k2⟩
    | brk => exact k2.elim
    | cont => exact k2.elim
    | ret r => exact ⟨G2, st2, _, l2, C2, r, k2⟩
end Lrn
end
section
open PySem PySem.W PyProof.Rows PySem.Calls
set_option maxRecDepth 100000
set_option linter.unusedVariables false
namespace Lrn

structure CtxOK (c : Ctx) : Prop where
  kin : c.K.In c.h0
  glob : ∃ mg mb, c.h0.Ns mainGlobals mg ∧ c.h0.Ns builtinsNs mb ∧ ∀ x : Str, x ≠ "__name__" → mb x = bootBuiltins x
  nolimit : c.h0.NoLimit
  sys : ∃ o, c.h0.get? sysModules = some o

section
variable {c : Ctx} {n : Nat} {env : Env} {ρ : Loc} {G : Gh} {st : St} {s : Shared} {A : Around}

theorem Conc.keep0 (C : Conc c G st s) : ∀ b o, c.h0.get? b = some o → s.heap.get? b = some o := fun b o e => C.fz _ _ (C.base b o e)
theorem Conc.kin (C : Conc c G st s) (H : CtxOK c) : c.K.In s.heap := H.kin.keeps C.keep0

theorem eval_global {x : Str} {pos : Pos} {v : Value} {Q : Value → Shared → Prop} {E : Value → Shared → Prop} (H : CtxOK c) (C : Conc c G st s) (F : FrameOK env ρ G st s.heap) (hk : env.kindOf x = some .globalImplicit)
    (hv : nsIn c.K mainGlobals x = some (some v)) (h : Q v s) (hd : (x == ("__debug__" : Str)) = false := by decide) : wpAny (model c.prog c.w) A (eval (.Name x pos) env) Q E s := by
  refine ex2_3 H.glob fun mg mb hg hb u0 => ?_
  exact Name_function_global F.kind hk (loadGlobal_global (by rw [F.glob]; exact hg.keeps C.keep0) (mg_of H.kin hg hv) h) hd
theorem eval_builtin {x : Str} {pos : Pos} {v : Value} {Q : Value → Shared → Prop} {E : Value → Shared → Prop} (H : CtxOK c) (C : Conc c G st s) (F : FrameOK env ρ G st s.heap) (hk : env.kindOf x = some .globalImplicit)
    (hn : nsIn c.K mainGlobals x = some none) (hv : bootBuiltins x = some v) (hne : x ≠ "__name__") (h : Q v s) (hd : (x == ("__debug__" : Str)) = false := by decide) : wpAny (model c.prog c.w) A (eval (.Name x pos) env) Q E s := by
  refine ex2_3 H.glob fun mg mb hg hb hbb => ?_
  exact Name_function_global F.kind hk (loadGlobal_builtin (by rw [F.glob]; exact hg.keeps C.keep0) (mg_none_of H.kin hg hn) (by rw [F.blt]; exact hb.keeps C.keep0) ((hbb x hne).trans hv) h) hd

theorem callIn {f : Value} {vs : List Value} {ps : List V} {K : V → St → Prop} (R : Room n A) (C : Conc c G st s) (F : FrameOK env ρ G st s.heap) (r : Reps G vs ps) (h : AWC c n f ps st K) :
    wpAny (model c.prog c.w) A (call f vs) (PostE c env ρ G K) (fun u0 u1 => False) s :=
  lift C F fun G1 l1 C1 => wpAny_call (codeAny_mono (h A G1 s vs R C1 (r.mono l1.seq)) fun res s' q => match res, q with
    | .ok (.ret v), q => q
    | .ok .next, q => q.elim
    | .ok .brk, q => q.elim
    | .ok .cont, q => q.elim
    | .error _, q => q.elim)

noncomputable def IsFnAt (c : Ctx) (f : Addr) : Prop := ∃ o fd, c.h0.get? f = some o ∧ o.data = .func fd

theorem Reps.append {vs ws : List Value} {xs ys : List V} (r : Reps G vs xs) (q : Reps G ws ys) : Reps G (vs ++ ws) (xs ++ ys) := by
  induction r with
  | nil => exact q
  | cons a _ ih => exact .cons a ih
theorem callWith_fn {f : Addr} {first : List Value} {fps : List V} {e : Expr} {es : List Expr} {pos : Pos} {K : V → St → Prop} (hf : IsFnAt c f) (R : Room n A) (C : Conc c G st s) (F : FrameOK env ρ G st s.heap) (r : Reps G first fps)
    (hs : starEach (e :: es) env = (false, eval e env) :: starEach es env)
    (h : AWL c n env ρ st (e :: es) fun ps st1 => AWC c n (.ref f) (fps ++ ps) st1 K) : wpAny (model c.prog c.w) A (callWith pos (.ref f) first (backTo pos (starEach (e :: es) env)) []) (PostE c env ρ G K) (fun u0 u1 => False) s := by
  refine ex2_2 hf fun o fd ho hd => ?_
  refine callWith_function (o := o) (fd := fd) ?_
  have hh := h A G s pos R C F
  rw [hs] at hh ⊢
  exact evalArgs_plain (wpAny_mono hh (fun vs s1 hq => e35 hq fun G1 st1 ps l1 C1 F1 r1 k1 => ⟨⟨C1.keep0 _ _ ho, hd⟩, wpAny_mono (callIn R C1 F1 ((r.mono l1.seq).append r1) k1) (fun u0 u1 q => q.le l1) fun u0 u1 q => q⟩) fun u0 u1 q => q)
theorem callWith_fn0 {f : Addr} {first : List Value} {fps : List V} {pos : Pos} {K : V → St → Prop} (hf : IsFnAt c f) (R : Room n A) (C : Conc c G st s) (F : FrameOK env ρ G st s.heap) (r : Reps G first fps)
    (h : AWC c n (.ref f) fps st K) : wpAny (model c.prog c.w) A (callWith pos (.ref f) first (backTo pos (starEach [] env)) []) (PostE c env ρ G K) (fun u0 u1 => False) s := by
  refine ex2_2 hf fun o fd ho hd => ?_
  refine callWith_function (o := o) (fd := fd) (PyProof.Rows.evalArgs_none ⟨⟨C.keep0 _ _ ho, hd⟩, ?_⟩)
  rw [List.append_nil]
  exact callIn R C F r h

theorem AWE_CallG {f : Addr} {x : Str} {p pos : Pos} {e : Expr} {es : List Expr} {K : V → St → Prop} (H : CtxOK c) (hk : env.kindOf x = some .globalImplicit) (hv : nsIn c.K mainGlobals x = some (some (.ref f))) (hf : IsFnAt c f)
    (h : AWL c n env ρ st (e :: es) fun ps st1 => AWC c n (.ref f) ps st1 K) (hs : starEach (e :: es) env = (false, eval e env) :: starEach es env := by rfl) (hd : (x == ("__debug__" : Str)) = false := by decide) :
    AWE c n env ρ st (.Call (.Name x p) (e :: es) [] pos) K := fun A G s R C F =>
  Call_ (eval_global H C F hk hv (callWith_fn (first := []) hf R C F .nil hs (by simpa using h)) hd)
theorem AWE_CallG0 {f : Addr} {x : Str} {p pos : Pos} {K : V → St → Prop} (H : CtxOK c) (hk : env.kindOf x = some .globalImplicit) (hv : nsIn c.K mainGlobals x = some (some (.ref f))) (hf : IsFnAt c f)
    (h : AWC c n (.ref f) [] st K) (hd : (x == ("__debug__" : Str)) = false := by decide) :
    AWE c n env ρ st (.Call (.Name x p) [] [] pos) K := fun A G s R C F =>
  Call_ (eval_global H C F hk hv (callWith_fn0 (first := []) hf R C F .nil h) hd)

noncomputable def OpF (c : Ctx) (n : Nat) (id : Value) (ps : List V) (st : St) (K : V → St → Prop) : Prop :=
  ∀ A G s vs, Room n A → Conc c G st s → Reps G vs ps → wpAny (model c.prog c.w) A (call id vs) (PostC c G K) (fun u0 u1 => False) s
theorem AWE_CallB {id : String} {x : Str} {p pos : Pos} {e : Expr} {es : List Expr} {K : V → St → Prop} (H : CtxOK c) (hk : env.kindOf x = some .globalImplicit) (hn : nsIn c.K mainGlobals x = some none) (hv : bootBuiltins x = some (.builtin id)) (hne : x ≠ "__name__")
    (h : AWL c n env ρ st (e :: es) fun ps st1 => OpF c n (.builtin id) ps st1 K) (hs : starEach (e :: es) env = (false, eval e env) :: starEach es env := by rfl) (hplain : ∀ pos, (backTo pos (starEach es env)).any (·.1) = false := by intro _; rfl) (hd : (x == ("__debug__" : Str)) = false := by decide) :
    AWE c n env ρ st (.Call (.Name x p) (e :: es) [] pos) K := fun A G s R C F =>
  Call_ (eval_builtin H C F hk hn hv hne (callWith_builtin1 (wpAny_mono (h A G s pos R C F) (fun vs s1 hq => e35 hq fun G1 st1 ps l1 C1 F1 r1 k1 =>
    wpAny_mono (lift C1 F1 fun G2 l2 C2 => k1 A G2 s1 vs R C2 (r1.mono l2.seq)) (fun u0 u1 q => q.le l1) fun u0 u1 q => q) fun u0 u1 q => q) hs (hplain pos)) hd)

theorem lookIn_ns {h : Heap} {a : Addr} {m : Str → Option Value} (hn : h.Ns a m) : ∃ od, h.get? a = some od ∧ (∃ es ep, od.data = .dict es ep) ∧ ∀ x, lookIn x od = some (m x) := by
  refine ex3_4 hn fun o es ep ho hd hk hf => ?_
  refine ⟨o, ho, ⟨es, ep, hd⟩, fun x => ?_⟩
  unfold lookIn
  rw [hd]
  have := hf x
  unfold nsFind findBy at this
  rw [← Array.find?_toList] at this
  dsimp only
  cases e : List.find? (fun e => e.key.isStr x) es.toList with
  | some en => rw [e] at this; rw [← this]; rfl
  | none =>
    rw [e] at this
    have hr : es.toList.any (·.refKey) = false := by
      rw [List.any_eq_false]
      intro y hy
      refine ex2_1 (hk y (by simpa using hy)) fun nm t hy' => ?_
      unfold DictEntry.refKey
      rw [hy']; simp
    rw [hr, ← this]; rfl

structure ClsOK (c : Ctx) (Cc : Addr) : Prop where
  ga : findIn c.K (.ref Cc) "__getattribute__" = some (some (.builtin "object.__getattribute__"))
  gt : findIn c.K (.ref Cc) "__getattr__" = some none
  sa : findIn c.K (.ref Cc) "__setattr__" = some (some (.builtin "object.__setattr__"))
  hd : hasDictIn c.K Cc = true
  po : plainOver c.K Cc = true

theorem inst_at {a Cc dx : Addr} {k : Nat} {attrs : Loc} (C : Conc c G st s) (hs : st a = some (.inst Cc dx k attrs)) : ∃ od m, InstAt s.heap a (instObj Cc dx) Cc (some od) ∧ s.heap.get? dx = some od ∧ (∃ es ep, od.data = .dict es ep) ∧ NsK s.heap dx m k ∧ (∀ x, lookIn x od = some (m x)) ∧ ∀ x, ORep G (m x) (attrs x) := by
  obtain ⟨g, m, hn, hr⟩ := C.own _ _ hs
  refine ex1_3 (lookIn_ns hn.ns) fun od ho hd hl => ?_
  exact ⟨od, m, ⟨C.fz _ _ g, rfl, rfl, ho⟩, ho, hd, hn, hl, hr⟩

theorem handed_rep {v : Value} {x : V} (r : Rep G v x) : handedIn v = true := by
  cases r with
  | d r => cases r <;> rfl
  | o a => rfl

theorem AWE_Attr {e : Expr} {x : Str} {pos : Pos} {K : V → St → Prop} (H : CtxOK c)
    (h : AWE c n env ρ st e fun v st1 => ∃ a Cc dx k attrs y, v = .o a ∧ st1 a = some (.inst Cc dx k attrs) ∧ attrs x = some y ∧ ClsOK c Cc ∧ findIn c.K (.ref Cc) x = some none ∧ K y st1)
    (he : eval (.Attribute e x pos) env = (do
      let o ← eval e env
      standAt pos.atName
      let r ← holding [o] (getAttr o x true)
      letTemporaryGo e o r
      pure r) := by with_unfolding_all rfl) : AWE c n env ρ st (.Attribute e x pos) K := fun A G s R C F =>
  Attribute_any_ (AWE.then h R C F fun v s1 G1 st1 w l1 C1 F1 r1 hq => by
    refine ex6_6 hq fun a Cc dx kk attrs y hw hs hx ok hf k => ?_; clear hq
    subst hw
    cases r1 with
    | o a =>
      refine ex2_6 (inst_at C1 hs) fun od m I ho hd hn hl hr => ?_
      have r := hr x
      rw [hx] at r
      cases hm : m x with
      | none => rw [hm] at r; cases r
      | some val =>
        rw [hm] at r
        cases r with
        | some r =>
          refine get_value (C1.kin H) I ok.ga (findObj_own ok.hd hf rfl (by rw [hl, hm])) (handed_rep r) ?_
          exact ⟨G1, st1, y, l1, C1.tok _, F1, r, k⟩) he

theorem AWE_CallM {o : Expr} {x : Str} {apos pos : Pos} {e : Expr} {es : List Expr} {pl : Sem Bool} {K : V → St → Prop} (H : CtxOK c)
    (h : AWE c n env ρ st o fun v st1 => ∃ a Cc dx k attrs f, v = .o a ∧ st1 a = some (.inst Cc dx k attrs) ∧ attrs x = none ∧ ClsOK c Cc ∧ findIn c.K (.ref Cc) x = some (some (.ref f)) ∧ typeIn c.K (.ref f) = some (.type "function") ∧ IsFnAt c f ∧
      AWL c n env ρ st1 (e :: es) fun ps st2 => AWC c n (.ref f) (.o a :: ps) st2 K)
    (he : eval (.Call (.Attribute o x apos) (e :: es) [] pos) env = (do
      let ov ← eval o env
      standAt apos.atName
      let (f, first) ← holding [ov] (getMethod ov x pl)
      callWith pos f first (backTo pos (starEach (e :: es) env)) []) := by rfl) (hs' : starEach (e :: es) env = (false, eval e env) :: starEach es env := by rfl) :
    AWE c n env ρ st (.Call (.Attribute o x apos) (e :: es) [] pos) K := fun A G s R C F =>
  MethodCall_ (pl := pl) (AWE.then h R C F fun v s1 G1 st1 w l1 C1 F1 r1 hq => by
    refine ex6_8 hq fun a Cc dx kk attrs f hw hs hx ok hf ht hfn k => ?_; clear hq
    subst hw
    cases r1 with
    | o a =>
      refine ex2_6 (inst_at C1 hs) fun od m I ho hd hn hl hr => ?_
      have r := hr x
      rw [hx] at r
      refine method_fn (C1.kin H) I ok.ga ok.gt hf ht ?_ ?_
      · show (lookIn x od).map _ = _
        rw [hl]
        cases hm : m x with
        | none => rfl
        | some val => rw [hm] at r; cases r
      · exact wpAny_mono (callWith_fn (fps := [.o a]) hfn R C1 F1 (.cons (.o a) .nil) hs' k) (fun u0 u1 q => q.le l1) fun u0 u1 q => q) he
theorem AWE_CallM0 {o : Expr} {x : Str} {apos pos : Pos} {pl : Sem Bool} {K : V → St → Prop} (H : CtxOK c)
    (h : AWE c n env ρ st o fun v st1 => ∃ a Cc dx k attrs f, v = .o a ∧ st1 a = some (.inst Cc dx k attrs) ∧ attrs x = none ∧ ClsOK c Cc ∧ findIn c.K (.ref Cc) x = some (some (.ref f)) ∧ typeIn c.K (.ref f) = some (.type "function") ∧ IsFnAt c f ∧
      AWC c n (.ref f) [.o a] st1 K)
    (he : eval (.Call (.Attribute o x apos) [] [] pos) env = (do
      let ov ← eval o env
      standAt apos.atName
      let (f, first) ← holding [ov] (getMethod ov x pl)
      callWith pos f first (backTo pos (starEach [] env)) []) := by rfl) :
    AWE c n env ρ st (.Call (.Attribute o x apos) [] [] pos) K := fun A G s R C F =>
  MethodCall_ (pl := pl) (AWE.then h R C F fun v s1 G1 st1 w l1 C1 F1 r1 hq => by
    refine ex6_8 hq fun a Cc dx kk attrs f hw hs hx ok hf ht hfn k => ?_; clear hq
    subst hw
    cases r1 with
    | o a =>
      refine ex2_6 (inst_at C1 hs) fun od m I ho hd hn hl hr => ?_
      have r := hr x
      rw [hx] at r
      refine method_fn (C1.kin H) I ok.ga ok.gt hf ht ?_ ?_
      · show (lookIn x od).map _ = _
        rw [hl]
        cases hm : m x with
        | none => rfl
        | some val => rw [hm] at r; cases r
      · exact wpAny_mono (callWith_fn0 (fps := [.o a]) hfn R C1 F1 (.cons (.o a) .nil) k) (fun u0 u1 q => q.le l1) fun u0 u1 q => q) he
end
end Lrn
end
section
open PySem PySem.W PyProof.Rows PySem.Calls
set_option maxRecDepth 100000
set_option linter.unusedVariables false
namespace Lrn

section
variable {c : Ctx} {n : Nat} {env : Env} {ρ : Loc} {G : Gh} {st : St} {s : Shared} {A : Around}

open Classical in
noncomputable def St.set (st : St) (a : Addr) (ob : Ob) : St := fun b => if b = a then some ob else st b
theorem St.set_same (st : St) (a : Addr) (ob : Ob) : st.set a ob a = some ob := by unfold St.set; rw [if_pos rfl]
theorem St.set_other (st : St) {a b : Addr} (ob : Ob) (h : b ≠ a) : st.set a ob b = st b := by unfold St.set; rw [if_neg h]

theorem Conc.turn {a : Addr} {ob ob' : Ob} {h' : Heap} (C : Conc c G st s) (hs : st a = some ob) (hc : cellA a ob' = cellA a ob) (hb : ∀ b o, b ≠ cellA a ob → s.heap.get? b = some o → h'.get? b = some o)
    (hr : ObRep c.w G h' a ob') (t : Nat) : Conc c G (st.set a ob') { s with heap := h', toks := t } := by
  have other : ∀ b o, b ≠ a → (st.set a ob') b = some o → st b = some o := fun b o hba e => by rw [St.set_other _ _ hba] at e; exact e
  refine ⟨C.base, fun b o e => hb _ _ (by rintro rfl; rw [C.free a ob hs] at e; cases e) (C.fz b o e), fun b o e => ?_, fun b o e => ?_, fun b1 b2 o1 o2 e1 e2 hne => ?_, C.gens, C.os⟩
  · by_cases hba : b = a
    · subst hba; rw [St.set_same] at e; cases e; exact hr
    · have e' := other b o hba e
      refine ex1_1 ((C.own b o e').cell) fun oo hoo => ?_
      exact (C.own b o e').mono (.refl _) ((hb _ _ (C.apart b a o ob e' hs hba) hoo).trans hoo.symm)
  · by_cases hba : b = a
    · subst hba; rw [St.set_same] at e; cases e; rw [hc]; exact C.free b ob hs
    · exact C.free b o (other b o hba e)
  · by_cases h1 : b1 = a
    · subst h1
      rw [St.set_same] at e1; cases e1
      rw [hc]
      exact C.apart b1 b2 ob o2 hs (other b2 o2 (Ne.symm hne) e2) hne
    · by_cases h2 : b2 = a
      · subst h2
        rw [St.set_same] at e2; cases e2
        rw [hc]
        exact C.apart b1 b2 o1 ob (other b1 o1 h1 e1) hs hne
      · exact C.apart b1 b2 o1 o2 (other b1 o1 h1 e1) (other b2 o2 h2 e2) hne

theorem wpAny_nsSetK {a : Addr} {m : Str → Option Value} {k : Nat} {name : Str} {v : Value} {Q : Unit → Shared → Prop} {M : Model} {E : Value → Shared → Prop} (hn : NsK s.heap a m k)
    (hQ : ∀ h', NsK h' a (fun x => if x = name then some v else m x) (if (m name).isSome = true then k else k + 1) → Heap.SameBut a s.heap h' → Q () { s with heap := h', toks := s.toks + 1 }) : wpAny M A (nsSet a name v) Q E s := fun Γ p u0 => by
  refine ex3_5 hn fun o es ep ho hd hk hm hz => ?_
  simp only [nsSet, strHash, Sem.wp_bind', Sem.wp_cmd_ask, Sem.wp_pure', Sem.wp_cmd_mkText]
  rw [Sem.wp_loadPart_of M Γ _ p { s with toks := s.toks + 1 } (o := o) _ ho]
  have hany : es.any (·.refKey) = false := by
    rw [Array.any_eq_false']; intro e he; obtain ⟨n, t, h⟩ := hk e he; simp [DictEntry.refKey, h]
  simp only [hd, aRefKeyMayBeTheName_eq, aRefKeyMayBeTheNameByArray, hany, Bool.and_false, Bool.false_eq_true, if_false, Sem.wp_cmd_updatePart]
  refine ⟨by rw [ho]; rfl, hQ _ ?_ (Heap.SameBut.update ..)⟩
  obtain ⟨c, d, dt, sl⟩ := o
  subst hd
  have hmn := hm name
  unfold nsFind findBy at hmn
  cases hi : es.findIdx? (·.key.isStr name) with
  | some i =>
    have hsome : (m name).isSome = true := by
      rw [← hmn]
      have : (es.find? fun e => e.key.isStr name).isSome = true := by
        rw [Array.find?_isSome]
        have hlt := Array.findIdx?_eq_some_iff_getElem.mp hi
        refine ex1_2 hlt fun h1 h2 u0 => ?_
        exact ⟨es[i], Array.getElem_mem h1, h2⟩
      simpa using this
    rw [if_pos hsome]
    refine ⟨_, _, ep, Heap.get?_update_self _ ho (by simp only [Obj.putName_eq, Obj.putNameByArray, hi]; rfl), by simp only [Obj.putName_eq, Obj.putNameByArray, hi]; rfl, hk.modify _ _, fun x => ?_, by simpa using hz⟩
    show _ = if x = name then some v else m x
    rw [← hm]; exact findBy_modify (fun n v => v.isStr n) Value.isStr_inj es name x v i hi
  | none =>
    have hnone : (m name).isSome = false := by
      rw [← hmn]
      have : es.find? (fun e => e.key.isStr name) = none := by
        rw [Array.find?_eq_none]
        intro x hx
        have := Array.findIdx?_eq_none_iff.mp hi x hx
        simpa using this
      rw [this]; rfl
    rw [if_neg (show ¬ (m name).isSome = true by rw [hnone]; decide)]
    refine ⟨_, _, ep + 1, Heap.get?_update_self _ ho (by simp only [Obj.putName_eq, Obj.putNameByArray, hi]; rfl), by simp only [Obj.putName_eq, Obj.putNameByArray, hi]; rfl, hk.push _ _ _ _, fun x => ?_, by simp only [Array.size_push]; walk_at "o"⟩
    show _ = if x = name then some v else m x
    rw [← hm]
    exact findBy_push (fun n v => v.isStr n) es name x _ _ v (fun y => by
      show (name == y) = decide (y = name)
      by_cases h : y = name
      · subst h; simp
      · have : ¬ name = y := fun e => h e.symm
        simp [h, this]) hi

theorem set_attr {a Cc dx : Addr} {k : Nat} {attrs : Loc} {x : Str} {v : Value} {p : V} {Q : Unit → Shared → Prop} {E : Value → Shared → Prop} (H : CtxOK c) (C : Conc c G st s) (hs : st a = some (.inst Cc dx k attrs)) (ok : ClsOK c Cc) (hf : findIn c.K (.ref Cc) x = some none) (r : Rep G v p) (hk : k < 1000)
    (h : ∀ s', Conc c G (st.set a (.inst Cc dx (if (attrs x).isSome = true then k else k + 1) (upd attrs x p))) s' → Q () s') : wpAny (model c.prog c.w) A (setAttr (.ref a) x v) Q E s := by
  refine ex2_6 (inst_at C hs) fun od m I ho hd hn hl hr => ?_
  have X := C.kin H
  have C2 := C.tok (s.toks + 1)
  refine ex2_6 (inst_at C2 hs) fun od2 m2 I2 ho2 hd2 hn2 hl2 hr2 => ?_
  refine set_plain X I ok.sa ?_
  refine osa_open (s := { s with toks := s.toks + 1 }) (r := none) X I2 ok.po (by unfold takerIn; rw [hf]; rfl) fun b => ?_
  refine ex1_2 (any_some ok.hd) fun cd hc hd' => ?_
  obtain ⟨hx, hcl, hno, -⟩ := I2
  refine wpAny_bind (wpAny_pure (wpAny_bind (wpAny_bind (wpAny_loadPart hx (wpAny_bind (looks_clsIn X hc _ _ _ _ (fun u0 u1 e => e) ?_))))))
  rw [hd']
  refine wpAny_pure (a := some dx) (wpAny_bind (wpAny_pure (wpAny_bind ?_)))
  refine wpAny_nsSetK (s := { s with toks := s.toks + 1 }) hn2 fun h' hn' hs' => ?_
  have hmk : (m2 x).isSome = (attrs x).isSome := by
    have := hr2 x
    cases e1 : m2 x <;> cases e2 : attrs x <;> rw [e1, e2] at this <;> first | rfl | cases this
  rw [hmk] at hn'
  refine ex0_2 (C.own _ _ hs) fun g u0 => ?_
  have C' : Conc c G (st.set a (.inst Cc dx (if (attrs x).isSome = true then k else k + 1) (upd attrs x p))) { s with heap := h', toks := s.toks + 1 + 1 } := by
    refine C.turn (ob' := .inst Cc dx (if (attrs x).isSome = true then k else k + 1) (upd attrs x p)) hs rfl (fun b o hb e => (hs'.2 b hb).trans e) ⟨g, _, hn', fun y => ?_⟩ _
    unfold upd
    by_cases hy : y = x
    · rw [if_pos hy, if_pos hy]; exact .some r
    · rw [if_neg hy, if_neg hy]; exact hr2 y
  refine ex3_5 hn' fun o3 es3 ep3 ho3 hd3 u0 u1 hz3 => ?_
  refine wpAny_bind (wpAny_lookBehind ho3 ?_ (wpAny_pure (h _ C')))
  rw [hd3]
  exact pastItsLine_dict (by rw [sizeLine_eq]; split at hz3 <;> walk_at "o")

theorem AWS_AssignAttr {o e : Expr} {x : Str} {ap pos : Pos} {K : Fl → Loc → St → Prop} (H : CtxOK c)
    (h : AWE c n env ρ st e fun p st1 => AWE c n env ρ st1 o fun w st2 => ∃ a Cc dx k attrs, w = .o a ∧ st2 a = some (.inst Cc dx k attrs) ∧ ClsOK c Cc ∧ findIn c.K (.ref Cc) x = some none ∧ k < 1000 ∧ K .next ρ (st2.set a (.inst Cc dx (if (attrs x).isSome = true then k else k + 1) (upd attrs x p))))
    (hs : swapsWith e (some (.Attribute o x ap)) pos.line env = pure false := by rfl) : AWS c n env ρ st (.Assign [.Attribute o x ap] e pos) K := fun A G s R C F =>
  plainObj_wpAny_Assign_Attribute (AWE.then h R C F fun v s1 G1 st1 p l1 C1 F1 r1 k1 => AWE.then k1 R C1 F1 fun w s2 G2 st2 y l2 C2 F2 r2 hq => by
    refine ex5_6 hq fun a Cc dx kk attrs hw hst ok hf hk k => ?_; clear hq
    subst hw
    cases r2 with
    | o a =>
      refine wpAny_mono (liftU (K := K) C2 F2 fun G3 l3 C3 => set_attr H C3 hst ok hf (r1.mono (l2.trans l3).seq) hk fun s' C' => ⟨G3, _, .refl _, C', k⟩) (fun u0 u1 q => q.le (l1.trans l2)) fun u0 u1 q => q) hs
end
end Lrn
end
section
open PySem PySem.W PyProof.Rows PySem.Calls
set_option maxRecDepth 100000
set_option linter.unusedVariables false
namespace Lrn

section
variable {c : Ctx} {n : Nat} {env : Env} {ρ : Loc} {G : Gh} {st : St} {s : Shared} {A : Around}

theorem PostC.of {K : V → St → Prop} {v : Value} {x : V} (C : Conc c G st s) (r : Rep G v x) (k : K x st) : PostC c G K v s := ⟨G, st, x, .refl _, C, r, k⟩
theorem PostC.alloc {K : V → St → Prop} (C : Conc c G st s) (o : Obj) (x : V)
    (hr : ∀ G', G.le G' → G' s.heap.objs.size = some (true, o) → Rep G' (.ref s.heap.objs.size) x) (k : K x st) (ho : o.isFreed = false := by rfl) :
    PostC c G K (.ref s.heap.objs.size) { s with heap := s.heap.push o } := by
  refine ex1_3 (C.newG o ho) fun G2 l2 e2 C2 => ?_
  exact ⟨G2, st, x, l2, C2, hr G2 l2 e2, k⟩
theorem PostC.lst {K : V → St → Prop} {vs : List Value} {xs : List D} (C : Conc c G st s) (r : RepDs G vs xs) (k : K (.d (.lst xs)) st) :
    PostC c G K (.ref s.heap.objs.size) { s with heap := s.heap.push { cls := .type "list", data := .seq vs.toArray } } :=
  .alloc C (seqO "list" vs 0) _ (fun G' l e => .d (.lst (vs := vs) (n := 0) e (r.mono l.seq))) k
theorem PostC.tup {K : V → St → Prop} {vs : List Value} {xs : List D} (C : Conc c G st s) (r : RepDs G vs xs) (k : K (.d (.tup xs)) st) :
    PostC c G K (.ref s.heap.objs.size) { s with heap := s.heap.push { cls := .type "tuple", data := .seq vs.toArray } } :=
  .alloc C (seqO "tuple" vs 0) _ (fun G' l e => .d (.tup (vs := vs) (n := 0) e (r.mono l.seq))) k

noncomputable def OpG (c : Ctx) (n : Nat) (x y : V) (st : St) (K : V → St → Prop) : Prop :=
  ∀ A G s a b, Room n A → Conc c G st s → Rep G a x → Rep G b y → (∃ T id, s.TypeIs a T ∧ typeLookup (.type T) "__getitem__" = pure (some (.builtin id))) ∧ wpAny (model c.prog c.w) A (getItem a b) (PostC c G K) (fun u0 u1 => False) s

theorem AWE_Subscript {e i : Expr} {pos : Pos} {K : V → St → Prop} (h : AWE c n env ρ st e fun x st1 => AWE c n env ρ st1 i fun y st2 => OpG c n x y st2 K)
    (hs : ∀ o k, subscripted i false o k = operate [o, k] (getItem o k) := by intro _ _; with_unfolding_all rfl) : AWE c n env ρ st (.Subscript e i pos) K := fun A G s R C F =>
  Subscript_ (AWE.then h R C F fun a s1 G1 st1 x l1 C1 F1 r1 k1 => AWE.then k1 R C1 F1 fun b s2 G2 st2 y l2 C2 F2 r2 k2 => by
    refine wpAny_mono (lift C2 F2 fun G3 l3 C3 => ?_) (fun u0 u1 q => q.le (l1.trans l2)) fun u0 u1 q => q
    obtain ⟨⟨T, id, hT, hl⟩, hg⟩ := k2 A G3 s2 a b R C3 (r1.mono (l2.trans l3).seq) (r2.mono l3.seq)
    exact tail_any hT hl hg (hs _ _))

theorem isTup_of {a : Addr} {vs : List Value} {m : Nat} (C : Conc c G st s) (e : G a = some (true, seqO "tuple" vs m)) : IsTup s.heap a vs.toArray := ⟨_, C.fz _ _ e, rfl, m, rfl⟩
theorem isList_of {a : Addr} {vs : List Value} {m : Nat} (C : Conc c G st s) (e : G a = some (true, seqO "list" vs m)) : s.heap.IsList a vs.toArray := ⟨_, C.fz _ _ e, rfl, m, rfl⟩

theorem OpG_tup {xs : List D} {i : Int} {j : Nat} {x : D} {K : V → St → Prop} (hj : seqIndex? i xs.length = some j) (hx : xs[j]? = some x) (hi : -1000000 < i ∧ i < 1000000) (h : K (.d x) st) : OpG c n (.d (.tup xs)) (.d (.int i)) st K :=
  fun A G s a b R C r1 r2 => by
    cases r1 with | d r1 => cases r1 with | tup e q =>
    cases r2 with | d r2 => cases r2 with | int i t =>
    refine ex1_2 (q.get hx) fun v hv rv => ?_
    have ht := isTup_of C e
    exact ⟨⟨_, _, ht.typeIs, slot_tuple_getitem.lookup⟩, getItem_tuple ht (by walk_at "o") (by walk_at "o") (by rw [List.size_toArray, q.length]; exact hj) (by simpa using hv) (PostC.of C (.d rv) h)⟩

theorem getItem_seq {a : Addr} {vs : List Value} {i : Int} {t : Tok} {j : Nat} {v : Value} {Q : Value → Shared → Prop} {E : Value → Shared → Prop} (hl : s.heap.IsList a vs.toArray) (hj : seqIndex? i vs.length = some j) (hv : vs[j]? = some v) (hi : -1000000 < i ∧ i < 1000000) (h : Q v s) :
    wpAny (model c.prog c.w) A (getItem (.ref a) (.int i t)) Q E s := by
  unfold seqIndex? at hj
  dsimp only at hj
  by_cases h0 : i < 0
  · rw [if_pos h0] at hj
    split at hj
    · rename_i hh
      cases hj
      simp only [Bool.and_eq_true, decide_eq_true_eq] at hh
      exact wpAny_getItem_list_neg hl h0 (by rw [List.size_toArray]; walk_at "o") (by walk_at "o") (by rw [List.size_toArray]; simpa using hv) h
    · cases hj
  · rw [if_neg h0] at hj
    split at hj
    · rename_i hh
      cases hj
      exact wpAny_getItem_list hl (by walk_at "o") (by walk_at "o") (by simpa using hv) h
    · cases hj

theorem OpG_lst {xs : List D} {i : Int} {j : Nat} {x : D} {K : V → St → Prop} (hj : seqIndex? i xs.length = some j) (hx : xs[j]? = some x) (hi : -1000000 < i ∧ i < 1000000) (h : K (.d x) st) : OpG c n (.d (.lst xs)) (.d (.int i)) st K :=
  fun A G s a b R C r1 r2 => by
    cases r1 with | d r1 => cases r1 with | lst e q =>
    cases r2 with | d r2 => cases r2 with | int i t =>
    refine ex1_2 (q.get hx) fun v hv rv => ?_
    have hl := isList_of C e
    exact ⟨⟨_, _, hl.typeIs, list_getitem_lookup⟩, getItem_seq hl (by rw [q.length]; exact hj) hv hi (PostC.of C (.d rv) h)⟩
theorem OpG_mlst {l : Addr} {xs : List D} {i : Int} {j : Nat} {x : D} {K : V → St → Prop} (hs : st l = some (.lst xs)) (hj : seqIndex? i xs.length = some j) (hx : xs[j]? = some x) (hi : -1000000 < i ∧ i < 1000000) (h : K (.d x) st) : OpG c n (.o l) (.d (.int i)) st K :=
  fun A G s a b R C r1 r2 => by
    cases r1 with | o l =>
    cases r2 with | d r2 => cases r2 with | int i t =>
    refine ex2_2 (C.own _ _ hs) fun vs m ho q => ?_
    refine ex1_2 (q.get hx) fun v hv rv => ?_
    have hl : s.heap.IsList l vs.toArray := ⟨_, ho, rfl, m, rfl⟩
    exact ⟨⟨_, _, hl.typeIs, list_getitem_lookup⟩, getItem_seq hl (by rw [q.length]; exact hj) hv hi (PostC.of C (.d rv) h)⟩

theorem RepDs.take {vs : List Value} {xs : List D} : ∀ (i : Nat), RepDs G vs xs → RepDs G (vs.take i) (xs.take i)
  | 0, r => by simpa using RepDs.nil
  | i + 1, .nil => by simpa using RepDs.nil
  | i + 1, .cons a r => by simpa using RepDs.cons a (RepDs.take i r)
inductive IsL (st : St) : V → List D → Prop
  | val (xs : List D) : IsL st (.d (.lst xs)) xs
  | obj {l : Addr} {xs : List D} : st l = some (.lst xs) → IsL st (.o l) xs
theorem IsL.get {v : V} {xs : List D} {a : Value} (h : IsL st v xs) (C : Conc c G st s) (r : Rep G a v) : ∃ l vs m, a = .ref l ∧ s.heap.get? l = some (seqO "list" vs m) ∧ RepDs G vs xs := by
  cases h with
  | val => cases r with | d r => cases r with | lst e q => exact ⟨_, _, _, rfl, C.fz _ _ e, q⟩
  | obj h => cases r with | o => obtain ⟨vs, m, ho, q⟩ := C.own _ _ h; exact ⟨_, vs, m, rfl, ho, q⟩

theorem slice_core {e : Expr} {sl : Expr} {lo hi : Option Int} {xs : List D} {K : V → St → Prop} {v : V}
    {a l u : Value} (R : Room n A) (C : Conc c G st s) (F : FrameOK env ρ G st s.heap) (il : IsL st v xs) (r : Rep G a v) (pl : IsPart l lo) (pu : IsPart u hi) (hx : xs.length ≤ 1000)
    (hs : subscripted sl false a (.ref s.heap.objs.size) = operate [.ref s.heap.objs.size, a] (getItem a (.ref s.heap.objs.size)))
    (k : K (.d (.lst ((xs.drop (lo.elim 0 (clipAt xs.length))).take (hi.elim xs.length (clipAt xs.length) - lo.elim 0 (clipAt xs.length))))) st) :
    wpAny (model c.prog c.w) A (subscriptTail e sl a (.ref s.heap.objs.size)) (PostE c env ρ G K) (fun u0 u1 => False) { s with heap := s.heap.push { cls := .type "slice", data := .fields #[l, u, .none] } } := by
  refine ex1_3 (freeze C F) fun G1 l1 C1 back => ?_
  refine ex3_3 (il.get C1 (r.mono l1.seq)) fun ad vs m hr1 ho q => ?_; subst hr1
  refine ex1_3 (C1.newG { cls := .type "slice", data := .fields #[l, u, .none] } rfl) fun G2 l2 e2 C2 => ?_
  have hl : ({ s with heap := s.heap.push { cls := .type "slice", data := .fields #[l, u, .none] } } : Shared).heap.IsList ad vs.toArray := ⟨_, Heap.get?_push_of_some _ ho, rfl, m, rfl⟩
  have hlen := q.length
  refine tail_any hl.typeIs list_getitem_lookup (wpAny_getItem_list_slice hl (Heap.IsSliceOf.new ..) pl pu .none (by simp) ?_ (by rw [List.size_toArray, sizeLine_eq]; walk_at "o")) hs
  have he : slicePick vs.toArray lo hi none = ((vs.drop (lo.elim 0 (clipAt xs.length))).take (hi.elim xs.length (clipAt xs.length) - lo.elim 0 (clipAt xs.length))).toArray := by
    rw [slicePick_plain, List.size_toArray, hlen]
  rw [he]
  have hp := PostC.lst (K := K) C2 ((((q.mono l2.seq).drop (lo.elim 0 (clipAt xs.length)))).take (hi.elim xs.length (clipAt xs.length) - lo.elim 0 (clipAt xs.length))) k
  refine ex3_4 hp fun G3 st3 x3 l3 C3 r3 k3 => ?_
  refine ex1_4 (back G3 st3 _ (l2.trans l3) C3) fun G4 l4 C4 F4 sq => ?_
  exact ⟨G4, st3, x3, l4, C4, F4, r3.mono sq, k3⟩

theorem AWE_UpTo {e u : Expr} {p pos : Pos} {K : V → St → Prop}
    (h : AWE c n env ρ st e fun v st1 => AWE c n env ρ st1 u fun w st2 => ∃ xs i, w = .d (.int i) ∧ IsL st2 v xs ∧ xs.length ≤ 1000 ∧ K (.d (.lst (xs.take (clipAt xs.length i)))) st2) :
    AWE c n env ρ st (.Subscript e (.Slice none (some u) none p) pos) K := fun A G s R C F =>
  Subscript_ (AWE.then h R C F fun a s1 G1 st1 x l1 C1 F1 r1 k1 => by
    refine wpAny_Slice ?_
    rw [evalPart_none, evalPart_some]
    refine wpAny_pure (AWE.then k1 R C1 F1 fun b s2 G2 st2 y l2 C2 F2 r2 ⟨xs, i, hw, il, hx, k⟩ => wpAny_pure ?_)
    subst hw
    cases r2 with | d r2 => cases r2 with | int i t =>
    exact wpAny_mono (slice_core R C2 F2 il (r1.mono l2.seq) .none (.int i t) hx (by with_unfolding_all rfl) (by simpa using k)) (fun u0 u1 q => q.le (l1.trans l2)) fun u0 u1 q => q)
theorem AWE_From {e u : Expr} {p pos : Pos} {K : V → St → Prop}
    (h : AWE c n env ρ st e fun v st1 => AWE c n env ρ st1 u fun w st2 => ∃ xs i, w = .d (.int i) ∧ IsL st2 v xs ∧ xs.length ≤ 1000 ∧ K (.d (.lst (xs.drop (clipAt xs.length i)))) st2) :
    AWE c n env ρ st (.Subscript e (.Slice (some u) none none p) pos) K := fun A G s R C F =>
  Subscript_ (AWE.then h R C F fun a s1 G1 st1 x l1 C1 F1 r1 k1 => by
    refine wpAny_Slice ?_
    rw [evalPart_none, evalPart_some]
    refine (AWE.then k1 R C1 F1 fun b s2 G2 st2 y l2 C2 F2 r2 ⟨xs, i, hw, il, hx, k⟩ => wpAny_pure (wpAny_pure ?_))
    subst hw
    cases r2 with | d r2 => cases r2 with | int i t =>
    refine wpAny_mono (slice_core R C2 F2 il (r1.mono l2.seq) (.int i t) .none hx (by with_unfolding_all rfl) (K := K) ?_) (fun u0 u1 q => q.le (l1.trans l2)) fun u0 u1 q => q
    simp only [Option.elim]
    rw [List.take_of_length_le (by rw [List.length_drop]; exact Nat.le_refl _)]
    exact k)
end
end Lrn
end
section
open PySem PySem.W PyProof.Rows PySem.Calls
set_option maxRecDepth 100000
set_option linter.unusedVariables false
namespace Lrn

mutual
noncomputable def D.py : D → PyData
  | .none => .none
  | .bool b => .bool b
  | .int i => .int i
  | .str x => .str x
  | .tup xs => .tuple (D.pys xs)
  | .lst xs => .list (D.pys xs)
  | .rng a b => .none
noncomputable def D.pys : List D → List PyData
  | [] => []
  | x :: xs => D.py x :: D.pys xs
end
inductive OK : Nat → D → Prop
  | none {n : Nat} : OK n .none
  | int {n : Nat} (i : Int) : OK n (.int i)
  | str {n : Nat} {x : Str} : PyData.strOk x = true → OK n (.str x)
  | tup {n : Nat} {xs : List D} : (∀ x ∈ xs, OK n x) → OK (n + 1) (.tup xs)
  | lst {n : Nat} {xs : List D} : (∀ x ∈ xs, OK n x) → OK (n + 1) (.lst xs)

theorem pys_canLay : ∀ (xs : List D), (∀ x ∈ xs, x.py.canLay0 = true) → PyData.canLayAll0 (D.pys xs) = true
  | [], _ => by simp [D.pys, PyData.canLayAll0]
  | x :: xs, h => by rw [D.pys, PyData.canLayAll0, h x (.head _), pys_canLay xs fun y hy => h y (.tail _ hy)]; rfl
theorem pys_depth {n : Nat} : ∀ (xs : List D), (∀ x ∈ xs, x.py.depth ≤ n) → PyData.depthAll (D.pys xs) ≤ n
  | [], _ => by simp [D.pys, PyData.depthAll]
  | x :: xs, h => by rw [D.pys, PyData.depthAll]; exact Nat.max_le.mpr ⟨h x (.head _), pys_depth xs fun y hy => h y (.tail _ hy)⟩
theorem OK.canLay {n : Nat} {d : D} (h : OK n d) : d.py.canLay0 = true := by
  induction h with
  | none => simp [D.py, PyData.canLay0]
  | int => simp [D.py, PyData.canLay0]
  | str e => simpa [D.py, PyData.canLay0] using e
  | tup _ ih => rw [D.py, PyData.canLay0]; exact pys_canLay _ ih
  | lst _ ih => rw [D.py, PyData.canLay0]; exact pys_canLay _ ih
theorem OK.depth {n : Nat} {d : D} (h : OK n d) : d.py.depth ≤ n + 1 := by
  induction h with
  | none => simp [D.py, PyData.depth]
  | int => simp [D.py, PyData.depth]
  | str e => simp [D.py, PyData.depth]
  | tup _ ih => rw [D.py, PyData.depth]; have := pys_depth _ ih; walk_at "o"
  | lst _ ih => rw [D.py, PyData.depth]; have := pys_depth _ ih; walk_at "o"
theorem OK.shaped {n : Nat} {d : D} (h : OK n d) (hn : n ≤ 60) : SeqAt.shaped d.py = true := by
  unfold SeqAt.shaped
  rw [h.canLay, Bool.true_and]
  exact decide_eq_true (by have := h.depth; walk_at "o")
theorem OK.eqv {n : Nat} {a : D} (h : OK n a) : ∀ {m : Nat} {b : D}, OK m b → (PyData.eqv a.py b.py = true ↔ a = b) := by
  have lists : ∀ (xs : List D), (∀ x ∈ xs, ∀ {m : Nat} {b : D}, OK m b → (PyData.eqv x.py b.py = true ↔ x = b)) → ∀ {m : Nat} (ys : List D), (∀ y ∈ ys, OK m y) → (PyData.eqvAll (D.pys xs) (D.pys ys) = true ↔ xs = ys) := by
    intro xs
    induction xs with
    | nil => intro _ m ys _; cases ys <;> simp [D.pys, PyData.eqvAll]
    | cons x xs k =>
      intro hx m ys hy
      cases ys with
      | nil => simp [D.pys, PyData.eqvAll]
      | cons y ys =>
        rw [D.pys, D.pys, PyData.eqvAll, Bool.and_eq_true, hx x (.head _) (hy y (.head _)), k (fun z hz => hx z (.tail _ hz)) ys (fun z hz => hy z (.tail _ hz)), List.cons.injEq]
  induction h with
  | none => intro m b hb; cases hb <;> simp [D.py, PyData.eqv]
  | int i => intro m b hb; cases hb <;> simp [D.py, PyData.eqv]
  | str e => intro m b hb; cases hb <;> simp [D.py, PyData.eqv]
  | tup _ ih =>
    intro m b hb
    cases hb with
    | tup hy => rw [D.py, D.py, PyData.eqv, lists _ ih _ hy, D.tup.injEq]
    | _ => simp [D.py, PyData.eqv]
  | lst _ ih =>
    intro m b hb
    cases hb with
    | lst hy => rw [D.py, D.py, PyData.eqv, lists _ ih _ hy, D.lst.injEq]
    | _ => simp [D.py, PyData.eqv]

section
variable {c : Ctx} {n : Nat} {env : Env} {ρ : Loc} {G : Gh} {st : St} {s : Shared} {A : Around}

theorem OK.reads {k : Nat} {d : D} (h : OK k d) (C : Conc c G st s) : ∀ {v : Value}, RepD G v d → ∃ as, Reads s.heap v d.py as := by
  have lists : ∀ (xs : List D), (∀ x ∈ xs, ∀ {v : Value}, RepD G v x → ∃ as, Reads s.heap v x.py as) → ∀ {vs : List Value}, RepDs G vs xs → ∃ as, ReadsAll s.heap vs (D.pys xs) as := by
    intro xs
    induction xs with
    | nil => intro _ vs r; cases r; exact ⟨_, .nil⟩
    | cons x xs kk =>
      intro hx vs r
      cases r with
      | cons a r =>
        refine ex1_1 (hx x (.head _) a) fun as e => ?_
        refine ex1_1 (kk (fun z hz => hx z (.tail _ hz)) r) fun bs e' => ?_
        exact ⟨_, .cons e e'⟩
  induction h with
  | none => intro v r; cases r; exact ⟨_, .none⟩
  | int i => intro v r; cases r; exact ⟨_, .int ..⟩
  | str e => intro v r; cases r; exact ⟨_, .str ..⟩
  | tup _ ih =>
    intro v r
    cases r with
    | tup e q =>
      refine ex1_1 (lists _ ih q) fun as e' => ?_
      rw [D.py]
      exact ⟨_, .tuple (C.fz _ _ e) rfl rfl (by simpa [seqO] using e')⟩
  | lst _ ih =>
    intro v r
    cases r with
    | lst e q =>
      refine ex1_1 (lists _ ih q) fun as e' => ?_
      rw [D.py]
      exact ⟨_, .list (C.fz _ _ e) rfl rfl (by simpa [seqO] using e')⟩

open Classical in
theorem OpC_Eq {k m : Nat} {a b : D} {K : V → St → Prop} (ha : OK k a) (hb : OK m b) (hk : k ≤ 60) (hm : m ≤ 60) (h : K (.d (.bool (decide (a = b)))) st) : OpC c n .Eq (.d a) (.d b) st K := fun A G s x y R C r1 r2 => by
  cases r1 with | d r1 => cases r2 with | d r2 =>
  refine ex1_1 (ha.reads C r1) fun u0 e1 => ?_
  refine ex1_1 (hb.reads C r2) fun u0 e2 => ?_
  refine eq_dataH e1 e2 (ha.shaped hk) (hb.shaped hm) (by have := R.units; walk_at "o") (PostC.of C (.d (.bool _)) ?_)
  rw [show PyData.eqv a.py b.py = decide (a = b) from by rw [Bool.eq_iff_iff, ha.eqv hb, decide_eq_true_eq]]
  exact h
open Classical in
theorem OpC_Ne {k m : Nat} {a b : D} {K : V → St → Prop} (ha : OK k a) (hb : OK m b) (hk : k ≤ 60) (hm : m ≤ 60) (h : K (.d (.bool (decide (a ≠ b)))) st) : OpC c n .NotEq (.d a) (.d b) st K := fun A G s x y R C r1 r2 => by
  cases r1 with | d r1 => cases r2 with | d r2 =>
  refine ex1_1 (ha.reads C r1) fun u0 e1 => ?_
  refine ex1_1 (hb.reads C r2) fun u0 e2 => ?_
  refine ne_dataH e1 e2 (ha.shaped hk) (hb.shaped hm) (by have := R.units; walk_at "o") (PostC.of C (.d (.bool _)) ?_)
  rw [show (!PyData.eqv a.py b.py) = decide (a ≠ b) from by
    rw [show PyData.eqv a.py b.py = decide (a = b) from by rw [Bool.eq_iff_iff, ha.eqv hb, decide_eq_true_eq]]
    simp]
  exact h

theorem Rep.int1 {a : Value} {i : Int} (r1 : Rep G a (.d (.int i))) : ∃ t, a = .int i t := by
  cases r1 with | d r1 => cases r1 with | int => exact ⟨_, rfl⟩
theorem Rep.ints {a b : Value} {i j : Int} (r1 : Rep G a (.d (.int i))) (r2 : Rep G b (.d (.int j))) : ∃ t u, a = .int i t ∧ b = .int j u :=
  r1.int1.elim fun t h => r2.int1.elim fun u h' => ⟨t, u, h, h'⟩
theorem OpC_lt {i j : Int} {K : V → St → Prop} (h : K (.d (.bool (decide (i < j)))) st) : OpC c n .Lt (.d (.int i)) (.d (.int j)) st K := fun A G s x y R C r1 r2 => by
  refine ex2_2 (Rep.ints r1 r2) fun t u hr1 hr2 => ?_; clear r1 r2; subst hr1 hr2; exact P.lt_int (PostC.of C (.d (.bool _)) h)
theorem OpC_le {i j : Int} {K : V → St → Prop} (h : K (.d (.bool (decide (i ≤ j)))) st) : OpC c n .LtE (.d (.int i)) (.d (.int j)) st K := fun A G s x y R C r1 r2 => by
  refine ex2_2 (Rep.ints r1 r2) fun t u hr1 hr2 => ?_; clear r1 r2; subst hr1 hr2; exact P.le_int (PostC.of C (.d (.bool _)) h)
theorem OpC_gt {i j : Int} {K : V → St → Prop} (h : K (.d (.bool (decide (j < i)))) st) : OpC c n .Gt (.d (.int i)) (.d (.int j)) st K := fun A G s x y R C r1 r2 => by
  refine ex2_2 (Rep.ints r1 r2) fun t u hr1 hr2 => ?_; clear r1 r2; subst hr1 hr2; exact P.gt_int (PostC.of C (.d (.bool _)) h)
theorem OpC_ge {i j : Int} {K : V → St → Prop} (h : K (.d (.bool (decide (j ≤ i)))) st) : OpC c n .GtE (.d (.int i)) (.d (.int j)) st K := fun A G s x y R C r1 r2 => by
  refine ex2_2 (Rep.ints r1 r2) fun t u hr1 hr2 => ?_; clear r1 r2; subst hr1 hr2; exact P.ge_int (PostC.of C (.d (.bool _)) h)
theorem OpC_eqi {i j : Int} {K : V → St → Prop} (h : K (.d (.bool (decide (i = j)))) st) : OpC c n .Eq (.d (.int i)) (.d (.int j)) st K := fun A G s x y R C r1 r2 => by
  refine ex2_2 (Rep.ints r1 r2) fun t u hr1 hr2 => ?_; clear r1 r2; subst hr1 hr2; exact P.eq_int (PostC.of C (.d (.bool _)) (by rw [show (i == j) = decide (i = j) from rfl]; exact h))
theorem OpC_nei {i j : Int} {K : V → St → Prop} (h : K (.d (.bool (decide (i ≠ j)))) st) : OpC c n .NotEq (.d (.int i)) (.d (.int j)) st K := fun A G s x y R C r1 r2 => by
  refine ex2_2 (Rep.ints r1 r2) fun t u hr1 hr2 => ?_; clear r1 r2; subst hr1 hr2; exact P.ne_int (PostC.of C (.d (.bool _)) (by rw [show (i != j) = decide (i ≠ j) from by rw [decide_not]; rfl]; exact h))
theorem OpC_eqs {x y : Str} {K : V → St → Prop} (h : K (.d (.bool (x == y))) st) : OpC c n .Eq (.d (.str x)) (.d (.str y)) st K := fun A G s a b R C r1 r2 => by
  cases r1 with | d r1 => cases r1 with | str => cases r2 with | d r2 => cases r2 with | str => exact PyProof.Rows.eq_str (PostC.of C (.d (.bool _)) h)
theorem OpC_isNone {x : D} {K : V → St → Prop} (h : K (.d (.bool (match x with | .none => true | _ => false))) st) : OpC c n .Is (.d x) (.d .none) st K := fun A G s a b R C r1 r2 => by
  cases r2 with | d r2 => cases r2 with | none =>
  cases r1 with | d r1 =>
  cases r1 with
  | none => exact is_none_none (PostC.of C (.d (.bool _)) h)
  | _ => exact is_none_ne (by intro x; cases x) (PostC.of C (.d (.bool _)) h)
theorem OpC_isNotNone {x : D} {K : V → St → Prop} (h : K (.d (.bool (match x with | .none => false | _ => true))) st) : OpC c n .IsNot (.d x) (.d .none) st K := fun A G s a b R C r1 r2 => by
  cases r2 with | d r2 => cases r2 with | none =>
  cases r1 with | d r1 =>
  cases r1 with
  | none => exact isnot_none_none (PostC.of C (.d (.bool _)) h)
  | _ => exact isnot_none_ne (by intro x; cases x) (PostC.of C (.d (.bool _)) h)

theorem OpB_add {i j : Int} {K : V → St → Prop} (h : K (.d (.int (i + j))) st) : OpB c n .Add (.d (.int i)) (.d (.int j)) st K := fun A G s x y R C r1 r2 => by
  refine ex2_2 (Rep.ints r1 r2) fun t u hr1 hr2 => ?_; clear r1 r2; subst hr1 hr2; exact P.add_int (PostC.of (C.tok _) (.d (.int _ _)) h)
theorem OpB_sub {i j : Int} {K : V → St → Prop} (h : K (.d (.int (i - j))) st) : OpB c n .Sub (.d (.int i)) (.d (.int j)) st K := fun A G s x y R C r1 r2 => by
  refine ex2_2 (Rep.ints r1 r2) fun t u hr1 hr2 => ?_; clear r1 r2; subst hr1 hr2; exact P.sub_int (PostC.of (C.tok _) (.d (.int _ _)) h)
theorem OpB_mod {i j : Int} {K : V → St → Prop} (hj : 0 < j) (h : K (.d (.int (i % j))) st) : OpB c n .Mod (.d (.int i)) (.d (.int j)) st K := fun A G s x y R C r1 r2 => by
  refine ex2_2 (Rep.ints r1 r2) fun t u hr1 hr2 => ?_; clear r1 r2; subst hr1 hr2
  exact mod_int' (by walk_at "o") (PostC.of (C.tok _) (.d (.int _ _)) (by rw [Int.fmod_eq_emod_of_nonneg _ (by walk_at "o")]; exact h))
theorem OpB_div {i j : Int} {K : V → St → Prop} (hj : 0 < j) (hj' : j < 1000000) (h : K (.d (.int (i / j))) st) : OpB c n .FloorDiv (.d (.int i)) (.d (.int j)) st K := fun A G s x y R C r1 r2 => by
  refine ex2_2 (Rep.ints r1 r2) fun t u hr1 hr2 => ?_; clear r1 r2; subst hr1 hr2
  exact floordiv_int (by walk_at "o") (PostC.of (C.tok _) (.d (.int _ _)) (by rw [Int.fdiv_eq_ediv_of_nonneg _ (by walk_at "o")]; exact h)) (.inl (PyProof.noPylong_small (by lia)))
theorem OpU_neg {i : Int} {K : V → St → Prop} (h : K (.d (.int (-i))) st) : OpU c n .USub (.d (.int i)) st K := fun A G s x R C r1 => by
  cases r1 with | d r1 => cases r1 with | int => exact P.neg_int (PostC.of (C.tok _) (.d (.int _ _)) h)

theorem OpB_tup {xs ys : List D} {K : V → St → Prop} (hl : xs.length + ys.length ≤ 1000) (h : K (.d (.tup (xs ++ ys))) st) : OpB c n .Add (.d (.tup xs)) (.d (.tup ys)) st K := fun A G s x y R C r1 r2 => by
  cases r1 with | d r1 => cases r1 with | tup e q => cases r2 with | d r2 => cases r2 with | tup e2 q2 =>
  rename_i a vs m b ws m2
  have ho := C.fz _ _ e
  have ho2 := C.fz _ _ e2
  have el : vs.toArray ++ ws.toArray = (vs ++ ws).toArray := by simp
  by_cases hv : vs = []
  · subst hv
    cases q
    exact concat_meets ⟨_, ho, rfl⟩ ⟨_, ho2, rfl⟩ noFill_tuple_add seq_tuple_add PySem.F.slot_tuple_add PySem.F.entry_tuple_add (PySem.F.args_tuple_add_2 _ _)
      (tuple_addW0 a b _ ws.toArray m m2 none none #[] #[] (by simp)) ⟨ho, ho2, PostC.of C (.d (.tup e2 q2)) (by simpa using h)⟩
  · by_cases hw : ws = []
    · subst hw
      cases q2
      exact concat_meets ⟨_, ho, rfl⟩ ⟨_, ho2, rfl⟩ noFill_tuple_add seq_tuple_add PySem.F.slot_tuple_add PySem.F.entry_tuple_add (PySem.F.args_tuple_add_2 _ _)
        (tuple_addW1 a b vs.toArray _ m m2 none none #[] #[] (by simpa using hv) (by simp)) ⟨ho, ho2, PostC.of C (.d (.tup e q)) (by simpa using h)⟩
    · have hv1 := q.length
      have hv2 := q2.length
      refine concat_meets ⟨_, ho, rfl⟩ ⟨_, ho2, rfl⟩ noFill_tuple_add seq_tuple_add PySem.F.slot_tuple_add PySem.F.entry_tuple_add (PySem.F.args_tuple_add_2 _ _)
        (tuple_addW2 a b vs.toArray ws.toArray m m2 none none #[] #[] (by simpa using hv) (by simpa using hw) (by rw [List.size_toArray, List.size_toArray, sizeLine_eq]; walk_at "o")) ⟨ho, ho2, ?_⟩
      rw [el]
      exact PostC.tup C (q.append q2) h
theorem OpB_list {x y : V} {xs ys : List D} {K : V → St → Prop} (h1 : IsL st x xs) (h2 : IsL st y ys) (hl : xs.length + ys.length ≤ 1000) (h : K (.d (.lst (xs ++ ys))) st) : OpB c n .Add x y st K := fun A G s a b R C r1 r2 => by
  refine ex3_3 (h1.get C r1) fun l vs m hr1 ho q => ?_; subst hr1
  refine ex3_3 (h2.get C r2) fun l2 ws m2 hr1 ho2 q2 => ?_; subst hr1
  have hv1 := q.length
  have hv2 := q2.length
  refine P.add_list (n := m) (n2 := m2) ho ho2 ?_ (by rw [List.size_toArray, List.size_toArray, sizeLine_eq]; walk_at "o")
  rw [show vs.toArray ++ ws.toArray = (vs ++ ws).toArray by simp]
  exact PostC.lst C (q.append q2) h
end
end Lrn
end
section
open PySem PySem.W PyProof.Rows PySem.Calls
set_option maxRecDepth 100000
set_option linter.unusedVariables false
namespace Lrn

section
variable {c : Ctx} {n : Nat} {env : Env} {ρ : Loc} {G : Gh} {st : St} {s : Shared} {A : Around}

theorem Conc.ext {h' : Heap} (C : Conc c G st s) (hk : ∀ b o, s.heap.get? b = some o → h'.get? b = some o) (t : Nat) : Conc c G st { s with heap := h', toks := t } :=
  C.grow (fun b o u0 e => hk b o e) t
theorem Conc.ownOf (C : Conc c G st s) {a : Addr} (h : s.heap.get? a = none) : Own G st a := by
  refine ⟨?_, fun b ob e q => ?_⟩
  · cases e : G a with
    | none => rfl
    | some o => rw [C.fz _ _ e] at h; cases h
  · refine ex1_1 ((C.own b ob e).cell) fun o ho => ?_
    rw [q, h] at ho; cases ho
theorem Conc.newAt {h' : Heap} {a : Addr} {o : Obj} (C : Conc c G st s) (hk : ∀ b o, s.heap.get? b = some o → h'.get? b = some o) (t : Nat) (hn : s.heap.get? a = none) (ho : h'.get? a = some o) :
    ∃ G', G.le G' ∧ Conc c G' st { s with heap := h', toks := t } ∧ G' a = some (true, o) := by
  refine ex1_4 ((C.ext hk t).settle (C.ownOf hn) ho) fun G' l C' e u0 => ?_
  exact ⟨G', l, C', e⟩
theorem PostC.lstAt {h' : Heap} {a : Addr} {k : Nat} {K : V → St → Prop} {vs : List Value} {xs : List D} (C : Conc c G st s) (hk : ∀ b o, s.heap.get? b = some o → h'.get? b = some o) (t : Nat) (hn : s.heap.get? a = none) (ho : h'.get? a = some (seqO "list" vs k))
    (r : RepDs G vs xs) (h : K (.d (.lst xs)) st) : PostC c G K (.ref a) { s with heap := h', toks := t } := by
  refine ex1_3 (C.newAt hk t hn ho) fun G' l C' e => ?_
  exact ⟨G', st, _, l, C', .d (.lst e (r.mono l.seq)), h⟩
theorem AWE_CallT {T : String} {x : Str} {p pos : Pos} {e : Expr} {es : List Expr} {K : V → St → Prop} (H : CtxOK c) (hk : env.kindOf x = some .globalImplicit) (hn : nsIn c.K mainGlobals x = some none) (hv : bootBuiltins x = some (.type T)) (hne : x ≠ "__name__")
    (h : AWL c n env ρ st (e :: es) fun ps st1 => OpF c n (.type T) ps st1 K) (hs : starEach (e :: es) env = (false, eval e env) :: starEach es env := by rfl) (hplain : ∀ pos, (backTo pos (starEach es env)).any (·.1) = false := by intro _; rfl) (hd : (x == ("__debug__" : Str)) = false := by decide) :
    AWE c n env ρ st (.Call (.Name x p) (e :: es) [] pos) K := fun A G s R C F =>
  Call_ (eval_builtin H C F hk hn hv hne (PyProof.Rows.callWith_type1 (wpAny_mono (h A G s pos R C F) (fun vs s1 hq => e35 hq fun G1 st1 ps l1 C1 F1 r1 k1 =>
    wpAny_mono (lift C1 F1 fun G2 l2 C2 => k1 A G2 s1 vs R C2 (r1.mono l2.seq)) (fun u0 u1 q => q.le l1) fun u0 u1 q => q) fun u0 u1 q => q) hs (hplain pos)) hd)

theorem OpF_lenT {xs : List D} {K : V → St → Prop} (hl : xs.length ≤ 1000) (h : K (.d (.int xs.length)) st) : OpF c n (.builtin "len") [.d (.tup xs)] st K := fun A G s vs R C r => by
  cases r with | cons r1 r => cases r with | nil => cases r1 with | d r1 => cases r1 with | tup e q =>
  rename_i a vs m
  refine PyProof.Rows.len_tuple (isTup_of C e) (by rw [List.size_toArray]; have := q.length; walk_at "o") (PostC.of (C.tok _) (.d (.int _ _)) ?_)
  rw [List.size_toArray, q.length]; exact h
theorem OpF_lenL {v : V} {xs : List D} {K : V → St → Prop} (il : IsL st v xs) (hl : xs.length ≤ 1000) (h : K (.d (.int xs.length)) st) : OpF c n (.builtin "len") [v] st K := fun A G s vs R C r => by
  cases r with | cons r1 r => cases r with | nil =>
  refine ex3_3 (il.get C r1) fun l vs m hr1 ho q => ?_; subst hr1
  refine PyProof.Rows.len_list (items := vs.toArray) ⟨_, ho, rfl, m, rfl⟩ (by rw [List.size_toArray]; have := q.length; walk_at "o") (PostC.of (C.tok _) (.d (.int _ _)) ?_)
  rw [List.size_toArray, q.length]; exact h
theorem OpF_max {i j : Int} {K : V → St → Prop} (h : K (.d (.int (max i j))) st) : OpF c n (.builtin "max") [.d (.int i), .d (.int j)] st K := fun A G s vs R C r => by
  cases r with | cons r1 r => cases r with | cons r2 r => cases r with | nil =>
  cases r1 with | d r1 => cases r1 with | int => cases r2 with | d r2 => cases r2 with | int =>
  refine max_two_ints R.handled fun h' tk hk => ?_
  by_cases hij : j > i
  · rw [if_pos hij]; exact PostC.of (C.ext hk tk) (.d (.int _ _)) (by rw [show max i j = j by walk_at "o"] at h; exact h)
  · rw [if_neg hij]; exact PostC.of (C.ext hk tk) (.d (.int _ _)) (by rw [show max i j = i by walk_at "o"] at h; exact h)
theorem OpF_min {i j : Int} {K : V → St → Prop} (h : K (.d (.int (min i j))) st) : OpF c n (.builtin "min") [.d (.int i), .d (.int j)] st K := fun A G s vs R C r => by
  cases r with | cons r1 r => cases r with | cons r2 r => cases r with | nil =>
  cases r1 with | d r1 => cases r1 with | int => cases r2 with | d r2 => cases r2 with | int =>
  refine min_two_ints R.handled fun h' tk hk => ?_
  by_cases hij : j < i
  · rw [if_pos hij]; exact PostC.of (C.ext hk tk) (.d (.int _ _)) (by rw [show min i j = j by walk_at "o"] at h; exact h)
  · rw [if_neg hij]; exact PostC.of (C.ext hk tk) (.d (.int _ _)) (by rw [show min i j = i by walk_at "o"] at h; exact h)
theorem OpF_abs {i : Int} {K : V → St → Prop} (h : K (.d (.int i.natAbs)) st) : OpF c n (.builtin "abs") [.d (.int i)] st K := fun A G s vs R C r => by
  cases r with | cons r1 r => cases r with | nil => cases r1 with | d r1 => cases r1 with | int =>
  refine call_abs_int fun u tk => PostC.of (C.tok _) (.d (.int _ _)) ?_
  by_cases hi : i < 0
  · rw [if_pos hi]; rw [show (i.natAbs : Int) = -i by walk_at "o"] at h; exact h
  · rw [if_neg hi]; rw [show (i.natAbs : Int) = i by walk_at "o"] at h; exact h
theorem OpF_range1 {i : Int} {K : V → St → Prop} (h : K (.d (.rng 0 i)) st) : OpF c n (.type "range") [.d (.int i)] st K := fun A G s vs R C r => by
  cases r with | cons r1 r => cases r with | nil => cases r1 with | d r1 => cases r1 with | int _ t =>
  refine call_range_1 ?_
  refine ex1_3 (C.newAt (h' := s.heap.push (rngO 0 i s.toks t (s.toks + 1))) (fun b o e => Heap.get?_push_of_some _ e) (s.toks + 1 + 1) (a := s.heap.objs.size) (Heap.get?_none_of_le (Nat.le_refl _)) (Heap.get?_push_size _ rfl)) fun G' l C' e => ?_
  exact ⟨G', st, _, l, C', .d (.rng e), h⟩
theorem OpF_range2 {i j : Int} {K : V → St → Prop} (h : K (.d (.rng i j)) st) : OpF c n (.type "range") [.d (.int i), .d (.int j)] st K := fun A G s vs R C r => by
  cases r with | cons r1 r => cases r with | cons r2 r => cases r with | nil => cases r1 with | d r1 => cases r1 with | int _ t => cases r2 with | d r2 => cases r2 with | int _ u =>
  refine call_range_2 ?_
  refine ex1_3 (C.newAt (h' := s.heap.push (rngO i j t u s.toks)) (fun b o e => Heap.get?_push_of_some _ e) (s.toks + 1) (a := s.heap.objs.size) (Heap.get?_none_of_le (Nat.le_refl _)) (Heap.get?_push_size _ rfl)) fun G' l C' e => ?_
  exact ⟨G', st, _, l, C', .d (.rng e), h⟩
theorem OpF_tuple {v : V} {xs : List D} {K : V → St → Prop} (il : IsL st v xs) (hl : xs.length ≤ 1000) (h : K (.d (.tup xs)) st) : OpF c n (.type "tuple") [v] st K := fun A G s vs R C r => by
  cases r with | cons r1 r => cases r with | nil =>
  refine ex3_3 (il.get C r1) fun l vs m hr1 ho q => ?_; subst hr1
  refine call_tuple_list (items := vs.toArray) ⟨_, ho, rfl, m, rfl⟩ (fun h' hk => ?_) (by rw [List.size_toArray, sizeLine_eq]; have := q.length; walk_at "o")
  have C1 := C.ext hk s.toks
  exact PostC.tup C1 q h
theorem OpF_list {xs : List D} {K : V → St → Prop} (hl : xs.length ≤ 1000) (h : K (.d (.lst xs)) st) : OpF c n (.type "list") [.d (.tup xs)] st K := fun A G s vs R C r => by
  cases r with | cons r1 r => cases r with | nil => cases r1 with | d r1 => cases r1 with | tup e q =>
  rename_i a vs m
  refine call_list_seq a (.inr rfl) (C.fz _ _ e) rfl rfl (fun h' c' hk ho => ?_) (by rw [List.size_toArray, sizeLine_eq]; have := q.length; walk_at "o")
  exact PostC.lstAt C hk s.toks (Heap.get?_none_of_le (Nat.le_refl _)) ho q h

theorem ints_of : ∀ {vs : List Value} {ns : List Int}, RepDs G vs (ns.map .int) → IntsAre vs ns
  | _, [], .nil => .nil
  | _, i :: ns, .cons a r => by cases a with | int _ t => exact .cons i t (ints_of r)
theorem of_ints : ∀ {vs : List Value} {ns : List Int}, IntsAre vs ns → RepDs G vs (ns.map .int)
  | _, _, .nil => .nil
  | _, _, .cons i t r => .cons (.int i t) (of_ints r)
theorem OpF_sortedI {v : V} {ns : List Int} {K : V → St → Prop} (il : IsL st v (ns.map .int)) (hl : ns.length < 64) (h : ∀ ns' : List Int, ns'.Perm ns → ns'.Pairwise (· ≤ ·) → K (.d (.lst (ns'.map .int))) st) : OpF c n (.builtin "sorted") [v] st K := fun A G s vs R C r => by
  cases r with | cons r1 r => cases r with | nil =>
  refine ex3_3 (il.get C r1) fun l vs m hr1 ho q => ?_; subst hr1
  have hI := ints_of q
  have hlen := q.length
  rw [List.length_map] at hlen
  refine sorted_ints (vs := vs) ⟨_, ho, rfl, m, rfl⟩ hI (by walk_at "o") fun out ns' h1 h2 h3 => ?_
  refine ex1_1 (sortedAll_at s.heap vs out) fun e he => ?_
  exact PostC.lstAt (vs := out.toList) (k := e) C (fun b o hb => sortedAll_old hb) s.toks (Heap.get?_none_of_le (Nat.le_succ _)) (by rw [he]; rfl) (of_ints h1) (h ns' h2 h3)
theorem OpF_maxL {v : V} {ns : List Int} {K : V → St → Prop} (il : IsL st v (ns.map .int)) (hne : 0 < ns.length) (h : ∀ M : Int, M ∈ ns → (∀ a ∈ ns, a ≤ M) → K (.d (.int M)) st) : OpF c n (.builtin "max") [v] st K := fun A G s vs R C r => by
  cases r with | cons r1 r => cases r with | nil =>
  refine ex3_3 (il.get C r1) fun l vs m hr1 ho q => ?_; subst hr1
  have hi := ints_of q
  refine ex1_1 hi.allInts.items fun xs e => ?_
  have hns : ns = xs.toList.map (·.1) := by
    rw [← hi.numsOf, ← nums_intItems, ← e]
  have hsz : 0 < xs.size := by
    have h3 := hne; rw [hns, List.length_map, Array.length_toList] at h3; exact h3
  have hl : s.heap.IsList l vs.toArray := ⟨_, ho, rfl, m, rfl⟩
  rw [e] at hl
  refine max_intList R.handled hl hsz fun v h' tk hv hk => ?_
  refine ex1_1 (intItems_at hv) fun t hr1 => ?_; subst hr1
  refine ex0_2 (argBest_gt (numAt xs) (xs.size - 1)) fun h1 h2 => ?_
  refine PostC.of (C.ext hk tk) (.d (.int _ _)) (h _ ?_ fun a ha => ?_)
  · rw [hns, numAt_eq]; exact getD_mem (by rw [List.length_map, Array.length_toList]; walk_at "o")
  · rw [hns] at ha
    refine ex1_2 (mem_getD ha) fun j hj hr1 => ?_; subst hr1
    rw [List.length_map, Array.length_toList] at hj
    rw [← numAt_eq]; exact h2 j (by walk_at "o")
end
end Lrn
end
section
open PySem PySem.W PyProof.Rows PySem.Calls
set_option maxRecDepth 100000
set_option linter.unusedVariables false
namespace Lrn

section
variable {c : Ctx} {n : Nat} {env : Env} {ρ : Loc} {G : Gh} {st : St} {s : Shared} {A : Around}

open Classical in
theorem Conc.put {a : Addr} {ob : Ob} (C : Conc c G st s) (hg : G (cellA a ob) = none) (hc : ∀ b o, st b = some o → cellA b o ≠ cellA a ob) (r : ObRep c.w G s.heap a ob) (ha : st a = none) : Conc c G (st.set a ob) s := by
  have other : ∀ b o, b ≠ a → (st.set a ob) b = some o → st b = some o := fun b o hba e => by rw [St.set_other _ _ hba] at e; exact e
  refine ⟨C.base, C.fz, fun b o e => ?_, fun b o e => ?_, fun b1 b2 o1 o2 e1 e2 hne => ?_, C.gens, C.os⟩
  · by_cases hba : b = a
    · subst hba; rw [St.set_same] at e; cases e; exact r
    · exact C.own b o (other b o hba e)
  · by_cases hba : b = a
    · subst hba; rw [St.set_same] at e; cases e; exact hg
    · exact C.free b o (other b o hba e)
  · by_cases h1 : b1 = a
    · subst h1
      rw [St.set_same] at e1; cases e1
      exact (hc b2 o2 (other b2 o2 (Ne.symm hne) e2)).symm
    · by_cases h2 : b2 = a
      · subst h2
        rw [St.set_same] at e2; cases e2
        exact hc b1 o1 (other b1 o1 h1 e1)
      · exact C.apart b1 b2 o1 o2 (other b1 o1 h1 e1) (other b2 o2 h2 e2) hne
theorem Conc.fresh_st (C : Conc c G st s) {a : Addr} (h : s.heap.get? a = none) : st a = none := by
  cases e : st a with
  | none => rfl
  | some ob =>
    have := (C.ownOf h).st a ob e
    refine ex1_1 ((C.own a ob e).cell) fun o ho => ?_
    cases ob with
    | inst Cc dx k attrs =>
      refine ex0_2 (C.own a _ e) fun g u0 => ?_
      have := C.fz _ _ g
      rw [h] at this; cases this
    | _ => exact absurd rfl this
theorem Conc.newOb {h' : Heap} {a : Addr} {ob : Ob} (C : Conc c G st s) (hk : ∀ b o, s.heap.get? b = some o → h'.get? b = some o) (t : Nat) (hn : s.heap.get? a = none) (hca : cellA a ob = a) (r : ObRep c.w G h' a ob) :
    st a = none ∧ Conc c G (st.set a ob) { s with heap := h', toks := t } :=
  ⟨C.fresh_st hn, (C.ext hk t).put (by rw [hca]; exact (C.ownOf hn).g) (fun b o e => by rw [hca]; exact (C.ownOf hn).st b o e) r (C.fresh_st hn)⟩
theorem AWE_ListM {es : List Expr} {pos : Pos} {K : V → St → Prop} (h : AWL c n env ρ st es fun ps st1 => ∃ xs, AreD ps xs ∧ xs.length ≤ 1000 ∧ ∀ a, st1 a = none → K (.o a) (st1.set a (.lst xs))) :
    AWE c n env ρ st (.List es pos) K := fun A G s R C F =>
  wpAny_List (wpAny_mono (h A G s pos R C F) (fun vs s1 hq => e35 hq fun G1 st1 ps l1 C1 F1 r1 ⟨xs, hd, hl, k1⟩ => by
    have hlen : vs.length = xs.length := (r1.data hd).length
    refine ⟨by rw [hlen, sizeLine_eq]; walk_at "o", ?_⟩
    refine ex1_3 (freeze C1 F1) fun G2 l2 C2 back => ?_
    refine ex0_2 (C2.newOb (h' := s1.heap.push (seqO "list" vs 0)) (ob := .lst xs) (fun b o e => Heap.get?_push_of_some _ e) s1.toks (a := s1.heap.objs.size) (Heap.get?_none_of_le (Nat.le_refl _)) rfl ⟨vs, 0, Heap.get?_push_size _ rfl, (r1.data hd).mono l2.seq⟩) fun ha C3 => ?_
    refine ex1_4 (back G2 _ _ (.refl _) C3) fun G4 l4 C4 F4 sq => ?_
    exact ⟨G4, _, _, l1.trans l4, C4, F4, .o _, k1 _ ha⟩) fun u0 u1 q => q)

theorem AWS_Expr {e : Expr} {pos : Pos} {K : Fl → Loc → St → Prop} (h : AWE c n env ρ st e fun v st1 => K .next ρ st1) (hi : interactive env = false := by rfl) (hs : swapsWith e none pos.line env = pure false := by rfl) : AWS c n env ρ st (.Expr e pos) K := fun A G s R C F =>
  wpAny_Expr_any (AWE.then h R C F fun v s1 G1 st1 x l1 C1 F1 r1 k => ⟨G1, st1, ρ, .next, l1, C1, F1, .next, k⟩) hi hs

theorem AWE_ListMeth {o : Expr} {x : Str} {id : String} {apos pos : Pos} {e : Expr} {es : List Expr} {pl : Sem Bool} {K : V → St → Prop} (slot : Slot "list" x id) (hty : typeOf (.builtin id) = pure (.type "method_descriptor"))
    (h : AWE c n env ρ st o fun v st1 => ∃ xs, IsL st1 v xs ∧ AWL c n env ρ st1 (e :: es) fun ps st2 => OpF c n (.builtin id) (v :: ps) st2 K)
    (he : eval (.Call (.Attribute o x apos) (e :: es) [] pos) env = (do
      let ov ← eval o env
      standAt apos.atName
      let (f, first) ← holding [ov] (getMethod ov x pl)
      callWith pos f first (backTo pos (starEach (e :: es) env)) []) := by rfl) (hs' : starEach (e :: es) env = (false, eval e env) :: starEach es env := by rfl) (hplain : ∀ pos, (backTo pos (starEach es env)).any (·.1) = false := by intro _; rfl) :
    AWE c n env ρ st (.Call (.Attribute o x apos) (e :: es) [] pos) K := fun A G s R C F =>
  MethodCall_ (pl := pl) (AWE.then h R C F fun v s1 G1 st1 w l1 C1 F1 r1 ⟨xs, il, k⟩ => by
    refine ex3_3 (il.get C1 r1) fun l vs m hr1 ho q => ?_; subst hr1
    refine getMethod_builtin (T := "list") ⟨_, ho, rfl⟩ PySem.F.plainAttrs_list slot hty (fun a e => by cases e; exact ⟨_, ho, rfl⟩) ?_
    refine callWith_method1 (wpAny_mono (k A G1 s1 pos R C1 F1) (fun ws s2 hq => e35 hq fun G2 st2 ps l2 C2 F2 r2 k2 => ?_) fun u0 u1 q => q) hs' (hplain pos)
    refine wpAny_mono (lift C2 F2 fun G3 l3 C3 => k2 A G3 s2 (.ref l :: ws) R C3 (.cons (r1.mono (l2.trans l3).seq) (r2.mono l3.seq))) (fun u0 u1 q => q.le (l1.trans l2)) fun u0 u1 q => q) he
theorem AWE_ListMeth0 {o : Expr} {x : Str} {id : String} {apos pos : Pos} {pl : Sem Bool} {K : V → St → Prop} (slot : Slot "list" x id) (hty : typeOf (.builtin id) = pure (.type "method_descriptor"))
    (h : AWE c n env ρ st o fun v st1 => ∃ xs, IsL st1 v xs ∧ OpF c n (.builtin id) [v] st1 K)
    (he : eval (.Call (.Attribute o x apos) [] [] pos) env = (do
      let ov ← eval o env
      standAt apos.atName
      let (f, first) ← holding [ov] (getMethod ov x pl)
      callWith pos f first (backTo pos (starEach [] env)) []) := by rfl) :
    AWE c n env ρ st (.Call (.Attribute o x apos) [] [] pos) K := fun A G s R C F =>
  MethodCall_ (pl := pl) (AWE.then h R C F fun v s1 G1 st1 w l1 C1 F1 r1 ⟨xs, il, k⟩ => by
    refine ex3_3 (il.get C1 r1) fun l vs m hr1 ho q => ?_; subst hr1
    refine getMethod_builtin (T := "list") ⟨_, ho, rfl⟩ PySem.F.plainAttrs_list slot hty (fun a e => by cases e; exact ⟨_, ho, rfl⟩) ?_
    refine callWith_method0 ?_
    refine wpAny_mono (lift C1 F1 fun G3 l3 C3 => k A G3 s1 [.ref l] R C3 (.cons (r1.mono l3.seq) .nil)) (fun u0 u1 q => q.le l1) fun u0 u1 q => q) he
theorem OpF_append {a : Addr} {x : D} {xs : List D} {K : V → St → Prop} (hs : st a = some (.lst xs)) (hl : xs.length ≤ 1000) (h : K (.d .none) (st.set a (.lst (xs ++ [x])))) : OpF c n (.builtin "list.append") [.o a, .d x] st K := fun A G s vs R C r => by
  cases r with | cons r1 r => cases r with | cons r2 r => cases r with | nil => cases r1 with | o => cases r2 with | d r2 =>
  refine ex2_2 (C.own a _ hs) fun vs m ho q => ?_
  refine append_ex ho (by have := q.length; walk_at "o") fun h' ho' hb => ?_
  exact ⟨G, _, _, .refl _, C.turn (ob' := .lst (xs ++ [x])) hs rfl (fun b o hne e => (hb.2 b hne).trans e) ⟨_, _, ho', q.append (.cons r2 .nil)⟩ s.toks, .d .none, h⟩
theorem OpF_pop {a : Addr} {x : D} {xs : List D} {K : V → St → Prop} (hs : st a = some (.lst (xs ++ [x]))) (hl : xs.length ≤ 1000) (h : K (.d x) (st.set a (.lst xs))) : OpF c n (.builtin "list.pop") [.o a] st K := fun A G s vs R C r => by
  cases r with | cons r1 r => cases r with | nil => cases r1 with | o =>
  refine ex2_2 (C.own a _ hs) fun vs m ho q => ?_
  have hlen := q.length
  rw [List.length_append, List.length_singleton] at hlen
  refine ex1_2 (q.get (i := xs.length) (x := x) (by simp)) fun y hy ry => ?_
  have hd : vs.toArray.eraseIdxIfInBounds (vs.toArray.size - 1) = (vs.take xs.length).toArray := by
    rw [List.size_toArray, hlen, Nat.add_sub_cancel]
    simp only [Array.eraseIdxIfInBounds, List.size_toArray, hlen, Nat.lt_succ_self, dite_true]
    apply Array.toList_inj.mp
    simp only [List.eraseIdx_toArray]
    rw [List.eraseIdx_eq_take_drop_succ, List.drop_of_length_le (by walk_at "o")]
    simp
  refine call_meets F.slot_list_pop (s := s) ⟨_, ho, rfl⟩ F.entry_list_pop (F.args_list_pop_1 _) (PySem.MeetsSeq.list_pop_last a vs.toArray m y (by rw [List.size_toArray, hlen, Nat.add_sub_cancel]; simpa using hy) (by rw [List.size_toArray, sizeLine_eq]; walk_at "o")) ⟨ho, ?_⟩
  have ho' : (s.heap.update a (Obj.mapSeq fun zs => zs.eraseIdxIfInBounds (vs.toArray.size - 1))).get? a = some (seqO "list" (vs.take xs.length) (m + 1)) := by
    have e : Obj.mapSeq (fun zs => zs.eraseIdxIfInBounds (vs.toArray.size - 1)) (seqO "list" vs m) = seqO "list" (vs.take xs.length) (m + 1) := by
      simp only [Obj.mapSeq, seqO, hd]
      simp [hlen]
    rw [← e]
    exact Heap.get?_update_self _ ho (by rw [e]; rfl)
  refine ⟨G, _, _, .refl _, C.turn (ob' := .lst xs) hs rfl (fun b o hne e => ((Heap.SameBut.update ..).2 b hne).trans e) ⟨_, _, ho', ?_⟩ s.toks, .d ry, h⟩
  have := q.take xs.length
  simpa using this

noncomputable def OpSet (c : Ctx) (n : Nat) (o i v : V) (st : St) (K : St → Prop) : Prop :=
  ∀ A G s a b x, Room n A → Conc c G st s → Rep G a o → Rep G b i → Rep G x v → wpAny (model c.prog c.w) A (setItem a b x) (PostU c G K) (fun u0 u1 => False) s
theorem AWS_AssignSub {o i e : Expr} {sp pos : Pos} {K : Fl → Loc → St → Prop}
    (h : AWE c n env ρ st e fun v st1 => AWE c n env ρ st1 o fun w st2 => AWE c n env ρ st2 i fun k st3 => OpSet c n w k v st3 fun st4 => K .next ρ st4)
    (hs : swapsWith e (some (.Subscript o i sp)) pos.line env = pure false := by rfl) : AWS c n env ρ st (.Assign [.Subscript o i sp] e pos) K := fun A G s R C F =>
  wpAny_Assign_Subscript (AWE.then h R C F fun v s1 G1 st1 x l1 C1 F1 r1 k1 => AWE.then k1 R C1 F1 fun w s2 G2 st2 y l2 C2 F2 r2 k2 => AWE.then k2 R C2 F2 fun i s3 G3 st3 z l3 C3 F3 r3 k3 =>
    wpAny_mono (liftU (K := K) C3 F3 fun G4 l4 C4 => k3 A G4 s3 w i v R C4 (r2.mono (l3.trans l4).seq) (r3.mono l4.seq) (r1.mono ((l2.trans l3).trans l4).seq)) (fun u0 u1 q => q.le ((l1.trans l2).trans l3)) fun u0 u1 q => q) hs
theorem RepDs.set {vs : List Value} {xs : List D} {v : Value} {x : D} : ∀ (i : Nat), RepDs G vs xs → RepD G v x → RepDs G (vs.set i v) (xs.set i x)
  | _, .nil, _ => by simpa using RepDs.nil
  | 0, .cons _ r, q => by simpa using RepDs.cons q r
  | i + 1, .cons a r, q => by simpa using RepDs.cons a (RepDs.set i r q)
end
end Lrn
end
section
open PySem PySem.W PyProof.Rows PySem.Calls
set_option maxRecDepth 100000
set_option linter.unusedVariables false
namespace Lrn

section
variable {c : Ctx} {n : Nat} {env : Env} {ρ : Loc} {G : Gh} {st : St} {s : Shared} {A : Around}

theorem setItem_exact {l : Addr} {vs : List Value} {m j : Nat} {k : Int} {t : Tok} {v : Value} {Q : Unit → Shared → Prop} {E : Value → Shared → Prop} (ho : s.heap.get? l = some (seqO "list" vs m)) (hkj : k = j) (hj : j < vs.length) (hs : vs.length ≤ 1000)
    (hQ : ∀ h', h'.get? l = some (seqO "list" (vs.set j v) m) → Heap.SameBut l s.heap h' → Q () { s with heap := h' }) :
    wpAny (model c.prog c.w) A (setItem (.ref l) (.int k t) v) Q E s := by
  have hl : s.heap.IsList l vs.toArray := ⟨_, ho, rfl, m, rfl⟩
  unfold setItem
  try with_reducible refine wpAny_holding ?_
  first | refine wpAny_bind (wpAny_pure ?_) | skip
  refine wpAny_bind (wpAny_sequenceKey hl.typeIs (by decide) ?_)
  refine wpAny_bind (wpAny_callSpecial?_slot (name := Str.ofString "__setitem__") hl.typeIs slot_list_setitem
    (wpAny_call_entry slot_list_setitem hl.typeIs entry_list_setitem ?_ (args_list_setitem _ _ _)))
  show wpAny _ _ (Builtin.List.listSubscript? (.int k t) >>= _) _ _ s
  refine wpAny_bind (wpAny_listSubscript_int (fitsIndex_of (by walk_at "o") (by walk_at "o")) ?_)
  subst hkj
  have hx' : vs.toArray[j]? = some vs[j] := by simp [hj]
  show wpAny _ _ ((seqItemAt l j >>= fun r => pure (r.map (j, ·))) >>= _) _ _ s
  refine wpAny_bind (wpAny_bind (wpAny_seqItemAt ho rfl (wpAny_pure ?_)))
  rw [hx']
  show wpAny _ _ (setSeqItemAt l j v >>= _) _ _ s
  have hfin : (s.heap.update l (Obj.mapSeq (·.setIfInBounds j v))).get? l = some (seqO "list" (vs.set j v) m) := by
    have e : Obj.mapSeq (·.setIfInBounds j v) (seqO "list" vs m) = seqO "list" (vs.set j v) m := by simp [Obj.mapSeq, seqO]
    rw [← e]
    exact Heap.get?_update_self _ ho (by rw [e]; rfl)
  refine wpAny_bind (wpAny_setSeqItemAt ho rfl ?_)
  first
    | exact wpAny_bind (wpAny_pure (wpAny_pure ⟨.none, rfl, wpAny_pure (hQ _ hfin (Heap.SameBut.update ..))⟩))
    | exact wpAny_pure ⟨.none, rfl, wpAny_pure (hQ _ hfin (Heap.SameBut.update ..))⟩
theorem OpSet_list {a : Addr} {j : Nat} {x : D} {xs : List D} {K : St → Prop} (hs : st a = some (.lst xs)) (hj : j < xs.length) (hl : xs.length ≤ 1000) (h : K (st.set a (.lst (xs.set j x)))) : OpSet c n (.o a) (.d (.int j)) (.d x) st K := fun A G s u0 u1 u2 R C r1 r2 r3 => by
  cases r1 with | o => cases r2 with | d r2 => cases r2 with | int _ t => cases r3 with | d r3 =>
  refine ex2_2 (C.own a _ hs) fun vs m ho q => ?_
  have hlen := q.length
  refine setItem_exact ho rfl (by walk_at "o") (by walk_at "o") fun h' ho' hb => ?_
  exact ⟨G, _, .refl _, C.turn (ob' := .lst (xs.set j x)) hs rfl (fun b o hne e => (hb.2 b hne).trans e) ⟨_, _, ho', q.set j r3⟩ s.toks, h⟩

theorem AWS_AssignTup {ts : List Expr} {k : Nat} {tpos : Pos} {e : Expr} {pos : Pos} {K : Fl → Loc → St → Prop} (h : AWE c n env ρ st e fun v st1 => AWA c n env ρ st1 (.Tuple ts k tpos) v fun ρ2 st2 => K .next ρ2 st2)
    (hs : swapsWithSole [.Tuple ts k tpos] e pos.line env = pure false := by rfl) (hw : swappedStores [.Tuple ts k tpos] e env = pure none := by rfl) : AWS c n env ρ st (.Assign [.Tuple ts k tpos] e pos) K := fun A G s R C F =>
  Assign_Tuple (AWE.then h R C F fun v s1 G1 st1 x l1 C1 F1 r1 k1 => wpAny_mono (k1 A G1 s1 v R C1 F1 r1) (fun u0 s2 hq => e34 hq fun G2 st2 ρ2 l2 C2 F2 k2 => ⟨G2, st2, ρ2, .next, l1.trans l2, C2, F2, .next, k2⟩) fun u0 u1 q => q) hs hw

theorem tuple_for_a_while {vs : List Value} {ps : List V} (C : Conc c G st s) (F : FrameOK env ρ G st s.heap) (r : Reps G vs ps) :
    ∃ G', G.le G' ∧ Conc c G' st { s with heap := s.heap.push (seqO "tuple" vs 0) } ∧ FrameOK env ρ G' st (s.heap.push (seqO "tuple" vs 0)) ∧ Reps G' vs ps := by
  refine ex1_3 (freeze C F) fun G1 l1 C1 back => ?_
  refine ex1_3 (C1.newG (seqO "tuple" vs 0)) fun G2 l2 e2 C2 => ?_
  refine ex1_4 (back G2 st _ l2 C2) fun G3 l3 C3 F3 sq => ?_
  exact ⟨G3, l3, C3, F3, r.mono l3.seq⟩

theorem stores_run : ∀ (xs : List (Str × V)) {vs : List Value} {ρ : Loc} {G : Gh} {st : St} {s : Shared}, (∀ x ∈ xs, Keeps env x.1) → Conc c G st s → FrameOK env ρ G st s.heap → Reps G vs (xs.map (·.2)) →
    wpAny (model c.prog c.w) A (assignInOrder ((xs.map (·.1)).map fun n => bindName env n) vs) (fun u0 s' => Conc c G st s' ∧ FrameOK env (bindV xs ρ) G st s'.heap) (fun u0 u1 => False) s
  | [], _, ρ, G, st, s, _, C, F, r => by
    cases r
    exact wpAny_pure ⟨C, F⟩
  | (x, p) :: xs, _, ρ, G, st, s, hk, C, F, r => by
    cases r with
    | cons a r =>
      refine wpAny_bind (wpAny_holding (bindName_ (store_any C F (hk _ (.head _)) a fun s1 C1 F1 => ?_)))
      exact stores_run xs (fun y hy => hk y (.tail _ hy)) C1 F1 r
theorem Reps.rev {vs : List Value} {ps : List V} (r : Reps G vs ps) : Reps G vs.reverse ps.reverse := by
  induction r with
  | nil => exact .nil
  | cons a r ih => rw [List.reverse_cons, List.reverse_cons]; exact ih.append (.cons a .nil)

theorem AWS_AssignSwap {ts es : List Expr} {k k' : Nat} {tpos epos : Pos} {pos : Pos} {names : List Str} {K : Fl → Loc → St → Prop} (hk : ∀ x ∈ names, Keeps env x)
    (h : AWL c n env ρ st es fun ps st1 => ps.length = names.length ∧ K .next (bindV (names.zip ps).reverse ρ) st1) (hl : names.length ≤ 10)
    (hs : swapsWithSole [.Tuple ts k tpos] (.Tuple es k' epos) pos.line env = pure false := by rfl) (hw : swappedStores [.Tuple ts k tpos] (.Tuple es k' epos) env = pure (some names) := by rfl) : AWS c n env ρ st (.Assign [.Tuple ts k tpos] (.Tuple es k' epos) pos) K := fun A G s R C F =>
  Assign_Tuple_swapped (wpAny_Tuple (wpAny_mono (h A G s epos R C F) (fun vs s1 hq => e35 hq fun G1 st1 ps l1 C1 F1 r1 ⟨hlen, k1⟩ => by
    have hv := r1.length
    refine ⟨by rw [hv, sizeLine_eq]; walk_at "o", ?_⟩
    refine ex1_4 (tuple_for_a_while C1 F1 r1) fun G2 l2 C2 F2 r2 => ?_
    have hT : (s1.heap.push (seqO "tuple" vs 0)).IsTuple s1.heap.objs.size vs.toArray := ⟨_, Heap.get?_push_size _ rfl, rfl, 0, rfl⟩
    rw [show names.length = vs.toArray.size by rw [List.size_toArray, hv, hlen]]
    refine wpAny_unpackItems_tuple (s := { s1 with heap := s1.heap.push (seqO "tuple" vs 0) }) R.handled hT fun h' hk' => ?_
    have C3 := C2.grow (h' := h') (fun b o hb e => hk' b o hb e) s1.toks
    have F3 := F2.grow C2 (h' := h') fun b o hb e => hk' b o hb e
    have e1 : ((names.zip ps).reverse.map (·.1)) = names.reverse := by rw [List.map_reverse, List.map_fst_zip (by walk_at "o")]
    have e2 : ((names.zip ps).reverse.map (·.2)) = ps.reverse := by rw [List.map_reverse, List.map_snd_zip (by walk_at "o")]
    have run := stores_run (A := A) (c := c) (names.zip ps).reverse (vs := vs.reverse) (fun x hx => hk _ (by
      have := List.mem_map_of_mem (f := (·.1)) hx
      rw [e1] at this; simpa using this)) C3 F3 (by rw [e2]; exact r2.rev)
    rw [e1] at run
    refine wpAny_mono run (fun _ s2 ⟨C4, F4⟩ => ⟨G2, st1, _, .next, l1.trans l2, C4, F4, .next, k1⟩) fun u0 u1 q => q) fun u0 u1 q => q)) hs hw

noncomputable def AWAsV (c : Ctx) (n : Nat) (env : Env) (ρ : Loc) (st : St) : List Expr → List V → (Loc → St → Prop) → Prop
  | [], [], K => K ρ st
  | t :: ts, x :: xs, K => AWA c n env ρ st t x fun ρ1 st1 => AWAsV c n env ρ1 st1 ts xs K
  | _, _, _ => False
theorem AWAsV_run {K : Loc → St → Prop} : ∀ (ts : List Expr) (xs : List V) {ρ : Loc} {st : St}, AWAsV c n env ρ st ts xs K → (∀ t ∈ ts, ∀ r, assignEach (t :: r) env = (false, assign t env) :: assignEach r env) →
    ∀ A G s vs, Room n A → Conc c G st s → FrameOK env ρ G st s.heap → Reps G vs xs → wpAny (model c.prog c.w) A (assignInOrder ((assignEach ts env).map (·.2)) vs) (fun u0 s' => ∃ G' st' ρ', G.le G' ∧ Conc c G' st' s' ∧ FrameOK env ρ' G' st' s'.heap ∧ K ρ' st') (fun u0 u1 => False) s
  | [], [], ρ, st, h, _, A, G, s, vs, R, C, F, r => by
    cases r
    exact wpAny_pure ⟨G, st, ρ, .refl _, C, F, h⟩
  | t :: ts, x :: xs, ρ, st, h, hs, A, G, s, vs, R, C, F, r => by
    cases r with
    | cons a r =>
      rw [hs t (.head _)]
      refine wpAny_bind (wpAny_holding (wpAny_mono (h A G s _ R C F a) (fun u0 s1 hq => e34 hq fun G1 st1 ρ1 l1 C1 F1 k1 => ?_) fun u0 u1 q => q))
      exact wpAny_mono (AWAsV_run ts xs k1 (fun t ht => hs t (.tail _ ht)) A G1 s1 _ R C1 F1 (r.mono l1.seq)) (fun _ s2 ⟨G2, st2, ρ2, l2, q⟩ => ⟨G2, st2, ρ2, l1.trans l2, q⟩) fun u0 u1 q => q
  | [], _ :: _, _, _, h, _, _, _, _, _, _, _, _, _ => h.elim
  | _ :: _, [], _, _, h, _, _, _, _, _, _, _, _, _ => h.elim
theorem AWS_AssignTupE {ts es : List Expr} {k k' : Nat} {tpos epos : Pos} {pos : Pos} {K : Fl → Loc → St → Prop}
    (h : AWL c n env ρ st es fun ps st1 => ps.length = ts.length ∧ AWAsV c n env ρ st1 ts ps fun ρ2 st2 => K .next ρ2 st2) (hl : ts.length ≤ 10)
    (hts : ∀ t ∈ ts, ∀ r, assignEach (t :: r) env = (false, assign t env) :: assignEach r env) (hstar : (assignEach ts env).findIdx? (·.1) = none)
    (hs : swapsWithSole [.Tuple ts k tpos] (.Tuple es k' epos) pos.line env = pure false := by rfl) (hw : swappedStores [.Tuple ts k tpos] (.Tuple es k' epos) env = pure none := by rfl) : AWS c n env ρ st (.Assign [.Tuple ts k tpos] (.Tuple es k' epos) pos) K := fun A G s R C F =>
  Assign_Tuple (wpAny_Tuple (wpAny_mono (h A G s epos R C F) (fun vs s1 hq => e35 hq fun G1 st1 ps l1 C1 F1 r1 ⟨hlen, k1⟩ => by
    have hv := r1.length
    refine ⟨by rw [hv, sizeLine_eq]; walk_at "o", ?_⟩
    refine ex1_4 (tuple_for_a_while C1 F1 r1) fun G2 l2 C2 F2 r2 => ?_
    have hT : (s1.heap.push (seqO "tuple" vs 0)).IsTuple s1.heap.objs.size vs.toArray := ⟨_, Heap.get?_push_size _ rfl, rfl, 0, rfl⟩
    refine wpAny_assign_Tuple (s := { s1 with heap := s1.heap.push (seqO "tuple" vs 0) }) R.handled hT (by rw [assignEach_length, List.size_toArray, hv, hlen]) hstar fun h' hk' => ?_
    have C3 := C2.grow (h' := h') (fun b o hb e => hk' b o hb e) s1.toks
    have F3 := F2.grow C2 (h' := h') fun b o hb e => hk' b o hb e
    refine wpAny_mono (AWAsV_run ts ps k1 hts A G2 _ vs R C3 F3 r2) (fun u0 s2 hq => e34 hq fun G4 st4 ρ4 l4 C4 F4 k4 => ⟨G4, st4, ρ4, .next, (l1.trans l2).trans l4, C4, F4, .next, k4⟩) fun u0 u1 q => q) fun u0 u1 q => q)) hs hw

theorem AWA_Attr {o : Expr} {x : Str} {ap : Pos} {p : V} {K : Loc → St → Prop} (H : CtxOK c)
    (h : AWE c n env ρ st o fun w st2 => ∃ a Cc dx k attrs, w = .o a ∧ st2 a = some (.inst Cc dx k attrs) ∧ ClsOK c Cc ∧ findIn c.K (.ref Cc) x = some none ∧ k < 1000 ∧ K ρ (st2.set a (.inst Cc dx (if (attrs x).isSome = true then k else k + 1) (upd attrs x p)))) :
    AWA c n env ρ st (.Attribute o x ap) p K := fun A G s v R C F r => by
  rw [arm_assign_Attribute]
  refine wpAny_bind (wpAny_holding (AWE.then h R C F fun w s2 G2 st2 y l2 C2 F2 r2 hq => ex5_6 hq fun a Cc dx kk attrs hw hst ok hf hk k => wpAny_bind (wpAny_standAt (wpAny_bind (wpAny_holding ?_)))))
  subst hw
  cases r2 with
  | o a =>
    refine wpAny_mono (liftU (K := fun fl ρ st => fl = .next ∧ K ρ st) C2 F2 fun G3 l3 C3 => set_attr H C3 hst ok hf (r.mono (l2.trans l3).seq) hk fun s' C' => ⟨G3, _, .refl _, C', rfl, k⟩) (fun u0 s3 hq => e45 hq fun G4 st4 ρ4 pf l4 C4 F4 rf ⟨e, k4⟩ => ?_) fun u0 u1 q => q
    exact wpAny_release ⟨G4, st4, ρ4, l2.trans l4, C4, F4, k4⟩
end
end Lrn
end
section
open PySem PySem.W PyProof.Rows PySem.Calls
set_option maxRecDepth 100000
set_option linter.unusedVariables false
namespace Lrn

noncomputable def isAtom : Atom → Value → Bool
  | .inl i, v => Value.isInt i v
  | .inr x, v => Value.isStrOf x v
theorem isAtom_shape {k : Atom} {v : Value} (h : isAtom k v = true) : (∃ i t, k = .inl i ∧ v = .int i t) ∨ (∃ x t, k = .inr x ∧ v = .str x t) := by
  cases k with
  | inl i => obtain ⟨t, e⟩ := Value.isInt_shape h; exact .inl ⟨i, t, rfl, e⟩
  | inr x => obtain ⟨t, e⟩ := Value.isStrOf_shape h; exact .inr ⟨x, t, rfl, e⟩

section
variable {prog : Program} {w : World} {A : Around} {E : Value → Shared → Prop} {s : Shared}
theorem eqBool_mix {x : Str} {t : Tok} {i : Int} {u : Tok} {Q : Bool → Shared → Prop} (h : Q false s) : wpAny (model prog w) A (eqBool (.str x t) (.int i u)) Q E s ∧ wpAny (model prog w) A (eqBool (.int i u) (.str x t)) Q E s := by
  constructor
  · unfold eqBool
    show wpAny _ _ (richCompare .Eq (.str x t) (.int i u) >>= _) Q E s
    refine wpAny_bind ?_
    exact EqMixed.eq_str_int (wpAny_truthy_bool h)
  · unfold eqBool
    show wpAny _ _ (richCompare .Eq (.int i u) (.str x t) >>= _) Q E s
    refine wpAny_bind ?_
    exact EqMixed.eq_int_str (wpAny_truthy_bool h)
end

noncomputable def mixKind (prog : Program) (w : World) : KeyKind prog w Atom where
  is := isAtom
  hash := atomHash w
  inj := fun v a b ha hb => by
    rcases isAtom_shape ha with ⟨i, t, rfl, rfl⟩ | ⟨x, t, rfl, rfl⟩
    · rcases isAtom_shape hb with ⟨j, u, rfl, e⟩ | ⟨y, u, rfl, e⟩
      · cases e; rfl
      · cases e
    · rcases isAtom_shape hb with ⟨j, u, rfl, e⟩ | ⟨y, u, rfl, e⟩
      · cases e
      · cases e; rfl
  byValue := fun k v h => by
    rcases isAtom_shape h with ⟨i, t, rfl, rfl⟩ | ⟨x, t, rfl, rfl⟩ <;> rfl
  pyHash := fun hv h => by
    rcases isAtom_shape hv with ⟨i, t, rfl, rfl⟩ | ⟨x, t, rfl, rfl⟩
    · exact wpAny_pyHash_int h
    · exact wpAny_pyHash_str h
  eqBool := fun hu hv h => by
    rcases isAtom_shape hu with ⟨i, t, rfl, rfl⟩ | ⟨x, t, rfl, rfl⟩
    · rcases isAtom_shape hv with ⟨j, u, rfl, rfl⟩ | ⟨y, u, rfl, rfl⟩
      · exact wpAny_eqBool_int (by
          have : decide ((Sum.inl i : Atom) = Sum.inl j) = decide (i = j) := by simp
          rw [this] at h; exact h)
      · exact (eqBool_mix (by simpa using h)).2
    · rcases isAtom_shape hv with ⟨j, u, rfl, rfl⟩ | ⟨y, u, rfl, rfl⟩
      · exact (eqBool_mix (by simpa using h)).1
      · exact wpAny_eqBool_str (by
          have : decide ((Sum.inr x : Atom) = Sum.inr y) = decide (x = y) := by simp
          rw [this] at h; exact h)
  «strs» := fun k x t v h => by
    rcases isAtom_shape h with ⟨i, t', rfl, e⟩ | ⟨y, t', rfl, e⟩
    · cases e
    · cases e
      show Value.isStrOf x v = v.isStr x
      cases v <;> rfl
end Lrn
end
section
open PySem PySem.W PyProof.Rows PySem.Calls
set_option maxRecDepth 100000
set_option linter.unusedVariables false
namespace Lrn

theorem eraseIdx_map' {α β : Type} (f : α → β) : ∀ (l : List α) (j : Nat), (l.map f).eraseIdx j = (l.eraseIdx j).map f
  | [], _ => by simp
  | x :: l, 0 => by simp
  | x :: l, j + 1 => by simp [eraseIdx_map' f l j]
theorem erase_filter {β : Type} {k : List Atom} {p : β} : ∀ {xs : List (List Atom × β)} {j : Nat}, (xs.map (·.1)).Nodup → xs[j]? = some (k, p) → xs.eraseIdx j = xs.filter fun x => decide (x.1 ≠ k)
  | [], _, _, hj => by simp at hj
  | y :: ys, 0, hn, hj => by
    rw [List.map_cons, List.nodup_cons] at hn
    simp only [List.getElem?_cons_zero, Option.some.injEq] at hj
    subst hj
    rw [List.eraseIdx_cons_zero, List.filter_cons, if_neg (by simp)]
    symm
    rw [List.filter_eq_self]
    intro z hz
    exact decide_eq_true fun e => hn.1 (List.mem_map.mpr ⟨z, hz, e⟩)
  | y :: ys, j + 1, hn, hj => by
    rw [List.map_cons, List.nodup_cons] at hn
    simp only [List.getElem?_cons_succ] at hj
    have hne : y.1 ≠ k := fun e => hn.1 (e ▸ List.mem_map.mpr ⟨(k, p), List.mem_of_getElem? hj, rfl⟩)
    rw [List.eraseIdx_cons_succ, List.filter_cons, if_pos (decide_eq_true hne), erase_filter hn.2 hj]
inductive RepX (G : Gh) : List (List Atom × Addr × Value) → List (List Atom × D) → Prop
  | nil : RepX G [] []
  | cons {k : List Atom} {a : Addr} {v : Value} {x : D} {xs : List (List Atom × Addr × Value)} {es : List (List Atom × D)} : RepD G (.ref a) (keyD k) → RepD G v x → RepX G xs es → RepX G ((k, a, v) :: xs) ((k, x) :: es)
noncomputable abbrev tk (c : Ctx) : HeapKind c.prog c.w (List Atom) := tupleKind (mixKind c.prog c.w)

theorem RepT.toX {c : Ctx} {G : Gh} {ents : List DictEntry} {es : List (List Atom × D)} (r : RepT c.w G ents es) : ∃ xs, ents = xs.map (entryOfKey (tk c)) ∧ RepX G xs es := by
  induction r with
  | nil => exact ⟨[], rfl, .nil⟩
  | @cons k a v x es xs h1 h2 _ ih =>
    refine ex1_2 ih fun ys e r => ?_
    exact ⟨(k, a, v) :: ys, by rw [List.map_cons, ← e]; rfl, .cons h1 h2 r⟩
theorem RepX.toT {c : Ctx} {G : Gh} {xs : List (List Atom × Addr × Value)} {es : List (List Atom × D)} (r : RepX G xs es) : RepT c.w G (xs.map (entryOfKey (tk c))) es := by
  induction r with
  | nil => exact .nil
  | cons h1 h2 _ ih => exact .cons h1 h2 ih
theorem RepX.keys {G : Gh} {xs : List (List Atom × Addr × Value)} {es : List (List Atom × D)} (r : RepX G xs es) : xs.map (·.1) = es.map (·.1) := by
  induction r with
  | nil => rfl
  | cons _ _ _ ih => simp [ih]
theorem RepX.length {G : Gh} {xs : List (List Atom × Addr × Value)} {es : List (List Atom × D)} (r : RepX G xs es) : xs.length = es.length := by
  induction r with
  | nil => rfl
  | cons _ _ _ ih => simp [ih]

noncomputable def lookT (es : List (List Atom × D)) (k : List Atom) : Option D := (es.find? fun e => decide (e.1 = k)).map (·.2)
noncomputable def storeT (es : List (List Atom × D)) (k : List Atom) (x : D) : List (List Atom × D) := if (lookT es k).isSome then es.map (fun e => if e.1 = k then (e.1, x) else e) else es ++ [(k, x)]
noncomputable def dropT (es : List (List Atom × D)) (k : List Atom) : List (List Atom × D) := es.filter fun e => decide (e.1 ≠ k)

theorem RepX.at {G : Gh} {k : List Atom} {xs : List (List Atom × Addr × Value)} {es : List (List Atom × D)} (r : RepX G xs es) : (atKey xs k = none ∧ lookT es k = none) ∨ ∃ p x, atKey xs k = some p ∧ lookT es k = some x ∧ RepD G p.2 x := by
  induction r with
  | nil => exact .inl ⟨rfl, rfl⟩
  | @cons k' a v x xs es h1 h2 _ ih =>
    by_cases h : k' = k
    · exact .inr ⟨(a, v), x, by simp [atKey, h], by simp [lookT, h], h2⟩
    · rcases ih with ⟨e1, e2⟩ | ⟨p, y, e1, e2, q⟩
      · exact .inl ⟨by simpa [atKey, h] using e1, by simpa [lookT, h] using e2⟩
      · exact .inr ⟨p, y, by simpa [atKey, h] using e1, by simpa [lookT, h] using e2, q⟩
theorem RepX.append {G : Gh} {xs ys : List (List Atom × Addr × Value)} {es fs : List (List Atom × D)} (r : RepX G xs es) (q : RepX G ys fs) : RepX G (xs ++ ys) (es ++ fs) := by
  induction r with
  | nil => exact q
  | cons h1 h2 _ ih => exact .cons h1 h2 ih
theorem RepX.store {G : Gh} {k : List Atom} {a : Addr} {v : Value} {x : D} {xs : List (List Atom × Addr × Value)} {es : List (List Atom × D)} (r : RepX G xs es) (h1 : RepD G (.ref a) (keyD k)) (h2 : RepD G v x) : RepX G (storedH xs k a v) (storeT es k x) := by
  have put : RepX G (xs.map (putAt k v)) (es.map fun e => if e.1 = k then (e.1, x) else e) := by
    induction r with
    | nil => exact .nil
    | @cons k' a' v' x' xs es g1 g2 _ ih =>
      rw [List.map_cons, List.map_cons]
      unfold putAt
      dsimp only
      by_cases h : k' = k
      · rw [if_pos h, if_pos h]; exact .cons g1 h2 ih
      · rw [if_neg h, if_neg h]; exact .cons g1 g2 ih
  unfold storedH storeT
  rcases r.at (k := k) with ⟨e1, e2⟩ | ⟨p, y, e1, e2, q⟩
  · rw [e1, e2]; exact r.append (.cons h1 h2 .nil)
  · rw [e1, e2]; exact put
theorem RepX.filter {G : Gh} {k : List Atom} {xs : List (List Atom × Addr × Value)} {es : List (List Atom × D)} (r : RepX G xs es) : RepX G (xs.filter fun e => decide (e.1 ≠ k)) (dropT es k) := by
  unfold dropT
  induction r with
  | nil => exact .nil
  | @cons k' a' v' x' xs es g1 g2 _ ih =>
    by_cases h : k' = k
    · simpa [List.filter_cons, h] using ih
    · simpa [List.filter_cons, h] using RepX.cons g1 g2 ih

section
variable {c : Ctx} {n : Nat} {env : Env} {ρ : Loc} {G : Gh} {st : St} {s : Shared} {A : Around}

theorem isKey {k : List Atom} {a : Addr} (C : Conc c G st s) (r : RepD G (.ref a) (keyD k)) : (tk c).is s.heap k a := by
  unfold keyD at r
  generalize hx : k.map atomD = ds at r
  cases r with
  | tup e q =>
    refine ⟨_, _, _, C.fz _ _ e, rfl, rfl, ?_⟩
    rw [show (List.toArray _).toList = _ from rfl]
    subst hx
    clear e
    rename_i vs m
    induction k generalizing vs with
    | nil => cases q; exact .nil
    | cons t k ih =>
      rw [List.map_cons] at q
      cases q with
      | cons a q =>
        refine .cons ?_ (ih q)
        cases t with
        | inl i => cases a with | int _ u => show Value.isInt i (.int i u) = true; simp [Value.isInt]
        | inr x => cases a with | str _ u => show Value.isStrOf x (.str x u) = true; simp [Value.isStrOf]
theorem RepX.isKeys {xs : List (List Atom × Addr × Value)} {es : List (List Atom × D)} (C : Conc c G st s) (r : RepX G xs es) : ∀ x ∈ xs, (tk c).is s.heap x.1 x.2.1 := by
  induction r with
  | nil => intro x hx; cases hx
  | cons h1 _ _ ih =>
    intro x hx
    rcases List.mem_cons.mp hx with rfl | hx
    · exact isKey C h1
    · exact ih x hx
theorem dict_of {d : Addr} {ep : Nat} {es : List (List Atom × D)} (C : Conc c G st s) (hs : st d = some (.dT ep es)) : ∃ xs, s.heap.DictOfH (tk c) d xs ∧ RepX G xs es ∧ s.heap.get? d = some (dictO (xs.map (entryOfKey (tk c))) ep) := by
  refine ex1_3 (C.own _ _ hs) fun ents ho q nd => ?_
  refine ex1_2 (q.toX (c := c)) fun xs e r => ?_
  subst e
  exact ⟨xs, ⟨_, _, _, ho, ⟨rfl, rfl, rfl⟩, rfl, by simp, r.isKeys C, by rw [r.keys]; exact nd⟩, r, ho⟩
theorem of_dict {h' : Heap} {d : Addr} {xs : List (List Atom × Addr × Value)} {es : List (List Atom × D)} (hm : h'.DictOfH (tk c) d xs) (r : RepX G xs es) : ∃ ep, ObRep c.w G h' d (.dT ep es) := by
  obtain ⟨⟨cls, dd, dat, sl⟩, ents, ep, ho, hc, hd, he, _, nd⟩ := hm
  refine ex0_3 hc fun h1 h2 h3 => ?_
  dsimp only at h1 h2 h3 hd
  subst h1 h2 h3 hd
  refine ⟨ep, ents.toList, ?_, he ▸ r.toT, by rw [← r.keys]; exact nd⟩
  rw [ho]; simp [dictO]

theorem OpG_dT {d : Addr} {ep : Nat} {es : List (List Atom × D)} {k : List Atom} {x : D} {K : V → St → Prop} (hs : st d = some (.dT ep es)) (hk : lookT es k = some x) (h : K (.d x) st) : OpG c n (.o d) (.d (keyD k)) st K := fun A G s a b R C r1 r2 => by
  cases r1 with | o => cases r2 with | d r2 =>
  refine ex1_3 (dict_of C hs) fun xs hm rx u0 => ?_
  have r2' := r2
  unfold keyD at r2'
  cases r2' with
  | tup e q =>
    refine ⟨⟨_, _, hm.typeIs, slot_dict_getitem.lookup⟩, ?_⟩
    rcases rx.at (k := k) with ⟨e1, e2⟩ | ⟨p, y, e1, e2, q⟩
    · rw [hk] at e2; cases e2
    · rw [hk] at e2; cases e2
      exact wpAny_getItem_heap (knd := tk c) (tupleKind_room_in1 (by have := R.units; walk_at "o")) (isKey C r2) hm e1 (PostC.of (C.tok _) (.d q) h)
theorem OpSet_dT {d : Addr} {ep : Nat} {es : List (List Atom × D)} {k : List Atom} {x : D} {K : St → Prop} (hs : st d = some (.dT ep es)) (hl : es.length ≤ 1000) (h : ∀ ep', K (st.set d (.dT ep' (storeT es k x)))) : OpSet c n (.o d) (.d (keyD k)) (.d x) st K := fun A G s a b v R C r1 r2 r3 => by
  cases r1 with | o => cases r2 with | d r2 => cases r3 with | d r3 =>
  refine ex1_3 (dict_of C hs) fun xs hm rx ho => ?_
  have r2' := r2
  unfold keyD at r2'
  cases r2' with
  | tup e q =>
    refine wpAny_setItem_heap (knd := tk c) (tupleKind_room_in1 (by have := R.units; walk_at "o")) (isKey C r2) hm (fun h' hm' hb => ?_) (by rw [sizeLine_eq]; have := rx.length; walk_at "o")
    refine ex1_1 (of_dict hm' (rx.store r2 r3)) fun ep' ro => ?_
    exact ⟨G, _, .refl _, C.turn (ob' := .dT ep' (storeT es k x)) hs rfl (fun b o hne e => (hb.2 b hne).trans e) ro _, h ep'⟩

theorem takeOut_heap {d a : Addr} {xs : List (List Atom × Addr × Value)} {k : List Atom} {Q : Option DictEntry → Shared → Prop} {E : Value → Shared → Prop} (hu : (tk c).room A) (hkey : (tk c).is s.heap k a) (hm : s.heap.DictOfH (tk c) d xs) (hp : (atKey xs k).isSome = true)
    (hQ : ∀ e h', h'.DictOfH (tk c) d (xs.filter fun x => decide (x.1 ≠ k)) → Heap.SameBut d s.heap h' → Q (some e) { s with heap := h', toks := s.toks + (tk c).draws k }) (hsz : xs.length ≤ 1000) :
    wpAny (model c.prog c.w) A (Builtin.Dict.takeOut d (.ref a)) Q E s := by
  refine ex3_6 hm fun o es ep ho hc hd he his hn => ?_
  have hes := size_of_entries he
  unfold Builtin.Dict.takeOut
  try with_reducible refine wpAny_holding ?_
  refine wpAny_bind ((tk c).pyHash hu hkey ?_)
  refine wpAny_bind (wpAny_dictFind_heap (s := { s with toks := s.toks + (tk c).draws k }) hu hkey ho hd he his hn (fun hno => ?_) fun j p hj => ?_)
  · rw [atKey_none_of_get hno] at hp; cases hp
  · refine wpAny_bind (wpAny_dictEntries (s := { s with toks := s.toks + (tk c).draws k }) ho hd ?_)
    rw [entry_at he j, hj]
    refine wpAny_bind (wpAny_updateDictKeys (hz := by rw [hes, sizeLine_eq]; walk_at "o") (s := { s with toks := s.toks + (tk c).draws k }) ho hd (wpAny_pure (hQ _ _ ⟨_, _, ep + 1, Heap.get?_update_self _ ho (Obj.isFreed_of_dict (Obj.data_mapDictKeys hd _)),
      hc.mapDictKeys _, Obj.data_mapDictKeys hd _, ?_, ?_, ?_⟩ (Heap.SameBut.update ..))))
    · have hjl : j < xs.length := (List.getElem?_eq_some_iff.mp hj).1
      have e1 : (es.eraseIdxIfInBounds j).toList = es.toList.eraseIdx j := by
        simp only [Array.eraseIdxIfInBounds, hes, hjl, dite_true]
        obtain ⟨l⟩ := es
        simp
      rw [e1, he, eraseIdx_map']
      congr 1
      exact erase_filter hn hj
    · intro x hx
      exact (tk c).keeps (his x (List.mem_filter.mp hx).1) ho hd (Heap.SameBut.update ..)
    · exact (List.filter_sublist.map _).nodup hn

theorem AWS_DelSub {o i : Expr} {dp pos : Pos} {K : Fl → Loc → St → Prop}
    (h : AWE c n env ρ st o fun w st2 => AWE c n env ρ st2 i fun k st3 => ∃ d ep es kk, w = .o d ∧ k = .d (keyD kk) ∧ st3 d = some (.dT ep es) ∧ (lookT es kk).isSome = true ∧ es.length ≤ 1000 ∧ ∀ ep', K .next ρ (st3.set d (.dT ep' (dropT es kk))))
    (hs : exec (.Delete [.Subscript o i dp] pos) env = (do standAt pos; delete (.Subscript o i dp) env; pure .next) := by rfl) : AWS c n env ρ st (.Delete [.Subscript o i dp] pos) K := fun A G s R C F => by
  rw [hs]
  refine wpAny_bind (wpAny_standAt (wpAny_bind (delete_Subscript (AWE.then h R C F fun w s2 G2 st2 y l2 C2 F2 r2 k2 => AWE.then k2 R C2 F2 fun i s3 G3 st3 z l3 C3 F3 r3 hq => ex4_6 hq fun d ep es kk hw hi hst hsome hl k => ?_))))
  subst hw hi
  cases r2 with | o => cases r3 with | d r3 =>
  refine wpAny_mono (liftU (K := K) C3 F3 fun G4 l4 C4 => ?_) (fun u0 s4 q => wpAny_pure (q.le (l2.trans l3))) fun u0 u1 q => q
  have r4 := r3.mono l4.seq
  refine ex1_3 (dict_of C4 hst) fun xs hm rx ho => ?_
  have r5 := r4
  unfold keyD at r5
  cases r5 with
  | tup e q =>
    unfold delItem
    try with_reducible refine wpAny_holding ?_
    refine wpAny_bind (wpAny_sequenceKey hm.typeIs (by decide) ?_)
    refine wpAny_bind (wpAny_callSpecial?_slot (name := Str.ofString "__delitem__") hm.typeIs PySem.F.slot_dict_delitem
      (wpAny_call_entry PySem.F.slot_dict_delitem hm.typeIs PySem.F.entry_dict_delitem ?_ (PySem.F.args_dict_delitem_2 _ _)))
    unfold Builtin.«dict.__delitem__»
    refine wpAny_bind ?_
    unfold Builtin.Dict.dictSlotArgs
    refine wpAny_bind (wpAny_notOrdered_dict hm.typeIs ?_)
    show wpAny _ _ (pure (Value.ref d, Value.ref _)) _ _ s3
    refine wpAny_pure ?_
    show wpAny _ _ (Builtin.Dict.takeOut d _ >>= _) _ _ s3
    refine wpAny_bind (takeOut_heap (A := A.in1) (k := kk) (tupleKind_room_in1 (by have := R.units; walk_at "o")) (isKey C4 r4) hm (by
      rcases rx.at (k := kk) with ⟨e1, e2⟩ | ⟨p, y, e1, e2, q⟩
      · rw [e2] at hsome; cases hsome
      · rw [e1]; rfl) (fun e h' hm' hb => ?_) (by have := rx.length; walk_at "o"))
    refine ex1_1 (of_dict hm' rx.filter) fun ep' ro => ?_
    exact wpAny_bind (wpAny_letGo (wpAny_pure ⟨.none, rfl, wpAny_pure ⟨G4, _, .refl _, C4.turn (ob' := .dT ep' (dropT es kk)) hst rfl (fun b o hne e => (hb.2 b hne).trans e) ro _, k ep'⟩⟩))
end
end Lrn
end
section
open PySem PySem.W PyProof.Rows PySem.Calls
set_option maxRecDepth 100000
set_option linter.unusedVariables false
namespace Lrn

inductive RepY (G : Gh) : List (Int × Value) → List (Int × D) → Prop
  | nil : RepY G [] []
  | cons {k : Int} {v : Value} {x : D} {xs : List (Int × Value)} {es : List (Int × D)} : RepD G v x → RepY G xs es → RepY G ((k, v) :: xs) ((k, x) :: es)
theorem RepI.toY {c : Ctx} {G : Gh} {ents : List DictEntry} {es : List (Int × D)} (r : RepI G ents es) : ∃ xs, Pairs (intKind c.prog c.w) ents xs ∧ (∀ e ∈ ents, ∃ k, (intKind c.prog c.w).is k e.key = true ∧ e.hash = (intKind c.prog c.w).hash k) ∧ RepY G xs es := by
  induction r with
  | nil => exact ⟨[], .nil, (fun e he => by cases he), .nil⟩
  | @cons i tk v x es xs h _ ih =>
    refine ex1_3 ih fun ys p hh r => ?_
    refine ⟨(i, v) :: ys, .cons (by show Value.isInt i (.int i tk) = true; simp [Value.isInt]) rfl p, fun e he => ?_, .cons h r⟩
    rcases List.mem_cons.mp he with rfl | he
    · exact ⟨i, by show Value.isInt i (.int i tk) = true; simp [Value.isInt], rfl⟩
    · exact hh e he
theorem RepY.toI {c : Ctx} {G : Gh} {xs : List (Int × Value)} {es : List (Int × D)} (r : RepY G xs es) : ∀ {ents : List DictEntry}, Pairs (intKind c.prog c.w) ents xs → (∀ e ∈ ents, ∃ k, (intKind c.prog c.w).is k e.key = true ∧ e.hash = (intKind c.prog c.w).hash k) → RepI G ents es := by
  induction r with
  | nil => intro ents p hh; cases p; exact .nil
  | cons h _ ih =>
    intro ents p hh
    cases p with
    | @cons e _ _ _ h1 h2 p =>
      have p2 := ih p fun e he => hh e (.tail _ he)
      obtain ⟨hash, key, val⟩ := e
      refine ex1_2 (hh _ (.head _)) fun k' e1 e2 => ?_
      dsimp only at h1 h2 e1 e2
      refine ex1_1 (Value.isInt_shape h1) fun t hr1 => ?_; subst hr1
      refine ex1_1 (Value.isInt_shape (show Value.isInt k' (.int _ t) = true from e1)) fun t' e => ?_
      cases e
      subst h2
      subst e2
      exact .cons h p2
theorem RepY.keys {G : Gh} {xs : List (Int × Value)} {es : List (Int × D)} (r : RepY G xs es) : xs.map (·.1) = es.map (·.1) := by
  induction r with
  | nil => rfl
  | cons _ _ ih => simp [ih]
theorem RepY.length {G : Gh} {xs : List (Int × Value)} {es : List (Int × D)} (r : RepY G xs es) : xs.length = es.length := by
  induction r with
  | nil => rfl
  | cons _ _ ih => simp [ih]
noncomputable def storeI (es : List (Int × D)) (k : Int) (x : D) : List (Int × D) := if es.any (fun e => decide (e.1 = k)) then es.map (fun e => if e.1 = k then (e.1, x) else e) else es ++ [(k, x)]
theorem RepY.append {G : Gh} {xs ys : List (Int × Value)} {es fs : List (Int × D)} (r : RepY G xs es) (q : RepY G ys fs) : RepY G (xs ++ ys) (es ++ fs) := by
  induction r with
  | nil => exact q
  | cons h _ ih => exact .cons h ih
theorem RepY.store {G : Gh} {k : Int} {v : Value} {x : D} {xs : List (Int × Value)} {es : List (Int × D)} (r : RepY G xs es) (h : RepD G v x) : RepY G (stored xs k v) (storeI es k x) := by
  have any : xs.any (fun e => decide (e.1 = k)) = es.any (fun e => decide (e.1 = k)) := by
    clear h
    induction r with
    | nil => rfl
    | cons _ _ ih => simp [ih]
  have put : RepY G (xs.map fun kv => if kv.1 = k then (kv.1, v) else kv) (es.map fun e => if e.1 = k then (e.1, x) else e) := by
    clear any
    induction r with
    | nil => exact .nil
    | @cons k' v' x' xs es g _ ih =>
      rw [List.map_cons, List.map_cons]
      dsimp only
      by_cases hk : k' = k
      · rw [if_pos hk, if_pos hk]; exact .cons h ih
      · rw [if_neg hk, if_neg hk]; exact .cons g ih
  unfold stored storeI
  rw [any]
  cases es.any (fun e => decide (e.1 = k)) with
  | true => simpa using put
  | false => simpa using r.append (.cons h .nil)

section
variable {c : Ctx} {n : Nat} {env : Env} {ρ : Loc} {G : Gh} {st : St} {s : Shared} {A : Around}
theorem dictI_of {d : Addr} {ep : Nat} {es : List (Int × D)} (C : Conc c G st s) (hs : st d = some (.dI ep es)) : ∃ xs, s.heap.DictOf (intKind c.prog c.w) d xs ∧ RepY G xs es := by
  refine ex1_3 (C.own _ _ hs) fun ents ho q nd => ?_
  refine ex1_3 (q.toY (c := c)) fun xs p hh r => ?_
  exact ⟨xs, ⟨_, ents.toArray, ep, ho, ⟨rfl, rfl, rfl⟩, rfl, fun e he => hh e (by simpa using he), by simpa using p, by rw [r.keys]; exact nd⟩, r⟩
theorem of_dictI {h' : Heap} {d : Addr} {xs : List (Int × Value)} {es : List (Int × D)} (hm : h'.DictOf (intKind c.prog c.w) d xs) (r : RepY G xs es) : ∃ ep, ObRep c.w G h' d (.dI ep es) := by
  obtain ⟨⟨cls, dd, dat, sl⟩, ents, ep, ho, hc, hd, hk, hp, nd⟩ := hm
  refine ex0_3 hc fun h1 h2 h3 => ?_
  dsimp only at h1 h2 h3 hd
  subst h1 h2 h3 hd
  refine ⟨ep, ents.toList, ?_, r.toI hp fun e he => hk e (by simpa using he), by rw [← r.keys]; exact nd⟩
  rw [ho]; simp [dictO]
theorem OpSet_dI {d : Addr} {ep : Nat} {es : List (Int × D)} {i : Int} {x : D} {K : St → Prop} (hs : st d = some (.dI ep es)) (hl : es.length ≤ 1000) (h : ∀ ep', K (st.set d (.dI ep' (storeI es i x)))) : OpSet c n (.o d) (.d (.int i)) (.d x) st K := fun A G s a b v R C r1 r2 r3 => by
  cases r1 with | o => cases r2 with | d r2 => cases r2 with | int _ t => cases r3 with | d r3 =>
  refine ex1_2 (dictI_of C hs) fun xs hm ry => ?_
  refine wpAny_setItem_pairs (knd := intKind c.prog c.w) (k := i) (by show Value.isInt i (.int i t) = true; simp [Value.isInt]) hm (fun h' hm' hb => ?_) (by rw [sizeLine_eq]; have := ry.length; walk_at "o")
  refine ex1_1 (of_dictI hm' (ry.store r3)) fun ep' ro => ?_
  exact ⟨G, _, .refl _, C.turn (ob' := .dI ep' (storeI es i x)) hs rfl (fun b o hne e => (hb.2 b hne).trans e) ro _, h ep'⟩

theorem AWE_DictT {pos : Pos} {K : V → St → Prop} (h : ∀ a ep, st a = none → K (.o a) (st.set a (.dT ep []))) : AWE c n env ρ st (.Dict [] [] pos) K := fun A G s R C F => by
  rw [eval_Dict_empty]
  refine wpAny_bind (wpAny_standAt (wpAny_newObj_type ?_))
  refine ex1_3 (freeze C F) fun G2 l2 C2 back => ?_
  refine ex0_2 (C2.newOb (h' := s.heap.push (dictO [] 0)) (ob := .dT 0 []) (fun b o e => Heap.get?_push_of_some _ e) s.toks (a := s.heap.objs.size) (Heap.get?_none_of_le (Nat.le_refl _)) rfl ⟨[], Heap.get?_push_size _ rfl, .nil, List.nodup_nil⟩) fun ha C3 => ?_
  refine ex1_4 (back G2 _ _ (.refl _) C3) fun G4 l4 C4 F4 sq => ?_
  exact ⟨G4, _, _, l4, C4, F4, .o _, h _ _ ha⟩
theorem AWE_DictI {pos : Pos} {K : V → St → Prop} (h : ∀ a ep, st a = none → K (.o a) (st.set a (.dI ep []))) : AWE c n env ρ st (.Dict [] [] pos) K := fun A G s R C F => by
  rw [eval_Dict_empty]
  refine wpAny_bind (wpAny_standAt (wpAny_newObj_type ?_))
  refine ex1_3 (freeze C F) fun G2 l2 C2 back => ?_
  refine ex0_2 (C2.newOb (h' := s.heap.push (dictO [] 0)) (ob := .dI 0 []) (fun b o e => Heap.get?_push_of_some _ e) s.toks (a := s.heap.objs.size) (Heap.get?_none_of_le (Nat.le_refl _)) rfl ⟨[], Heap.get?_push_size _ rfl, .nil, List.nodup_nil⟩) fun ha C3 => ?_
  refine ex1_4 (back G2 _ _ (.refl _) C3) fun G4 l4 C4 F4 sq => ?_
  exact ⟨G4, _, _, l4, C4, F4, .o _, h _ _ ha⟩

theorem notSys {d : Addr} {ob : Ob} (H : CtxOK c) (C : Conc c G st s) (hs : st d = some ob) (hc : cellA d ob = d) : (d == sysModules) = false := by
  refine ex1_1 H.sys fun o ho => ?_
  have h1 := C.base _ _ ho
  have h2 := C.free _ _ hs
  rw [hc] at h2
  refine beq_eq_false_iff_ne.mpr fun e => ?_
  rw [e, h1] at h2; cases h2
theorem OpI_dT {d : Addr} {ep : Nat} {es : List (List Atom × D)} {K : List D → Option Addr → Prop} (H : CtxOK c) (hs : st d = some (.dT ep es)) (h : K (es.map fun e => keyD e.1) (some d)) : OpI c n (.o d) st K := fun A G s v R C r Q hQ => by
  cases r with | o =>
  refine ex1_3 (C.own _ _ hs) fun ents ho q nd => ?_
  refine raw_iter (notSys H C hs rfl) ho fun h' e => hQ h' _ _ h (fun b o u0 eb => by rw [e]; exact Heap.get?_push_of_some _ eb) ?_ (by rintro b hb; cases hb; exact Nat.ne_of_lt (Heap.lt_size ho))
  have : ItAt G st h' s.heap.objs.size ((es.map fun e => keyD e.1).drop 0) (some d) := .dictT (i := 0) (ep := ep) ⟨_, by rw [e]; exact Heap.get?_push_size _ rfl, rfl, by rw [q.length]; rfl⟩ hs
  simpa using this
theorem OpI_view {a d : Addr} {ep : Nat} {es : List (List Atom × D)} {K : List D → Option Addr → Prop} (hv : st a = some (.view d)) (hs : st d = some (.dT ep es)) (h : K (es.map fun e => e.2) (some d)) : OpI c n (.o a) st K := fun A G s v R C r Q hQ => by
  cases r with | o =>
  refine ex1_3 (C.own _ _ hs) fun ents ho q nd => ?_
  have hvo : s.heap.get? a = some { cls := .type "dict_values", data := .fields #[.ref d] } := C.own _ _ hv
  refine raw_viter ⟨_, hvo, rfl, rfl⟩ ho fun h' e => hQ h' _ _ h (fun b o u0 eb => by rw [e]; exact Heap.get?_push_of_some _ eb) ?_ (by rintro b hb; cases hb; exact Nat.ne_of_lt (Heap.lt_size ho))
  have : ItAt G st h' s.heap.objs.size ((es.map fun e => e.2).drop 0) (some d) := .valsT (i := 0) (ep := ep) ⟨_, by rw [e]; exact Heap.get?_push_size _ rfl, rfl, by rw [q.length]; rfl⟩ hs
  simpa using this
theorem AWE_Values {o : Expr} {apos pos : Pos} {pl : Sem Bool} {K : V → St → Prop} (H : CtxOK c)
    (h : AWE c n env ρ st o fun v st1 => ∃ d ep es, v = .o d ∧ st1 d = some (.dT ep es) ∧ ∀ a, st1 a = none → K (.o a) (st1.set a (.view d)))
    (he : eval (.Call (.Attribute o "values" apos) [] [] pos) env = (do
      let ov ← eval o env
      standAt apos.atName
      let (f, first) ← holding [ov] (getMethod ov "values" pl)
      callWith pos f first (backTo pos (starEach [] env)) []) := by rfl) :
    AWE c n env ρ st (.Call (.Attribute o "values" apos) [] [] pos) K := fun A G s R C F =>
  MethodCall_ (pl := pl) (AWE.then h R C F fun v s1 G1 st1 w l1 C1 F1 r1 ⟨d, ep, es, hv, hs, k⟩ => by
    subst hv
    cases r1 with | o =>
    refine ex1_3 (C1.own _ _ hs) fun ents ho q nd => ?_
    refine getMethod_builtin (T := "dict") ⟨_, ho, rfl⟩ PySem.F.plainAttrs_dict PySem.F.slot_dict_values PySem.F.type_dict_values (fun a e => by cases e; exact ⟨_, ho, rfl⟩) ?_
    refine callWith_method0 (raw_view (notSys H C1 hs rfl) ho ?_)
    refine ex1_3 (freeze C1 F1) fun G2 l2 C2 back => ?_
    refine ex0_2 (C2.newOb (h' := s1.heap.push { cls := .type "dict_values", data := .fields #[.ref d] }) (ob := .view d) (fun b o e => Heap.get?_push_of_some _ e) s1.toks (a := s1.heap.objs.size) (Heap.get?_none_of_le (Nat.le_refl _)) rfl (Heap.get?_push_size _ rfl)) fun ha C3 => ?_
    refine ex1_4 (back G2 _ _ (.refl _) C3) fun G4 l4 C4 F4 sq => ?_
    exact ⟨G4, _, _, l1.trans l4, C4, F4, .o _, k _ ha⟩) he
end
end Lrn
end
section
open PySem PySem.W PyProof.Rows PySem.Calls
set_option maxRecDepth 100000
set_option linter.unusedVariables false
namespace Lrn

section
variable {n : Nat} {lt : Nat → Nat → Bool} {cmp : Nat → Nat → (Bool → Shared → Prop) → Shared → Prop} {s : Shared}

structure Strict (n : Nat) (lt : Nat → Nat → Bool) : Prop where
  trans : ∀ i j k, lt i j = true → lt j k = true → lt i k = true
  total : ∀ i j, i < n → j < n → i ≠ j → lt i j = true ∨ lt j i = true
  irr : ∀ i, lt i i = false
noncomputable def Sound (n : Nat) (lt : Nat → Nat → Bool) (cmp : Nat → Nat → (Bool → Shared → Prop) → Shared → Prop) (s : Shared) : Prop := ∀ i j, i < n → j < n → ∀ C : Bool → Shared → Prop, C (lt i j) s → cmp i j C s
structure GoodP (n : Nat) (p : Array Nat) : Prop where
  perm : p.toList.Perm (List.range n)
theorem GoodP.size {p : Array Nat} (g : GoodP n p) : p.size = n := by have := g.perm.length_eq; simpa using this
theorem GoodP.below {p : Array Nat} (g : GoodP n p) {i : Nat} (h : i < n) : p.getD i 0 < n := by
  have hi : i < p.size := by rw [g.size]; exact h
  have hm : p[i] ∈ p.toList := Array.getElem_mem_toList ..
  have := g.perm.mem_iff.mp hm
  rw [List.mem_range] at this
  simpa [Array.getD, hi] using this
theorem GoodP.ne {p : Array Nat} (g : GoodP n p) {i j : Nat} (h : i < n) (h' : j < n) (hij : i ≠ j) : p.getD i 0 ≠ p.getD j 0 := by
  have hi : i < p.toList.length := by have := g.size; simp; walk_at "o"
  have hj : j < p.toList.length := by have := g.size; simp; walk_at "o"
  have nd : p.toList.Nodup := g.perm.nodup_iff.mpr List.nodup_range
  intro e
  apply hij
  have e' : p.toList[i] = p.toList[j] := by
    simp only [Array.getElem_toList]
    simp only [Array.length_toList] at hi hj
    simpa [Array.getD, hi, hj] using e
  exact (List.getElem_inj nd).mp e'
noncomputable def Asc (lt : Nat → Nat → Bool) (p : Array Nat) (k : Nat) : Prop := ∀ i j, i < j → j < k → lt (p.getD i 0) (p.getD j 0) = true
noncomputable def Dsc (lt : Nat → Nat → Bool) (p : Array Nat) (k : Nat) : Prop := ∀ i j, i < j → j < k → lt (p.getD j 0) (p.getD i 0) = true

theorem Asc.succ {p : Array Nat} {k : Nat} (S : Strict n lt) (a : Asc lt p k) (hk : 1 ≤ k) (h : lt (p.getD (k - 1) 0) (p.getD k 0) = true) : Asc lt p (k + 1) := fun i j hij hj => by
  by_cases e : j = k
  · subst e
    by_cases e2 : i = j - 1
    · subst e2; exact h
    · exact S.trans _ _ _ (a i (j - 1) (by walk_at "o") (by walk_at "o")) h
  · exact a i j hij (by walk_at "o")
theorem Dsc.succ {p : Array Nat} {k : Nat} (S : Strict n lt) (a : Dsc lt p k) (hk : 1 ≤ k) (h : lt (p.getD k 0) (p.getD (k - 1) 0) = true) : Dsc lt p (k + 1) := fun i j hij hj => by
  by_cases e : j = k
  · subst e
    by_cases e2 : i = j - 1
    · subst e2; exact h
    · exact S.trans _ _ _ h (a i (j - 1) (by walk_at "o") (by walk_at "o"))
  · exact a i j hij (by walk_at "o")

theorem asc_wp (S : Strict n lt) (H : Sound n lt cmp s) {p : Array Nat} (g : GoodP n p) {Q : Nat → Shared → Prop} : ∀ (f a : Nat), 1 ≤ a → a + f ≤ n → Asc lt p a →
    (∀ m, a ≤ m → m ≤ a + f → Asc lt p m → (m < a + f → lt (p.getD m 0) (p.getD (m - 1) 0) = true) → Q m s) → (kas_asc p f a).kasWp cmp Q s
  | 0, a, h1, h2, h3, hq => hq a (Nat.le_refl _) (Nat.le_refl _) h3 fun h => absurd h (Nat.lt_irrefl _)
  | f + 1, a, h1, h2, h3, hq => by
    refine H _ _ (g.below (by walk_at "o")) (g.below (by walk_at "o")) _ ?_
    cases e : lt (p.getD a 0) (p.getD (a - 1) 0) with
    | true => exact hq a (Nat.le_refl _) (by walk_at "o") h3 fun u0 => e
    | false =>
      have : lt (p.getD (a - 1) 0) (p.getD a 0) = true := by
        rcases S.total (p.getD (a - 1) 0) (p.getD a 0) (g.below (by walk_at "o")) (g.below (by walk_at "o")) (g.ne (by walk_at "o") (by walk_at "o") (by walk_at "o")) with h | h
        · exact h
        · rw [e] at h; cases h
      exact asc_wp S H g f (a + 1) (by walk_at "o") (by walk_at "o") (h3.succ S h1 this) fun m a1 a2 a3 a4 => hq m (by walk_at "o") (by walk_at "o") a3 fun h => a4 (by walk_at "o")

theorem desc_wp (S : Strict n lt) (H : Sound n lt cmp s) {p : Array Nat} (g : GoodP n p) {Q : Array Nat × Nat × Nat → Shared → Prop} : ∀ (f a : Nat), 1 ≤ a → a + f ≤ n → Dsc lt p a →
    (∀ m, a ≤ m → m ≤ a + f → Dsc lt p m → Q (p, m, 0) s) → (kas_desc f p a 0).kasWp cmp Q s
  | 0, a, h1, h2, h3, hq => hq a (Nat.le_refl _) (Nat.le_refl _) h3
  | f + 1, a, h1, h2, h3, hq => by
    refine H _ _ (g.below (by walk_at "o")) (g.below (by walk_at "o")) _ ?_
    cases e : lt (p.getD a 0) (p.getD (a - 1) 0) with
    | true => exact desc_wp S H g f (a + 1) (by walk_at "o") (by walk_at "o") (h3.succ S h1 e) fun m a1 a2 a3 => hq m (by walk_at "o") (by walk_at "o") a3
    | false =>
      have : lt (p.getD (a - 1) 0) (p.getD a 0) = true := by
        rcases S.total (p.getD (a - 1) 0) (p.getD a 0) (g.below (by walk_at "o")) (g.below (by walk_at "o")) (g.ne (by walk_at "o") (by walk_at "o") (by walk_at "o")) with h | h
        · exact h
        · rw [e] at h; cases h
      refine H _ _ (g.below (by walk_at "o")) (g.below (by walk_at "o")) _ ?_
      rw [this]
      exact hq a (Nat.le_refl _) (by walk_at "o") h3

theorem getD_of {p q : Array Nat} {i j : Nat} (h : p[i]? = q[j]?) : p.getD i 0 = q.getD j 0 := by
  rw [Array.getD_eq_getD_getElem?, Array.getD_eq_getD_getElem?, h]

theorem rev_good {p : Array Nat} (g : GoodP n p) (i j : Nat) : GoodP n (kas_rev p i j) := ⟨(Array.perm_iff_toList_perm.mp (mirror_perm p i j _)).trans g.perm⟩
theorem rev_get {p : Array Nat} (g : GoodP n p) {m : Nat} (hm : m ≤ n) (k : Nat) : (kas_rev p 0 m).getD k 0 = if k < m then p.getD (m - 1 - k) 0 else p.getD k 0 := by
  have e := getElem?_mirror_all (xs := p) (i := 0) (j := m) (by rw [g.size]; exact hm) k
  by_cases h : k < m
  · rw [if_pos h]
    rw [if_pos ⟨Nat.zero_le _, h⟩] at e
    rw [show 0 + m - 1 - k = m - 1 - k by walk_at "o"] at e
    exact getD_of e
  · rw [if_neg h]
    rw [if_neg (by walk_at "o")] at e
    exact getD_of e
theorem tail3_wp (S : Strict n lt) (H : Sound n lt cmp s) {p : Array Nat} (g : GoodP n p) {m : Nat} (h1 : 1 ≤ m) (hm : m ≤ n) (d : Dsc lt p m) {Q : Nat × Array Nat → Shared → Prop}
    (hq : ∀ k p', GoodP n p' → 1 ≤ k → k ≤ n → Asc lt p' k → Q (k, p') s) : (kas_tail3 m n p).kasWp cmp Q s := by
  have g' := rev_good g 0 m
  have a : Asc lt (kas_rev p 0 m) m := fun i j hij hj => by
    rw [rev_get g hm, rev_get g hm, if_pos (by walk_at "o"), if_pos hj]
    exact d _ _ (by walk_at "o") (by walk_at "o")
  unfold kas_tail3
  rw [KasT.kasWp_bind]
  exact asc_wp S H g' (n - m) m h1 (by walk_at "o") a fun k a1 a2 a3 u0 => hq k _ g' (by walk_at "o") (by walk_at "o") a3
theorem count_wp (S : Strict n lt) (H : Sound n lt cmp s) {p : Array Nat} (g : GoodP n p) (hn : 1 ≤ n) {Q : Nat × Array Nat → Shared → Prop}
    (hq : ∀ k p', GoodP n p' → 1 ≤ k → k ≤ n → Asc lt p' k → Q (k, p') s) : (kas_count n p).kasWp cmp Q s := by
  unfold kas_count
  rw [KasT.kasWp_bind]
  refine asc_wp S H g (n - 1) 1 (Nat.le_refl _) (by walk_at "o") (fun i j hij hj => by walk_at "o") fun m a1 a2 a3 a4 => ?_
  by_cases e : (m == n) = true
  · rw [if_pos e]; exact hq m p g a1 (by walk_at "o") a3
  · rw [if_neg e]
    have hmn : m ≠ n := by simpa using e
    by_cases h1 : m > 1
    · rw [if_pos h1]
      refine H _ _ (g.below (by walk_at "o")) (g.below (by walk_at "o")) _ ?_
      rw [a3 0 (m - 1) (by walk_at "o") (by walk_at "o")]
      exact hq m p g a1 (by walk_at "o") a3
    · rw [if_neg h1]
      have e1 : m = 1 := by walk_at "o"
      subst e1
      have hl := a4 (by walk_at "o")
      unfold kas_descPart
      rw [KasT.kasWp_bind]
      refine desc_wp S H g (n - (1 + 1)) (1 + 1) (by walk_at "o") (by walk_at "o") (fun i j hij hj => ?_) fun k b1 b2 b3 => ?_
      · have : i = 0 ∧ j = 1 := by walk_at "o"
        refine ex0_2 this fun hr1 hr2 => ?_; subst hr1; subst hr2
        exact hl
      · dsimp only
        rw [if_neg (by walk_at "o")]
        exact tail3_wp S H g (by walk_at "o") (by walk_at "o") b3 hq

theorem place_wp (S : Strict n lt) (H : Sound n lt cmp s) {p : Array Nat} (g : GoodP n p) {k : Nat} (hk : k < n) (a : Asc lt p k) {Q : Nat → Shared → Prop} (hq : ∀ m, m ≤ k → (∀ i, i < m → lt (p.getD i 0) (p.getD k 0) = true) → (∀ i, m ≤ i → i < k → lt (p.getD k 0) (p.getD i 0) = true) → Q m s) :
    ∀ (f l r : Nat), r - l ≤ f → l ≤ r → r ≤ k → (∀ i, i < l → lt (p.getD i 0) (p.getD k 0) = true) → (∀ i, r ≤ i → i < k → lt (p.getD k 0) (p.getD i 0) = true) → (kas_place p k f l r).kasWp cmp Q s
  | 0, l, r, hf, hl, hr, h1, h2 => hq l (by walk_at "o") h1 fun i hi hik => h2 i (by walk_at "o") hik
  | f + 1, l, r, hf, hl, hr, h1, h2 => by
    unfold kas_place
    by_cases e : l ≥ r
    · rw [if_pos e]; exact hq l (by walk_at "o") h1 fun i hi hik => h2 i (by walk_at "o") hik
    · rw [if_neg e]
      have hmid : (l + r) / 2 < k := by walk_at "o"
      refine H _ _ (g.below hk) (g.below (by walk_at "o")) _ ?_
      cases e2 : lt (p.getD k 0) (p.getD ((l + r) / 2) 0) with
      | true =>
        refine place_wp S H g hk a hq f l ((l + r) / 2) (by walk_at "o") (by walk_at "o") (by walk_at "o") h1 fun i hi hik => ?_
        by_cases e3 : i = (l + r) / 2
        · subst e3; exact e2
        · exact S.trans _ _ _ e2 (a _ _ (by walk_at "o") hik)
      | false =>
        have e4 : lt (p.getD ((l + r) / 2) 0) (p.getD k 0) = true := by
          rcases S.total (p.getD ((l + r) / 2) 0) (p.getD k 0) (g.below (by walk_at "o")) (g.below hk) (g.ne (by walk_at "o") hk (by walk_at "o")) with h | h
          · exact h
          · rw [e2] at h; cases h
        refine place_wp S H g hk a hq f ((l + r) / 2 + 1) r (by walk_at "o") (by walk_at "o") hr (fun i hi => ?_) h2
        by_cases e3 : i = (l + r) / 2
        · subst e3; exact e4
        · exact S.trans _ _ _ (a _ _ (by walk_at "o") hmid) e4

theorem bin_wp (S : Strict n lt) (H : Sound n lt cmp s) {Q : Array Nat → Shared → Prop} (hq : ∀ p', GoodP n p' → Asc lt p' n → Q p' s) : ∀ (f k : Nat) (p : Array Nat), GoodP n p → k + f = n → Asc lt p k → (kas_bin f p k).kasWp cmp Q s
  | 0, k, p, g, hk, a => hq p g (by rw [← hk]; exact a)
  | f + 1, k, p, g, hk, a => by
    unfold kas_bin
    rw [KasT.kasWp_bind]
    refine place_wp S H g (by walk_at "o") a (fun m h1 h2 h3 => ?_) k 0 k (by walk_at "o") (by walk_at "o") (Nat.le_refl _) (fun i hi => by walk_at "o") fun i hi hik => by walk_at "o"
    have gb : GoodP n (bubble p k (k - m)) := ⟨(Array.perm_iff_toList_perm.mp (bubble_perm p k (k - m))).trans g.perm⟩
    have get : ∀ i, (bubble p k (k - m)).getD i 0 = if i = m then p.getD k 0 else if m < i ∧ i ≤ k then p.getD (i - 1) 0 else p.getD i 0 := fun i => by
      have e := getElem?_bubble (xs := p) (src := k) (by rw [g.size]; walk_at "o") (k - m) (by walk_at "o") i
      rw [show k - (k - m) = m by walk_at "o"] at e
      by_cases c1 : i = m
      · rw [if_pos c1]; rw [if_pos c1] at e; exact getD_of e
      · rw [if_neg c1]; rw [if_neg c1] at e
        by_cases c2 : m < i ∧ i ≤ k
        · rw [if_pos c2]; rw [if_pos c2] at e; exact getD_of e
        · rw [if_neg c2]; rw [if_neg c2] at e; exact getD_of e
    refine bin_wp S H hq f (k + 1) _ gb (by walk_at "o") fun i j hij hj => ?_
    rw [get i, get j]
    by_cases ci : i = m
    · rw [if_pos ci, if_neg (by walk_at "o"), if_pos ⟨by walk_at "o", by walk_at "o"⟩]
      exact h3 (j - 1) (by walk_at "o") (by walk_at "o")
    · rw [if_neg ci]
      by_cases cj : j = m
      · rw [if_pos cj, if_neg (by walk_at "o")]
        exact h2 i (by walk_at "o")
      · rw [if_neg cj]
        by_cases di : m < i ∧ i ≤ k
        · rw [if_pos di, if_pos ⟨by walk_at "o", by walk_at "o"⟩]
          exact a _ _ (by walk_at "o") (by walk_at "o")
        · rw [if_neg di]
          by_cases dj : m < j ∧ j ≤ k
          · rw [if_pos dj]
            exact a _ _ (by walk_at "o") (by walk_at "o")
          · rw [if_neg dj]
            exact a _ _ hij (by walk_at "o")

theorem sort_wp (S : Strict n lt) (H : Sound n lt cmp s) (hn : 1 ≤ n) {Q : Array Nat → Shared → Prop} (hq : ∀ p', GoodP n p' → Asc lt p' n → Q p' s) : (kas_sort n).kasWp cmp Q s := by
  unfold kas_sort
  rw [KasT.kasWp_bind]
  refine count_wp S H (p := List.toArray (List.range n)) ⟨by simp⟩ hn fun k p' g h1 h2 a => ?_
  dsimp only
  by_cases e : k < n
  · rw [if_pos e, Nat.max_eq_left h1]
    exact bin_wp S H hq (n - k) k p' g (by walk_at "o") a
  · rw [if_neg e]
    have : k = n := by walk_at "o"
    subst this
    exact hq p' g a
end
end Lrn
end
section
open PySem PySem.W PyProof.Rows PySem.Calls
set_option maxRecDepth 100000
set_option linter.unusedVariables false
namespace Lrn

section
variable {c : Ctx} {n : Nat} {env : Env} {ρ : Loc} {G : Gh} {st : St} {s : Shared} {A : Around}

structure MkOK (c : Ctx) (Cc fI : Addr) : Prop where
  makes : makesIn c.K Cc = true
  init : findIn c.K (.ref Cc) "__init__" = some (some (.ref fI))
  fn : typeIn c.K (.ref fI) = some (.type "function")
  keep : keepIn c.K (.ref Cc) = true

theorem AWC_cls {Cc fI : Addr} {args : List V} {K : V → St → Prop} (H : CtxOK c) (M : MkOK c Cc fI)
    (h : ∀ x dx, st x = none → AWC c n (.ref fI) (.o x :: args) (st.set x (.inst Cc dx 0 fun u0 => none)) fun v st' => v = .d .none ∧ K (.o x) st') : AWC c (n + 1) (.ref Cc) args st K := fun A G s vs R C rs => by
  obtain ⟨hh, g, d, t, os⟩ := s
  refine make_core (makes_of (C.kin H) M.makes) (looks_findIn (C.kin H) M.init) (fun self => bind_fn (C.kin H) self M.fn) (.inl rfl) ?_
  have hn1 : hh.get? hh.objs.size = none := by
    cases e : hh.get? hh.objs.size with
    | none => rfl
    | some o => exact absurd (Heap.lt_size e) (Nat.lt_irrefl _)
  have hn2 : hh.get? (hh.objs.size + 1) = none := by
    cases e : hh.get? (hh.objs.size + 1) with
    | none => rfl
    | some o => exact absurd (Heap.lt_size e) (Nat.not_lt.mpr (Nat.le_succ _))
  have k : ∀ b o, hh.get? b = some o → ((hh.push emptyDict).push (instObj Cc hh.objs.size)).get? b = some o := fun b o e => Heap.get?_push_of_some _ (Heap.get?_push_of_some _ e)
  have hd : ((hh.push emptyDict).push (instObj Cc hh.objs.size)).get? hh.objs.size = some emptyDict := Heap.get?_push_of_some _ (Heap.get?_push_size _ rfl)
  have hx : ((hh.push emptyDict).push (instObj Cc hh.objs.size)).get? (hh.objs.size + 1) = some (instObj Cc hh.objs.size) := by
    have := Heap.get?_push_size (hh.push emptyDict) (o := instObj Cc hh.objs.size) rfl
    rwa [Heap.size_push] at this
  refine ex1_4 ((C.ext (s := ⟨hh, g, d, t, os⟩) (h' := (hh.push emptyDict).push (instObj Cc hh.objs.size)) k t).settle (a := hh.objs.size + 1) (C.ownOf (s := ⟨hh, g, d, t, os⟩) hn2) hx) fun G1 l1 C1 e1 e2 => ?_
  have ow : Own G st hh.objs.size := C.freshOwn
  have C2 := C1.put (a := hh.objs.size + 1) (ob := .inst Cc hh.objs.size 0 fun u0 => none) (by show G1 hh.objs.size = none; rw [e2 _ (Nat.ne_of_lt (Nat.lt_succ_self _))]; exact ow.g) (fun b o e => ow.st b o e)
    ⟨e1, fun u0 => none, ⟨_, #[], 0, hd, rfl, fun e he => by simp at he, fun name => rfl, Nat.le_refl _⟩, fun u0 => .none⟩ (C.fresh_st (s := ⟨hh, g, d, t, os⟩) hn2)
  refine codeAny_mono (h (hh.objs.size + 1) hh.objs.size (C.fresh_st (s := ⟨hh, g, d, t, os⟩) hn2) _ G1 _ _ ⟨?_, ?_, R.handled⟩ C2 (.cons (.o _) (rs.mono l1.seq))) fun res s' q => ?_
  · have := R.depth
    show A.depth + Code.weight _ + 4 * n + 8 < _
    have hw : Code.weight (.builtin "type.__call__" ⟨.ref Cc :: vs, []⟩) ≤ 4 := by
      show 0 + (if _ then 1 else 0) + (if _ then 1 else 0) + 0 ≤ 4; split <;> split <;> walk_at "o"
    walk_at "o"
  · have := R.units
    show A.units + Code.cUnits _ + 20 * n + 200 < _
    have hw : Code.cUnits (.builtin "type.__call__" ⟨.ref Cc :: vs, []⟩) ≤ 20 := by
      first | exact Nat.le_of_ble_eq_true rfl | decide | (simp [Code.cUnits]; done) | (simp [Code.cUnits, Code.frames, Code.isFrame]; try walk_at "o")
    walk_at "o"
  · cases res with
    | error u0 => exact q.elim
    | ok f =>
      cases f with
      | ret v =>
        refine ex3_5 q fun G2 st2 pv l2 C3 r2 hv k2 => ?_
        subst hv
        cases r2 with | d r2 => cases r2 with | none => exact ⟨rfl, G2, st2, _, l1.trans l2, C3, .o _, k2⟩
      | next => exact q.elim
      | brk => exact q.elim
      | cont => exact q.elim

theorem callWith_cls' {f : Addr} {e : Expr} {es : List Expr} {pos : Pos} {K : V → St → Prop} (H : CtxOK c) (hf : keepIn c.K (.ref f) = true) (R : Room n A) (C : Conc c G st s) (F : FrameOK env ρ G st s.heap)
    (hs : starEach (e :: es) env = (false, eval e env) :: starEach es env) (hplain : ∀ pos, (backTo pos (starEach es env)).any (·.1) = false)
    (h : AWL c n env ρ st (e :: es) fun ps st1 => AWC c n (.ref f) ps st1 K) : wpAny (model c.prog c.w) A (callWith pos (.ref f) [] (backTo pos (starEach (e :: es) env)) []) (PostE c env ρ G K) (fun u0 u1 => False) s :=
  callWith_K (C.kin H) hf (wpAny_mono (h A G s pos R C F) (fun vs s1 hq => e35 hq fun G1 st1 ps l1 C1 F1 r1 k1 => ⟨C1.kin H, wpAny_mono (callIn R C1 F1 r1 k1) (fun u0 u1 q => q.le l1) fun u0 u1 q => q⟩) fun u0 u1 q => q) hs (hplain pos)
theorem AWE_CallC {f : Addr} {x : Str} {p pos : Pos} {e : Expr} {es : List Expr} {K : V → St → Prop} (H : CtxOK c) (hk : env.kindOf x = some .globalImplicit) (hv : nsIn c.K mainGlobals x = some (some (.ref f))) (hf : keepIn c.K (.ref f) = true)
    (h : AWL c n env ρ st (e :: es) fun ps st1 => AWC c n (.ref f) ps st1 K) (hs : starEach (e :: es) env = (false, eval e env) :: starEach es env := by rfl) (hplain : ∀ pos, (backTo pos (starEach es env)).any (·.1) = false := by intro _; rfl) (hd : (x == ("__debug__" : Str)) = false := by decide) :
    AWE c n env ρ st (.Call (.Name x p) (e :: es) [] pos) K := fun A G s R C F =>
  Call_ (eval_global H C F hk hv (callWith_cls' H hf R C F hs hplain h) hd)
theorem AWE_CallC0 {f : Addr} {x : Str} {p pos : Pos} {K : V → St → Prop} (H : CtxOK c) (hk : env.kindOf x = some .globalImplicit) (hv : nsIn c.K mainGlobals x = some (some (.ref f))) (hf : keepIn c.K (.ref f) = true)
    (h : AWC c n (.ref f) [] st K) (hd : (x == ("__debug__" : Str)) = false := by decide) :
    AWE c n env ρ st (.Call (.Name x p) [] [] pos) K := fun A G s R C F =>
  Call_ (eval_global H C F hk hv (callWith_K0 (C.kin H) hf (callIn R C F .nil h)) hd)

end
end Lrn
end
section
open PySem PySem.W PyProof.Rows PySem.Calls
set_option maxRecDepth 100000
set_option linter.unusedVariables false
namespace Lrn

section
variable {c : Ctx} {n : Nat} {env : Env} {ρ : Loc} {G : Gh} {st : St} {s : Shared} {A : Around}

theorem OK.inj_tup {k : Nat} {xs : List D} (h : OK k (.tup xs)) : ∃ j, j + 1 = k ∧ ∀ x ∈ xs, OK j x := by cases h with | tup h => exact ⟨_, rfl, h⟩
theorem pys_any {k m : Nat} {d : D} : ∀ (xs : List D), (∀ x ∈ xs, OK k x) → OK m d → ((D.pys xs).any (fun y => PyData.eqv y d.py) = true ↔ d ∈ xs)
  | [], _, _ => by simp [D.pys]
  | x :: xs, h, hd => by
    rw [D.pys, List.any_cons, Bool.or_eq_true, (h x (.head _)).eqv hd, pys_any xs (fun y hy => h y (.tail _ hy)) hd, List.mem_cons]
    exact ⟨fun e => e.imp Eq.symm id, fun e => e.imp Eq.symm id⟩
theorem OpC_InT {k m : Nat} {d : D} {xs : List D} {q : Bool} {K : V → St → Prop} (hx : OK k (.tup xs)) (hd : OK m d) (hk : k ≤ 60) (hm : m ≤ 60) (e : q = true ↔ d ∈ xs) (h : K (.d (.bool q)) st) : OpC c n .In (.d d) (.d (.tup xs)) st K := fun A G s a b R C r1 r2 => by
  cases r1 with | d r1 => cases r2 with | d r2 =>
  refine ex1_1 (hd.reads C r1) fun u0 e1 => ?_
  refine ex1_1 (hx.reads C r2) fun u0 e2 => ?_
  refine ex1_2 hx.inj_tup fun j hr1 hxs => ?_; subst hr1
  have d1 := hd.depth
  rw [D.py] at e2
  refine SeqAt.in_tuple_reads e2 e1 (pys_canLay xs fun x hx => (hxs x hx).canLay) hd.canLay (by have := R.units; have : min (PyData.depthAll (D.pys xs)) d.py.depth ≤ m + 1 := Nat.le_trans (Nat.min_le_right _ _) d1; walk_at "o") (PostC.of C (.d (.bool _)) ?_)
  rw [show ((D.pys xs).any fun y => PyData.eqv y d.py) = q by rw [Bool.eq_iff_iff, pys_any xs hxs hd]; exact e.symm]
  exact h
theorem OpC_InL {k m : Nat} {d : D} {v : V} {xs : List D} {q : Bool} {K : V → St → Prop} (il : IsL st v xs) (hx : ∀ x ∈ xs, OK k x) (hd : OK m d) (hm : m ≤ 60) (e : q = true ↔ d ∈ xs) (h : K (.d (.bool q)) st) : OpC c n .In (.d d) v st K := fun A G s a b R C r1 r2 => by
  cases r1 with | d r1 =>
  refine ex1_1 (hd.reads C r1) fun u0 e1 => ?_
  refine ex3_3 (il.get C r2) fun l vs mm hr1 ho qq => ?_; subst hr1
  have e2 : ∃ as, ReadsAll s.heap vs (D.pys xs) as := by
    clear e h il ho
    induction xs generalizing vs with
    | nil => cases qq; exact ⟨_, .nil⟩
    | cons x xs ih =>
      cases qq with
      | cons a r =>
        refine ex1_1 ((hx x (.head _)).reads C a) fun as f1 => ?_
        refine ex1_1 (ih (fun y hy => hx y (.tail _ hy)) _ r) fun bs f2 => ?_
        exact ⟨_, .cons f1 f2⟩
  refine ex1_1 e2 fun as e2 => ?_
  have d1 := hd.depth
  refine SeqAt.in_list_reads (.list ho rfl rfl (by simpa [seqO] using e2)) e1 (pys_canLay xs fun x hx' => (hx x hx').canLay) hd.canLay (by have := R.units; have : min (PyData.depthAll (D.pys xs)) d.py.depth ≤ m + 1 := Nat.le_trans (Nat.min_le_right _ _) d1; walk_at "o") (PostC.of C (.d (.bool _)) ?_)
  rw [show ((D.pys xs).any fun y => PyData.eqv y d.py) = q by rw [Bool.eq_iff_iff, pys_any xs hx hd]; exact e.symm]
  exact h

theorem OpF_tupleT {xs : List D} {K : V → St → Prop} (h : K (.d (.tup xs)) st) : OpF c n (.type "tuple") [.d (.tup xs)] st K := fun A G s vs R C r => by
  cases r with | cons r1 r => cases r with | nil => cases r1 with | d r1 => cases r1 with | tup e q =>
  exact call_tuple_tup (isTup_of C e) (PostC.of C (.d (.tup e q)) h)

theorem rep_lists (vs : List Value) : ∀ k : Nat, List.foldl (fun x1 x2 => x1 ++ x2) #[] (List.replicate k vs.toArray) = ((List.replicate k vs).flatten).toArray := by
  have aux : ∀ (k : Nat) (acc : Array Value), List.foldl (fun x1 x2 => x1 ++ x2) acc (List.replicate k vs.toArray) = acc ++ ((List.replicate k vs).flatten).toArray := by
    intro k
    induction k with
    | zero => intro acc; simp
    | succ k ih => intro acc; rw [List.replicate_succ, List.foldl_cons, ih, List.replicate_succ, List.flatten_cons]; simp [Array.append_assoc]
  intro k; rw [aux]; simp
theorem RepDs.rep {vs : List Value} {xs : List D} (r : RepDs G vs xs) : ∀ k : Nat, RepDs G (List.replicate k vs).flatten (List.replicate k xs).flatten
  | 0 => .nil
  | k + 1 => by rw [List.replicate_succ, List.replicate_succ, List.flatten_cons, List.flatten_cons]; exact r.append (RepDs.rep r k)
theorem OpB_mulL {v : V} {xs : List D} {i : Int} {K : V → St → Prop} (il : IsL st v xs) (hne : xs ≠ []) (hl : xs.length ≤ 10) (hi : -10 ≤ i ∧ i ≤ 100) (h : K (.d (.lst (List.replicate i.toNat xs).flatten)) st) : OpB c n .Mult v (.d (.int i)) st K := fun A G s a b R C r1 r2 => by
  cases r2 with | d r2 => cases r2 with | int _ u =>
  refine ex3_3 (il.get C r1) fun l vs m hr1 ho q => ?_; subst hr1
  have hlen := q.length
  have hsz : vs.toArray.size * i.toNat ≤ 2 ^ 24 := by
    rw [List.size_toArray, hlen]
    have : i.toNat ≤ 100 := by walk_at "o"
    calc xs.length * i.toNat ≤ 10 * 100 := Nat.mul_le_mul hl this
      _ ≤ 2 ^ 24 := by decide
  refine wpAny_binaryOp_repeat_ref (T := "list") (U := "int") (by decide) ⟨_, ho, rfl⟩ (fun s' => typeIs_int s' i u) noFill_list_mul PySem.F.fills_int_mul PySem.F.slot_int_rmul repeat_list PySem.F.slot_int_index.lookup
    (call_meets PySem.F.slot_int_rmul (typeIs_int s i u) PySem.F.entry_int_rmul (PySem.F.args_int_rmul_2 _ _) (int___rmul___int_list i u l vs.toArray m)
      ⟨ho, rfl, ⟨_, ho, rfl⟩, call_meets PySem.F.slot_list_mul ⟨_, ho, rfl⟩ PySem.F.entry_list_mul (PySem.F.args_list_mul_2 _ _)
        (AutoListH.list___mul___list_int_3 l vs.toArray m i u (by simp [Builtin.List.listFitsIndex]; walk_at "o") (by walk_at "o") (by simp [Builtin.List.listTooLong, sizeLine]; simp at hsz; walk_at "o"))
        ⟨ho, ?_⟩⟩)
  have hem : vs.toArray.isEmpty = false := by
    cases vs with
    | nil => cases xs with
      | nil => exact absurd rfl hne
      | cons _ _ => cases q
    | cons _ _ => rfl
  rw [hem]
  simp only [Bool.false_eq_true, if_false]
  rw [rep_lists]
  exact PostC.lst C (q.rep _) h

theorem AWT_Chain2 {l r1 r2 : Expr} {o1 o2 : CmpOp} {pos : Pos} {K : Bool → St → Prop}
    (h : AWE c n env ρ st l fun x st1 => AWE c n env ρ st1 r1 fun y st2 => OpC c n o1 x y st2 fun v st3 => ∃ b, v = .d (.bool b) ∧ if b = true then AWE c n env ρ st3 r2 fun z st4 => OpC c n o2 y z st4 fun v st5 => ∃ b, v = .d (.bool b) ∧ K b st5 else K false st3)
    (hm : lastMarks [o1, o2] [r1, r2] = false := by with_unfolding_all rfl) : AWT c n env ρ st (.Compare l [o1, o2] [r1, r2] pos) K := fun A G s R C F =>
  isTrue_chain (AWE.then h R C F fun a s1 G1 st1 x l1 C1 F1 q1 k1 => test_link (AWE.then k1 R C1 F1 fun b s2 G2 st2 y l2 C2 F2 q2 k2 =>
    wpAny_mono (lift C2 F2 fun G3 l3 C3 => k2 A G3 s2 a b R C3 (q1.mono (l2.trans l3).seq) (q2.mono l3.seq)) (fun v s3 hq => e35 hq fun G3 st3 pv l3 C3 F3 q3 ⟨b', e, k3⟩ => by
      subst e
      cases q3 with | d q3 => cases q3 with | bool _ =>
      refine wpAny_truthy_bool ?_
      cases b' with
      | true =>
        simp only [if_true] at k3 ⊢
        exact test_last (AWE.then k3 R C3 F3 fun d s4 G4 st4 z l4 C4 F4 q4 k4 =>
          wpAny_mono (lift C4 F4 fun G5 l5 C5 => k4 A G5 s4 b d R C5 (q2.mono ((l3.trans l4).trans l5).seq) (q4.mono l5.seq)) (fun v s5 hq => e35 hq fun G5 st5 pv l5 C5 F5 q5 ⟨b', e, k5⟩ => by
            subst e
            cases q5 with | d q5 => cases q5 with | bool _ => exact wpAny_truthy_bool ⟨G5, st5, (((l1.trans l2).trans l3).trans l4).trans l5, C5, F5, k5⟩) fun u0 u1 q => q)
      | false =>
        simp only [Bool.false_eq_true, if_false] at k3 ⊢
        exact ⟨G3, st3, (l1.trans l2).trans l3, C3, F3, k3⟩) fun u0 u1 q => q)) hm
end
end Lrn
end
section
open PySem PySem.W PyProof.Rows PySem.Calls
set_option maxRecDepth 100000
set_option linter.unusedVariables false
namespace Lrn
structure Prg (c : Ctx) : Prop where
  ok : CtxOK c
  K : c.K = KF c.w.params
  codes : codesIn c.h0

noncomputable def plainSt (st : Stmt) (names : List Str) : Bool :=
  (paramsOf st).posonlyargs.isEmpty && decide ((paramsOf st).args.map (·.arg) = names) && (paramsOf st).vararg.isNone && (paramsOf st).kwonlyargs.isEmpty && (paramsOf st).kwarg.isNone &&
  !(scopeOf st).isCoroutine && !(scopeOf st).isGenerator && decide ((scopeOf st).kind = .function) && decide names.Nodup &&
  names.all (fun x => (scopeOf st).names.lookup x == some .local || (scopeOf st).names.lookup x == some .cell) && (scopeOf st).names.all (fun p => p.2 != .free)

theorem mem_lk {α : Type} {x : Addr} {v : α} : ∀ {l : List (Addr × α)}, l.lookup x = some v → (x, v) ∈ l
  | [], h => by cases h
  | (y, k') :: r, h => by
    rw [List.lookup_cons] at h
    split at h
    · rename_i q; cases h; rw [beq_iff_eq.mp q]; exact .head _
    · exact .tail _ (mem_lk h)
theorem lookup_val {x : Str} {k : NameKind} : ∀ {l : List (Str × NameKind)}, l.lookup x = some k → ∃ p ∈ l, p.2 = k
  | [], h => by cases h
  | (y, k') :: r, h => by
    rw [List.lookup_cons] at h
    split at h
    · cases h; exact ⟨_, .head _, rfl⟩
    · refine ex1_2 (lookup_val h) fun p hp e => ?_; exact ⟨p, .tail _ hp, e⟩

theorem Prg.fn {c : Ctx} (P : Prg c) {f cd : Addr} {name qual : Str} {st : Stmt} {md : Value} {names : List Str} {t : Tok}
    (h1 : (KF c.w.params).lookup f = some (fnO name qual st (.ref cd) md .none [])) (h2 : (KC.lookup cd) = some (qual, t)) (h4 : plainSt st names = true) :
    FnAt c f names (bodyOf st) (scopeOf st) := by
  have kin : (KF c.w.params).In c.h0 := P.K ▸ P.ok.kin
  simp only [plainSt, Bool.and_eq_true, List.isEmpty_iff, decide_eq_true_eq, Option.isNone_iff_eq_none, Bool.not_eq_true', List.all_eq_true, Bool.or_eq_true, beq_iff_eq, bne_iff_ne, ne_eq] at h4
  obtain ⟨⟨⟨⟨⟨⟨⟨⟨⟨⟨a1, a2⟩, a3⟩, a4⟩, a5⟩, a6⟩, a7⟩, a8⟩, a9⟩, a10⟩, a11⟩ := h4
  refine ⟨⟨_, _, kin _ _ h1, rfl, ⟨a1, a2, a3, a4, a5, rfl, rfl, rfl, rfl, rfl, rfl, a6, a7, a8⟩, codeRec_of_name (P.codes (cd, qual, t) (mem_lk h2))⟩, P.ok.nolimit, a9, a10, fun x hx => ?_⟩
  refine ex1_2 (lookup_val hx) fun p hp e => ?_
  exact a11 p hp e

theorem Prg.isFn {c : Ctx} (P : Prg c) {f : Addr} {name qual : Str} {st : Stmt} {cd md ct : Value} {cl : List (Str × Addr)} (h1 : (KF c.w.params).lookup f = some (fnO name qual st cd md ct cl)) : IsFnAt c f :=
  ⟨_, _, P.ok.kin _ _ (by rw [P.K]; exact h1), rfl⟩

end Lrn
end
section
open PySem PySem.W PyProof.Rows PySem.Calls
set_option maxRecDepth 100000
set_option linter.unusedVariables false
set_option maxHeartbeats 2000000
namespace Lrn
theorem pre_law {args : List WData} (h : PySem.Challenge.rw_no0318_01.row.toRowW.claim.pre args = true) : ∃ ns : List Int, args = [.list (ns.map .int)] ∧ ns.length ≤ 63 := by
  refine ex0_2 (pre_splitW h) fun h1 h2 => ?_
  refine ex2_3 (hasAllW_cons (R := []) (e := .list .int) (es := []) h1) fun d r hr1 h3 h4 => ?_; subst hr1
  obtain rfl := hasAllW_nil h4
  refine ex1_2 (hasW_list h3) fun xs hr1 h5 => ?_; subst hr1
  refine ex1_1 (items_int h5) fun ns hr1 => ?_; subst hr1
  refine ⟨ns, rfl, ?_⟩
  rcases Nat.lt_or_ge 63 ns.length with q | q
  · exact absurd ((holdsW_of_value (w_and (w_not (w_lt w_lit (w_len_list (w_arg rfl)))) w_lit)).symm.trans h2) (by
      rw [List.length_map, decide_eq_true (show ((63 : Nat) : Int) < (ns.length : Int) from Int.ofNat_lt.mpr q)]; exact Bool.false_ne_true)
  · exact q
theorem post_law {args ds : List WData} : PySem.Challenge.rw_no0318_01.row.toRowW.claim.post args (.bool true) ds = true :=
  Bool.and_eq_true_iff.mpr ⟨show WShape.has [] (.bool true) .bool = true from by kernel_rfl, (holdsW_of_value (w_eq_bool (k := true) (l := true) (w_res rfl) w_lit) : _ = (true == true))⟩
theorem raises_law {args : List WData} (cls : ExcName) : PySem.Challenge.rw_no0318_01.row.toRowW.claim.raises args cls = false := rfl

theorem repds_ints {w : World} {h : Heap} {G : Gh} {ns : List Int} : ∀ {vs : List Value}, WellAll w.params h vs (ns.map .int) → RepDs G vs (ns.map .int) := by
  induction ns with
  | nil => intro vs x; rw [show ([] : List Int).map WData.int = [] from rfl] at x; cases x; exact .nil
  | cons i ns ih =>
    intro vs x
    refine ex2_3 (wellAll_cons_inv (d := .int i) (ds := ns.map .int) x) fun v vs' hr1 a b => ?_; subst hr1
    refine ex1_1 (Value.isInt_shape ((encInt PySem.Challenge.pw_no0318_01 w).is a).1) fun t hr1 => ?_; subst hr1
    exact .cons (.int i t) (ih b)

abbrev LawHolds : Prop := ∀ {c : Ctx} {n : Nat} {st : St}, Prg c → ∀ {ns : List Int} {K : V → St → Prop}, ns.length ≤ 63 → 13 ≤ n → (∀ st', K (.d (.bool true)) st') → AWC c n (.ref 451) [.d (.lst (ns.map .int))] st K

theorem walkJ (W : LawHolds) {d : DefRec} {kwd : List (Str × Expr)} (hd : d.name = "law") : WalkO qv looseN (XL qv []) (Hook.says hk2) PySem.Challenge.rw_no0318_01.row.toRowW d kwd fun f vs => PySem.call f vs := by
  intro w s₀ s₁ mg mb G Y a o pm cd doc dV kV ho hd' hcd hdf hmg hgens args vals as hpre hlay hrd hwell hsys
  obtain ⟨⟨kin, codes⟩, hs⟩ := Y
  refine ex1_2 (pre_law hpre) fun ns hr1 hl => ?_; subst hr1
  refine ex2_3 (wellAll_cons_inv hwell) fun v vs hr1 hw hw2 => ?_; subst hr1
  cases hw2
  cases hw with
  | list hget hall =>
  rename_i la ws
  let c : Ctx := ⟨PySem.Challenge.rw_no0318_01.row.toRowW.prog, w, s₁.heap, KF w.params, s₁.gens, s₁.os⟩
  have P : Prg c := ⟨⟨kin, ⟨mg, mb, G.T.g, G.T.b, G.T.builtins⟩, G.T.nolimit, Option.isSome_iff_exists.mp hs⟩, rfl, codes⟩
  have ha : a = 451 := by
    have e : nsIn (KF w.params) mainGlobals "law" = some (some (.ref 451)) := rfl
    have e2 := mg_of kin G.T.g e
    rw [hd, e2] at hmg
    exact (Value.ref.inj (Option.some.inj hmg)).symm
  subst ha
  let G0 : Gh := fun x => (s₁.heap.get? x).map fun ob => (true, ob)
  have C : Conc c G0 (fun u0 => none) s₁ := ⟨fun x ob e => by show (s₁.heap.get? x).map _ = _; rw [show s₁.heap.get? x = some ob from e]; rfl,
    fun x ob e => by
      refine ex1_2 (Option.map_eq_some_iff.mp (show (s₁.heap.get? x).map _ = _ from e)) fun ob' e1 e2 => ?_
      rw [e1, ← e2], nofun, nofun, nofun, rfl, rfl⟩
  have r : Reps G0 [.ref la] [.d (.lst (ns.map .int))] := .cons (.d (.lst (n := 0) (vs := ws) (by show (s₁.heap.get? la).map _ = _; rw [hget]; rfl) (repds_ints hall))) .nil
  have R : Room 13 callerA := ⟨by decide, by decide, rfl⟩
  refine wpAny_call (codeAny_mono (W P (K := fun v u0 => v = .d (.bool true)) (st := fun u0 => none) hl (Nat.le_refl 13) (fun u0 => rfl) callerA G0 s₁ _ R C r) fun res s' q => ?_)
  match res, q with
  | .ok (.ret v), q =>
    refine ex3_4 q fun G' st' pv l C' r' e => ?_
    subst e
    cases r' with
    | d r' =>
    cases r'
    exact ⟨.inl ⟨_, .bool true, [], rfl, raises_law, .bool true, post_law, fun u0 => ⟨List.nodup_nil, nofun⟩⟩, .of_keep fun b ob e => C'.keep0 b ob e, C'.os, .of_eq (C'.gens.trans hgens)⟩
  | .ok .next, q => exact q.elim
  | .ok .brk, q => exact q.elim
  | .ok .cont, q => exact q.elim
  | .error _, q => exact q.elim
end Lrn
end
section
set_option autoImplicit false
/- the plain law: data and functions, no program in sight -/
namespace Lrn
inductive Sg | ne | le | eq | ge
  deriving DecidableEq
structure Lit where
  x : Nat
  s : Sg
  k : Int
  deriving DecidableEq
abbrev Dom := List (Int × Int)
structure Ent where
  x : Nat
  old : Dom
  lit : Lit
  rs : Option (List Lit)

noncomputable def least : Dom → Int
  | [] => 0
  | p :: _ => p.1
noncomputable def greatest : Dom → Int
  | [] => 0
  | [p] => p.2
  | _ :: p :: r => greatest (p :: r)
noncomputable def nextFrom : Dom → Int → Option Int
  | [], _ => none
  | p :: r, v => if v ≤ p.2 then some (max p.1 v) else nextFrom r v
noncomputable def hasV (d : Dom) (v : Int) : Bool := decide (nextFrom d v = some v)
noncomputable def upTo : Dom → Int → Dom
  | [], _ => []
  | p :: r, k => if p.1 ≤ k then (p.1, min p.2 k) :: upTo r k else upTo r k
noncomputable def fromOn : Dom → Int → Dom
  | [], _ => []
  | p :: r, k => if k ≤ p.2 then (max p.1 k, p.2) :: fromOn r k else fromOn r k
noncomputable def without (d : Dom) (v : Int) : Dom := upTo d (v - 1) ++ fromOn d (v + 1)
noncomputable def meet1 : Dom → Int → Dom
  | [], _ => []
  | p :: r, k => (if max p.1 k ≤ min p.2 k then [(max p.1 k, min p.2 k)] else []) ++ (if p.2 < k then meet1 r k else [])
noncomputable def negl (l : Lit) : Lit := match l.s with
  | .le => ⟨l.x, .ge, l.k + 1⟩
  | .ge => ⟨l.x, .le, l.k - 1⟩
  | .eq => ⟨l.x, .ne, l.k⟩
  | .ne => ⟨l.x, .eq, l.k⟩
noncomputable def struck (l : Lit) (d : Dom) : Dom := match l.s with
  | .le => upTo d l.k
  | .ge => fromOn d l.k
  | .eq => meet1 d l.k
  | .ne => without d l.k
noncomputable def saidOf (l : Lit) (d : Dom) : Int := if struck l d = d then 1 else if struck l d = [] then -1 else 0
noncomputable def isMet (l : Lit) (v : Int) : Bool := match l.s with
  | .le => decide (v ≤ l.k)
  | .ge => decide (l.k ≤ v)
  | .eq => decide (v = l.k)
  | .ne => decide (v ≠ l.k)
noncomputable def implies (a b : Lit) : Bool :=
  if a.x ≠ b.x then false else match a.s with
  | .eq => isMet b a.k
  | .ne => decide (a = b)
  | .le => (decide (b.s = .le) && decide (a.k ≤ b.k)) || (decide (b.s = .ne) && decide (a.k < b.k))
  | .ge => (decide (b.s = .ge) && decide (b.k ≤ a.k)) || (decide (b.s = .ne) && decide (b.k < a.k))
noncomputable def rangeI (lo : Int) : Nat → List Int
  | 0 => []
  | n + 1 => lo :: rangeI (lo + 1) n
noncomputable def elders (l : Lit) (before : Dom) (w : Lit) : List Lit :=
  if implies l w then [] else
    (if (l.s = .ge ∨ l.s = .ne) ∧ (w.s = .le ∨ w.s = .eq) then [⟨l.x, .le, greatest before⟩] else []) ++
    (if (l.s = .le ∨ l.s = .ne) ∧ (w.s = .ge ∨ w.s = .eq) then [⟨l.x, .ge, least before⟩] else []) ++
    ((rangeI (least before) (greatest before + 1 - least before).toNat).filter fun v => !hasV before v && isMet l v && !isMet w v).map fun v => ⟨l.x, .ne, v⟩
noncomputable def full : Dom := [(0, 3)]
noncomputable def spotFrom (l : Lit) : List Ent → Nat → Option Nat
  | [], _ => none
  | e :: r, i => if e.x = l.x ∧ saidOf l (struck e.lit e.old) = 1 then some i else spotFrom l r (i + 1)
noncomputable def spotOf (tr : List Ent) (l : Lit) : Option Int := if saidOf l full = 1 then some (-1) else (spotFrom l tr 0).map fun (i : Nat) => (i : Int)
end Lrn
end
section
open PySem PySem.W PyProof.Rows PySem.Calls
set_option maxRecDepth 100000
set_option linter.unusedVariables false
namespace Lrn

structure EnvK (env : Env) (names : List (Str × NameKind)) : Prop where
  kind : ∀ x, env.kindOf x = names.lookup x
  cells : ∀ x, names.lookup x = some .cell → ∃ a, env.cells.lookup x = some a
noncomputable def isVar : Option NameKind → Bool
  | some .local => true
  | some .cell => true
  | _ => false

section
variable {c : Ctx} {n : Nat} {env : Env} {ρ : Loc} {st : St} {names : List (Str × NameKind)}
theorem EnvOf.toK {sc : Scope} (E : EnvOf env sc) : EnvK env sc.names := ⟨fun x => by unfold Env.kindOf; rw [E.scope], E.cells⟩
theorem EnvK.keeps (E : EnvK env names) {x : Str} (h : isVar (names.lookup x) = true) : Keeps env x := by
  cases e : names.lookup x with
  | none => rw [e] at h; cases h
  | some k =>
    cases k with
    | «local» => exact .inl ((E.kind x).trans e)
    | cell => obtain ⟨a, ha⟩ := E.cells x e; exact .inr ⟨a, (E.kind x).trans e, ha⟩
    | _ => rw [e] at h; cases h
theorem AWE_nm {x : Str} {pos : Pos} {p : V} {K : V → St → Prop} (E : EnvK env names) (hk : isVar (names.lookup x) = true) (hv : ρ x = some p) (h : K p st) (hd : (x == ("__debug__" : Str)) = false := by decide) :
    AWE c n env ρ st (.Name x pos) K := by
  rcases E.keeps hk with h1 | ⟨a, h1, h2⟩
  · exact AWE_local h1 hv h hd
  · exact AWE_cell h1 h2 hv h hd
theorem EnvK.g (E : EnvK env names) {x : Str} {k : NameKind} (h : names.lookup x = some k) : env.kindOf x = some k := (E.kind x).trans h

noncomputable def relabelS (inner outer : List (Str × NameKind)) : List (Str × NameKind) := inner.map fun p => if p.2 == .free && outer.lookup p.1 == some .cell then (p.1, .cell) else p
noncomputable def rho0 (inner : List (Str × NameKind)) (ρ : Loc) : Loc := fun x => if inner.lookup x = some .free then ρ x else none

noncomputable def compChk (scope : Scope) (outer : List (Str × NameKind)) : Bool :=
  decide (scope.kind = .function) && scope.names.all (fun p => p.2 != .cell && scope.names.lookup p.1 == some p.2 && (p.2 != .free || outer.lookup p.1 == some .cell))

theorem closeL_some : ∀ (l : List (Str × NameKind)) (acc : List (Str × Addr)), (∀ p ∈ l, p.2 = .free → ∃ a, env.cells.lookup p.1 = some a) →
    ∃ cl, closeL env l acc = some cl ∧ (∀ x a, cl.lookup x = some a → acc.lookup x = some a ∨ ((x, NameKind.free) ∈ l ∧ env.cells.lookup x = some a)) ∧ (∀ x, (x, NameKind.free) ∈ l ∨ (acc.lookup x).isSome → (cl.lookup x).isSome)
  | [], acc, _ => ⟨acc, rfl, fun x a h => .inl h, fun x h => h.elim (fun h => by cases h) id⟩
  | (y, k) :: r, acc, h => by
    unfold closeL
    by_cases hk : (k == NameKind.free) = true
    · rw [if_pos hk]
      have hk' : k = .free := by simpa using hk
      subst hk'
      refine ex1_1 (h _ (.head _) rfl) fun a ha => ?_
      dsimp only at ha
      rw [ha]
      refine ex1_3 (closeL_some r ((y, a) :: acc) fun p hp => h p (.tail _ hp)) fun cl h1 h2 h3 => ?_
      refine ⟨cl, h1, fun x b hb => ?_, fun x hx => h3 x ?_⟩
      · rcases h2 x b hb with q | ⟨q1, q2⟩
        · rw [List.lookup_cons] at q
          split at q
          · rename_i e; cases q; have : x = y := by simpa using e
            subst this; exact .inr ⟨.head _, ha⟩
          · exact .inl q
        · exact .inr ⟨.tail _ q1, q2⟩
      · rcases hx with hx | hx
        · rcases List.mem_cons.mp hx with e | hx
          · cases e; right; simp [List.lookup_cons]
          · exact .inl hx
        · right; rw [List.lookup_cons]; split
          · rfl
          · exact hx
    · rw [if_neg hk]
      refine ex1_3 (closeL_some r acc fun p hp => h p (.tail _ hp)) fun cl h1 h2 h3 => ?_
      refine ⟨cl, h1, fun x b hb => (h2 x b hb).imp id fun q => ⟨.tail _ q.1, q.2⟩, fun x hx => h3 x (hx.imp (fun hx => ?_) id)⟩
      rcases List.mem_cons.mp hx with e | hx
      · cases e; exact absurd rfl hk
      · exact hx

theorem lookup_mem' {x : Str} {k : NameKind} : ∀ {l : List (Str × NameKind)}, l.lookup x = some k → (x, k) ∈ l
  | [], h => by cases h
  | (y, k') :: r, h => by
    rw [List.lookup_cons] at h
    split at h
    · rename_i e; cases h; have : x = y := by simpa using e
      subst this; exact .head _
    · exact .tail _ (lookup_mem' h)

theorem lookup_relabelS {x : Str} (outer : List (Str × NameKind)) : ∀ (l : List (Str × NameKind)), (relabelS l outer).lookup x = (l.lookup x).map fun k => if k == .free && outer.lookup x == some .cell then .cell else k
  | [] => rfl
  | (y, k) :: r => by
    have ih := lookup_relabelS (x := x) outer r
    unfold relabelS at ih ⊢
    rw [List.map_cons]
    by_cases e : x = y
    · subst e
      split <;> simp_all [List.lookup_cons]
    · have e' : (x == y) = false := by simpa using e
      split <;> simp only [List.lookup_cons, e'] <;> exact ih

theorem EnvK.comp {sc : Scope} (E : EnvOf env sc) (scope : Scope) (hc : compChk scope sc.names = true) (hs : sc.kind = .function) :
    ∃ cl, (∀ ρ : Loc, CompSc env scope cl ρ (rho0 scope.names ρ)) ∧ (∀ L, EnvK (cenvOf env scope cl L) (relabelS scope.names sc.names)) ∧ ∀ x a, cl.lookup x = some a → scope.names.lookup x = some .free := by
  simp only [compChk, Bool.and_eq_true, decide_eq_true_eq, List.all_eq_true, bne_iff_ne, beq_iff_eq, Bool.or_eq_true, ne_eq] at hc
  refine ex0_2 hc fun h1 h2 => ?_
  have kE : ∀ x, env.kindOf x = sc.names.lookup x := fun x => by unfold Env.kindOf; rw [E.scope]
  have free : ∀ x, (x, NameKind.free) ∈ scope.names → scope.names.lookup x = some .free ∧ sc.names.lookup x = some .cell := fun x hx => by
    obtain ⟨⟨_, a⟩, b⟩ := h2 _ hx
    exact ⟨a, b.elim (fun q => absurd rfl q) id⟩
  obtain ⟨cl, c1, c2, c3⟩ := closeL_some (env := env) scope.names [] fun p hp hk => by
    obtain ⟨x, k⟩ := p
    dsimp only at hk; subst hk
    exact E.cells x (free x hp).2
  have c2' : ∀ x a, cl.lookup x = some a → (x, NameKind.free) ∈ scope.names ∧ env.cells.lookup x = some a := fun x a h => (c2 x a h).elim (fun q => by cases q) id
  have rel : ∀ x, (relabel scope env).names.lookup x = (relabelS scope.names sc.names).lookup x := fun x => by
    have : (relabel scope env).names = relabelS scope.names sc.names := by
      unfold relabel relabelS
      dsimp only
      refine List.map_congr_left fun p hp => ?_
      rw [E.scope, hs]
      simp only [kE, beq_self_eq_true, Bool.and_true]
    rw [this]
  refine ⟨cl, fun ρ => ⟨c1, h1, fun x a h => ?_, fun x a h => ?_, fun x h => ?_, fun x hx => (h2 x hx).1.1, fun x hx e => by have := (h2 x hx).1.2; rwa [e] at this, fun x h => ?_⟩, fun L => ⟨fun x => rel x, fun x h => ?_⟩, fun x a h => (free x (c2' x a h).1).1⟩
  · refine ex0_2 (c2' x a h) fun q1 q2 => ?_
    exact ⟨q2, (kE x).trans (free x q1).2, by unfold rho0; rw [if_pos (free x q1).1]⟩
  · refine ex0_2 (c2' x a h) fun q1 q2 => ?_
    rw [rel, lookup_relabelS, (free x q1).1, (free x q1).2]; rfl
  · rw [rel, lookup_relabelS] at h
    refine ex1_2 (Option.map_eq_some_iff.mp h) fun k hk e => ?_
    have hm := lookup_mem' hk
    split at e
    · cases e
    · rename_i q
      subst e
      rw [(free x hm).2] at q
      exact q rfl
  · rw [rel, lookup_relabelS] at h
    refine ex1_2 (Option.map_eq_some_iff.mp h) fun k hk e => ?_
    unfold rho0
    rw [if_neg]
    intro hf
    rw [hf] at hk; cases hk
    rw [(free x (lookup_mem' hf)).2] at e
    cases e
  · rw [lookup_relabelS] at h
    refine ex1_2 (Option.map_eq_some_iff.mp h) fun k hk e => ?_
    have hm := lookup_mem' hk
    have hfree : k = .free := by
      split at e
      · rename_i q; simp only [Bool.and_eq_true, beq_iff_eq] at q; exact q.1
      · subst e; exact absurd rfl (h2 _ hm).1.1
    subst hfree
    exact Option.isSome_iff_exists.mp (c3 x (.inl hm))

noncomputable def retK (K : V → St → Prop) : Fl → Loc → St → Prop := fun fl u0 st' => match fl with | .ret v => K v st' | .next => K (.d .none) st' | _ => False
theorem AWC_fn {f : Addr} {pn : List Str} {body : List Stmt} {scope : Scope} {args : List V} {K : V → St → Prop} {L : Nat} (hf : FnAt c f pn body scope) (hl : pn.length = args.length) (hn : L + 1 ≤ n)
    (h : ∀ m env, L ≤ m → EnvOf env scope → EnvK env scope.names → AWX c m env (bindV (pn.zip args) fun u0 => none) st body (retK K)) : AWC c n (.ref f) args st K := by
  refine ex1_1 (show ∃ m, n = m + 1 from ⟨n - 1, by walk_at "o"⟩) fun m hr1 => ?_; subst hr1
  exact AWC_def hf hl fun env E => h m env (by walk_at "o") E E.toK
theorem Prg.glob (P : Prg c) {x : Str} {v : Option Value} (h : nsIn (KF c.w.params) mainGlobals x = some v) : nsIn c.K mainGlobals x = some v := by rw [P.K]; exact h
end
end Lrn
end
section
open PySem PySem.W PyProof.Rows PySem.Calls
set_option maxRecDepth 100000
set_option linter.unusedVariables false
namespace Lrn

noncomputable def pairD (p : Int × Int) : D := .tup [.int p.1, .int p.2]
noncomputable def domD (d : Dom) : D := .tup (d.map pairD)
noncomputable def Sg.str : Sg → Str
  | .le => "<="
  | .ge => ">="
  | .ne => "!="
  | .eq => "="
noncomputable def litD (l : Lit) : D := .tup [.int l.x, .str l.s.str, .int l.k]
noncomputable def rsD : Option (List Lit) → D
  | none => .none
  | some rs => .tup (rs.map litD)
noncomputable def entD (e : Ent) : D := .tup [.int e.x, domD e.old, litD e.lit, rsD e.rs, .int (-1)]

theorem OK_lit (l : Lit) : OK 1 (litD l) := .tup fun x hx => by
  simp only [List.mem_cons, List.not_mem_nil, or_false] at hx
  rcases hx with rfl | rfl | rfl
  · exact .int _
  · exact .str (by cases l.s <;> decide +kernel)
  · exact .int _
theorem OK_dom (d : Dom) : OK 2 (domD d) := .tup fun x hx => by
  refine ex1_2 (List.mem_map.mp hx) fun p u0 hr1 => ?_; subst hr1
  exact .tup fun y hy => by
    simp only [List.mem_cons, List.not_mem_nil, or_false] at hy
    rcases hy with rfl | rfl <;> exact .int _
theorem pairD_inj {p q : Int × Int} (h : pairD p = pairD q) : p = q := by
  unfold pairD at h; injection h with h; injection h with h1 h; injection h with h2; injection h1 with h1; injection h2 with h2
  exact Prod.ext h1 h2
theorem map_inj' {α β : Type} {f : α → β} (hf : ∀ a b, f a = f b → a = b) {l l' : List α} (h : l.map f = l'.map f) : l = l' := (List.map_inj_right fun a b e => hf a b e).mp h
theorem domD_inj {d e : Dom} (h : domD d = domD e) : d = e := by
  unfold domD at h; injection h with h
  exact map_inj' (fun u0 u1 => pairD_inj) h
theorem Sg.str_inj {a b : Sg} (h : a.str = b.str) : a = b := by
  revert h; cases a <;> cases b <;> decide
theorem litD_inj {a b : Lit} (h : litD a = litD b) : a = b := by
  unfold litD at h; injection h with h; injection h with h1 h; injection h with h2 h; injection h with h3
  injection h1 with h1; injection h2 with h2; injection h3 with h3
  obtain ⟨x, s, k⟩ := a; obtain ⟨y, t, j⟩ := b
  dsimp only at h1 h2 h3
  have := Sg.str_inj h2
  subst this; subst h3
  have : x = y := by walk_at "o"
  subst this; rfl

theorem if_d {r : Prop} [Decidable r] {p q : Prop} (hp : r → p) (hq : ¬ r → q) : if decide r = true then p else q := by
  by_cases h : r
  · rw [if_pos (decide_eq_true h)]; exact hp h
  · rw [if_neg (by rw [decide_eq_false h]; decide)]; exact hq h
section
variable {c : Ctx} {n : Nat} {env : Env} {ρ : Loc} {st : St} {names : List (Str × NameKind)}
noncomputable def Sub (st st' : St) : Prop := ∀ a ob, st a = some ob → st' a = some ob
theorem Sub.set {a : Addr} {ob : Ob} (h : st a = none) : Sub st (st.set a ob) := fun b o e => by
  rw [St.set_other]; exact e
  rintro rfl; rw [h] at e; cases e
theorem Sub.set2 {st1 : St} {a : Addr} {ob : Ob} (h : Sub st st1) (hn : st a = none) : Sub st (st1.set a ob) := fun b o e => by
  rw [St.set_other]; exact h b o e
  rintro rfl; rw [hn] at e; cases e
theorem St.set_set (st : St) (a : Addr) (o1 o2 : Ob) : (st.set a o1).set a o2 = st.set a o2 := by
  funext b; unfold St.set; by_cases h : b = a
  · rw [if_pos h, if_pos h]
  · rw [if_neg h, if_neg h, if_neg h]
theorem AWC.fin {f : Value} {args : List V} {x : V} {K : V → St → Prop} (p : AWC c n f args st fun v st' => v = x ∧ Sub st st') (h : K x st) : AWC c n f args st K :=
  p.conseq fun v st' q => ⟨st, q.2, q.1 ▸ h⟩

open Classical in
theorem OpC_eqb {k m : Nat} {a b : D} {q : Bool} {K : V → St → Prop} (ha : OK k a) (hb : OK m b) (hk : k ≤ 60) (hm : m ≤ 60) (e : q = true ↔ a = b) (h : K (.d (.bool q)) st) : OpC c n .Eq (.d a) (.d b) st K := OpC_Eq ha hb hk hm (by
  have : decide (a = b) = q := by rw [Bool.eq_iff_iff, decide_eq_true_eq]; exact e.symm
  rw [this]; exact h)
open Classical in
theorem OpC_neb {k m : Nat} {a b : D} {q : Bool} {K : V → St → Prop} (ha : OK k a) (hb : OK m b) (hk : k ≤ 60) (hm : m ≤ 60) (e : q = true ↔ a ≠ b) (h : K (.d (.bool q)) st) : OpC c n .NotEq (.d a) (.d b) st K := OpC_Ne ha hb hk hm (by
  have : decide (a ≠ b) = q := by rw [Bool.eq_iff_iff, decide_eq_true_eq]; exact e.symm
  rw [this]; exact h)
theorem OpC_sle {s : Sg} {K : V → St → Prop} (h : K (.d (.bool (decide (s = .le)))) st) : OpC c n .Eq (.d (.str s.str)) (.d (.str "<=")) st K := OpC_eqs (by
  have : (s.str == ("<=" : Str)) = decide (s = .le) := by cases s <;> decide
  rw [this]; exact h)
theorem OpC_sge {s : Sg} {K : V → St → Prop} (h : K (.d (.bool (decide (s = .ge)))) st) : OpC c n .Eq (.d (.str s.str)) (.d (.str ">=")) st K := OpC_eqs (by
  have : (s.str == (">=" : Str)) = decide (s = .ge) := by cases s <;> decide
  rw [this]; exact h)
theorem OpC_sne {s : Sg} {K : V → St → Prop} (h : K (.d (.bool (decide (s = .ne)))) st) : OpC c n .Eq (.d (.str s.str)) (.d (.str "!=")) st K := OpC_eqs (by
  have : (s.str == ("!=" : Str)) = decide (s = .ne) := by cases s <;> decide
  rw [this]; exact h)
theorem OpC_seq {s : Sg} {K : V → St → Prop} (h : K (.d (.bool (decide (s = .eq)))) st) : OpC c n .Eq (.d (.str s.str)) (.d (.str "=")) st K := OpC_eqs (by
  have : (s.str == ("=" : Str)) = decide (s = .eq) := by cases s <;> decide
  rw [this]; exact h)

theorem AWA_T2 {x y : Str} {p q : Pos} {k : Nat} {pos : Pos} {a b : D} {K : Loc → St → Prop} (E : EnvK env names) (hx : isVar (names.lookup x) = true) (hy : isVar (names.lookup y) = true)
    (h : K (upd (upd ρ x (.d a)) y (.d b)) st) : AWA c n env ρ st (.Tuple [.Name x p, .Name y q] k pos) (.d (.tup [a, b])) K :=
  AWA_Tuple (AWAs_cons (AWA_Name (E.keeps hx) (AWAs_cons (AWA_Name (E.keeps hy) h)))) rfl (fun t ht r => by
    simp only [List.mem_cons, List.not_mem_nil, or_false] at ht; rcases ht with rfl | rfl <;> rfl) rfl
theorem AWA_T3 {x y z : Str} {p q r : Pos} {k : Nat} {pos : Pos} {a b d : D} {K : Loc → St → Prop} (E : EnvK env names) (hx : isVar (names.lookup x) = true) (hy : isVar (names.lookup y) = true) (hz : isVar (names.lookup z) = true)
    (h : K (upd (upd (upd ρ x (.d a)) y (.d b)) z (.d d)) st) : AWA c n env ρ st (.Tuple [.Name x p, .Name y q, .Name z r] k pos) (.d (.tup [a, b, d])) K :=
  AWA_Tuple (AWAs_cons (AWA_Name (E.keeps hx) (AWAs_cons (AWA_Name (E.keeps hy) (AWAs_cons (AWA_Name (E.keeps hz) h)))))) rfl (fun t ht r => by
    simp only [List.mem_cons, List.not_mem_nil, or_false] at ht; rcases ht with rfl | rfl | rfl <;> rfl) rfl

noncomputable def Agree (sn : List (Str × NameKind)) (ρ ρ' : Loc) : Prop := ∀ x, sn.lookup x = some .free → ρ' x = ρ x
noncomputable def notFree : Option NameKind → Bool
  | some .free => false
  | _ => true
theorem Agree.upd {sn : List (Str × NameKind)} {ρ ρ' : Loc} {x : Str} {v : V} (A : Agree sn ρ ρ') (h : notFree (sn.lookup x) = true) : Agree sn ρ (upd ρ' x v) := fun y hy => by
  unfold Lrn.upd; rw [if_neg]; exact A y hy
  rintro rfl; rw [hy] at h; cases h
theorem Agree.upd2 {sn : List (Str × NameKind)} {ρ ρ' : Loc} {x y : Str} {v w : V} (A : Agree sn ρ ρ') (h : notFree (sn.lookup x) = true) (h' : notFree (sn.lookup y) = true) : Agree sn ρ (Lrn.upd (Lrn.upd ρ' x v) y w) := (A.upd h).upd h'

theorem AWA.mono {t : Expr} {v : V} {K K' : Loc → St → Prop} (p : AWA c n env ρ st t v K) (h : ∀ ρ st, K ρ st → K' ρ st) : AWA c n env ρ st t v K' :=
  fun A G s a R C F r => wpAny_mono (p A G s a R C F r) (fun u0 u1 hq => e34 hq fun G' st' r1 a b d k => ⟨G', st', r1, a, b, d, h _ _ k⟩) fun u0 u1 q => q

theorem AWG_all1 {α : Type} {enc : α → D} {p : α → Bool} {g : α → D} {elt t iter q : Expr} {gens : List Comprehension} {scope : Scope} {pos : Pos} {d : Nat} {src : Option Addr} {ok : Loc → Prop} {K : Loc → St → List D → Prop}
    (hg : gens[d]? = some ⟨t, iter, [q], 0⟩) (hl : gens[d + 1]? = none) :
    ∀ (xs : List α) (ds : List D) (ρ : Loc), ds.length + xs.length ≤ 999 → ok ρ →
    (∀ x ∈ xs, ∀ ρ, ok ρ → AWA c n env ρ st t (.d (enc x)) fun ρ1 st1 => AWT c n env ρ1 st1 q fun b st2 => b = p x ∧ if b = true then AWE c n env ρ1 st2 elt fun v st3 => v = .d (g x) ∧ st3 = st ∧ ok ρ1 else st2 = st ∧ ok ρ1) →
    (∀ ρe, ok ρe → K ρe st (ds ++ (xs.filter p).map g)) → AWG c n env ρ st elt gens scope pos d (xs.map enc) src ds K
  | [], ds, ρ, _, ho, _, h => AWG_nil hg (by simpa using h ρ ho)
  | x :: xs, ds, ρ, hn, ho, ht, h => by
    refine AWG_cons hg hl (.inr ⟨q, rfl⟩) (by simp only [List.length_cons] at hn; walk_at "o") ((ht x (.head _) ρ ho).mono fun ρ1 st1 k1 => ⟨fun e => by simp at e, fun q' e => ?_⟩)
    simp only [List.cons.injEq, and_true] at e; subst e
    refine k1.mono fun b st2 ⟨hb, k2⟩ => ?_
    cases b with
    | true =>
      rw [if_pos rfl] at k2 ⊢
      refine k2.mono fun v st3 ⟨hv, hs, ho'⟩ => ⟨g x, hv, fun a u0 => by rw [hs], ?_⟩
      rw [hs]
      refine AWG_all1 hg hl xs _ ρ1 (by simp only [List.length_append, List.length_cons, List.length_nil] at hn ⊢; walk_at "o") ho' (fun y hy => ht y (.tail _ hy)) fun ρe he => ?_
      have := h ρe he
      rw [List.filter_cons_of_pos hb.symm, List.map_cons] at this
      rw [List.append_assoc]; exact this
    | false =>
      rw [if_neg (by decide)] at k2 ⊢
      refine ex0_2 k2 fun hs ho' => ?_
      rw [hs]
      refine ⟨fun a u0 => rfl, AWG_all1 hg hl xs _ ρ1 (by simp only [List.length_cons] at hn; walk_at "o") ho' (fun y hy => ht y (.tail _ hy)) fun ρe he => ?_⟩
      have := h ρe he
      rwa [List.filter_cons_of_neg (by rw [← hb]; decide)] at this
theorem AWG_all0 {α : Type} {enc : α → D} {g : α → D} {elt t iter : Expr} {gens : List Comprehension} {scope : Scope} {pos : Pos} {d : Nat} {src : Option Addr} {ok : Loc → Prop} {K : Loc → St → List D → Prop}
    (hg : gens[d]? = some ⟨t, iter, [], 0⟩) (hl : gens[d + 1]? = none) :
    ∀ (xs : List α) (ds : List D) (ρ : Loc), ds.length + xs.length ≤ 999 → ok ρ →
    (∀ x ∈ xs, ∀ ρ, ok ρ → AWA c n env ρ st t (.d (enc x)) fun ρ1 st1 => AWE c n env ρ1 st1 elt fun v st3 => v = .d (g x) ∧ st3 = st ∧ ok ρ1) →
    (∀ ρe, ok ρe → K ρe st (ds ++ xs.map g)) → AWG c n env ρ st elt gens scope pos d (xs.map enc) src ds K
  | [], ds, ρ, _, ho, _, h => AWG_nil hg (by simpa using h ρ ho)
  | x :: xs, ds, ρ, hn, ho, ht, h => by
    refine AWG_cons hg hl (.inl rfl) (by simp only [List.length_cons] at hn; walk_at "o") ((ht x (.head _) ρ ho).mono fun ρ1 st1 k1 => ⟨fun u0 => ?_, fun q' e => by simp at e⟩)
    refine k1.mono fun v st3 ⟨hv, hs, ho'⟩ => ⟨g x, hv, fun a u0 => by rw [hs], ?_⟩
    rw [hs]
    refine AWG_all0 hg hl xs _ ρ1 (by simp only [List.length_append, List.length_cons, List.length_nil] at hn ⊢; walk_at "o") ho' (fun y hy => ht y (.tail _ hy)) fun ρe he => ?_
    have := h ρe he
    rw [List.map_cons] at this
    rw [List.append_assoc]; exact this

noncomputable def CompT (c : Ctx) (n : Nat) (sc inner : List (Str × NameKind)) (ρ : Loc) (st : St) (t q elt : Expr) (x : D) (p : Bool) (g : D) : Prop :=
  ∀ env' ρ', EnvK env' (relabelS inner sc) → Agree inner ρ ρ' → AWA c n env' ρ' st t (.d x) fun ρ1 st1 => AWT c n env' ρ1 st1 q fun b st2 => b = p ∧ if b = true then AWE c n env' ρ1 st2 elt fun v st3 => v = .d g ∧ st3 = st ∧ Agree inner ρ ρ1 else st2 = st ∧ Agree inner ρ ρ1
noncomputable def CompE (c : Ctx) (n : Nat) (sc inner : List (Str × NameKind)) (ρ : Loc) (st : St) (t elt : Expr) (x : D) (g : D) : Prop :=
  ∀ env' ρ', EnvK env' (relabelS inner sc) → Agree inner ρ ρ' → AWA c n env' ρ' st t (.d x) fun ρ1 st1 => AWE c n env' ρ1 st1 elt fun v st3 => v = .d g ∧ st3 = st ∧ Agree inner ρ ρ1
theorem rho0_agree {sn : List (Str × NameKind)} : Agree sn ρ (rho0 sn ρ) := fun x h => by unfold rho0; rw [if_pos h]

theorem AWE_comp1 {sc : Scope} {elt t iter q : Expr} {scope : Scope} {pos : Pos} {K : V → St → Prop} (E : EnvOf env sc) (hc : compChk scope sc.names = true) (hs : sc.kind = .function)
    (h : AWE c n env ρ st iter fun v st1 => OpI c n v st1 fun ys src => ∃ (α : Type) (xs : List α) (enc : α → D) (p : α → Bool) (g : α → D), ys = xs.map enc ∧ xs.length ≤ 999 ∧
      (∀ x ∈ xs, CompT c n sc.names scope.names ρ st1 t q elt (enc x) (p x) (g x)) ∧ K (.d (.lst ((xs.filter p).map g))) st1)
    (hf : ∀ x, foldedSetIterable iter env x = pure x := by intro _; rfl) :
    AWE c n env ρ st (.ListComp elt [⟨t, iter, [q], 0⟩] scope pos) K := by
  refine ex1_3 (EnvK.comp E scope hc hs) fun cl h1 h2 h3 => ?_
  refine AWE_ListComp (h1 ρ) (h.mono fun v st1 k1 A G s a R C r Q hQ => k1 A G s a R C r Q fun h' xs src hk => hQ h' xs src ?_) hf
  intro L
  obtain ⟨α, xs', enc, p, g, rfl, hlen, ht, k⟩ := hk
  refine AWG_all1 (ok := Agree scope.names ρ) rfl rfl xs' [] _ (by simpa using hlen) rho0_agree (fun x hx ρ' ha => ht x hx _ ρ' (h2 L) ha) fun ρe he => ⟨fun x a hx => he x (h3 x a hx), by simpa using k⟩
theorem AWE_comp0 {sc : Scope} {elt t iter : Expr} {scope : Scope} {pos : Pos} {K : V → St → Prop} (E : EnvOf env sc) (hc : compChk scope sc.names = true) (hs : sc.kind = .function)
    (h : AWE c n env ρ st iter fun v st1 => OpI c n v st1 fun ys src => ∃ (α : Type) (xs : List α) (enc : α → D) (g : α → D), ys = xs.map enc ∧ xs.length ≤ 999 ∧
      (∀ x ∈ xs, CompE c n sc.names scope.names ρ st1 t elt (enc x) (g x)) ∧ K (.d (.lst (xs.map g))) st1)
    (hf : ∀ x, foldedSetIterable iter env x = pure x := by intro _; rfl) :
    AWE c n env ρ st (.ListComp elt [⟨t, iter, [], 0⟩] scope pos) K := by
  refine ex1_3 (EnvK.comp E scope hc hs) fun cl h1 h2 h3 => ?_
  refine AWE_ListComp (h1 ρ) (h.mono fun v st1 k1 A G s a R C r Q hQ => k1 A G s a R C r Q fun h' xs src hk => hQ h' xs src ?_) hf
  intro L
  obtain ⟨α, xs', enc, g, rfl, hlen, ht, k⟩ := hk
  refine AWG_all0 (ok := Agree scope.names ρ) rfl rfl xs' [] _ (by simpa using hlen) rho0_agree (fun x hx ρ' ha => ht x hx _ ρ' (h2 L) ha) fun ρe he => ⟨fun x a hx => he x (h3 x a hx), by simpa using k⟩

noncomputable def dataOf : List V → Option (List D)
  | [] => some []
  | .d x :: r => (dataOf r).map (x :: ·)
  | .o _ :: _ => none
theorem areD_of : ∀ {ps : List V} {xs : List D}, dataOf ps = some xs → AreD ps xs
  | [], xs, h => by cases h; exact .nil
  | .d x :: r, xs, h => by
    refine ex1_2 (Option.map_eq_some_iff.mp h) fun ys e hr1 => ?_; subst hr1
    exact .cons (areD_of e)
  | .o _ :: _, _, h => by cases h
theorem AWE_Tup {es : List Expr} {k : Nat} {pos : Pos} {K : V → St → Prop} (h : AWL c n env ρ st es fun ps st1 => ∃ xs, dataOf ps = some xs ∧ xs.length ≤ 1000 ∧ K (.d (.tup xs)) st1) : AWE c n env ρ st (.Tuple es k pos) K :=
  AWE_Tuple fun A G s pos R C F => wpAny_mono (h A G s pos R C F) (fun vs s1 hq => e35 hq fun G1 st1 ps l1 C1 F1 r1 ⟨xs, hd, k1⟩ => ⟨G1, st1, ps, l1, C1, F1, r1, xs, areD_of hd, k1⟩) fun u0 u1 q => q
theorem AWE_Lst {es : List Expr} {pos : Pos} {K : V → St → Prop} (h : AWL c n env ρ st es fun ps st1 => ∃ xs, dataOf ps = some xs ∧ xs.length ≤ 1000 ∧ K (.d (.lst xs)) st1) : AWE c n env ρ st (.List es pos) K :=
  AWE_List fun A G s pos R C F => wpAny_mono (h A G s pos R C F) (fun vs s1 hq => e35 hq fun G1 st1 ps l1 C1 F1 r1 ⟨xs, hd, k1⟩ => ⟨G1, st1, ps, l1, C1, F1, r1, xs, areD_of hd, k1⟩) fun u0 u1 q => q
theorem AWE_LstM {es : List Expr} {pos : Pos} {K : V → St → Prop} (h : AWL c n env ρ st es fun ps st1 => ∃ xs, dataOf ps = some xs ∧ xs.length ≤ 1000 ∧ ∀ a, st1 a = none → K (.o a) (st1.set a (.lst xs))) : AWE c n env ρ st (.List es pos) K :=
  AWE_ListM fun A G s pos R C F => wpAny_mono (h A G s pos R C F) (fun vs s1 hq => e35 hq fun G1 st1 ps l1 C1 F1 r1 ⟨xs, hd, k1⟩ => ⟨G1, st1, ps, l1, C1, F1, r1, xs, areD_of hd, k1⟩) fun u0 u1 q => q

noncomputable def Has (l : List (Str × V)) (ρ : Loc) : Prop := ∀ x p, l.lookup x = some p → ρ x = some p
theorem Has.get {l : List (Str × V)} {ρ : Loc} {x : Str} {p : V} (H : Has l ρ) (h : l.lookup x = some p) : ρ x = some p := H x p h
theorem Has.upd {l : List (Str × V)} {ρ : Loc} {x : Str} {v : V} (H : Has l ρ) (h : l.lookup x = none) : Has l (Lrn.upd ρ x v) := fun y p hy => by
  unfold Lrn.upd; rw [if_neg]; exact H y p hy
  rintro rfl; rw [h] at hy; cases hy
theorem Has.nil {ρ : Loc} : Has [] ρ := fun u0 u1 h => by cases h
theorem Has.mk2 {l : List (Str × V)} {ρ : Loc} {x : Str} {v : V} (h : ρ x = some v) (H : Has l ρ) : Has ((x, v) :: l) ρ := fun y p hy => by
  rw [List.lookup_cons] at hy
  split at hy
  · rename_i e; cases hy; rw [show y = x by simpa using e]; exact h
  · exact H y p hy
theorem nm_ne {ρ : Loc} {x y : Str} {v p : V} (h : y ≠ x) (h2 : ρ y = some p) : upd ρ x v y = some p := by unfold upd; rw [if_neg h]; exact h2

noncomputable abbrev cutK (J : Loc → St → Prop) (K : Fl → Loc → St → Prop) : Fl → Loc → St → Prop := fun f ρ1 st1 => match f with | .next => J ρ1 st1 | f => K f ρ1 st1
theorem AWX_cut {b : Stmt} {bs : List Stmt} {K : Fl → Loc → St → Prop} (J : Loc → St → Prop) (h1 : ∀ K' : Fl → Loc → St → Prop, (∀ {f ρ1 st1}, cutK J K f ρ1 st1 → K' f ρ1 st1) → AWS c n env ρ st b K') (h2 : ∀ ρ1 st1, J ρ1 st1 → AWX c n env ρ1 st1 bs K) : AWX c n env ρ st (b :: bs) K :=
  AWX_cons fun A G s R C F => wpAny_mono (h1 (cutK J K) id A G s R C F) (fun f s1 hq => e45 hq fun G1 st1 ρ1 pf l1 C1 F1 rf k1 => ⟨G1, st1, ρ1, pf, l1, C1, F1, rf, by
    cases pf with
    | next => exact h2 ρ1 st1 k1
    | _ => exact k1⟩) fun u0 u1 q => q

theorem AWF_ind {α : Type} {enc : α → D} {t : Expr} {b o : List Stmt} {src : Option Addr} {K : Fl → Loc → St → Prop} (I : List α → Loc → St → Prop)
    (hnil : ∀ ρ st, I [] ρ st → AWX c n env ρ st o K)
    (hcons : ∀ x xs ρ st, I (x :: xs) ρ st → ∀ K' : Fl → Loc → St → Prop, (∀ {f ρ2 st2}, turnK (fun ρ2 st2 => (∀ a, src = some a → st2 a = st a) ∧ I xs ρ2 st2) K f ρ2 st2 → K' f ρ2 st2) → AWA c n env ρ st t (.d (enc x)) fun ρ1 st1 => AWX c n env ρ1 st1 b K') : ∀ (xs : List α) (ρ : Loc) (st : St), I xs ρ st → AWF c n env ρ st t b o (xs.map enc) src K
  | [], ρ, st, h => AWF_nil (hnil ρ st h)
  | x :: xs, ρ, st, h => AWF_cons ((hcons x xs ρ st h _ id).mono fun ρ1 st1 k1 => k1.mono fun f ρ2 st2 k2 => by
      cases f with
      | next => exact ⟨k2.1, AWF_ind I hnil hcons xs ρ2 st2 k2.2⟩
      | cont => exact ⟨k2.1, AWF_ind I hnil hcons xs ρ2 st2 k2.2⟩
      | brk => exact k2
      | ret v => exact k2)
theorem AWW_ind {t : Expr} {b o : List Stmt} {K : Fl → Loc → St → Prop} (I : Nat → Loc → St → Prop)
    (step : ∀ k ρ st, I k ρ st → ∀ K' : Fl → Loc → St → Prop, (∀ {f ρ2 st2}, turnK (fun ρ2 st2 => ∃ j, j < k ∧ I j ρ2 st2) K f ρ2 st2 → K' f ρ2 st2) → AWT c n env ρ st t fun q st1 => if q = true then AWX c n env ρ st1 b K' else AWX c n env ρ st1 o K) :
    ∀ (k : Nat) (ρ : Loc) (st : St), I k ρ st → AWW c n env ρ st t b o K := fun k => by
  induction k using Nat.strongRecOn with
  | ind k ih =>
    intro ρ st h
    refine AWW_turn ((step k ρ st h _ id).mono fun q st1 k1 => ?_)
    cases q with
    | true =>
      rw [if_pos rfl] at k1 ⊢
      refine k1.mono fun f ρ2 st2 k2 => ?_
      cases f with
      | next => obtain ⟨j, hj, hi⟩ := k2; exact ih j hj ρ2 st2 hi
      | cont => obtain ⟨j, hj, hi⟩ := k2; exact ih j hj ρ2 st2 hi
      | brk => exact k2
      | ret v => exact k2
    | false =>
      rw [if_neg (by decide)] at k1 ⊢
      exact k1
theorem EnvOf.inter {sc : Scope} (E : EnvOf env sc) (h : sc.kind = .function) : interactive env = false := by
  unfold interactive; rw [E.scope, h]; rfl
noncomputable def envAt (sc : Scope) : Env := { scope := sc, locals := 0, globals := 0, cells := [] }
theorem sw_congr {env env' : Env} (h : env.scope = env'.scope) (ts : List Expr) (v : Expr) : swappedStores ts v env = swappedStores ts v env' := by
  unfold swappedStores Env.kindOf Env.blockKind; rw [h]
theorem AWS_Swap2 {x y : Str} {ts es : List Expr} {k k' : Nat} {tpos epos : Pos} {pos : Pos} {K : Fl → Loc → St → Prop} {sc : Scope} (E0 : EnvOf env sc) (E : EnvK env names) (hx : isVar (names.lookup x) = true) (hy : isVar (names.lookup y) = true)
    (h : AWL c n env ρ st es fun ps st1 => ∃ a b, ps = [a, b] ∧ K .next (upd (upd ρ y b) x a) st1)
    (hw : swappedStores [.Tuple ts k tpos] (.Tuple es k' epos) (envAt sc) = pure (some [x, y])) (hs : swapsWithSole [.Tuple ts k tpos] (.Tuple es k' epos) pos.line env = pure false := by rfl) : AWS c n env ρ st (.Assign [.Tuple ts k tpos] (.Tuple es k' epos) pos) K :=
  AWS_AssignSwap (names := [x, y]) (fun z hz => by simp only [List.mem_cons, List.not_mem_nil, or_false] at hz; rcases hz with rfl | rfl; exact E.keeps hx; exact E.keeps hy)
    (fun A G s p R C F => wpAny_mono (h A G s p R C F) (fun vs s1 hq => e35 hq fun G1 st1 ps l1 C1 F1 r1 ⟨a, b, e, k1⟩ => ⟨G1, st1, ps, l1, C1, F1, r1, by rw [e]; rfl, by rw [e]; exact k1⟩) fun u0 u1 q => q) (Nat.le_of_ble_eq_true rfl) hs ((sw_congr (env' := envAt sc) E0.scope _ _).trans hw)
theorem AWS_Swap3 {x y z : Str} {ts es : List Expr} {k k' : Nat} {tpos epos : Pos} {pos : Pos} {K : Fl → Loc → St → Prop} {sc : Scope} (E0 : EnvOf env sc) (E : EnvK env names) (hx : isVar (names.lookup x) = true) (hy : isVar (names.lookup y) = true) (hz : isVar (names.lookup z) = true)
    (h : AWL c n env ρ st es fun ps st1 => ∃ a b d, ps = [a, b, d] ∧ K .next (upd (upd (upd ρ z d) y b) x a) st1)
    (hw : swappedStores [.Tuple ts k tpos] (.Tuple es k' epos) (envAt sc) = pure (some [x, y, z])) (hs : swapsWithSole [.Tuple ts k tpos] (.Tuple es k' epos) pos.line env = pure false := by rfl) : AWS c n env ρ st (.Assign [.Tuple ts k tpos] (.Tuple es k' epos) pos) K :=
  AWS_AssignSwap (names := [x, y, z]) (fun w hw => by simp only [List.mem_cons, List.not_mem_nil, or_false] at hw; rcases hw with rfl | rfl | rfl; exact E.keeps hx; exact E.keeps hy; exact E.keeps hz)
    (fun A G s p R C F => wpAny_mono (h A G s p R C F) (fun vs s1 hq => e35 hq fun G1 st1 ps l1 C1 F1 r1 ⟨a, b, d, e, k1⟩ => ⟨G1, st1, ps, l1, C1, F1, r1, by rw [e]; rfl, by rw [e]; exact k1⟩) fun u0 u1 q => q) (Nat.le_of_ble_eq_true rfl) hs ((sw_congr (env' := envAt sc) E0.scope _ _).trans hw)
theorem AWE_App {o e : Expr} {apos pos : Pos} {pl : Sem Bool} {K : V → St → Prop}
    (h : AWE c n env ρ st o fun v st1 => ∃ a, v = .o a ∧ (∃ xs, st1 a = some (.lst xs)) ∧ AWE c n env ρ st1 e fun w st2 => ∃ xs x, w = .d x ∧ st2 a = some (.lst xs) ∧ xs.length ≤ 1000 ∧ K (.d .none) (st2.set a (.lst (xs ++ [x]))))
    (hs' : starEach [e] env = [(false, eval e env)] := by rfl)
    (he : eval (.Call (.Attribute o "append" apos) [e] [] pos) env = (do
      let ov ← eval o env
      standAt apos.atName
      let (f, first) ← holding [ov] (getMethod ov "append" pl)
      callWith pos f first (backTo pos (starEach [e] env)) []) := by rfl) : AWE c n env ρ st (.Call (.Attribute o "append" apos) [e] [] pos) K :=
  AWE_ListMeth PySem.slot_list_append PySem.type_list_append (h.mono fun v st1 ⟨a, hv, ⟨xs, hs⟩, k⟩ => ⟨xs, hv ▸ .obj hs, AWL_cons (k.mono fun w st2 ⟨xs', x, hw, hs2, hl, k2⟩ => AWL_nil (by subst hw; subst hv; exact OpF_append hs2 hl k2)) hs'⟩) he hs' (fun u0 => rfl)
theorem seqIx {k m : Nat} (h : k < m) : seqIndex? (k : Int) m = some k := by
  unfold seqIndex?
  rw [if_neg (Int.not_lt.mpr (Int.natCast_nonneg k))]
  exact if_pos (by rw [Bool.and_eq_true]; exact ⟨decide_eq_true (Int.natCast_nonneg k), decide_eq_true (Int.ofNat_lt.mpr h)⟩)
theorem OpG_tupN {xs : List D} {k : Nat} {x : D} {K : V → St → Prop} (hx : xs[k]? = some x) (hk : k < 1000000) (h : K (.d x) st) : OpG c n (.d (.tup xs)) (.d (.int (k : Int))) st K :=
  OpG_tup (seqIx (List.getElem?_eq_some_iff.mp hx).1) hx (by walk_at "o") h
theorem OpG_lstN {xs : List D} {k : Nat} {x : D} {K : V → St → Prop} (hx : xs[k]? = some x) (hk : k < 1000000) (h : K (.d x) st) : OpG c n (.d (.lst xs)) (.d (.int (k : Int))) st K :=
  OpG_lst (seqIx (List.getElem?_eq_some_iff.mp hx).1) hx (by walk_at "o") h
theorem OpG_mlstN {l : Addr} {xs : List D} {k : Nat} {x : D} {K : V → St → Prop} (hs : st l = some (.lst xs)) (hx : xs[k]? = some x) (hk : k < 1000000) (h : K (.d x) st) : OpG c n (.o l) (.d (.int (k : Int))) st K :=
  OpG_mlst hs (seqIx (List.getElem?_eq_some_iff.mp hx).1) hx (by walk_at "o") h
end
end Lrn
end
section
open PySem PySem.W PyProof.Rows PySem.Calls
set_option maxRecDepth 100000
set_option linter.unusedVariables false
namespace Lrn

section
variable (c : Ctx) (n : Nat) (env : Env) (ρ : Loc) (st : St)
structure EV (e : Expr) (x : V) : Prop where
  run : AWE c n env ρ st e fun v st' => v = x ∧ st' = st
structure EVT (e : Expr) (b : Bool) : Prop where
  run : AWT c n env ρ st e fun v st' => v = b ∧ st' = st
structure EVL (es : List Expr) (xs : List V) : Prop where
  run : AWL c n env ρ st es fun v st' => v = xs ∧ st' = st
structure CV (f : Value) (ps : List V) (x : V) : Prop where
  run : AWC c n f ps st fun v st' => v = x ∧ st' = st
structure FV (f : Value) (ps : List V) (x : V) : Prop where
  run : OpF c n f ps st fun v st' => v = x ∧ st' = st
structure BV (op : Operator) (x y z : V) : Prop where
  run : OpB c n op x y st fun v st' => v = z ∧ st' = st
structure CmpV (op : CmpOp) (x y : V) (b : Bool) : Prop where
  run : OpC c n op x y st fun v st' => v = .d (.bool b) ∧ st' = st
structure GV (x y z : V) : Prop where
  run : OpG c n x y st fun v st' => v = z ∧ st' = st
structure UV (op : UnaryOp) (x z : V) : Prop where
  run : OpU c n op x st fun v st' => v = z ∧ st' = st
end

section
variable {c : Ctx} {n : Nat} {env : Env} {ρ : Loc} {st : St} {names : List (Str × NameKind)}
theorem typeIn_fn {K : Frag} {f : Addr} {name qual : Str} {s0 : Stmt} {cd md ct : Value} {cl : List (Str × Addr)} (h : K.lookup f = some (fnO name qual s0 cd md ct cl)) : typeIn K (.ref f) = some (.type "function") := by
  show (K.lookup f).map (·.cls) = _
  rw [h]; rfl
theorem EV.use {e : Expr} {x : V} {K : V → St → Prop} (h : EV c n env ρ st e x) (k : K x st) : AWE c n env ρ st e K := h.run.mono fun v s ⟨a, b⟩ => by subst a; subst b; exact k
theorem EVT.use {e : Expr} {x : Bool} {K : Bool → St → Prop} (h : EVT c n env ρ st e x) (k : K x st) : AWT c n env ρ st e K := h.run.mono fun v s ⟨a, b⟩ => by subst a; subst b; exact k
theorem AWL.mono {es : List Expr} {K K' : List V → St → Prop} (p : AWL c n env ρ st es K) (h : ∀ v st, K v st → K' v st) : AWL c n env ρ st es K' :=
  fun A G s pos R C F => wpAny_mono (p A G s pos R C F) (fun u0 u1 hq => e35 hq fun G' st' pv a b d e k => ⟨G', st', pv, a, b, d, e, h _ _ k⟩) fun u0 u1 q => q
theorem EVL.use {es : List Expr} {x : List V} {K : List V → St → Prop} (h : EVL c n env ρ st es x) (k : K x st) : AWL c n env ρ st es K := h.run.mono fun v s ⟨a, b⟩ => by subst a; subst b; exact k
theorem EV.nm {x : Str} {pos : Pos} {p : V} (E : EnvK env names) (hk : isVar (names.lookup x) = true) (hv : ρ x = some p) (hd : (x == ("__debug__" : Str)) = false := by decide) : EV c n env ρ st (.Name x pos) p := ⟨AWE_nm E hk hv ⟨rfl, rfl⟩ hd⟩
theorem EV.int {i : Int} {k : Nat} {pos : Pos} : EV c n env ρ st (.Constant (.int i) k pos) (.d (.int i)) := ⟨AWE_int ⟨rfl, rfl⟩⟩
theorem EV.str {x : Str} {k : Nat} {pos : Pos} : EV c n env ρ st (.Constant (.str x) k pos) (.d (.str x)) := ⟨AWE_str ⟨rfl, rfl⟩⟩
theorem EV.none {k : Nat} {pos : Pos} : EV c n env ρ st (.Constant .none k pos) (.d .none) := ⟨AWE_none ⟨rfl, rfl⟩⟩
theorem EV.bool {b : Bool} {k : Nat} {pos : Pos} : EV c n env ρ st (.Constant (.bool b) k pos) (.d (.bool b)) := ⟨AWE_bool ⟨rfl, rfl⟩⟩
theorem EVL.nil : EVL c n env ρ st [] [] := ⟨AWL_nil ⟨rfl, rfl⟩⟩
theorem EVL.cons {e : Expr} {es : List Expr} {x : V} {xs : List V} (h : EV c n env ρ st e x) (h2 : EVL c n env ρ st es xs) (he : starEach (e :: es) env = (false, eval e env) :: starEach es env := by rfl) : EVL c n env ρ st (e :: es) (x :: xs) :=
  ⟨AWL_cons (h.use (h2.use ⟨rfl, rfl⟩)) he⟩
theorem EV.sub {e i : Expr} {pos : Pos} {x y z : V} (h1 : EV c n env ρ st e x) (h2 : EV c n env ρ st i y) (h3 : GV c n st x y z) (hs : ∀ o k, subscripted i false o k = operate [o, k] (getItem o k) := by intro _ _; with_unfolding_all rfl) : EV c n env ρ st (.Subscript e i pos) z :=
  ⟨AWE_Subscript (h1.use (h2.use h3.run)) hs⟩
theorem EV.bin {l r : Expr} {op : Operator} {pos : Pos} {x y z : V} (h1 : EV c n env ρ st l x) (h2 : EV c n env ρ st r y) (h3 : BV c n st op x y z) : EV c n env ρ st (.BinOp l op r pos) z := ⟨AWE_BinOp (h1.use (h2.use h3.run))⟩
theorem EV.cmp {l r : Expr} {op : CmpOp} {pos : Pos} {x y : V} {b : Bool} (h1 : EV c n env ρ st l x) (h2 : EV c n env ρ st r y) (h3 : CmpV c n st op x y b) (hm : behindInMarks op r = false := by with_unfolding_all rfl) : EV c n env ρ st (.Compare l [op] [r] pos) (.d (.bool b)) :=
  ⟨AWE_Compare (h1.use (h2.use h3.run)) hm⟩
theorem EVT.cmp {l r : Expr} {op : CmpOp} {pos : Pos} {x y : V} {b : Bool} (h1 : EV c n env ρ st l x) (h2 : EV c n env ρ st r y) (h3 : CmpV c n st op x y b) (hm : behindInMarks op r = false := by with_unfolding_all rfl) : EVT c n env ρ st (.Compare l [op] [r] pos) b :=
  ⟨AWT_Compare (h1.use (h2.use (fun A G s a b R C r1 r2 => wpAny_mono (h3.run A G s a b R C r1 r2) (fun v s' hq => e35 hq fun G' st' pv p q r e e2 => ⟨G', st', pv, p, q, r, _, e, rfl, e2⟩) fun u0 u1 q => q))) hm⟩
theorem EV.un {x : Expr} {op : UnaryOp} {pos : Pos} {y z : V} (h : EV c n env ρ st x y) (h2 : UV c n st op y z) : EV c n env ρ st (.UnaryOp op x pos) z := ⟨AWE_UnaryOp (h.use h2.run)⟩
theorem EVT.not {x : Expr} {pos : Pos} {b : Bool} (h : EVT c n env ρ st x b) : EVT c n env ρ st (.UnaryOp .Not x pos) (!b) := ⟨AWT_Not (h.use ⟨rfl, rfl⟩)⟩
theorem EVT.val {e : Expr} {b : Bool} (h : EV c n env ρ st e (.d (.bool b))) (he : isTrue e env (eval e env) = (do let v ← eval e env; standAt e.pos; holding [v] (truthy v)) := by rfl) : EVT c n env ρ st e b := ⟨AWT_val (h.use (OpT_bool ⟨rfl, rfl⟩)) he⟩
theorem EVT.andNil {pos : Pos} : EVT c n env ρ st (.BoolOp .And [] pos) true := ⟨AWT_AndNil ⟨rfl, rfl⟩⟩
theorem EVT.orNil {pos : Pos} : EVT c n env ρ st (.BoolOp .Or [] pos) false := ⟨AWT_OrNil ⟨rfl, rfl⟩⟩
theorem EVT.and {x : Expr} {xs : List Expr} {pos : Pos} {a b : Bool} (h1 : EVT c n env ρ st x a) (h2 : a = true → EVT c n env ρ st (.BoolOp .And xs pos) b) : EVT c n env ρ st (.BoolOp .And (x :: xs) pos) (a && b) :=
  ⟨AWT_And (h1.use (by cases a with
    | true => rw [if_pos rfl]; exact (h2 rfl).use ⟨rfl, rfl⟩
    | false => exact ⟨rfl, rfl⟩))⟩
theorem EVT.or {x : Expr} {xs : List Expr} {pos : Pos} {a b : Bool} (h1 : EVT c n env ρ st x a) (h2 : a = false → EVT c n env ρ st (.BoolOp .Or xs pos) b) : EVT c n env ρ st (.BoolOp .Or (x :: xs) pos) (a || b) :=
  ⟨AWT_Or (h1.use (by cases a with
    | true => exact ⟨rfl, rfl⟩
    | false => rw [if_neg (by decide)]; exact (h2 rfl).use ⟨rfl, rfl⟩))⟩
theorem EV.and {x y : Expr} {pos : Pos} {a b : Bool} (h1 : EV c n env ρ st x (.d (.bool a))) (h2 : a = true → EV c n env ρ st y (.d (.bool b))) : EV c n env ρ st (.BoolOp .And [x, y] pos) (.d (.bool (a && b))) :=
  ⟨AWE_And (h1.use (OpT_bool (by cases a with
    | true => rw [if_pos rfl]; exact (h2 rfl).use ⟨rfl, rfl⟩
    | false => exact ⟨rfl, rfl⟩)))⟩
theorem EV.or {x y : Expr} {pos : Pos} {a b : Bool} (h1 : EV c n env ρ st x (.d (.bool a))) (h2 : a = false → EV c n env ρ st y (.d (.bool b))) : EV c n env ρ st (.BoolOp .Or [x, y] pos) (.d (.bool (a || b))) :=
  ⟨AWE_Or (h1.use (OpT_bool (by cases a with
    | true => exact ⟨rfl, rfl⟩
    | false => rw [if_neg (by decide)]; exact (h2 rfl).use ⟨rfl, rfl⟩)))⟩
theorem EV.ite {t b o : Expr} {pos : Pos} {q : Bool} {x : V} (h : EVT c n env ρ st t q) (h1 : q = true → EV c n env ρ st b x) (h2 : q = false → EV c n env ρ st o x) : EV c n env ρ st (.IfExp t b o pos) x :=
  ⟨AWE_IfExp (h.use (by cases q with
    | true => rw [if_pos rfl]; exact (h1 rfl).run
    | false => rw [if_neg (by decide)]; exact (h2 rfl).run))⟩
theorem EV.tup {es : List Expr} {k : Nat} {pos : Pos} {ps : List V} {xs : List D} (h : EVL c n env ρ st es ps) (hd : dataOf ps = some xs) (hl : Nat.ble xs.length 1000 = true) : EV c n env ρ st (.Tuple es k pos) (.d (.tup xs)) :=
  ⟨AWE_Tup (h.use ⟨xs, hd, Nat.le_of_ble_eq_true hl, rfl, rfl⟩)⟩
theorem EV.lst {es : List Expr} {pos : Pos} {ps : List V} {xs : List D} (h : EVL c n env ρ st es ps) (hd : dataOf ps = some xs) (hl : Nat.ble xs.length 1000 = true) : EV c n env ρ st (.List es pos) (.d (.lst xs)) :=
  ⟨AWE_Lst (h.use ⟨xs, hd, Nat.le_of_ble_eq_true hl, rfl, rfl⟩)⟩
theorem EV.callG {f : Addr} {x : Str} {p pos : Pos} {e : Expr} {es : List Expr} {ps : List V} {z : V} {name qual : Str} {s0 : Stmt} {cd md ct : Value} {cl : List (Str × Addr)} (P : Prg c) (E : EnvK env names) (hk : names.lookup x = some .globalImplicit) (hv : nsIn (KF c.w.params) mainGlobals x = some (some (.ref f)))
    (hf : (KF c.w.params).lookup f = some (fnO name qual s0 cd md ct cl)) (h : EVL c n env ρ st (e :: es) ps) (hc : CV c n st (.ref f) ps z) (hs : starEach (e :: es) env = (false, eval e env) :: starEach es env := by rfl) (hd : (x == ("__debug__" : Str)) = false := by decide) :
    EV c n env ρ st (.Call (.Name x p) (e :: es) [] pos) z := ⟨AWE_CallG P.ok (E.g hk) (P.glob hv) (P.isFn hf) (h.use hc.run) hs hd⟩
theorem EV.callG0 {f : Addr} {x : Str} {p pos : Pos} {z : V} {name qual : Str} {s0 : Stmt} {cd md ct : Value} {cl : List (Str × Addr)} (P : Prg c) (E : EnvK env names) (hk : names.lookup x = some .globalImplicit) (hv : nsIn (KF c.w.params) mainGlobals x = some (some (.ref f)))
    (hf : (KF c.w.params).lookup f = some (fnO name qual s0 cd md ct cl)) (hc : CV c n st (.ref f) [] z) (hd : (x == ("__debug__" : Str)) = false := by decide) :
    EV c n env ρ st (.Call (.Name x p) [] [] pos) z := ⟨AWE_CallG0 P.ok (E.g hk) (P.glob hv) (P.isFn hf) hc.run hd⟩
theorem EV.callB {id : String} {x : Str} {p pos : Pos} {e : Expr} {es : List Expr} {ps : List V} {z : V} (P : Prg c) (E : EnvK env names) (hk : names.lookup x = some .globalImplicit) (hn : nsIn (KF c.w.params) mainGlobals x = some Option.none) (hv : bootBuiltins x = some (.builtin id))
    (h : EVL c n env ρ st (e :: es) ps) (hc : FV c n st (.builtin id) ps z) (hne : x ≠ "__name__" := by decide) (hs : starEach (e :: es) env = (false, eval e env) :: starEach es env := by rfl) (hplain : ∀ pos, (backTo pos (starEach es env)).any (·.1) = false := by intro _; rfl) (hd : (x == ("__debug__" : Str)) = false := by decide) :
    EV c n env ρ st (.Call (.Name x p) (e :: es) [] pos) z := ⟨AWE_CallB P.ok (E.g hk) (P.glob hn) hv hne (h.use hc.run) hs hplain hd⟩
theorem EV.callT {T : String} {x : Str} {p pos : Pos} {e : Expr} {es : List Expr} {ps : List V} {z : V} (P : Prg c) (E : EnvK env names) (hk : names.lookup x = some .globalImplicit) (hn : nsIn (KF c.w.params) mainGlobals x = some Option.none) (hv : bootBuiltins x = some (.type T))
    (h : EVL c n env ρ st (e :: es) ps) (hc : FV c n st (.type T) ps z) (hne : x ≠ "__name__" := by decide) (hs : starEach (e :: es) env = (false, eval e env) :: starEach es env := by rfl) (hplain : ∀ pos, (backTo pos (starEach es env)).any (·.1) = false := by intro _; rfl) (hd : (x == ("__debug__" : Str)) = false := by decide) :
    EV c n env ρ st (.Call (.Name x p) (e :: es) [] pos) z := ⟨AWE_CallT P.ok (E.g hk) (P.glob hn) hv hne (h.use hc.run) hs hplain hd⟩
theorem EV.attr {e : Expr} {x : Str} {pos : Pos} {a Cc dx : Addr} {k : Nat} {attrs : Loc} {y : V} (P : Prg c) (h : EV c n env ρ st e (.o a)) (hs : st a = some (.inst Cc dx k attrs)) (ok : ClsOK c Cc) (hf : findIn (KF c.w.params) (.ref Cc) x = some Option.none) (hx : attrs x = some y)
    (he : eval (.Attribute e x pos) env = (do
      let o ← eval e env
      standAt pos.atName
      let r ← holding [o] (getAttr o x true)
      letTemporaryGo e o r
      pure r) := by with_unfolding_all rfl) : EV c n env ρ st (.Attribute e x pos) y :=
  ⟨AWE_Attr P.ok (h.use ⟨a, Cc, dx, k, attrs, y, rfl, hs, hx, ok, by rw [P.K]; exact hf, rfl, rfl⟩) he⟩
theorem EV.callM {o : Expr} {x : Str} {apos pos : Pos} {e : Expr} {es : List Expr} {pl : Sem Bool} {a Cc dx f : Addr} {k : Nat} {attrs : Loc} {ps : List V} {z : V} {name qual : Str} {s0 : Stmt} {cd md ct : Value} {cl : List (Str × Addr)} (P : Prg c) (h : EV c n env ρ st o (.o a)) (hs : st a = some (.inst Cc dx k attrs)) (ok : ClsOK c Cc)
    (hx : attrs x = Option.none) (hf : findIn (KF c.w.params) (.ref Cc) x = some (some (.ref f))) (hfn : (KF c.w.params).lookup f = some (fnO name qual s0 cd md ct cl)) (ha : EVL c n env ρ st (e :: es) ps) (hc : CV c n st (.ref f) (.o a :: ps) z)
    (he : eval (.Call (.Attribute o x apos) (e :: es) [] pos) env = (do
      let ov ← eval o env
      standAt apos.atName
      let (f, first) ← holding [ov] (getMethod ov x pl)
      callWith pos f first (backTo pos (starEach (e :: es) env)) []) := by rfl) (hs' : starEach (e :: es) env = (false, eval e env) :: starEach es env := by rfl) :
    EV c n env ρ st (.Call (.Attribute o x apos) (e :: es) [] pos) z :=
  ⟨AWE_CallM P.ok (h.use ⟨a, Cc, dx, k, attrs, f, rfl, hs, hx, ok, by rw [P.K]; exact hf, by rw [P.K]; exact typeIn_fn hfn, P.isFn hfn, ha.use hc.run⟩) he hs'⟩
theorem EV.callM0 {o : Expr} {x : Str} {apos pos : Pos} {pl : Sem Bool} {a Cc dx f : Addr} {k : Nat} {attrs : Loc} {z : V} {name qual : Str} {s0 : Stmt} {cd md ct : Value} {cl : List (Str × Addr)} (P : Prg c) (h : EV c n env ρ st o (.o a)) (hs : st a = some (.inst Cc dx k attrs)) (ok : ClsOK c Cc)
    (hx : attrs x = Option.none) (hf : findIn (KF c.w.params) (.ref Cc) x = some (some (.ref f))) (hfn : (KF c.w.params).lookup f = some (fnO name qual s0 cd md ct cl)) (hc : CV c n st (.ref f) [.o a] z)
    (he : eval (.Call (.Attribute o x apos) [] [] pos) env = (do
      let ov ← eval o env
      standAt apos.atName
      let (f, first) ← holding [ov] (getMethod ov x pl)
      callWith pos f first (backTo pos (starEach [] env)) []) := by rfl) :
    EV c n env ρ st (.Call (.Attribute o x apos) [] [] pos) z :=
  ⟨AWE_CallM0 P.ok (h.use ⟨a, Cc, dx, k, attrs, f, rfl, hs, hx, ok, by rw [P.K]; exact hf, by rw [P.K]; exact typeIn_fn hfn, P.isFn hfn, hc.run⟩) he⟩

theorem BV.add {i j : Int} : BV c n st .Add (.d (.int i)) (.d (.int j)) (.d (.int (i + j))) := ⟨OpB_add ⟨rfl, rfl⟩⟩
theorem BV.sub {i j : Int} : BV c n st .Sub (.d (.int i)) (.d (.int j)) (.d (.int (i - j))) := ⟨OpB_sub ⟨rfl, rfl⟩⟩
theorem UV.neg {i : Int} : UV c n st .USub (.d (.int i)) (.d (.int (-i))) := ⟨OpU_neg ⟨rfl, rfl⟩⟩
theorem CmpV.lt {i j : Int} : CmpV c n st .Lt (.d (.int i)) (.d (.int j)) (decide (i < j)) := ⟨OpC_lt ⟨rfl, rfl⟩⟩
theorem CmpV.le {i j : Int} : CmpV c n st .LtE (.d (.int i)) (.d (.int j)) (decide (i ≤ j)) := ⟨OpC_le ⟨rfl, rfl⟩⟩
theorem CmpV.gt {i j : Int} : CmpV c n st .Gt (.d (.int i)) (.d (.int j)) (decide (j < i)) := ⟨OpC_gt ⟨rfl, rfl⟩⟩
theorem CmpV.ge {i j : Int} : CmpV c n st .GtE (.d (.int i)) (.d (.int j)) (decide (j ≤ i)) := ⟨OpC_ge ⟨rfl, rfl⟩⟩
theorem CmpV.eqi {i j : Int} : CmpV c n st .Eq (.d (.int i)) (.d (.int j)) (decide (i = j)) := ⟨OpC_eqi ⟨rfl, rfl⟩⟩
theorem CmpV.nei {i j : Int} : CmpV c n st .NotEq (.d (.int i)) (.d (.int j)) (decide (i ≠ j)) := ⟨OpC_nei ⟨rfl, rfl⟩⟩
theorem CmpV.sle {s : Sg} : CmpV c n st .Eq (.d (.str s.str)) (.d (.str "<=")) (decide (s = .le)) := ⟨OpC_sle ⟨rfl, rfl⟩⟩
theorem CmpV.sge {s : Sg} : CmpV c n st .Eq (.d (.str s.str)) (.d (.str ">=")) (decide (s = .ge)) := ⟨OpC_sge ⟨rfl, rfl⟩⟩
theorem CmpV.sne {s : Sg} : CmpV c n st .Eq (.d (.str s.str)) (.d (.str "!=")) (decide (s = .ne)) := ⟨OpC_sne ⟨rfl, rfl⟩⟩
theorem CmpV.seq {s : Sg} : CmpV c n st .Eq (.d (.str s.str)) (.d (.str "=")) (decide (s = .eq)) := ⟨OpC_seq ⟨rfl, rfl⟩⟩
theorem GV.tup {xs : List D} {k : Nat} {x : D} (hx : xs[k]? = some x) (hk : k < 1000000) : GV c n st (.d (.tup xs)) (.d (.int (k : Int))) (.d x) := ⟨OpG_tupN hx hk ⟨rfl, rfl⟩⟩
theorem GV.lit0 {x : D} {r : List D} : GV c n st (.d (.tup (x :: r))) (.d (.int 0)) (.d x) := ⟨OpG_tupN (k := 0) rfl (by decide) ⟨rfl, rfl⟩⟩
theorem GV.lit1 {x y : D} {r : List D} : GV c n st (.d (.tup (x :: y :: r))) (.d (.int 1)) (.d y) := ⟨OpG_tupN (k := 1) rfl (by decide) ⟨rfl, rfl⟩⟩
theorem GV.lit2 {x y z : D} {r : List D} : GV c n st (.d (.tup (x :: y :: z :: r))) (.d (.int 2)) (.d z) := ⟨OpG_tupN (k := 2) rfl (by decide) ⟨rfl, rfl⟩⟩
theorem GV.lit3 {x y z w : D} {r : List D} : GV c n st (.d (.tup (x :: y :: z :: w :: r))) (.d (.int 3)) (.d w) := ⟨OpG_tupN (k := 3) rfl (by decide) ⟨rfl, rfl⟩⟩
theorem GV.mlst {l : Addr} {xs : List D} {k : Nat} {x : D} (hs : st l = some (.lst xs)) (hx : xs[k]? = some x) (hk : k < 1000000) : GV c n st (.o l) (.d (.int (k : Int))) (.d x) := ⟨OpG_mlstN hs hx hk ⟨rfl, rfl⟩⟩
theorem GV.lst {xs : List D} {k : Nat} {x : D} (hx : xs[k]? = some x) (hk : k < 1000000) : GV c n st (.d (.lst xs)) (.d (.int (k : Int))) (.d x) := ⟨OpG_lstN hx hk ⟨rfl, rfl⟩⟩
theorem FV.lenL {v : V} {xs : List D} (il : IsL st v xs) (hl : xs.length ≤ 1000) : FV c n st (.builtin "len") [v] (.d (.int xs.length)) := ⟨OpF_lenL il hl ⟨rfl, rfl⟩⟩
theorem FV.tupL {v : V} {xs : List D} (il : IsL st v xs) (hl : xs.length ≤ 1000) : FV c n st (.type "tuple") [v] (.d (.tup xs)) := ⟨OpF_tuple il hl ⟨rfl, rfl⟩⟩
theorem CmpV.isNone {x : D} : CmpV c n st .Is (.d x) (.d .none) (match x with | .none => true | _ => false) := ⟨OpC_isNone ⟨rfl, rfl⟩⟩
theorem CmpV.isNotNone {x : D} : CmpV c n st .IsNot (.d x) (.d .none) (match x with | .none => false | _ => true) := ⟨OpC_isNotNone ⟨rfl, rfl⟩⟩
theorem CmpV.eqb {k m : Nat} {a b : D} {q : Bool} (ha : OK k a) (hb : OK m b) (hk : k ≤ 60) (hm : m ≤ 60) (e : q = true ↔ a = b) : CmpV c n st .Eq (.d a) (.d b) q := ⟨OpC_eqb ha hb hk hm e ⟨rfl, rfl⟩⟩
theorem CmpV.neb {k m : Nat} {a b : D} {q : Bool} (ha : OK k a) (hb : OK m b) (hk : k ≤ 60) (hm : m ≤ 60) (e : q = true ↔ a ≠ b) : CmpV c n st .NotEq (.d a) (.d b) q := ⟨OpC_neb ha hb hk hm e ⟨rfl, rfl⟩⟩
theorem FV.max {i j : Int} : FV c n st (.builtin "max") [.d (.int i), .d (.int j)] (.d (.int (Max.max i j))) := ⟨OpF_max ⟨rfl, rfl⟩⟩
theorem FV.min {i j : Int} : FV c n st (.builtin "min") [.d (.int i), .d (.int j)] (.d (.int (Min.min i j))) := ⟨OpF_min ⟨rfl, rfl⟩⟩

theorem AWS_Ret {e : Expr} {pos : Pos} {x : V} {K : Fl → Loc → St → Prop} (h : EV c n env ρ st e x) (k : K (.ret x) ρ st) : AWS c n env ρ st (.Return (some e) pos) K := AWS_Return (h.use k)
theorem AWS_IfV {t : Expr} {b o : List Stmt} {pos : Pos} {q : Bool} {K : Fl → Loc → St → Prop} (h : EVT c n env ρ st t q) (h1 : q = true → AWX c n env ρ st b K) (h2 : q = false → AWX c n env ρ st o K) : AWS c n env ρ st (.If t b o pos) K :=
  AWS_If (h.use (by cases q with
    | true => rw [if_pos rfl]; exact h1 rfl
    | false => rw [if_neg (by decide)]; exact h2 rfl))
theorem AWS_Set {x : Str} {xp : Pos} {e : Expr} {pos : Pos} {v : V} {K : Fl → Loc → St → Prop} (E : EnvK env names) (hk : isVar (names.lookup x) = true) (h : EV c n env ρ st e v) (k : K .next (upd ρ x v) st) (hs : swapsWith e (some (.Name x xp)) pos.line env = pure false := by rfl) : AWS c n env ρ st (.Assign [.Name x xp] e pos) K :=
  AWS_Assign (E.keeps hk) (h.use k) hs

theorem AWS_Swap2V {x y : Str} {ts es : List Expr} {k k' : Nat} {tpos epos : Pos} {pos : Pos} {a b : V} {K : Fl → Loc → St → Prop} {sc : Scope} (E0 : EnvOf env sc) (E : EnvK env names) (hx : isVar (names.lookup x) = true) (hy : isVar (names.lookup y) = true)
    (h : EVL c n env ρ st es [a, b]) (k1 : K .next (upd (upd ρ y b) x a) st)
    (hw : swappedStores [.Tuple ts k tpos] (.Tuple es k' epos) (envAt sc) = pure (some [x, y])) (hs : swapsWithSole [.Tuple ts k tpos] (.Tuple es k' epos) pos.line env = pure false := by rfl) : AWS c n env ρ st (.Assign [.Tuple ts k tpos] (.Tuple es k' epos) pos) K :=
  AWS_Swap2 E0 E hx hy (h.use ⟨_, _, rfl, k1⟩) hw hs
theorem AWS_AppV {o e : Expr} {apos pos pos' : Pos} {pl : Sem Bool} {a : Addr} {xs : List D} {x : D} {K : Fl → Loc → St → Prop} {sc : Scope} (E0 : EnvOf env sc) (hk : sc.kind = .function) (h1 : EV c n env ρ st o (.o a)) (hs : st a = some (.lst xs)) (h2 : EV c n env ρ st e (.d x)) (hl : xs.length ≤ 1000)
    (k : K .next ρ (st.set a (.lst (xs ++ [x]))))
    (hs' : starEach [e] env = [(false, eval e env)] := by rfl)
    (he : eval (.Call (.Attribute o "append" apos) [e] [] pos) env = (do
      let ov ← eval o env
      standAt apos.atName
      let (f, first) ← holding [ov] (getMethod ov "append" pl)
      callWith pos f first (backTo pos (starEach [e] env)) []) := by rfl) (hsw : swapsWith (.Call (.Attribute o "append" apos) [e] [] pos) none pos'.line env = pure false := by rfl) : AWS c n env ρ st (.Expr (.Call (.Attribute o "append" apos) [e] [] pos) pos') K :=
  AWS_Expr (AWE_App (h1.use ⟨a, rfl, ⟨xs, hs⟩, h2.use ⟨xs, x, rfl, hs, hl, k⟩⟩) hs' he) (E0.inter hk) hsw
theorem FV.range1 {i : Int} : FV c n st (.type "range") [.d (.int i)] (.d (.rng 0 i)) := ⟨OpF_range1 ⟨rfl, rfl⟩⟩
theorem FV.range2 {i j : Int} : FV c n st (.type "range") [.d (.int i), .d (.int j)] (.d (.rng i j)) := ⟨OpF_range2 ⟨rfl, rfl⟩⟩
theorem AWS_ForV {t iter : Expr} {b o : List Stmt} {pos : Pos} {v : V} {K : Fl → Loc → St → Prop} (h : EV c n env ρ st iter v) (k : OpI c n v st fun xs src => AWF c n env ρ st t b o xs src K)
    (hs : ∀ x, foldedSetIterable iter env x = pure x := by intro _; rfl) : AWS c n env ρ st (.For t iter b o pos) K := AWS_For (h.use k) hs

theorem AWX_gen {l : List (Str × V)} {b : List Stmt} {K : Fl → Loc → St → Prop} (H : Has l ρ) (h : ∀ ρ', Has l ρ' → AWX c n env ρ' st b K) : AWX c n env ρ st b K := h ρ H

structure CT1 (c : Ctx) (n : Nat) (sc inner : List (Str × NameKind)) (ρ : Loc) (st : St) (t q elt : Expr) (x : D) (p : Bool) (g : D) : Prop where
  run : ∀ env' ρ', EnvK env' (relabelS inner sc) → Agree inner ρ ρ' → AWA c n env' ρ' st t (.d x) fun ρ1 st1 => st1 = st ∧ Agree inner ρ ρ1 ∧ EVT c n env' ρ1 st q p ∧ (p = true → EV c n env' ρ1 st elt (.d g))
structure CT0 (c : Ctx) (n : Nat) (sc inner : List (Str × NameKind)) (ρ : Loc) (st : St) (t elt : Expr) (x : D) (g : D) : Prop where
  run : ∀ env' ρ', EnvK env' (relabelS inner sc) → Agree inner ρ ρ' → AWA c n env' ρ' st t (.d x) fun ρ1 st1 => st1 = st ∧ Agree inner ρ ρ1 ∧ EV c n env' ρ1 st elt (.d g)
structure IV (c : Ctx) (n : Nat) (st : St) (v : V) (ys : List D) : Prop where
  run : ∀ K : List D → Option Addr → Prop, (∀ src, K ys src) → OpI c n v st K
theorem IV.tup {xs : List D} : IV c n st (.d (.tup xs)) xs := ⟨fun K h => OpI_tup (h _)⟩
theorem IV.lst {xs : List D} : IV c n st (.d (.lst xs)) xs := ⟨fun K h => OpI_lst (h _)⟩
theorem IV.mlst {a : Addr} {xs : List D} (hs : st a = some (.lst xs)) : IV c n st (.o a) xs := ⟨fun K h => OpI_mlst hs (h _)⟩
theorem EV.comp1 {sc : Scope} {elt t iter q : Expr} {scope : Scope} {pos : Pos} {v : V} {α : Type} {xs : List α} {enc : α → D} {p : α → Bool} {g : α → D} (E : EnvOf env sc) (hc : compChk scope sc.names = true) (hs : sc.kind = .function)
    (hi : EV c n env ρ st iter v) (hv : IV c n st v (xs.map enc)) (hlen : xs.length ≤ 999) (ht : ∀ x ∈ xs, CT1 c n sc.names scope.names ρ st t q elt (enc x) (p x) (g x))
    (hf : ∀ x, foldedSetIterable iter env x = pure x := by intro _; rfl) :
    EV c n env ρ st (.ListComp elt [⟨t, iter, [q], 0⟩] scope pos) (.d (.lst ((xs.filter p).map g))) :=
  ⟨AWE_comp1 E hc hs (hi.use (hv.run _ fun src => ⟨α, xs, enc, p, g, rfl, hlen, fun x hx env' ρ' EK' A => ((ht x hx).run env' ρ' EK' A).mono fun ρ1 st1 ⟨e, A1, h1, h2⟩ => by
    subst e
    refine h1.use ⟨rfl, ?_⟩
    cases e : p x with
    | true => rw [if_pos rfl]; exact (h2 e).use ⟨rfl, rfl, A1⟩
    | false => exact ⟨rfl, A1⟩, rfl, rfl⟩)) hf⟩
theorem EV.comp0 {sc : Scope} {elt t iter : Expr} {scope : Scope} {pos : Pos} {v : V} {α : Type} {xs : List α} {enc : α → D} {g : α → D} (E : EnvOf env sc) (hc : compChk scope sc.names = true) (hs : sc.kind = .function)
    (hi : EV c n env ρ st iter v) (hv : IV c n st v (xs.map enc)) (hlen : xs.length ≤ 999) (ht : ∀ x ∈ xs, CT0 c n sc.names scope.names ρ st t elt (enc x) (g x))
    (hf : ∀ x, foldedSetIterable iter env x = pure x := by intro _; rfl) :
    EV c n env ρ st (.ListComp elt [⟨t, iter, [], 0⟩] scope pos) (.d (.lst (xs.map g))) :=
  ⟨AWE_comp0 E hc hs (hi.use (hv.run _ fun src => ⟨α, xs, enc, g, rfl, hlen, fun x hx env' ρ' EK' A => ((ht x hx).run env' ρ' EK' A).mono fun ρ1 st1 ⟨e, A1, h1⟩ => by
    subst e; exact h1.use ⟨rfl, rfl, A1⟩, rfl, rfl⟩)) hf⟩
end
end Lrn
end

namespace Lrn
open PySem PySem.W PyProof.Rows PySem.Calls
local macro_rules | `(tactic| walk_at "nm") => `(tactic| first | rfl | ((repeat (apply nm_ne; focus decide)); first | exact Has.get (by assumption) (by rfl) | exact (‹Agree _ _ _› _ (by rfl)).trans (by rfl)))
local macro_rules | `(tactic| walk_at "bt") => do
  let t ← macFirst "e:boot_len e:boot_max e:boot_min e:boot_tuple e:boot_list e:boot_sorted e:boot_range e:boot_set e:boot_abs"
  `(tactic| with_reducible $t:tactic)
local macro_rules | `(tactic| walk_at "has") => `(tactic| repeat (first | exact Has.nil | refine Has.mk2 (by walk_at "nm") ?_))
local macro_rules | `(tactic| walk_at "v1") => macFirst "e:EV.int e:EV.str e:EV.none e:EV.bool e:EVL.nil e:EVT.andNil e:EVT.orNil e:EV.nm:afn p:EVL.cons:__ p:EV.sub:___ p:EV.bin:___ p:EV.cmp:___ p:EVT.cmp:___ p:EV.un:__ p:EV.tup:___ p:EVT.not:_ p:EVT.and:_l p:EVT.or:_l p:EV.and:_l p:EV.or:_l p:EV.callG:aafff__ p:EV.callB:aaffb__ p:EV.callT:aaffb__ p:EV.callG0:aafff_ p:EVT.val:_"
local macro_rules | `(tactic| walk_at "v2") => do
  let t ← macFirst "e:GV.lit0 e:GV.lit1 e:GV.lit2 e:GV.lit3 e:BV.add e:BV.sub e:UV.neg e:CmpV.lt e:CmpV.le e:CmpV.gt e:CmpV.ge e:CmpV.eqi e:CmpV.nei e:CmpV.sle e:CmpV.sge e:CmpV.sne e:CmpV.seq e:FV.max e:FV.min e:FV.range1 e:FV.range2 e:IV.tup e:IV.lst"
  `(tactic| first | $t:tactic | ((with_reducible show dataOf _ = some _); rfl) | ((with_reducible show Nat.ble _ _ = true); rfl))
local macro_rules | `(tactic| walk_at "v0") => `(tactic| first | (guard_target =ₛ V; rotate_left 1) | (guard_target =ₛ List V; rotate_left 1) | (guard_target =ₛ List D; rotate_left 1) | (guard_target =ₛ Bool; rotate_left 1) | (guard_target =ₛ D; rotate_left 1))
local macro_rules | `(tactic| walk_at "v") => `(tactic| repeat (first | walk_at "v1" | walk_at "v2" | walk_at "v0"))

section
open PySem PySem.W PyProof.Rows PySem.Calls
set_option maxRecDepth 100000
set_option linter.unusedVariables false
set_option maxHeartbeats 2000000

section
variable {c : Ctx} {n : Nat} {env : Env} {ρ : Loc} {st : St} {names : List (Str × NameKind)}
theorem w_least (P : Prg c) {d : Dom} (hd : d ≠ []) {K : V → St → Prop} (hn : 1 ≤ n) (h : K (.d (.int (least d))) st) : AWC c n (.ref 28) [.d (domD d)] st K := by
  refine ex2_1 (List.exists_cons_of_ne_nil hd) fun p r hr1 => ?_; subst hr1
  refine AWC_fn (L := 0) (pn := ["d"]) (P.fn (st := top 2) rfl rfl (by rfl)) rfl hn fun m env hm E EK => ?_
  exact AWX_cons (AWS_Ret (EV.sub (x := .d (pairD p)) (EV.sub (x := .d (.tup (pairD p :: r.map pairD))) (by walk_at "v") EV.int GV.lit0) EV.int GV.lit0) h)
theorem greatest_at : ∀ {d : Dom}, d ≠ [] → ∃ a, d[d.length - 1]? = some (a, greatest d)
  | [], hd => absurd rfl hd
  | [p], _ => ⟨p.1, rfl⟩
  | p :: q :: r, _ => (greatest_at (d := q :: r) (fun h => nomatch h)).elim fun a ha => ⟨a, ha⟩
theorem seqIxNeg {m : Nat} (h : 0 < m) : seqIndex? (-1) m = some (m - 1) := by
  obtain ⟨k, rfl⟩ : ∃ k, m = k + 1 := ⟨m - 1, (Nat.sub_add_cancel h).symm⟩
  have e : (if (-1 : Int) < 0 then -1 + ((k + 1 : Nat) : Int) else -1) = (k : Int) := by
    rw [if_pos (by decide)]
    show (-1 : Int) + ((k : Int) + 1) = k
    rw [Int.add_comm (k : Int) 1]; exact Int.neg_add_cancel_left 1 k
  unfold seqIndex?
  rw [e]
  exact if_pos (by rw [Bool.and_eq_true]; exact ⟨decide_eq_true (Int.natCast_nonneg k), decide_eq_true (Int.ofNat_lt.mpr (Nat.lt_succ_self k))⟩)
theorem w_greatest (P : Prg c) {d : Dom} (hd : d ≠ []) (hl : d.length ≤ 100) {K : V → St → Prop} (hn : 1 ≤ n) (h : K (.d (.int (greatest d))) st) : AWC c n (.ref 35) [.d (domD d)] st K := by
  refine ex1_1 (greatest_at hd) fun a ha => ?_
  have hlen : 0 < d.length := List.length_pos_iff.mpr hd
  refine AWC_fn (L := 0) (pn := ["d"]) (P.fn (st := top 3) rfl rfl (by rfl)) rfl hn fun m env hm E EK => ?_
  exact AWX_cons (AWS_Ret (EV.sub (x := .d (pairD (a, greatest d))) (EV.sub (x := .d (domD d)) (y := .d (.int (-1))) (by walk_at "v") (EV.un EV.int UV.neg) ⟨OpG_tup (x := pairD (a, greatest d)) (j := d.length - 1) (by rw [List.length_map]; exact seqIxNeg hlen) (by rw [List.getElem?_map, ha]; rfl) (by decide) ⟨rfl, rfl⟩⟩) EV.int GV.lit1) h)
noncomputable def optD : Option Int → D
  | none => .none
  | some i => .int i
theorem OK_opt (o : Option Int) : OK 0 (optD o) := by cases o; exact .none; exact .int _
theorem w_nextFrom (P : Prg c) {d : Dom} {v : Int} {K : V → St → Prop} (hn : 1 ≤ n) (h : K (.d (optD (nextFrom d v))) st) : AWC c n (.ref 42) [.d (domD d), .d (.int v)] st K := by
  refine AWC_fn (L := 0) (pn := ["d", "v"]) (P.fn (st := top 4) rfl rfl (by rfl)) rfl hn fun m env hm E EK => ?_
  refine AWX_gen (l := [("d", .d (domD d)), ("v", .d (.int v))]) (by walk_at "has") fun ρ0 H0 => ?_
  refine AWX_cons (AWS_ForV (v := .d (domD d)) (by walk_at "v") (OpI_tup ?_))
  refine AWF_ind (fun d' ρ s => s = st ∧ Has [("v", .d (.int v))] ρ ∧ nextFrom d' v = nextFrom d v) (fun ρ s hq => ?_) (fun p r ρ s hq K2 h2 => ?_) d _ _ ⟨rfl, by walk_at "has", rfl⟩
  · refine ex0_3 hq fun hr1 H e => ?_; clear hq; subst hr1
    rw [← e] at h
    exact AWX_nil (AWX_cons (AWS_Ret EV.none h))
  · refine ex0_3 hq fun hr1 H e => ?_; clear hq; subst hr1
    refine AWA_T2 EK (by rfl) (by rfl) ?_
    refine AWX_cons (AWS_IfV (q := decide (v ≤ p.2)) (by walk_at "v") (fun hv => ?_) fun hv => ?_)
    · have e2 : nextFrom d v = some (max p.1 v) := e.symm.trans (if_pos (of_decide_eq_true hv))
      rw [e2] at h
      exact AWX_cons (AWS_Ret (x := .d (.int (max p.1 v))) (by walk_at "v") (h2 h))
    · exact AWX_nil (AWX_nil (h2 ⟨fun a ha => rfl, rfl, (H.upd rfl).upd rfl, (if_neg (of_decide_eq_false hv)).symm.trans e⟩))
theorem w_has (P : Prg c) {d : Dom} {v : Int} {K : V → St → Prop} (hn : 2 ≤ n) (h : K (.d (.bool (hasV d v))) st) : AWC c n (.ref 49) [.d (domD d), .d (.int v)] st K := by
  refine AWC_fn (L := 1) (pn := ["d", "v"]) (P.fn (st := top 5) rfl rfl (by rfl)) rfl hn fun m env hm E EK => ?_
  refine AWX_cons (AWS_Ret (EV.cmp (x := .d (optD (nextFrom d v))) (y := .d (.int v)) (EV.callG (by assumption) (by assumption) (by rfl) (by rfl) (by rfl) (by walk_at "v") ⟨w_nextFrom P hm ⟨rfl, rfl⟩⟩) (by walk_at "v") (CmpV.eqb (OK_opt _) (.int (n := 0) _) (by decide) (by decide) ?_)) h)
  unfold hasV
  cases e : nextFrom d v with
  | none => simp [optD]
  | some i => simp [optD]

end
end
section
open PySem PySem.W PyProof.Rows PySem.Calls
set_option maxRecDepth 100000
set_option linter.unusedVariables false
set_option maxHeartbeats 2000000

section
variable {c : Ctx} {n : Nat} {env : Env} {ρ : Loc} {st : St} {names : List (Str × NameKind)}
theorem upTo_eq : ∀ (d : Dom) (k : Int), upTo d k = (d.filter fun p => decide (p.1 ≤ k)).map fun p => (p.1, min p.2 k)
  | [], _ => rfl
  | p :: r, k => by
    unfold upTo
    by_cases h : p.1 ≤ k
    · rw [if_pos h, List.filter_cons_of_pos (by simpa using h), List.map_cons, upTo_eq r k]
    · rw [if_neg h, List.filter_cons_of_neg (by simpa using h), upTo_eq r k]
theorem fromOn_eq : ∀ (d : Dom) (k : Int), fromOn d k = (d.filter fun p => decide (k ≤ p.2)).map fun p => (max p.1 k, p.2)
  | [], _ => rfl
  | p :: r, k => by
    unfold fromOn
    by_cases h : k ≤ p.2
    · rw [if_pos h, List.filter_cons_of_pos (by simpa using h), List.map_cons, fromOn_eq r k]
    · rw [if_neg h, List.filter_cons_of_neg (by simpa using h), fromOn_eq r k]
theorem upTo_len (d : Dom) (k : Int) : (upTo d k).length ≤ d.length := by rw [upTo_eq, List.length_map]; exact List.length_filter_le _ _
theorem fromOn_len (d : Dom) (k : Int) : (fromOn d k).length ≤ d.length := by rw [fromOn_eq, List.length_map]; exact List.length_filter_le _ _
theorem w_upTo (P : Prg c) {d : Dom} {k : Int} {K : V → St → Prop} (hl : d.length ≤ 400) (hn : 1 ≤ n) (h : K (.d (domD (upTo d k))) st) : AWC c n (.ref 54) [.d (domD d), .d (.int k)] st K := by
  refine AWC_fn (L := 0) (pn := ["d", "k"]) (P.fn (st := top 7) rfl rfl (by rfl)) rfl hn fun m env hm E EK => ?_
  refine AWX_cons (AWS_Ret (EV.callT (by assumption) (by assumption) (by rfl) (by rfl) (by walk_at "bt") (EVL.cons (EV.comp1 (xs := d) (enc := pairD) (p := fun p => decide (p.1 ≤ k)) (g := fun p => pairD (p.1, min p.2 k)) E (by rfl) rfl (v := .d (domD d)) (by walk_at "v") IV.tup (by walk_at "o") fun p hp => ⟨fun env' ρ' EK' A => ?_⟩) EVL.nil)
    (FV.tupL (.val _) (by rw [List.length_map]; exact Nat.le_trans (List.length_filter_le _ _) (by walk_at "o")))) ?_)
  · exact AWA_T2 EK' (by rfl) (by rfl) ⟨rfl, A.upd2 (by rfl) (by rfl), by walk_at "v", fun u => by walk_at "v"⟩
  · rw [upTo_eq] at h
    unfold domD at h; rw [List.map_map] at h
    exact h
theorem w_fromOn (P : Prg c) {d : Dom} {k : Int} {K : V → St → Prop} (hl : d.length ≤ 400) (hn : 1 ≤ n) (h : K (.d (domD (fromOn d k))) st) : AWC c n (.ref 59) [.d (domD d), .d (.int k)] st K := by
  refine AWC_fn (L := 0) (pn := ["d", "k"]) (P.fn (st := top 8) rfl rfl (by rfl)) rfl hn fun m env hm E EK => ?_
  refine AWX_cons (AWS_Ret (EV.callT (by assumption) (by assumption) (by rfl) (by rfl) (by walk_at "bt") (EVL.cons (EV.comp1 (xs := d) (enc := pairD) (p := fun p => decide (k ≤ p.2)) (g := fun p => pairD (max p.1 k, p.2)) E (by rfl) rfl (v := .d (domD d)) (by walk_at "v") IV.tup (by walk_at "o") fun p hp => ⟨fun env' ρ' EK' A => ?_⟩) EVL.nil)
    (FV.tupL (.val _) (by rw [List.length_map]; exact Nat.le_trans (List.length_filter_le _ _) (by walk_at "o")))) ?_)
  · exact AWA_T2 EK' (by rfl) (by rfl) ⟨rfl, A.upd2 (by rfl) (by rfl), by walk_at "v", fun u => by walk_at "v"⟩
  · rw [fromOn_eq] at h
    unfold domD at h; rw [List.map_map] at h
    exact h
theorem w_without (P : Prg c) {d : Dom} {v : Int} {K : V → St → Prop} (hl : d.length ≤ 400) (hn : 2 ≤ n) (h : K (.d (domD (without d v))) st) : AWC c n (.ref 66) [.d (domD d), .d (.int v)] st K := by
  refine AWC_fn (L := 1) (pn := ["d", "v"]) (P.fn (st := top 9) rfl rfl (by rfl)) rfl hn fun m env hm E EK => ?_
  refine AWX_cons (AWS_Ret (EV.bin (x := .d (domD (upTo d (v - 1)))) (y := .d (domD (fromOn d (v + 1)))) (EV.callG (by assumption) (by assumption) (by rfl) (by rfl) (by rfl) (by walk_at "v") ⟨w_upTo P hl hm ⟨rfl, rfl⟩⟩) (EV.callG (by assumption) (by assumption) (by rfl) (by rfl) (by rfl) (by walk_at "v") ⟨w_fromOn P hl hm ⟨rfl, rfl⟩⟩) ⟨OpB_tup (by have := upTo_len d (v - 1); have := fromOn_len d (v + 1); simp only [List.length_map]; walk_at "o") ⟨rfl, rfl⟩⟩) ?_)
  rw [← List.map_append]; exact h
theorem w_negation (P : Prg c) {l : Lit} {K : V → St → Prop} (hn : 1 ≤ n) (h : K (.d (litD (negl l))) st) : AWC c n (.ref 80) [.d (litD l)] st K := by
  obtain ⟨x, s, k⟩ := l
  refine AWC_fn (L := 0) (pn := ["literal"]) (P.fn (st := top 11) rfl rfl (by rfl)) rfl hn fun m env hm E EK => ?_
  refine AWX_cons (AWS_AssignTup (EV.use (x := .d (litD ⟨x, s, k⟩)) (by walk_at "v") (AWA_T3 EK (by rfl) (by rfl) (by rfl) ?_)) (by rfl) (by rfl))
  refine AWX_gen (l := [("x", .d (.int x)), ("sign", .d (.str s.str)), ("k", .d (.int k))]) (by walk_at "has") fun ρ H => ?_
  refine AWX_cons (AWS_IfV (q := decide (s = .le)) (by walk_at "v") (fun hv => ?_) fun h1 => AWX_nil (AWX_cons (AWS_IfV (q := decide (s = .ge)) (by walk_at "v") (fun hv => ?_) fun h2 => AWX_nil (AWX_cons (AWS_Ret (x := .d (litD (negl ⟨x, s, k⟩))) (EV.ite (q := decide (s = .eq)) (by walk_at "v") (fun hv => ?_) fun h3 => ?_) h)))))
  · obtain rfl := of_decide_eq_true hv
    exact AWX_cons (AWS_Ret (x := .d (.tup [.int x, .str ">=", .int (k + 1)])) (by walk_at "v") h)
  · obtain rfl := of_decide_eq_true hv
    exact AWX_cons (AWS_Ret (x := .d (.tup [.int x, .str "<=", .int (k - 1)])) (by walk_at "v") h)
  · obtain rfl := of_decide_eq_true hv
    show EV _ _ _ _ _ _ (.d (.tup [.int x, .str "!=", .int k]))
    walk_at "v"
  · obtain rfl : s = .ne := by cases s <;> first | rfl | exact absurd h1 (by decide) | exact absurd h2 (by decide) | exact absurd h3 (by decide)
    show EV _ _ _ _ _ _ (.d (.tup [.int x, .str "=", .int k]))
    walk_at "v"

end
end
section
open PySem PySem.W PyProof.Rows PySem.Calls
set_option maxRecDepth 100000
set_option linter.unusedVariables false
set_option maxHeartbeats 2000000

section
variable {c : Ctx} {n : Nat} {env : Env} {ρ : Loc} {st : St} {names : List (Str × NameKind)}
theorem meet1_cons (p : Int × Int) (r : Dom) (k : Int) : meet1 (p :: r) k = (if max p.1 k ≤ min p.2 k then [(max p.1 k, min p.2 k)] else []) ++ (if p.2 < k then meet1 r k else []) := rfl
theorem FV.lenT {xs : List D} (hl : xs.length ≤ 1000) : FV c n st (.builtin "len") [.d (.tup xs)] (.d (.int xs.length)) := ⟨OpF_lenT hl ⟨rfl, rfl⟩⟩
noncomputable def meetL (fa : Addr) (d : Dom) (k : Int) (pre j : Nat) : List (Str × V) := [("found", .o fa), ("d", .d (domD d)), ("e", .d (.tup [.tup [.int k, .int k]])), ("i", .d (.int pre)), ("j", .d (.int j))]
noncomputable def meetI (st : St) (fa : Addr) (d : Dom) (k : Int) (μ : Nat) (ρ : Loc) (s : St) : Prop :=
  ∃ (pre j : Nat) (fd : Dom), s = st.set fa (.lst (fd.map pairD)) ∧ Has (meetL fa d k pre j) ρ ∧ fd.length ≤ pre + j ∧ pre ≤ d.length ∧
    ((j = 0 ∧ fd ++ meet1 (d.drop pre) k = meet1 d k ∧ μ = d.length - pre + 1) ∨ (j = 1 ∧ fd = meet1 d k ∧ μ = 0))
theorem w_meet (P : Prg c) {d : Dom} {k : Int} {K : V → St → Prop} (hl : d.length ≤ 400) (hn : 1 ≤ n) (h : K (.d (domD (meet1 d k))) st) : AWC c n (.ref 73) [.d (domD d), .d (.tup [.tup [.int k, .int k]])] st K := by
  refine AWC.fin (x := .d (domD (meet1 d k))) ?_ h
  refine AWC_fn (L := 0) (pn := ["d", "e"]) (P.fn (st := top 10) rfl rfl (by rfl)) rfl hn fun m env hm E EK => ?_
  refine AWX_cons (AWS_Swap3 (x := "found") (y := "i") (z := "j") E EK (by rfl) (by rfl) (by rfl) (AWL_cons (AWE_LstM (EVL.nil.use ⟨[], rfl, Nat.zero_le _, fun fa hfa => EVL.use (x := [.d (.int 0), .d (.int 0)]) (by walk_at "v") ⟨_, _, _, rfl, ?_⟩⟩))) (by rfl))
  refine AWX_gen (l := meetL fa d k 0 0) (by walk_at "has") fun ρ0 H0 => ?_
  refine AWX_cons (AWS_While (AWW_ind (meetI st fa d k) (fun μ ρ s hq K2 h2 => ?_) (d.length + 1) _ _ ⟨0, 0, [], rfl, H0, Nat.le_refl _, Nat.zero_le _, .inl ⟨rfl, rfl, rfl⟩⟩))
  obtain ⟨pre, j, fd, rfl, H, hlen, hpl, hcase⟩ := hq
  have hld : FV c m (st.set fa (.lst (fd.map pairD))) (.builtin "len") [.d (domD d)] (.d (.int d.length)) := by
    have := FV.lenT (c := c) (n := m) (st := st.set fa (.lst (fd.map pairD))) (xs := d.map pairD) (by walk_at "m")
    rw [List.length_map] at this; exact this
  have eb : decide (pre < d.length ∧ j = 0) = (decide ((pre : Int) < d.length) && (decide ((j : Int) < 1) && true)) := by
    rw [Bool.and_true, ← Bool.decide_and, decide_eq_decide]; exact ⟨fun q => ⟨Int.ofNat_lt.mpr q.1, by rw [q.2]; decide⟩, fun q => ⟨Int.ofNat_lt.mp q.1, Nat.lt_one_iff.mp (Int.ofNat_lt.mp q.2)⟩⟩
  refine EVT.use (x := decide (pre < d.length ∧ j = 0)) ?_ (if_d (fun hc => ?_) fun hc => ?_)
  · rw [eb]
    exact EVT.and (EVT.cmp (x := .d (.int pre)) (y := .d (.int d.length)) (by walk_at "v") (EV.callB (by assumption) (by assumption) (by rfl) (by rfl) (by walk_at "bt") (EVL.cons (x := .d (domD d)) (by walk_at "v") EVL.nil) hld) CmpV.lt) fun u0 =>
      EVT.and (EVT.cmp (x := .d (.int j)) (y := .d (.int 1)) (by walk_at "v") (EV.callB (by assumption) (by assumption) (by rfl) (by rfl) (by walk_at "bt") (EVL.cons (x := .d (.tup [.tup [.int k, .int k]])) (by walk_at "v") EVL.nil) (FV.lenT (Nat.le_of_ble_eq_true rfl))) CmpV.lt) fun u0 => EVT.andNil
  · obtain ⟨hpre, rfl⟩ := hc
    obtain ⟨p, hp⟩ : ∃ p, d[pre]? = some p := ⟨_, List.getElem?_eq_getElem hpre⟩
    have hpm : (d.map pairD)[pre]? = some (pairD p) := by rw [List.getElem?_map, hp]; rfl
    have hdrop : d.drop pre = p :: d.drop (pre + 1) := by
      rw [List.drop_eq_getElem_cons hpre]; congr 1
      rw [List.getElem?_eq_getElem hpre] at hp; exact Option.some.inj hp
    obtain ⟨hinv, hμ⟩ : fd ++ meet1 (d.drop pre) k = meet1 d k ∧ μ = d.length - pre + 1 := hcase.elim (fun q => q.2) fun q => nomatch q.1
    rw [hdrop, meet1_cons] at hinv
    have hg : GV c m (st.set fa (.lst (fd.map pairD))) (.d (domD d)) (.d (.int pre)) (.d (pairD p)) := GV.tup hpm (by walk_at "o")
    refine AWX_cons (AWS_Swap2V (x := "low") (y := "high") (a := .d (.int (max p.1 k))) (b := .d (.int (min p.2 k))) E EK (by rfl) (by rfl) ?_ ?_ (by rfl))
    · refine EVL.cons (EV.callB (by assumption) (by assumption) (by rfl) (by rfl) (by walk_at "bt") (EVL.cons (EV.sub (x := .d (pairD p)) (EV.sub (by walk_at "v") (by walk_at "v") hg) EV.int GV.lit0) (EVL.cons (EV.sub (x := .d (.tup [.int k, .int k])) (EV.sub (x := .d (.tup [.tup [.int k, .int k]])) (y := .d (.int 0)) (by walk_at "v") (by walk_at "v") GV.lit0) EV.int GV.lit0) EVL.nil)) FV.max) ?_
      exact EVL.cons (EV.callB (by assumption) (by assumption) (by rfl) (by rfl) (by walk_at "bt") (EVL.cons (EV.sub (x := .d (pairD p)) (EV.sub (by walk_at "v") (by walk_at "v") hg) EV.int GV.lit1) (EVL.cons (EV.sub (x := .d (.tup [.int k, .int k])) (EV.sub (x := .d (.tup [.tup [.int k, .int k]])) (y := .d (.int 0)) (by walk_at "v") (by walk_at "v") GV.lit0) EV.int GV.lit1) EVL.nil)) FV.min) EVL.nil
    refine AWX_gen (l := ("low", .d (.int (max p.1 k))) :: ("high", .d (.int (min p.2 k))) :: meetL fa d k pre 0) (Has.mk2 (by walk_at "nm") (Has.mk2 (by walk_at "nm") ((H.upd rfl).upd rfl))) fun ρ2 H2 => ?_
    refine AWX_cut (fun ρ1 st1 => Has (meetL fa d k pre 0) ρ1 ∧ st1 = st.set fa (.lst ((fd ++ if max p.1 k ≤ min p.2 k then [(max p.1 k, min p.2 k)] else []).map pairD))) (fun K3 h3 => AWS_IfV (q := decide (max p.1 k ≤ min p.2 k)) (by walk_at "v") (fun hv => ?_) fun hv => ?_) ?_
    · refine AWX_cons (AWS_AppV (a := fa) (xs := fd.map pairD) (x := pairD (max p.1 k, min p.2 k)) E rfl (by walk_at "v") (St.set_same _ _ _) (by walk_at "v") (by walk_at "m") (AWX_nil (h3 ⟨by walk_at "has", ?_⟩)))
      rw [if_pos (of_decide_eq_true hv), St.set_set, List.map_append]; rfl
    · refine AWX_nil (h3 ⟨by walk_at "has", ?_⟩)
      rw [if_neg (of_decide_eq_false hv), List.append_nil]
    intro ρ1 s1 hq
    obtain ⟨H3, rfl⟩ := hq
    have hfl : (fd ++ if max p.1 k ≤ min p.2 k then [(max p.1 k, min p.2 k)] else []).length ≤ pre + 1 := by
      rw [List.length_append]; split <;> simp <;> walk_at "o"
    rw [← List.append_assoc] at hinv
    generalize (fd ++ if max p.1 k ≤ min p.2 k then [(max p.1 k, min p.2 k)] else []) = fd' at hfl hinv
    have hg2 : GV c m (st.set fa (.lst (fd'.map pairD))) (.d (domD d)) (.d (.int pre)) (.d (pairD p)) := GV.tup hpm (by walk_at "o")
    refine AWX_cons (AWS_IfV (q := decide (p.2 < k)) (EVT.cmp (x := .d (.int p.2)) (y := .d (.int k)) (EV.sub (x := .d (pairD p)) (EV.sub (by walk_at "v") (by walk_at "v") hg2) EV.int GV.lit1) (EV.sub (x := .d (.tup [.int k, .int k])) (EV.sub (x := .d (.tup [.tup [.int k, .int k]])) (y := .d (.int 0)) (by walk_at "v") (by walk_at "v") GV.lit0) EV.int GV.lit1) CmpV.lt) (fun hlt => ?_) fun hlt => ?_)
    · rw [if_pos (of_decide_eq_true hlt)] at hinv
      exact AWX_cons (AWS_Set (v := .d (.int ((pre : Int) + 1))) EK (by rfl) (by walk_at "v") (AWX_nil (AWX_nil (h2 ⟨d.length - (pre + 1) + 1, by walk_at "o", pre + 1, 0, fd', rfl, by walk_at "has", by walk_at "o", by walk_at "o", .inl ⟨rfl, hinv, rfl⟩⟩))))
    · rw [if_neg (of_decide_eq_false hlt), List.append_nil] at hinv
      exact AWX_cons (AWS_Set (v := .d (.int ((0 : Int) + 1))) EK (by rfl) (by walk_at "v") (AWX_nil (AWX_nil (h2 ⟨0, by walk_at "o", pre, 1, fd', rfl, by walk_at "has", by walk_at "o", by walk_at "o", .inr ⟨rfl, hinv, rfl⟩⟩))))
  · have efd : fd = meet1 d k := hcase.elim (fun q => by
      obtain ⟨e0, e, _⟩ := q
      rw [List.drop_of_length_le (by walk_at "o")] at e
      rw [← e]; exact (List.append_nil _).symm) fun q => q.2.1
    refine AWX_nil (AWX_cons (AWS_Ret (x := .d (.tup (fd.map pairD))) (EV.callT (by assumption) (by assumption) (by rfl) (by rfl) (by walk_at "bt") (EVL.cons (x := .o fa) (by walk_at "v") EVL.nil) (FV.tupL (.obj (St.set_same _ _ _)) (by walk_at "m"))) ⟨?_, Sub.set hfa⟩))
    rw [efd]; rfl

end
end
section
open PySem PySem.W PyProof.Rows PySem.Calls
set_option maxRecDepth 100000
set_option linter.unusedVariables false
set_option maxHeartbeats 2000000

section
variable {c : Ctx} {n : Nat} {env : Env} {ρ : Loc} {st : St} {names : List (Str × NameKind)}
theorem sgNe {s : Sg} (h1 : decide (s = .le) = false) (h2 : decide (s = .ge) = false) (h3 : decide (s = .eq) = false) : s = .ne := by
  cases s with
  | ne => rfl
  | le => exact absurd h1 (by decide)
  | ge => exact absurd h2 (by decide)
  | eq => exact absurd h3 (by decide)
theorem sgGe {s : Sg} (h1 : decide (s = .eq) = false) (h2 : decide (s = .ne) = false) (h3 : decide (s = .le) = false) : s = .ge := by
  cases s with
  | ge => rfl
  | eq => exact absurd h1 (by decide)
  | ne => exact absurd h2 (by decide)
  | le => exact absurd h3 (by decide)
theorem w_struck (P : Prg c) {l : Lit} {d : Dom} {K : V → St → Prop} (hl : d.length ≤ 400) (hn : 3 ≤ n) (h : K (.d (domD (struck l d))) st) : AWC c n (.ref 87) [.d (litD l), .d (domD d)] st K := by
  refine AWC_fn (L := 2) (pn := ["literal", "d"]) (P.fn (st := top 12) rfl rfl (by rfl)) rfl hn fun m env hm E EK => ?_
  obtain ⟨x, s, k⟩ := l
  have o1 : 1 ≤ m := Nat.le_trans (Nat.le_of_ble_eq_true rfl) hm
  refine AWX_cons (AWS_Swap2V (x := "sign") (y := "k") E EK (by rfl) (by rfl) (by walk_at "v") ?_ (by rfl))
  refine AWX_gen (l := [("sign", .d (.str s.str)), ("k", .d (.int k)), ("d", .d (domD d))]) (by walk_at "has") fun ρ H => ?_
  refine AWX_cons (AWS_IfV (q := decide (s = .le)) (by walk_at "v") (fun hv => ?_) fun h1 => AWX_nil (AWX_cons (AWS_IfV (q := decide (s = .ge)) (by walk_at "v") (fun hv => ?_) fun h2 => AWX_nil (AWX_cons (AWS_Ret (EV.ite (q := decide (s = .eq)) (by walk_at "v") (fun hv => ?_) fun h3 => ?_) h)))))
  · obtain rfl := of_decide_eq_true hv
    exact AWX_cons (AWS_Ret (EV.callG (by assumption) (by assumption) (by rfl) (by rfl) (by rfl) (by walk_at "v") ⟨w_upTo P hl o1 ⟨rfl, rfl⟩⟩) h)
  · obtain rfl := of_decide_eq_true hv
    exact AWX_cons (AWS_Ret (EV.callG (by assumption) (by assumption) (by rfl) (by rfl) (by rfl) (by walk_at "v") ⟨w_fromOn P hl o1 ⟨rfl, rfl⟩⟩) h)
  · obtain rfl := of_decide_eq_true hv
    exact EV.callG (by assumption) (by assumption) (by rfl) (by rfl) (by rfl) (by walk_at "v") ⟨w_meet P hl o1 ⟨rfl, rfl⟩⟩
  · obtain rfl := sgNe h1 h2 h3
    exact EV.callG (by assumption) (by assumption) (by rfl) (by rfl) (by rfl) (by walk_at "v") ⟨w_without P hl hm ⟨rfl, rfl⟩⟩
theorem w_saidOf (P : Prg c) {l : Lit} {d : Dom} {K : V → St → Prop} (hl : d.length ≤ 400) (hn : 4 ≤ n) (h : K (.d (.int (saidOf l d))) st) : AWC c n (.ref 94) [.d (litD l), .d (domD d)] st K := by
  refine AWC_fn (L := 3) (pn := ["literal", "d"]) (P.fn (st := top 13) rfl rfl (by rfl)) rfl hn fun m env hm E EK => ?_
  refine AWX_cons (AWS_Set (v := .d (domD (struck l d))) EK (by rfl) (EV.callG (by assumption) (by assumption) (by rfl) (by rfl) (by rfl) (by walk_at "v") ⟨w_struck P hl hm ⟨rfl, rfl⟩⟩) ?_)
  have e : saidOf l d = if struck l d = d then 1 else if struck l d = [] then -1 else 0 := rfl
  rw [e] at h
  generalize struck l d = kd at h
  refine AWX_cons (AWS_IfV (q := decide (kd = d)) (EVT.cmp (x := .d (domD kd)) (y := .d (domD d)) (by walk_at "v") (by walk_at "v") (CmpV.eqb (OK_dom _) (OK_dom _) (by decide) (by decide) ⟨fun e => by rw [of_decide_eq_true e], fun e => decide_eq_true (domD_inj e)⟩)) (fun hv => ?_) fun hv => AWX_nil ?_)
  · rw [if_pos (of_decide_eq_true hv)] at h
    exact AWX_cons (AWS_Ret EV.int h)
  rw [if_neg (of_decide_eq_false hv)] at h
  refine AWX_cons (AWS_Ret (EV.ite (q := decide (kd = [])) (EVT.cmp (x := .d (domD kd)) (y := .d (.tup [])) (by walk_at "v") (by walk_at "v") (CmpV.eqb (OK_dom _) (OK_dom []) (by decide) (by decide) ⟨fun e => by rw [of_decide_eq_true e]; rfl, fun e => decide_eq_true (domD_inj (e := []) e)⟩)) (fun hv => ?_) fun hv => ?_) h)
  · rw [if_pos (of_decide_eq_true hv)]; exact EV.un EV.int UV.neg
  · rw [if_neg (of_decide_eq_false hv)]; exact EV.int
theorem w_isMet (P : Prg c) {l : Lit} {v : Int} {K : V → St → Prop} (hn : 1 ≤ n) (h : K (.d (.bool (isMet l v))) st) : AWC c n (.ref 158) [.d (litD l), .d (.int v)] st K := by
  refine AWC_fn (L := 0) (pn := ["literal", "v"]) (P.fn (st := top 18) rfl rfl (by rfl)) rfl hn fun m env hm E EK => ?_
  obtain ⟨x, s, k⟩ := l
  refine AWX_cons (AWS_Swap2V (x := "sign") (y := "k") E EK (by rfl) (by rfl) (by walk_at "v") ?_ (by rfl))
  refine AWX_gen (l := [("sign", .d (.str s.str)), ("k", .d (.int k)), ("v", .d (.int v))]) (by walk_at "has") fun ρ H => ?_
  refine AWX_cons (AWS_IfV (q := decide (s = .le)) (by walk_at "v") (fun hv => ?_) fun h1 => AWX_nil (AWX_cons (AWS_IfV (q := decide (s = .ge)) (by walk_at "v") (fun hv => ?_) fun h2 => AWX_nil (AWX_cons (AWS_Ret (EV.ite (q := decide (s = .eq)) (by walk_at "v") (fun hv => ?_) fun h3 => ?_) h)))))
  · obtain rfl := of_decide_eq_true hv
    exact AWX_cons (AWS_Ret (EV.cmp (by walk_at "v") (by walk_at "v") CmpV.le) h)
  · obtain rfl := of_decide_eq_true hv
    exact AWX_cons (AWS_Ret (EV.cmp (by walk_at "v") (by walk_at "v") CmpV.ge) h)
  · obtain rfl := of_decide_eq_true hv
    exact EV.cmp (x := .d (.int v)) (y := .d (.int k)) (b := decide (v = k)) (by walk_at "v") (by walk_at "v") CmpV.eqi
  · obtain rfl := sgNe h1 h2 h3
    exact EV.cmp (x := .d (.int v)) (y := .d (.int k)) (b := decide (v ≠ k)) (by walk_at "v") (by walk_at "v") CmpV.nei
theorem implies_same {x : Nat} {s t : Sg} {k j : Int} : implies ⟨x, s, k⟩ ⟨x, t, j⟩ = match s with
  | .eq => isMet ⟨x, t, j⟩ k
  | .ne => decide ((⟨x, .ne, k⟩ : Lit) = ⟨x, t, j⟩)
  | .le => (decide (t = .le) && decide (k ≤ j)) || (decide (t = .ne) && decide (k < j))
  | .ge => (decide (t = .ge) && decide (j ≤ k)) || (decide (t = .ne) && decide (j < k)) := by
  unfold implies; rw [if_neg (fun h => h rfl)]; cases s <;> rfl
theorem w_implies (P : Prg c) {a b : Lit} {K : V → St → Prop} (hn : 2 ≤ n) (h : K (.d (.bool (implies a b))) st) : AWC c n (.ref 165) [.d (litD a), .d (litD b)] st K := by
  refine AWC_fn (L := 1) (pn := ["one", "other"]) (P.fn (st := top 19) rfl rfl (by rfl)) rfl hn fun m env hm E EK => ?_
  obtain ⟨x, s, k⟩ := a
  obtain ⟨y, t, j⟩ := b
  refine AWX_cons (AWS_Swap2V (x := "sign") (y := "k") E EK (by rfl) (by rfl) (by walk_at "v") ?_ (by rfl))
  refine AWX_gen (l := [("sign", .d (.str s.str)), ("k", .d (.int k)), ("one", .d (litD ⟨x, s, k⟩)), ("other", .d (litD ⟨y, t, j⟩))]) (by walk_at "has") fun ρ H => ?_
  refine AWX_cons (AWS_IfV (q := decide ((x : Int) ≠ y)) (by walk_at "v") (fun hv => ?_) fun hv => AWX_nil ?_)
  · have e : implies ⟨x, s, k⟩ ⟨y, t, j⟩ = false := if_pos (fun e => of_decide_eq_true hv (congrArg Nat.cast e))
    rw [e] at h
    exact AWX_cons (AWS_Ret EV.bool h)
  obtain rfl : x = y := Int.ofNat.inj (Decidable.not_not.mp (of_decide_eq_false hv))
  rw [implies_same] at h
  refine AWX_cons (AWS_IfV (q := decide (s = .eq)) (by walk_at "v") (fun hv => ?_) fun h1 => AWX_nil (AWX_cons (AWS_IfV (q := decide (s = .ne)) (by walk_at "v") (fun hv => ?_) fun h2 => AWX_nil (AWX_cons (AWS_IfV (q := decide (s = .le)) (by walk_at "v") (fun hv => ?_) fun h3 => AWX_nil ?_)))))
  · obtain rfl := of_decide_eq_true hv
    exact AWX_cons (AWS_Ret (EV.callG (by assumption) (by assumption) (by rfl) (by rfl) (by rfl) (by walk_at "v") ⟨w_isMet (l := ⟨x, t, j⟩) P hm ⟨rfl, rfl⟩⟩) h)
  · obtain rfl := of_decide_eq_true hv
    exact AWX_cons (AWS_Ret (EV.cmp (x := .d (litD ⟨x, .ne, k⟩)) (y := .d (litD ⟨x, t, j⟩)) (by walk_at "v") (by walk_at "v") (CmpV.eqb (OK_lit _) (OK_lit _) (by decide) (by decide) ⟨fun e => by rw [of_decide_eq_true e], fun e => decide_eq_true (litD_inj e)⟩)) h)
  · obtain rfl := of_decide_eq_true hv
    exact AWX_cons (AWS_Ret (x := .d (.bool ((decide (t = .le) && decide (k ≤ j)) || (decide (t = .ne) && decide (k < j))))) (by walk_at "v") h)
  · obtain rfl := sgGe h1 h2 h3
    exact AWX_cons (AWS_Ret (x := .d (.bool ((decide (t = .ge) && decide (j ≤ k)) || (decide (t = .ne) && decide (j < k))))) (by walk_at "v") h)

end
end
section
open PySem PySem.W PyProof.Rows PySem.Calls
set_option maxRecDepth 100000
set_option linter.unusedVariables false
set_option maxHeartbeats 2000000

section
variable {c : Ctx} {n : Nat} {env : Env} {ρ : Loc} {st : St} {names : List (Str × NameKind)}
theorem rangeI_eq : ∀ (k : Nat) (lo : Int), rangeD lo k = (rangeI lo k).map .int
  | 0, _ => rfl
  | k + 1, lo => by rw [rangeD_succ, rangeI, List.map_cons, rangeI_eq k]
theorem rangeI_len : ∀ (k : Nat) (lo : Int), (rangeI lo k).length = k
  | 0, _ => rfl
  | k + 1, lo => by rw [rangeI, List.length_cons, rangeI_len k]
theorem OK_strs {xs : List Str} (h : ∀ x ∈ xs, PyData.strOk x = true) : OK 1 (.tup (xs.map .str)) := .tup fun x hx => by
  refine ex1_2 (List.mem_map.mp hx) fun y hy hr1 => ?_; subst hr1; exact .str (h y hy)
theorem strOk_sg (s : Sg) : PyData.strOk s.str = true := by cases s <;> decide +kernel
theorem CmpV.inSg {s a b : Sg} {x y : Str} (hx : x = a.str) (hy : y = b.str) : CmpV c n st .In (.d (.str s.str)) (.d (.tup [.str x, .str y])) (decide (s = a ∨ s = b)) := by
  subst hx; subst hy
  refine ⟨OpC_InT (q := decide (s = a ∨ s = b)) (OK_strs (xs := [a.str, b.str]) (by intro x hx; simp at hx; rcases hx with rfl | rfl <;> exact strOk_sg _)) (.str (n := 0) (strOk_sg s)) (by decide) (by decide) ?_ ⟨rfl, rfl⟩⟩
  rw [decide_eq_true_eq]
  simp only [List.mem_cons, List.not_mem_nil, or_false, D.str.injEq]
  exact ⟨fun e => e.imp (fun e => by rw [e]) (fun e => by rw [e]), fun e => e.imp Sg.str_inj Sg.str_inj⟩
noncomputable def eldL (l w : Lit) (d : Dom) (fa : Addr) : List (Str × V) := [("x", .d (.int l.x)), ("sign", .d (.str l.s.str)), ("low", .d (.int (least d))), ("high", .d (.int (greatest d))), ("found", .o fa), ("literal", .d (litD l)), ("before", .d (domD d)), ("wanted", .d (litD w))]
theorem w_elders (P : Prg c) {l w : Lit} {d : Dom} {K : V → St → Prop} (hd : d ≠ []) (hl : d.length ≤ 100) (hb : (-100 ≤ least d ∧ least d ≤ 100) ∧ (-100 ≤ greatest d ∧ greatest d ≤ 100)) (hn : 3 ≤ n) (h : ∀ a, st a = none → K (.o a) (st.set a (.lst ((elders l d w).map litD)))) :
    AWC c n (.ref 172) [.d (litD l), .d (domD d), .d (litD w)] st K := by
  refine AWC_fn (L := 2) (pn := ["literal", "before", "wanted"]) (P.fn (st := top 20) rfl rfl (by rfl)) rfl hn fun m env hm E EK => ?_
  refine AWX_cons (AWS_IfV (q := implies l w) ?_ (fun hi => ?_) fun hi => ?_)
  · walk_at "v"
    exact ⟨w_implies P hm ⟨rfl, rfl⟩⟩
  · refine AWX_cons (AWS_Return (AWE_LstM (EVL.nil.use ⟨[], rfl, Nat.zero_le _, fun a ha => ?_⟩)))
    have e : elders l d w = [] := by unfold elders; rw [if_pos hi]
    have := h a ha
    rw [e] at this; exact this
  · refine AWX_nil ?_
    obtain ⟨x, s, k⟩ := l
    obtain ⟨y, t, j⟩ := w
    refine AWX_cons (AWS_Swap2V (x := "x") (y := "sign") E EK (by rfl) (by rfl) (by walk_at "v") ?_ (by rfl))
    refine AWX_cons ?_
    refine AWS_Swap3 (x := "low") (y := "high") (z := "found") E EK (by rfl) (by rfl) (by rfl) ?_ (by rfl)
    refine AWL_cons (EV.use (x := .d (.int (least d))) (by walk_at "v"; exact ⟨w_least P hd (by walk_at "o") ⟨rfl, rfl⟩⟩) ?_)
    refine AWL_cons (EV.use (x := .d (.int (greatest d))) (by walk_at "v"; exact ⟨w_greatest P hd hl (by walk_at "o") ⟨rfl, rfl⟩⟩) ?_)
    refine AWL_cons (AWE_LstM (EVL.nil.use ⟨[], rfl, Nat.zero_le _, fun fa hfa => ?_⟩))
    refine AWL_nil ⟨_, _, _, rfl, ?_⟩
    refine AWX_gen (l := eldL ⟨x, s, k⟩ ⟨y, t, j⟩ d fa) (by walk_at "has") fun ρ H => ?_
    refine AWX_cut (fun ρ1 st1 => Has (eldL ⟨x, s, k⟩ ⟨y, t, j⟩ d fa) ρ1 ∧ st1 = st.set fa (.lst ((if (s = .ge ∨ s = .ne) ∧ (t = .le ∨ t = .eq) then [⟨x, .le, greatest d⟩] else []).map litD))) (fun K2 h2 => AWS_IfV (q := decide (s = .ge ∨ s = .ne) && (decide (t = .le ∨ t = .eq) && true)) ?_ (fun hq => ?_) fun hq => ?_) ?_
    · walk_at "v"
      · exact CmpV.inSg rfl rfl
      walk_at "v"
      · exact CmpV.inSg rfl rfl
      walk_at "v"
    · refine AWX_cons (AWS_AppV (xs := []) E rfl (by walk_at "v") (St.set_same _ _ _) (x := litD ⟨x, .le, greatest d⟩) (by walk_at "v") (by decide) ?_)
      refine AWX_nil (h2 ⟨H, ?_⟩)
      rw [if_pos (by simpa using hq), St.set_set]; rfl
    · refine AWX_nil (h2 ⟨H, ?_⟩)
      rw [if_neg (by simpa using hq)]; rfl
    intro ρ _ hq1; refine ex0_2 hq1 fun H hr1 => ?_; clear hq1; subst hr1
    generalize hA : (if (s = .ge ∨ s = .ne) ∧ (t = .le ∨ t = .eq) then [(⟨x, .le, greatest d⟩ : Lit)] else []) = A
    have hAl : A.length ≤ 1 := by rw [← hA]; split <;> simp
    refine AWX_cut (fun ρ1 st1 => Has (eldL ⟨x, s, k⟩ ⟨y, t, j⟩ d fa) ρ1 ∧ st1 = st.set fa (.lst ((A ++ (if (s = Sg.le ∨ s = Sg.ne) ∧ (t = Sg.ge ∨ t = Sg.eq) then [(⟨x, .ge, least d⟩ : Lit)] else [])).map litD))) (fun K2 h2 => AWS_IfV (q := decide (s = .le ∨ s = .ne) && (decide (t = .ge ∨ t = .eq) && true)) ?_ (fun hq => ?_) fun hq => ?_) ?_
    · walk_at "v"
      · exact CmpV.inSg rfl rfl
      walk_at "v"
      · exact CmpV.inSg rfl rfl
      walk_at "v"
    · refine AWX_cons (AWS_AppV (xs := A.map litD) E rfl (by walk_at "v") (St.set_same _ _ _) (x := litD ⟨x, .ge, least d⟩) (by walk_at "v") (by walk_at "m") ?_)
      refine AWX_nil (h2 ⟨H, ?_⟩)
      rw [if_pos (by simpa using hq), St.set_set, List.map_append]; rfl
    · refine AWX_nil (h2 ⟨H, ?_⟩)
      rw [if_neg (by simpa using hq), List.append_nil]
    intro ρ _ hq1; refine ex0_2 hq1 fun H hr1 => ?_; clear hq1; subst hr1
    generalize hB : (A ++ (if (s = Sg.le ∨ s = Sg.ne) ∧ (t = Sg.ge ∨ t = Sg.eq) then [(⟨x, .ge, least d⟩ : Lit)] else [])) = B
    have hBl : B.length ≤ 2 := by rw [← hB, List.length_append]; split <;> simp <;> walk_at "o"
    refine AWX_cons (AWS_ForV (v := .d (.rng (least d) (greatest d + 1))) (by walk_at "v") (OpI_rng ?_ ?_))
    · exact small_one (by walk_at "o") (by walk_at "o") (by walk_at "o") (by walk_at "o")
    rw [rangeI_eq]
    let f : Int → Bool := fun v => !hasV d v && isMet ⟨x, s, k⟩ v && !isMet ⟨y, t, j⟩ v
    let g : Int → Lit := fun v => ⟨x, .ne, v⟩
    have hrl := rangeI_len (greatest d + 1 - least d).toNat (least d)
    refine AWF_ind (fun r ρ1 st1 => ∃ B', st1 = st.set fa (.lst (B'.map litD)) ∧ B' ++ (r.filter f).map g = B ++ ((rangeI (least d) (greatest d + 1 - least d).toNat).filter f).map g ∧ B'.length + r.length ≤ 2 + (greatest d + 1 - least d).toNat ∧
      Has [("x", .d (.int x)), ("found", .o fa), ("literal", .d (litD ⟨x, s, k⟩)), ("before", .d (domD d)), ("wanted", .d (litD ⟨y, t, j⟩))] ρ1) ?_ ?_ _ _ _ ⟨B, rfl, rfl, by rw [hrl]; walk_at "o", by walk_at "has"⟩
    · intro ρ1 _ hq1; refine ex1_4 hq1 fun B' hr1 e hBl' H1 => ?_; clear hq1; subst hr1
      refine AWX_nil ?_
      refine AWX_cons (AWS_Ret (x := .o fa) (by walk_at "v") ?_)
      have := h fa hfa
      rw [List.filter_nil, List.map_nil, List.append_nil] at e
      have e2 : elders ⟨x, s, k⟩ d ⟨y, t, j⟩ = B' := by
        unfold elders
        rw [if_neg (by rw [hi]; decide), e, ← hB, ← hA]
      rw [e2] at this; exact this
    · intro v r ρ1 _ hq1 K2 h2; refine ex1_4 hq1 fun B' hr1 e hBl' H1 => ?_; clear hq1; subst hr1
      refine AWA_Name (EK.keeps (by rfl)) ?_
      refine AWX_cons (AWS_IfV (q := f v) ?_ (fun hq => ?_) fun hq => ?_)
      · rw [show f v = (!hasV d v && (isMet ⟨x, s, k⟩ v && (!isMet ⟨y, t, j⟩ v && true))) by simp [f, Bool.and_assoc]]
        walk_at "v"
        · exact ⟨w_has P hm ⟨rfl, rfl⟩⟩
        walk_at "v"
        · exact ⟨w_isMet (l := ⟨x, s, k⟩) P (by walk_at "o") ⟨rfl, rfl⟩⟩
        walk_at "v"
        · exact ⟨w_isMet (l := ⟨y, t, j⟩) P (by walk_at "o") ⟨rfl, rfl⟩⟩
        walk_at "v"
      · refine AWX_cons (AWS_AppV (xs := B'.map litD) E rfl (by walk_at "v") (St.set_same _ _ _) (x := litD ⟨x, .ne, v⟩) (by walk_at "v") (by simp; simp at hBl'; walk_at "o") ?_)
        refine AWX_nil (AWX_nil (h2 ⟨fun a ha => ?_, B' ++ [g v], ?_, ?_, ?_, H1.upd rfl⟩))
        · cases ha
        · rw [St.set_set, List.map_append]; rfl
        · rw [List.filter_cons_of_pos hq] at e; rw [List.append_assoc]; exact e
        · simp only [List.length_append, List.length_cons, List.length_nil] at hBl' ⊢; walk_at "o"
      · refine AWX_nil (AWX_nil (h2 ⟨fun a ha => ?_, B', rfl, ?_, ?_, H1.upd rfl⟩))
        · cases ha
        · rw [List.filter_cons_of_neg (by rw [hq]; decide)] at e; exact e
        · simp only [List.length_cons] at hBl'; walk_at "o"

end
end
section
open PySem PySem.W PyProof.Rows PySem.Calls
set_option maxRecDepth 100000
set_option linter.unusedVariables false
set_option maxHeartbeats 2000000

section
variable {c : Ctx} {n : Nat} {env : Env} {ρ : Loc} {st : St} {names : List (Str × NameKind)}
noncomputable def attrsOf (l : List (Str × V)) : Loc := fun x => l.lookup x
noncomputable def setL : List (Str × V) → Str → V → List (Str × V)
  | [], x, p => [(x, p)]
  | (y, v) :: r, x, p => if x == y then (y, p) :: r else (y, v) :: setL r x p
theorem setL_lookup (x : Str) (p : V) (z : Str) : ∀ l : List (Str × V), (setL l x p).lookup z = if z = x then some p else l.lookup z
  | [] => by
    unfold setL
    by_cases h : z = x
    · subst h; simp
    · rw [if_neg h, List.lookup_cons]; have : (z == x) = false := by simpa using h
      rw [this]
  | (y, v) :: r => by
    have ih := setL_lookup x p z r
    unfold setL
    by_cases hxy : x = y
    · subst hxy
      rw [if_pos (by simp), List.lookup_cons, List.lookup_cons]
      by_cases h : z = x
      · subst h; simp
      · have : (z == x) = false := by simpa using h
        rw [this, if_neg h]
    · rw [if_neg (by simpa using hxy), List.lookup_cons, List.lookup_cons, ih]
      by_cases h : z = x
      · subst h
        have : (z == y) = false := by simpa using hxy
        rw [this, if_pos rfl]
      · simp only [if_neg h]
theorem attrs_upd (l : List (Str × V)) (x : Str) (p : V) : upd (attrsOf l) x p = attrsOf (setL l x p) := by
  funext z; unfold upd attrsOf; rw [setL_lookup]
theorem attrs_nil : (fun u0 => none : Loc) = attrsOf [] := rfl

theorem cls_store (P : Prg c) : ClsOK c 403 := ⟨by rw [P.K]; rfl, by rw [P.K]; rfl, by rw [P.K]; rfl, by rw [P.K]; rfl, by rw [P.K]; rfl⟩
theorem cls_an (P : Prg c) : ClsOK c 249 := ⟨by rw [P.K]; rfl, by rw [P.K]; rfl, by rw [P.K]; rfl, by rw [P.K]; rfl, by rw [P.K]; rfl⟩
theorem mk_store (P : Prg c) : MkOK c 403 267 := ⟨by rw [P.K]; kernel_rfl, by rw [P.K]; rfl, by rw [P.K]; rfl, by rw [P.K]; kernel_rfl⟩
theorem mk_an (P : Prg c) : MkOK c 249 193 := ⟨by rw [P.K]; kernel_rfl, by rw [P.K]; rfl, by rw [P.K]; rfl, by rw [P.K]; kernel_rfl⟩

structure Sto where
  doms : List Dom
  firsts : List Dom
  tr : List Ent
  marks : List Nat
  failed : Bool
  clash : List Lit
structure SLoc where
  S : Addr
  dx : Addr
  aD : Addr
  aF : Addr
  aT : Addr
  aM : Addr
  aN : Addr
noncomputable def SLoc.all (L : SLoc) : List Addr := [L.S, L.aD, L.aF, L.aT, L.aM, L.aN]
noncomputable def sList (L : SLoc) (t : Sto) : List (Str × V) := [("domains", .o L.aD), ("firsts", .o L.aF), ("trail", .o L.aT), ("marks", .o L.aM), ("news", .o L.aN), ("speaker", .d (.int (-1))), ("is_failed", .d (.bool t.failed)), ("clash", .d (.tup (t.clash.map litD)))]
noncomputable def natD (k : Nat) : D := .int k
structure SAt (st : St) (L : SLoc) (t : Sto) : Prop where
  S : st L.S = some (.inst 403 L.dx 8 (attrsOf (sList L t)))
  D : st L.aD = some (.lst (t.doms.map domD))
  F : st L.aF = some (.lst (t.firsts.map domD))
  T : st L.aT = some (.lst (t.tr.map entD))
  M : st L.aM = some (.lst (t.marks.map natD))
  N : ∃ ep es, st L.aN = some (.dI ep es) ∧ es.length ≤ t.tr.length
  nd : L.all.Nodup
noncomputable def Only (L : List Addr) (st st' : St) : Prop := ∀ a, a ∉ L → st' a = st a
theorem Only.rfl {L : List Addr} {st : St} : Only L st st := fun u0 u1 => Eq.refl _
theorem Only.trans {L : List Addr} {s1 s2 s3 : St} (h : Only L s1 s2) (h' : Only L s2 s3) : Only L s1 s3 := fun a ha => (h' a ha).trans (h a ha)
theorem Only.set {L : List Addr} {st : St} {a : Addr} {ob : Ob} (h : a ∈ L) : Only L st (st.set a ob) := fun b hb => St.set_other _ _ (by rintro rfl; exact hb h)

theorem AWS_SetAttr {o e : Expr} {x : Str} {ap pos : Pos} {a Cc dx : Addr} {k : Nat} {l : List (Str × V)} {p : V} {K : Fl → Loc → St → Prop} (P : Prg c) (h1 : EV c n env ρ st e p) (h2 : EV c n env ρ st o (.o a)) (hs : st a = some (.inst Cc dx k (attrsOf l))) (ok : ClsOK c Cc) (hf : findIn (KF c.w.params) (.ref Cc) x = some none)
    (hk : k < 1000) (k1 : K .next ρ (st.set a (.inst Cc dx (if (l.lookup x).isSome = true then k else k + 1) (attrsOf (setL l x p))))) (hsw : swapsWith e (some (.Attribute o x ap)) pos.line env = pure false := by rfl) : AWS c n env ρ st (.Assign [.Attribute o x ap] e pos) K :=
  AWS_AssignAttr P.ok (h1.use (h2.use ⟨a, Cc, dx, k, attrsOf l, rfl, hs, ok, by rw [P.K]; exact hf, hk, by rw [attrs_upd]; exact k1⟩)) hsw

structure HAt (st : St) (S aD : Addr) (doms : List Dom) : Prop where
  S : ∃ dx k l, st S = some (.inst 403 dx k (attrsOf l)) ∧ l.lookup ("domains" : Str) = some (.o aD) ∧ l.lookup ("holds" : Str) = none
  D : st aD = some (.lst (doms.map domD))
theorem SAt.h {L : SLoc} {t : Sto} (s : SAt st L t) : HAt st L.S L.aD t.doms := ⟨⟨_, _, _, s.S, rfl, rfl⟩, s.D⟩
theorem w_holds (P : Prg c) {S aD : Addr} {doms : List Dom} {l : Lit} {d : Dom} {K : V → St → Prop} (s : HAt st S aD doms) (hd : doms[l.x]? = some d) (hl : d.length ≤ 400) (hx : l.x < 100) (hn : 5 ≤ n) (h : K (.d (.int (saidOf l d))) st) : AWC c n (.ref 344) [.o S, .d (litD l)] st K := by
  refine AWC_fn (L := 4) (pn := ["self", "literal"]) (P.fn (st := meth 24 11) rfl rfl (by rfl)) rfl hn fun m env hm E EK => ?_
  obtain ⟨⟨dx, k, lst, hS, hl1, hl2⟩, hD⟩ := s
  refine AWX_cons (AWS_Ret (x := .d (.int (saidOf l d))) ?_ h)
  walk_at "v"
  · exact EV.attr P (by walk_at "v") hS (cls_store P) (by rfl) hl1
  walk_at "v"
  · exact GV.mlst hD (by rw [List.getElem?_map, hd]; rfl) (by walk_at "o")
  walk_at "v"
  exact ⟨w_saidOf P hl hm ⟨rfl, rfl⟩⟩

end
end
section
open PySem PySem.W PyProof.Rows PySem.Calls
set_option maxRecDepth 100000
set_option linter.unusedVariables false
set_option maxHeartbeats 2000000

section
variable {c : Ctx} {n : Nat} {env : Env} {ρ : Loc} {st : St} {names : List (Str × NameKind)}
theorem AWE_M {o : Expr} {x : Str} {apos pos : Pos} {e : Expr} {es : List Expr} {pl : Sem Bool} {a Cc dx f : Addr} {k : Nat} {attrs : Loc} {ps : List V} {K : V → St → Prop} {name qual : Str} {s0 : Stmt} {cd md ct : Value} {cl : List (Str × Addr)} (P : Prg c) (h : EV c n env ρ st o (.o a)) (hs : st a = some (.inst Cc dx k attrs)) (ok : ClsOK c Cc)
    (hx : attrs x = Option.none) (hf : findIn (KF c.w.params) (.ref Cc) x = some (some (.ref f))) (hfn : (KF c.w.params).lookup f = some (fnO name qual s0 cd md ct cl)) (ha : EVL c n env ρ st (e :: es) ps) (hc : AWC c n (.ref f) (.o a :: ps) st K)
    (he : eval (.Call (.Attribute o x apos) (e :: es) [] pos) env = (do
      let ov ← eval o env
      standAt apos.atName
      let (f, first) ← holding [ov] (getMethod ov x pl)
      callWith pos f first (backTo pos (starEach (e :: es) env)) []) := by rfl) (hs' : starEach (e :: es) env = (false, eval e env) :: starEach es env := by rfl) :
    AWE c n env ρ st (.Call (.Attribute o x apos) (e :: es) [] pos) K :=
  AWE_CallM P.ok (h.use ⟨a, Cc, dx, k, attrs, f, rfl, hs, hx, ok, by rw [P.K]; exact hf, by rw [P.K]; exact typeIn_fn hfn, P.isFn hfn, ha.use hc⟩) he hs'
theorem AWE_M0 {o : Expr} {x : Str} {apos pos : Pos} {pl : Sem Bool} {a Cc dx f : Addr} {k : Nat} {attrs : Loc} {K : V → St → Prop} {name qual : Str} {s0 : Stmt} {cd md ct : Value} {cl : List (Str × Addr)} (P : Prg c) (h : EV c n env ρ st o (.o a)) (hs : st a = some (.inst Cc dx k attrs)) (ok : ClsOK c Cc)
    (hx : attrs x = Option.none) (hf : findIn (KF c.w.params) (.ref Cc) x = some (some (.ref f))) (hfn : (KF c.w.params).lookup f = some (fnO name qual s0 cd md ct cl)) (hc : AWC c n (.ref f) [.o a] st K)
    (he : eval (.Call (.Attribute o x apos) [] [] pos) env = (do
      let ov ← eval o env
      standAt apos.atName
      let (f, first) ← holding [ov] (getMethod ov x pl)
      callWith pos f first (backTo pos (starEach [] env)) []) := by rfl) :
    AWE c n env ρ st (.Call (.Attribute o x apos) [] [] pos) K :=
  AWE_CallM0 P.ok (h.use ⟨a, Cc, dx, k, attrs, f, rfl, hs, hx, ok, by rw [P.K]; exact hf, by rw [P.K]; exact typeIn_fn hfn, P.isFn hfn, hc⟩) he
theorem BV.tup {xs ys : List D} (hl : xs.length + ys.length ≤ 1000) : BV c n st .Add (.d (.tup xs)) (.d (.tup ys)) (.d (.tup (xs ++ ys))) := ⟨OpB_tup hl ⟨rfl, rfl⟩⟩
theorem AWS_SetSub {o i e : Expr} {sp pos : Pos} {v w k : V} {K : Fl → Loc → St → Prop} (h1 : EV c n env ρ st e v) (h2 : EV c n env ρ st o w) (h3 : EV c n env ρ st i k) (h4 : OpSet c n w k v st (fun st' => K .next ρ st')) (hs : swapsWith e (some (.Subscript o i sp)) pos.line env = pure false := by rfl)
     : AWS c n env ρ st (.Assign [.Subscript o i sp] e pos) K := AWS_AssignSub (h1.use (h2.use (h3.use h4))) hs

theorem AWS_Attr {o e : Expr} {x : Str} {ap pos : Pos} {a Cc dx : Addr} {k : Nat} {l : List (Str × V)} {p : V} {K : Fl → Loc → St → Prop} (P : Prg c) (h1 : EV c n env ρ st e p) (h2 : EV c n env ρ st o (.o a)) (hs : st a = some (.inst Cc dx k (attrsOf l))) (ok : ClsOK c Cc) (hf : findIn (KF c.w.params) (.ref Cc) x = some none)
    (hk : k < 1000) (hin : (l.lookup x).isSome = true) (k1 : K .next ρ (st.set a (.inst Cc dx k (attrsOf (setL l x p))))) (hsw : swapsWith e (some (.Attribute o x ap)) pos.line env = pure false := by rfl) : AWS c n env ρ st (.Assign [.Attribute o x ap] e pos) K :=
  AWS_SetAttr P h1 h2 hs ok hf hk (by rw [if_pos hin]; exact k1) hsw

theorem nd6 {L : SLoc} (h : L.all.Nodup) : L.S ≠ L.aD ∧ L.S ≠ L.aF ∧ L.S ≠ L.aT ∧ L.S ≠ L.aM ∧ L.S ≠ L.aN ∧ L.aD ≠ L.aF ∧ L.aD ≠ L.aT ∧ L.aD ≠ L.aM ∧ L.aD ≠ L.aN ∧ L.aF ≠ L.aT ∧ L.aF ≠ L.aM ∧ L.aF ≠ L.aN ∧ L.aT ≠ L.aM ∧ L.aT ≠ L.aN ∧ L.aM ≠ L.aN := by
  simp only [SLoc.all, List.nodup_cons, List.mem_cons, List.not_mem_nil, or_false, not_or, not_false_eq_true, List.nodup_nil, and_true] at h
  obtain ⟨⟨a1, a2, a3, a4, a5⟩, ⟨b1, b2, b3, b4⟩, ⟨c1, c2, c3⟩, ⟨d1, d2⟩, e1⟩ := h
  exact ⟨a1, a2, a3, a4, a5, b1, b2, b3, b4, c1, c2, c3, d1, d2, e1⟩
theorem w_fail (P : Prg c) {L : SLoc} {t : Sto} {rs : List Lit} {K : V → St → Prop} (s : SAt st L t) (hn : 1 ≤ n) (h : ∀ st', SAt st' L { t with failed := true, clash := rs } → Only L.all st st' → K (.d (.bool false)) st') :
    AWC c n (.ref 372) [.o L.S, .d (.tup (rs.map litD))] st K := by
  refine AWC_fn (L := 0) (pn := ["self", "reasons"]) (P.fn (st := meth 24 15) rfl rfl (by rfl)) rfl hn fun m env hm E EK => ?_
  refine ex0_6 (nd6 s.nd) fun n1 n2 n3 n4 n5 u0 => ?_
  refine AWX_cons (AWS_Attr P (by walk_at "v") (by walk_at "v") s.S (cls_store P) (by rfl) (by decide) rfl ?_)
  refine AWX_cons (AWS_Attr (p := .d (.tup (rs.map litD))) P (by walk_at "v"; exact ⟨OpF_tupleT ⟨rfl, rfl⟩⟩) (by walk_at "v") (St.set_same _ _ _) (cls_store P) (by rfl) (by decide) rfl ?_)
  refine AWX_cons (AWS_Ret (by walk_at "v") ?_)
  refine h _ ⟨?_, ?_, ?_, ?_, ?_, ?_, s.nd⟩ ?_
  · rw [St.set_same]; rfl
  · rw [St.set_set, St.set_other _ _ n1.symm]; exact s.D
  · rw [St.set_set, St.set_other _ _ n2.symm]; exact s.F
  · rw [St.set_set, St.set_other _ _ n3.symm]; exact s.T
  · rw [St.set_set, St.set_other _ _ n4.symm]; exact s.M
  · rw [St.set_set, St.set_other _ _ n5.symm]; exact s.N
  · rw [St.set_set]; exact Only.set (.head _)

end
end
section
open PySem PySem.W PyProof.Rows PySem.Calls
set_option maxRecDepth 100000
set_option linter.unusedVariables false
set_option maxHeartbeats 2000000

section
variable {c : Ctx} {n : Nat} {env : Env} {ρ : Loc} {st : St} {names : List (Str × NameKind)}
noncomputable def enterS (t : Sto) (l : Lit) (rs : Option (List Lit)) : Sto × Bool :=
  let old := (t.doms[l.x]?).getD []
  if struck l old = [] then ({ t with failed := true, clash := rs.getD [] ++ [negl l] }, false)
  else if struck l old = old then (t, true)
  else ({ t with tr := t.tr ++ [⟨l.x, old, l, rs⟩], doms := t.doms.set l.x (struck l old) }, true)
noncomputable def enL (S : Addr) (l : Lit) (rs : Option (List Lit)) (old : Dom) : List (Str × V) := [("self", .o S), ("literal", .d (litD l)), ("reasons", .d (rsD rs)), ("speaker", .d (.int (-1))), ("x", .d (.int l.x)), ("old", .d (domD old)), ("fresh", .d (domD (struck l old)))]
theorem w_enter (P : Prg c) {L : SLoc} {t : Sto} {l : Lit} {rs : Option (List Lit)} {old : Dom} {K : V → St → Prop} (s : SAt st L t) (hd : t.doms[l.x]? = some old) (hl : old.length ≤ 400) (hx : l.x < 100) (hdl : t.doms.length ≤ 50) (htl : t.tr.length ≤ 50) (hrs : (rs.getD []).length ≤ 50) (hn : 4 ≤ n)
    (h : ∀ st', SAt st' L (enterS t l rs).1 → Only L.all st st' → K (.d (.bool (enterS t l rs).2)) st') :
    AWC c n (.ref 351) [.o L.S, .d (litD l), .d (rsD rs), .d (.int (-1))] st K := by
  refine AWC_fn (L := 3) (pn := ["self", "literal", "reasons", "speaker"]) (P.fn (st := meth 24 12) rfl rfl (by rfl)) rfl hn fun m env hm E EK => ?_
  refine ex0_15 (nd6 s.nd) fun n1 n2 n3 n4 n5 n6 n7 n8 n9 n10 n11 n12 n13 n14 n15 => ?_
  have hold : (t.doms[l.x]?).getD [] = old := by rw [hd]; rfl
  have hlen : l.x < t.doms.length := (List.getElem?_eq_some_iff.mp hd).1
  refine AWX_cons (AWS_Set EK (by rfl) (by walk_at "v") ?_)
  refine AWX_cons (AWS_Set (v := .d (domD old)) EK (by rfl) ?_ ?_)
  · walk_at "v"
    · exact EV.attr P (by walk_at "v") s.S (cls_store P) (by rfl) rfl
    walk_at "v"
    exact GV.mlst s.D (by rw [List.getElem?_map, hd]; rfl) (by walk_at "o")
  refine AWX_cons (AWS_Set (v := .d (domD (struck l old))) EK (by rfl) (by walk_at "v"; exact ⟨w_struck P hl hm ⟨rfl, rfl⟩⟩) ?_)
  refine AWX_gen (l := (enL L.S l rs old)) (by walk_at "has") fun ρ H => ?_
  unfold enterS at h
  simp only [hold] at h
  refine AWX_cons (AWS_IfV (q := decide (struck l old = [])) ?_ (fun hq => ?_) fun hq => ?_)
  · walk_at "v"
    exact CmpV.eqb (OK_dom _) (OK_dom []) (by decide) (by decide) ⟨fun e => by rw [of_decide_eq_true e]; rfl, fun e => decide_eq_true (domD_inj (e := []) e)⟩
  · rw [if_pos (of_decide_eq_true hq)] at h
    refine AWX_cons (AWS_Return (AWE_M (ps := [.d (.tup ((rs.getD [] ++ [negl l]).map litD))]) P (by walk_at "v") s.S (cls_store P) rfl (by rfl) (by rfl) ?_ ?_))
    · refine EVL.cons (EV.bin (x := .d (.tup ((rs.getD []).map litD))) (y := .d (.tup [litD (negl l)])) ?_ ?_ ?_) EVL.nil
      · cases rs with
        | none => exact EV.ite (q := true) (by walk_at "v"; exact CmpV.isNone) (fun u0 => by walk_at "v") fun e => by cases e
        | some rs => exact EV.ite (q := false) (by walk_at "v"; exact CmpV.isNone) (fun e => by cases e) fun u0 => by walk_at "v"
      · refine EV.tup (ps := [.d (litD (negl l))]) ?_ rfl rfl
        walk_at "v"
        · exact ⟨w_negation P (by walk_at "o") ⟨rfl, rfl⟩⟩
        walk_at "v"
      · have := BV.tup (c := c) (n := m) (st := st) (xs := (rs.getD []).map litD) (ys := [litD (negl l)]) (by walk_at "m")
        rw [List.map_append]; exact this
    · exact w_fail P s (by walk_at "o") h
  rw [if_neg (of_decide_eq_false hq)] at h
  refine AWX_nil (AWX_cons (AWS_IfV (q := decide (struck l old = old)) ?_ (fun hq2 => ?_) fun hq2 => ?_))
  · walk_at "v"
    exact CmpV.eqb (OK_dom _) (OK_dom _) (by decide) (by decide) ⟨fun e => by rw [of_decide_eq_true e], fun e => decide_eq_true (domD_inj e)⟩
  · rw [if_pos (of_decide_eq_true hq2)] at h
    exact AWX_cons (AWS_Ret (by walk_at "v") (h _ s Only.rfl))
  rw [if_neg (of_decide_eq_false hq2)] at h
  refine AWX_nil (AWX_cons (AWS_AppV (a := L.aT) (x := entD ⟨l.x, old, l, rs⟩) E rfl (EV.attr P (by walk_at "v") s.S (cls_store P) (by rfl) rfl) s.T ?_ (by walk_at "m") ?_))
  · walk_at "v"
  refine AWX_cons (AWS_SetSub (v := .d (domD (struck l old))) (w := .o L.aD) (k := .d (.int l.x)) (by walk_at "v") (EV.attr P (by walk_at "v") (by rw [St.set_other _ _ n3]; exact s.S) (cls_store P) (by rfl) rfl) (by walk_at "v") ?_)
  refine OpSet_list (xs := t.doms.map domD) (by rw [St.set_other _ _ n7]; exact s.D) (by rw [List.length_map]; exact hlen) (by walk_at "m") ?_
  refine ex2_2 s.N fun ep es hN hNl => ?_
  refine AWX_cons (AWS_SetSub (v := .d (.bool true)) (w := .o L.aN) (k := .d (.int l.x)) (by walk_at "v") (EV.attr P (by walk_at "v") (by rw [St.set_other _ _ n1, St.set_other _ _ n3]; exact s.S) (cls_store P) (by rfl) rfl) (by walk_at "v") ?_)
  refine OpSet_dI (ep := ep) (es := es) (by rw [St.set_other _ _ n9.symm, St.set_other _ _ n14.symm]; exact hN) (by walk_at "o") fun ep' => ?_
  refine AWX_cons (AWS_Ret (by walk_at "v") ?_)
  refine h _ ⟨?_, ?_, ?_, ?_, ?_, ⟨ep', _, St.set_same _ _ _, ?_⟩, s.nd⟩ ?_
  · rw [St.set_other _ _ n5, St.set_other _ _ n1, St.set_other _ _ n3]; exact s.S
  · rw [St.set_other _ _ n9, St.set_same, List.map_set]
  · rw [St.set_other _ _ n12, St.set_other _ _ n6.symm, St.set_other _ _ n10]; exact s.F
  · rw [St.set_other _ _ n14, St.set_other _ _ n7.symm, St.set_same, List.map_append]; rfl
  · rw [St.set_other _ _ n15, St.set_other _ _ n8.symm, St.set_other _ _ n13.symm]; exact s.M
  · rw [List.length_append]
    unfold storeI
    split
    · rw [List.length_map]; walk_at "o"
    · rw [List.length_append]; simp; walk_at "o"
  · exact ((Only.set (by simp [SLoc.all])).trans (Only.set (by simp [SLoc.all]))).trans (Only.set (by simp [SLoc.all]))

end
end
section
open PySem PySem.W PyProof.Rows PySem.Calls
set_option maxRecDepth 100000
set_option linter.unusedVariables false
set_option maxHeartbeats 2000000

section
variable {c : Ctx} {n : Nat} {env : Env} {ρ : Loc} {st : St} {names : List (Str × NameKind)}
theorem w_strike (P : Prg c) {L : SLoc} {t : Sto} {l : Lit} {rs : List Lit} {old : Dom} {K : V → St → Prop} (s : SAt st L t) (hd : t.doms[l.x]? = some old) (hl : old.length ≤ 400) (hx : l.x < 100) (hdl : t.doms.length ≤ 50) (htl : t.tr.length ≤ 50) (hrs : rs.length ≤ 50) (hn : 5 ≤ n)
    (h : ∀ st', SAt st' L (enterS t l (some rs)).1 → Only L.all st st' → K (.d (.bool (enterS t l (some rs)).2)) st') :
    AWC c n (.ref 358) [.o L.S, .d (litD l), .d (.tup (rs.map litD))] st K := by
  refine AWC_fn (L := 4) (pn := ["self", "literal", "reasons"]) (P.fn (st := meth 24 13) rfl rfl (by rfl)) rfl hn fun m env hm E EK => ?_
  refine AWX_cons (AWS_Return (AWE_M (ps := [.d (litD l), .d (rsD (some rs)), .d (.int (-1))]) P (by walk_at "v") s.S (cls_store P) rfl (by rfl) (by rfl) ?_ ?_))
  · refine EVL.cons (by walk_at "v") (EVL.cons ?_ (EVL.cons ?_ EVL.nil))
    · walk_at "v"
      exact ⟨OpF_tupleT ⟨rfl, rfl⟩⟩
    · exact EV.attr P (by walk_at "v") s.S (cls_store P) (by rfl) rfl
  · exact w_enter P s hd hl hx hdl htl hrs hm h
theorem w_decide (P : Prg c) {L : SLoc} {t : Sto} {l : Lit} {old : Dom} {K : V → St → Prop} (s : SAt st L t) (hd : t.doms[l.x]? = some old) (hl : old.length ≤ 400) (hx : l.x < 100) (hdl : t.doms.length ≤ 50) (htl : t.tr.length ≤ 50) (hn : 5 ≤ n)
    (h : ∀ st', SAt st' L (enterS t l none).1 → Only L.all st st' → K (.d (.bool (enterS t l none).2)) st') :
    AWC c n (.ref 365) [.o L.S, .d (litD l)] st K := by
  refine AWC_fn (L := 4) (pn := ["self", "literal"]) (P.fn (st := meth 24 14) rfl rfl (by rfl)) rfl hn fun m env hm E EK => ?_
  refine AWX_cons (AWS_Return (AWE_M (ps := [.d (litD l), .d (rsD none), .d (.int (-1))]) P (by walk_at "v") s.S (cls_store P) rfl (by rfl) (by rfl) ?_ ?_))
  · refine EVL.cons (by walk_at "v") (EVL.cons (by walk_at "v") (EVL.cons (by walk_at "v") EVL.nil))
  · exact w_enter P s hd hl hx hdl htl (Nat.zero_le _) hm h
theorem w_push (P : Prg c) {L : SLoc} {t : Sto} {K : V → St → Prop} (s : SAt st L t) (htl : t.tr.length ≤ 50) (hml : t.marks.length ≤ 50) (hn : 1 ≤ n)
    (h : ∀ st', SAt st' L { t with marks := t.marks ++ [t.tr.length] } → Only L.all st st' → K (.d .none) st') :
    AWC c n (.ref 379) [.o L.S] st K := by
  refine AWC_fn (L := 0) (pn := ["self"]) (P.fn (st := meth 24 16) rfl rfl (by rfl)) rfl hn fun m env hm E EK => ?_
  refine ex0_15 (nd6 s.nd) fun n1 n2 n3 n4 n5 n6 n7 n8 n9 n10 n11 n12 n13 n14 n15 => ?_
  refine AWX_cons (AWS_AppV (a := L.aM) (x := natD t.tr.length) E rfl (EV.attr P (by walk_at "v") s.S (cls_store P) (by rfl) rfl) s.M ?_ (by walk_at "m") ?_)
  · walk_at "v"
    · exact EV.attr P (by walk_at "v") s.S (cls_store P) (by rfl) rfl
    walk_at "v"
    have := FV.lenL (c := c) (n := m) (IsL.obj s.T) (by walk_at "m")
    rw [List.length_map] at this; exact this
  refine AWX_nil (h _ ⟨?_, ?_, ?_, ?_, ?_, ?_, s.nd⟩ (Only.set (by simp [SLoc.all])))
  · rw [St.set_other _ _ n4]; exact s.S
  · rw [St.set_other _ _ n8]; exact s.D
  · rw [St.set_other _ _ n11]; exact s.F
  · rw [St.set_other _ _ n13]; exact s.T
  · rw [St.set_same, List.map_append]; rfl
  · rw [St.set_other _ _ n15.symm]; exact s.N
theorem w_depth (P : Prg c) {L : SLoc} {t : Sto} {K : V → St → Prop} (s : SAt st L t) (hml : t.marks.length ≤ 50) (hn : 1 ≤ n) (h : K (.d (.int t.marks.length)) st) : AWC c n (.ref 393) [.o L.S] st K := by
  refine AWC_fn (L := 0) (pn := ["self"]) (P.fn (st := meth 24 18) rfl rfl (by rfl)) rfl hn fun m env hm E EK => ?_
  refine AWX_cons (AWS_Ret (x := .d (.int t.marks.length)) ?_ h)
  walk_at "v"
  · exact EV.attr P (by walk_at "v") s.S (cls_store P) (by rfl) rfl
  walk_at "v"
  have := FV.lenL (c := c) (n := m) (IsL.obj s.M) (by walk_at "m")
  rw [List.length_map] at this; exact this
theorem w_initial (P : Prg c) {L : SLoc} {t : Sto} {x : Nat} {d : Dom} {K : V → St → Prop} (s : SAt st L t) (hd : t.firsts[x]? = some d) (hx : x < 100) (hn : 1 ≤ n) (h : K (.d (domD d)) st) : AWC c n (.ref 295) [.o L.S, .d (.int x)] st K := by
  refine AWC_fn (L := 0) (pn := ["self", "x"]) (P.fn (st := meth 24 4) rfl rfl (by rfl)) rfl hn fun m env hm E EK => ?_
  refine AWX_cons (AWS_Ret (x := .d (domD d)) ?_ h)
  walk_at "v"
  · exact EV.attr P (by walk_at "v") s.S (cls_store P) (by rfl) rfl
  walk_at "v"
  exact GV.mlst s.F (by rw [List.getElem?_map, hd]; rfl) (by walk_at "o")
theorem w_newVar (P : Prg c) {L : SLoc} {t : Sto} {d : Dom} {K : V → St → Prop} (s : SAt st L t) (hne : d ≠ []) (hdl : t.doms.length ≤ 50) (hfl : t.firsts.length ≤ 50) (hn : 1 ≤ n)
    (h : ∀ st', SAt st' L { t with doms := t.doms ++ [d], firsts := t.firsts ++ [d] } → Only L.all st st' → ∀ v, K v st') :
    AWC c n (.ref 274) [.o L.S, .d (domD d)] st K := by
  refine AWC_fn (L := 0) (pn := ["self", "domain"]) (P.fn (st := meth 24 1) rfl rfl (by rfl)) rfl hn fun m env hm E EK => ?_
  refine ex0_15 (nd6 s.nd) fun n1 n2 n3 n4 n5 n6 n7 n8 n9 n10 n11 n12 n13 n14 n15 => ?_
  refine AWX_cons (AWS_AppV (a := L.aD) (x := domD d) E rfl (EV.attr P (by walk_at "v") s.S (cls_store P) (by rfl) rfl) s.D (by walk_at "v") (by walk_at "m") ?_)
  refine AWX_cons (AWS_AppV (a := L.aF) (x := domD d) E rfl (EV.attr P (by walk_at "v") (by rw [St.set_other _ _ n1]; exact s.S) (cls_store P) (by rfl) rfl) (by rw [St.set_other _ _ n6.symm]; exact s.F) (by walk_at "v") (by walk_at "m") ?_)
  refine AWX_cons (AWS_IfV (q := false) ?_ (fun hq => by cases hq) fun u0 => AWX_nil ?_)
  · walk_at "v"
    exact CmpV.eqb (OK_dom _) (OK_dom []) (by decide) (by decide) ⟨fun e => (by cases e), fun e => absurd (domD_inj (e := []) e) hne⟩
  have s2 : SAt ((st.set L.aD (.lst (t.doms.map domD ++ [domD d]))).set L.aF (.lst (t.firsts.map domD ++ [domD d]))) L { t with doms := t.doms ++ [d], firsts := t.firsts ++ [d] } := by
    refine ⟨?_, ?_, ?_, ?_, ?_, ?_, s.nd⟩
    · rw [St.set_other _ _ n2, St.set_other _ _ n1]; exact s.S
    · rw [St.set_other _ _ n6, St.set_same, List.map_append]; rfl
    · rw [St.set_same, List.map_append]; rfl
    · rw [St.set_other _ _ n10.symm, St.set_other _ _ n7.symm]; exact s.T
    · rw [St.set_other _ _ n11.symm, St.set_other _ _ n8.symm]; exact s.M
    · rw [St.set_other _ _ n12.symm, St.set_other _ _ n9.symm]; exact s.N
  refine AWX_cons (AWS_Ret (x := .d (.int ((t.doms ++ [d]).length - 1))) ?_ (h _ s2 ((Only.set (by simp [SLoc.all])).trans (Only.set (by simp [SLoc.all]))) _))
  walk_at "v"
  · exact EV.attr P (by walk_at "v") s2.S (cls_store P) (by rfl) rfl
  walk_at "v"
  · have := FV.lenL (c := c) (n := m) (IsL.obj s2.D) (by walk_at "m")
    rw [List.length_map] at this; exact this
  walk_at "v"

end
end
section
open PySem PySem.W PyProof.Rows PySem.Calls
set_option maxRecDepth 100000
set_option linter.unusedVariables false
set_option maxHeartbeats 2000000

section
variable {c : Ctx} {n : Nat} {env : Env} {ρ : Loc} {st : St} {names : List (Str × NameKind)}
noncomputable def Keep (L : List Addr) (st st' : St) : Prop := ∀ b, b ∉ L → ∀ ob, st b = some ob → st' b = some ob
theorem BV.subE {i j k : Int} (h : i - j = k) : BV c n st .Sub (.d (.int i)) (.d (.int j)) (.d (.int k)) := by subst h; exact BV.sub
noncomputable def undo (doms : List Dom) (es : List Ent) : List Dom := es.foldr (fun e d => d.set e.x e.old) doms
theorem undo_len (doms : List Dom) : ∀ es : List Ent, (undo doms es).length = doms.length
  | [] => rfl
  | e :: r => by unfold undo; rw [List.foldr_cons, List.length_set]; exact undo_len doms r
noncomputable def popI (L : SLoc) (t : Sto) (lst : List (Str × V)) (st : St) (lv mark : Nat) (μ : Nat) (ρ : Loc) (s : St) : Prop :=
  ∃ pre post : List Ent, t.tr = pre ++ post ∧ s L.S = some (.inst 403 L.dx 8 (attrsOf lst)) ∧ s L.aD = some (.lst ((undo t.doms post).map domD)) ∧ s L.aT = some (.lst (pre.map entD)) ∧ s L.aF = some (.lst (t.firsts.map domD)) ∧
    mark ≤ pre.length ∧ Has [("self", .o L.S), ("mark", .d (.int mark))] ρ ∧ μ = pre.length - mark ∧ Only L.all st s
theorem w_pop (P : Prg c) {L : SLoc} {t : Sto} {lv mark nn : Nat} {K : V → St → Prop} (s : SAt st L t) (hlv : lv < t.marks.length) (hnn : nn = t.marks.length - lv) (hmk : t.marks[lv]? = some mark) (hmt : mark ≤ t.tr.length)
    (hml : t.marks.length ≤ 50) (htl : t.tr.length ≤ 50) (hdl : t.doms.length ≤ 50) (hfl : t.firsts.length ≤ 50) (hx : ∀ e ∈ t.tr, e.x < t.doms.length) (hn : 1 ≤ n)
    (h : ∀ st', HAt st' L.S L.aD (undo t.doms (t.tr.drop mark)) → Keep L.all st st' → K (.d .none) st') :
    AWC c n (.ref 386) [.o L.S, .d (.int nn)] st K := by
  refine AWC_fn (L := 0) (pn := ["self", "n"]) (P.fn (st := meth 24 17) rfl rfl (by rfl)) rfl hn fun m env hm E EK => ?_
  refine ex0_15 (nd6 s.nd) fun n1 n2 n3 n4 n5 n6 n7 n8 n9 n10 n11 n12 n13 n14 n15 => ?_
  have hlen : FV c m st (.builtin "len") [.o L.aM] (.d (.int t.marks.length)) := by
    have := FV.lenL (c := c) (n := m) (IsL.obj s.M) (by walk_at "m")
    rw [List.length_map] at this; exact this
  refine AWX_cons (AWS_IfV (q := false) ?_ (fun hq => by cases hq) fun u0 => AWX_nil ?_)
  · have : decide ((nn : Int) < 1) = false := by rw [decide_eq_false_iff_not]; walk_at "o"
    rw [← this]; walk_at "v"
  refine AWX_cons (AWS_Set (v := .d (.int mark)) EK (by rfl) ?_ ?_)
  · walk_at "v"
    · exact EV.attr P (by walk_at "v") s.S (cls_store P) (by rfl) rfl
    · refine EV.bin (x := .d (.int t.marks.length)) (y := .d (.int nn)) (z := .d (.int lv)) ?_ (by walk_at "v") (BV.subE (by walk_at "o"))
      walk_at "v"
      · exact EV.attr P (by walk_at "v") s.S (cls_store P) (by rfl) rfl
      walk_at "v"
      exact hlen
    exact GV.mlst (x := natD mark) s.M (by rw [List.getElem?_map, hmk]; rfl) (by walk_at "o")
  refine AWX_cons (AWS_AssignAttr P.ok (AWE_UpTo (EV.use (x := .o L.aM) (EV.attr P (by walk_at "v") s.S (cls_store P) (by rfl) rfl) (EV.use (x := .d (.int lv)) ?_ ⟨_, lv, rfl, .obj s.M, by simp; walk_at "o", EV.use (x := .o L.S) (by walk_at "v") ⟨_, _, _, _, _, rfl, s.S, cls_store P, by rw [P.K]; rfl, by decide, ?_⟩⟩))))
  · refine EV.bin (x := .d (.int t.marks.length)) (y := .d (.int nn)) (z := .d (.int lv)) ?_ (by walk_at "v") (BV.subE (by walk_at "o"))
    walk_at "v"
    · exact EV.attr P (by walk_at "v") s.S (cls_store P) (by rfl) rfl
    walk_at "v"
    exact hlen
  rw [attrs_upd, if_pos (by rfl)]
  generalize hlst : setL (sList L t) "marks" (.d (.lst ((t.marks.map natD).take (clipAt (t.marks.map natD).length lv)))) = lst
  refine AWX_cons (AWS_While (AWW_ind (popI L t lst st lv mark) ?_ (t.tr.length - mark) _ _ ⟨t.tr, [], by simp, St.set_same _ _ _, by rw [St.set_other _ _ n1.symm]; exact s.D, by rw [St.set_other _ _ n3.symm]; exact s.T, by rw [St.set_other _ _ n2.symm]; exact s.F, hmt, by walk_at "has", rfl, Only.set (.head _)⟩))
  intro μ ρ s1 hq1 K2 h2; refine ex2_9 hq1 fun pre post hpp hS hD hT hF hmp H hμ hO => ?_; clear hq1
  have hld : lst.lookup ("domains" : Str) = some (.o L.aD) := by rw [← hlst]; rfl
  have hlt : lst.lookup ("trail" : Str) = some (.o L.aT) := by rw [← hlst]; rfl
  have hlf : lst.lookup ("firsts" : Str) = some (.o L.aF) := by rw [← hlst]; rfl
  have hlh : lst.lookup ("holds" : Str) = none := by rw [← hlst]; rfl
  have hpl : pre.length ≤ 50 := by have := congrArg List.length hpp; rw [List.length_append] at this; walk_at "o"
  refine EVT.use (x := decide (mark < pre.length)) ?_ ?_
  · have e : decide (mark < pre.length) = decide ((mark : Int) < pre.length) := by rw [decide_eq_decide]; walk_at "o"
    rw [e]
    walk_at "v"
    · exact EV.attr P (by walk_at "v") hS (cls_store P) (by rfl) hlt
    walk_at "v"
    · have := FV.lenL (c := c) (n := m) (IsL.obj hT) (by walk_at "m")
      rw [List.length_map] at this; exact this
    walk_at "v"
  refine if_d (fun hlt' => ?_) fun hge => ?_
  · refine ex2_1 (show ∃ pre' e, pre = pre' ++ [e] from ⟨pre.dropLast, pre.getLast (by intro h; rw [h] at hlt'; simp at hlt'), (List.dropLast_concat_getLast _).symm⟩) fun pre' e hr1 => ?_; subst hr1
    have hex : e.x < t.doms.length := hx e (by rw [hpp]; simp)
    refine AWX_cons (AWS_Assign (EK.keeps (by rfl)) (AWE_ListMeth0 PySem.F.slot_list_pop PySem.F.type_list_pop (EV.use (x := .o L.aT) (EV.attr P (by walk_at "v") hS (cls_store P) (by rfl) hlt) ⟨_, .obj hT, OpF_pop (xs := pre'.map entD) (x := entD e) (by rw [hT, List.map_append]; rfl) (by simp at hpl ⊢; walk_at "o") ?_⟩)))
    refine AWX_cons (AWS_SetSub (v := .d (domD e.old)) (w := .o L.aD) (k := .d (.int e.x)) ?_ (EV.attr P (by walk_at "v") (by rw [St.set_other _ _ n3]; exact hS) (cls_store P) (by rfl) hld) ?_ (OpSet_list (xs := (undo t.doms post).map domD) (by rw [St.set_other _ _ n7]; exact hD) (by rw [List.length_map, undo_len]; exact hex) (by rw [List.length_map, undo_len]; walk_at "o") ?_))
    · walk_at "v"
    · walk_at "v"
    refine AWX_nil (h2 ⟨pre'.length - mark, ?_, pre', e :: post, by rw [hpp, List.append_assoc]; rfl, ?_, ?_, ?_, ?_, ?_, ?_, rfl, ?_⟩)
    · rw [hμ]; simp at hlt' ⊢; walk_at "o"
    · rw [St.set_other _ _ n1, St.set_other _ _ n3]; exact hS
    · rw [St.set_same]; unfold undo; rw [List.foldr_cons, List.map_set]
    · rw [St.set_other _ _ n7.symm, St.set_same]
    · rw [St.set_other _ _ n6.symm, St.set_other _ _ n10]; exact hF
    · simp at hlt'; walk_at "o"
    · exact H.upd rfl
    · exact (hO.trans (Only.set (by simp [SLoc.all]))).trans (Only.set (by simp [SLoc.all]))
  · have hpm : pre = t.tr.take mark ∧ post = t.tr.drop mark := by
      have e1 : pre.length = mark := by walk_at "o"
      rw [hpp, ← e1]; simp
    refine AWX_nil ?_
    refine AWX_cons (AWS_AssignAttr P.ok (AWE_DictI fun a ep ha => EV.use (x := .o L.S) (by walk_at "v") ⟨_, _, _, _, _, rfl, (St.set_other _ _ (by rintro e; rw [← e, hS] at ha; cases ha)).trans hS, cls_store P, by rw [P.K]; rfl, by decide, ?_⟩))
    rw [attrs_upd, if_pos (by rw [← hlst]; rfl)]
    have haD : a ≠ L.aD := by rintro rfl; rw [hD] at ha; cases ha
    have haF : a ≠ L.aF := by rintro rfl; rw [hF] at ha; cases ha
    refine AWX_cons (AWS_Attr (p := .d (.bool (decide (([] : Dom) ∈ t.firsts)))) (l := setL lst "news" (.o a)) P ?_ (by walk_at "v") (St.set_same _ _ _) (cls_store P) (by rfl) (by decide) (by rw [← hlst]; rfl) ?_)
    · walk_at "v"
      · exact EV.attr P (by walk_at "v") (St.set_same _ _ _) (cls_store P) (by rfl) (by rw [show attrsOf (setL lst "news" (.o a)) "firsts" = (setL lst "news" (.o a)).lookup ("firsts" : Str) from rfl, setL_lookup]; exact hlf)
      refine ⟨OpC_InL (xs := t.firsts.map domD) (.obj (by rw [St.set_other _ _ n2.symm, St.set_other _ _ haF.symm]; exact hF)) (k := 2) (fun x hx => ?_) (OK_dom []) (by decide) ?_ ⟨rfl, rfl⟩⟩
      · refine ex1_2 (List.mem_map.mp hx) fun d u0 hr1 => ?_; subst hr1; exact OK_dom d
      · rw [decide_eq_true_eq]
        exact ⟨fun h => List.mem_map.mpr ⟨[], h, rfl⟩, fun h => by obtain ⟨d, hd, e⟩ := List.mem_map.mp h; rwa [domD_inj (e := []) e] at hd⟩
    refine AWX_cons (AWS_Attr (p := .d (.tup [])) (l := setL (setL lst "news" (.o a)) "is_failed" (.d (.bool (decide (([] : Dom) ∈ t.firsts))))) P (by walk_at "v") (by walk_at "v") (St.set_same _ _ _) (cls_store P) (by rfl) (by decide) (by rw [← hlst]; rfl) ?_)
    refine AWX_nil (h _ ⟨⟨_, _, _, St.set_same _ _ _, ?_, ?_⟩, ?_⟩ ?_)
    · rw [setL_lookup, setL_lookup, setL_lookup]; exact hld
    · rw [setL_lookup, setL_lookup, setL_lookup]; exact hlh
    · rw [St.set_other _ _ n1.symm, St.set_other _ _ n1.symm, St.set_other _ _ n1.symm, St.set_other _ _ haD.symm, ← hpm.2]; exact hD
    · intro b hb ob hob
      have hbS : b ≠ L.S := fun e => hb (e ▸ .head _)
      rw [St.set_other _ _ hbS, St.set_other _ _ hbS, St.set_other _ _ hbS, St.set_other]
      · rw [hO b hb]; exact hob
      · rintro rfl; rw [hO b hb, hob] at ha; cases ha

structure InitAt (st : St) (Cc x dx : Addr) (k : Nat) (l : List (Str × V)) (objs : List (Addr × Ob)) (s : St) : Prop where
  I : s x = some (.inst Cc dx k (attrsOf l))
  O : ∀ p ∈ objs, s p.1 = some p.2
  sub : Sub st s
  fr : ∀ p ∈ objs, st p.1 = none
  nd : (x :: objs.map (·.1)).Nodup
  x0 : st x = none
theorem InitAt.add {st s : St} {Cc x dx : Addr} {k k' : Nat} {l l' : List (Str × V)} {objs : List (Addr × Ob)} (I : InitAt st Cc x dx k l objs s) {b : Addr} {ob : Ob} (hb : s b = none) : InitAt st Cc x dx k' l' ((b, ob) :: objs) ((s.set b ob).set x (.inst Cc dx k' (attrsOf l'))) := by
  have hbx : b ≠ x := by rintro rfl; rw [I.I] at hb; cases hb
  have hb0 : st b = none := by
    cases e : st b with
    | none => rfl
    | some o => rw [I.sub b o e] at hb; cases hb
  have hbo : ∀ p ∈ objs, p.1 ≠ b := fun p hp e => by rw [← e, I.O p hp] at hb; cases hb
  refine ex0_2 (List.nodup_cons.mp I.nd) fun n1 n2 => ?_
  refine ⟨St.set_same _ _ _, fun p hp => ?_, (I.sub.set2 hb0).set2 I.x0, fun p hp => ?_, ?_, I.x0⟩
  · rcases List.mem_cons.mp hp with rfl | hp
    · rw [St.set_other _ _ hbx, St.set_same]
    · rw [St.set_other _ _ (by rintro e; exact n1 (e ▸ List.mem_map_of_mem hp)), St.set_other _ _ (hbo p hp)]; exact I.O p hp
  · rcases List.mem_cons.mp hp with rfl | hp
    · exact hb0
    · exact I.fr p hp
  · rw [List.map_cons]
    refine List.nodup_cons.mpr ⟨?_, List.nodup_cons.mpr ⟨?_, n2⟩⟩
    · intro hm; rcases List.mem_cons.mp hm with e | hm
      · exact hbx e.symm
      · exact n1 hm
    · intro hm; obtain ⟨p, hp, e⟩ := List.mem_map.mp hm; exact hbo p hp e
theorem InitAt.set {st s : St} {Cc x dx : Addr} {k k' : Nat} {l l' : List (Str × V)} {objs : List (Addr × Ob)} (I : InitAt st Cc x dx k l objs s) : InitAt st Cc x dx k' l' objs (s.set x (.inst Cc dx k' (attrsOf l'))) := by
  refine ex0_2 (List.nodup_cons.mp I.nd) fun n1 n2 => ?_
  exact ⟨St.set_same _ _ _, fun p hp => by rw [St.set_other _ _ (by rintro e; exact n1 (e ▸ List.mem_map_of_mem hp))]; exact I.O p hp, I.sub.set2 I.x0, I.fr, I.nd, I.x0⟩
theorem InitAt.ne {st s : St} {Cc x dx : Addr} {k : Nat} {l : List (Str × V)} {objs : List (Addr × Ob)} (I : InitAt st Cc x dx k l objs s) {b : Addr} (hb : s b = none) : x ≠ b := by rintro rfl; rw [I.I] at hb; cases hb
theorem AWS_InitL {st s : St} {o : Expr} {nm : Str} {ap lp pos : Pos} {Cc x dx : Addr} {k : Nat} {l : List (Str × V)} {objs : List (Addr × Ob)} {K : Fl → Loc → St → Prop} (P : Prg c) (I : InitAt st Cc x dx k l objs s) (h2 : ∀ st, EV c n env ρ st o (.o x)) (ok : ClsOK c Cc) (hf : findIn (KF c.w.params) (.ref Cc) nm = some none) (hk : k < 1000) {k' : Nat} (hk' : (if (l.lookup nm).isSome = true then k else k + 1) = k')
    (k1 : ∀ b s', InitAt st Cc x dx k' (setL l nm (.o b)) ((b, .lst []) :: objs) s' → K .next ρ s') (hsw : swapsWith (.List [] lp) (some (.Attribute o nm ap)) pos.line env = pure false := by rfl) : AWS c n env ρ s (.Assign [.Attribute o nm ap] (.List [] lp) pos) K :=
  AWS_AssignAttr P.ok (AWE_LstM (EVL.nil.use ⟨[], rfl, Nat.zero_le _, fun b hb => (h2 _).use ⟨x, Cc, dx, k, attrsOf l, rfl, (St.set_other _ _ (I.ne hb)).trans I.I, ok, by rw [P.K]; exact hf, hk, by subst hk'; rw [attrs_upd]; exact k1 b _ (I.add hb)⟩⟩)) hsw
theorem AWS_InitDI {st s : St} {o : Expr} {nm : Str} {ap lp pos : Pos} {Cc x dx : Addr} {k : Nat} {l : List (Str × V)} {objs : List (Addr × Ob)} {K : Fl → Loc → St → Prop} (P : Prg c) (I : InitAt st Cc x dx k l objs s) (h2 : ∀ st, EV c n env ρ st o (.o x)) (ok : ClsOK c Cc) (hf : findIn (KF c.w.params) (.ref Cc) nm = some none) (hk : k < 1000) {k' : Nat} (hk' : (if (l.lookup nm).isSome = true then k else k + 1) = k')
    (k1 : ∀ b ep s', InitAt st Cc x dx k' (setL l nm (.o b)) ((b, .dI ep []) :: objs) s' → K .next ρ s') (hsw : swapsWith (.Dict [] [] lp) (some (.Attribute o nm ap)) pos.line env = pure false := by rfl) : AWS c n env ρ s (.Assign [.Attribute o nm ap] (.Dict [] [] lp) pos) K :=
  AWS_AssignAttr P.ok (AWE_DictI fun b ep hb => (h2 _).use ⟨x, Cc, dx, k, attrsOf l, rfl, (St.set_other _ _ (I.ne hb)).trans I.I, ok, by rw [P.K]; exact hf, hk, by subst hk'; rw [attrs_upd]; exact k1 b ep _ (I.add hb)⟩) hsw
theorem AWS_InitDT {st s : St} {o : Expr} {nm : Str} {ap lp pos : Pos} {Cc x dx : Addr} {k : Nat} {l : List (Str × V)} {objs : List (Addr × Ob)} {K : Fl → Loc → St → Prop} (P : Prg c) (I : InitAt st Cc x dx k l objs s) (h2 : ∀ st, EV c n env ρ st o (.o x)) (ok : ClsOK c Cc) (hf : findIn (KF c.w.params) (.ref Cc) nm = some none) (hk : k < 1000) {k' : Nat} (hk' : (if (l.lookup nm).isSome = true then k else k + 1) = k')
    (k1 : ∀ b ep s', InitAt st Cc x dx k' (setL l nm (.o b)) ((b, .dT ep []) :: objs) s' → K .next ρ s') (hsw : swapsWith (.Dict [] [] lp) (some (.Attribute o nm ap)) pos.line env = pure false := by rfl) : AWS c n env ρ s (.Assign [.Attribute o nm ap] (.Dict [] [] lp) pos) K :=
  AWS_AssignAttr P.ok (AWE_DictT fun b ep hb => (h2 _).use ⟨x, Cc, dx, k, attrsOf l, rfl, (St.set_other _ _ (I.ne hb)).trans I.I, ok, by rw [P.K]; exact hf, hk, by subst hk'; rw [attrs_upd]; exact k1 b ep _ (I.add hb)⟩) hsw
theorem AWS_InitV {st s : St} {o e : Expr} {nm : Str} {ap pos : Pos} {Cc x dx : Addr} {k : Nat} {l : List (Str × V)} {objs : List (Addr × Ob)} {p : V} {K : Fl → Loc → St → Prop} (P : Prg c) (I : InitAt st Cc x dx k l objs s) (h1 : EV c n env ρ s e p) (h2 : ∀ st, EV c n env ρ st o (.o x)) (ok : ClsOK c Cc) (hf : findIn (KF c.w.params) (.ref Cc) nm = some none) (hk : k < 1000) {k' : Nat} (hk' : (if (l.lookup nm).isSome = true then k else k + 1) = k')
    (k1 : ∀ s', InitAt st Cc x dx k' (setL l nm p) objs s' → K .next ρ s') (hsw : swapsWith e (some (.Attribute o nm ap)) pos.line env = pure false := by rfl) : AWS c n env ρ s (.Assign [.Attribute o nm ap] e pos) K :=
  AWS_AssignAttr P.ok (h1.use ((h2 _).use ⟨x, Cc, dx, k, attrsOf l, rfl, I.I, ok, by rw [P.K]; exact hf, hk, by subst hk'; rw [attrs_upd]; exact k1 _ I.set⟩)) hsw
theorem w_Store (P : Prg c) {K : V → St → Prop} (hn : 2 ≤ n) (h : ∀ L st', SAt st' L ⟨[], [], [], [], false, []⟩ → Sub st st' → (∀ a ∈ L.all, st a = none) → K (.o L.S) st') : AWC c n (.ref 403) [] st K := by
  refine ex1_1 (show ∃ k, n = k + 1 from ⟨n - 1, by walk_at "o"⟩) fun k hr1 => ?_; subst hr1
  refine AWC_cls P.ok (mk_store P) fun x dx hx => ?_
  rw [attrs_nil]
  refine AWC_fn (L := 0) (pn := ["self"]) (P.fn (st := meth 24 0) rfl rfl (by rfl)) rfl (by walk_at "o") fun m env hm E EK => ?_
  have I0 : InitAt st 403 x dx 0 [] [] (st.set x (.inst 403 dx 0 (attrsOf []))) := ⟨St.set_same _ _ _, fun p hp => by simp at hp, Sub.set hx, fun p hp => by simp at hp, by simp, hx⟩
  refine AWX_cons (AWS_InitL P I0 (fun u0 => by walk_at "v") (cls_store P) (by rfl) (by decide) (k' := 1) rfl fun a1 s1 I1 => ?_)
  refine AWX_cons (AWS_InitL P I1 (fun u0 => by walk_at "v") (cls_store P) (by rfl) (Nat.le_of_ble_eq_true rfl) (k' := 2) rfl fun a2 s2 I2 => ?_)
  refine AWX_cons (AWS_InitL P I2 (fun u0 => by walk_at "v") (cls_store P) (by rfl) (Nat.le_of_ble_eq_true rfl) (k' := 3) rfl fun a3 s3 I3 => ?_)
  refine AWX_cons (AWS_InitL P I3 (fun u0 => by walk_at "v") (cls_store P) (by rfl) (Nat.le_of_ble_eq_true rfl) (k' := 4) rfl fun a4 s4 I4 => ?_)
  refine AWX_cons (AWS_InitDI P I4 (fun u0 => by walk_at "v") (cls_store P) (by rfl) (Nat.le_of_ble_eq_true rfl) (k' := 5) rfl fun a5 ep s5 I5 => ?_)
  refine AWX_cons (AWS_InitV (p := .d (.int (-1))) P I5 (by walk_at "v") (fun u0 => by walk_at "v") (cls_store P) (by rfl) (Nat.le_of_ble_eq_true rfl) (k' := 6) rfl fun s6 I6 => ?_)
  refine AWX_cons (AWS_InitV (p := .d (.bool false)) P I6 (by walk_at "v") (fun u0 => by walk_at "v") (cls_store P) (by rfl) (Nat.le_of_ble_eq_true rfl) (k' := 7) rfl fun s7 I7 => ?_)
  refine AWX_cons (AWS_InitV (p := .d (.tup [])) P I7 (by walk_at "v") (fun u0 => by walk_at "v") (cls_store P) (by rfl) (Nat.le_of_ble_eq_true rfl) (k' := 8) rfl fun s8 I8 => ?_)
  refine AWX_nil ⟨rfl, h ⟨x, dx, a1, a2, a3, a4, a5⟩ s8 ⟨I8.I, I8.O (a1, _) (.tail _ (.tail _ (.tail _ (.tail _ (.head _))))), I8.O (a2, _) (.tail _ (.tail _ (.tail _ (.head _)))), I8.O (a3, _) (.tail _ (.tail _ (.head _))), I8.O (a4, _) (.tail _ (.head _)), ⟨ep, [], I8.O (a5, _) (.head _), Nat.le_refl _⟩, ?_⟩ I8.sub ?_⟩
  · exact (((List.reverse_perm [a1, a2, a3, a4, a5]).symm).cons x).nodup_iff.mpr I8.nd
  · intro a ha
    simp only [SLoc.all, List.mem_cons, List.not_mem_nil, or_false] at ha
    rcases ha with rfl | rfl | rfl | rfl | rfl | rfl
    · exact hx
    · exact I8.fr (_, .lst []) (.tail _ (.tail _ (.tail _ (.tail _ (.head _)))))
    · exact I8.fr (_, .lst []) (.tail _ (.tail _ (.tail _ (.head _))))
    · exact I8.fr (_, .lst []) (.tail _ (.tail _ (.head _)))
    · exact I8.fr (_, .lst []) (.tail _ (.head _))
    · exact I8.fr (_, .dI ep []) (.head _)

end
end
section
set_option autoImplicit false
set_option linter.unusedVariables false
set_option maxRecDepth 100000

noncomputable def Ld : List Dom := [[(0,0)], [(1,1)], [(2,2)], [(3,3)], [(0,1)], [(1,2)], [(2,3)], [(0,0),(2,2)], [(0,0),(3,3)], [(1,1),(3,3)], [(0,2)], [(1,3)], [(0,1),(3,3)], [(0,0),(2,3)], [(0,3)]]
noncomputable def K6 : List Int := [-1, 0, 1, 2, 3, 4]
noncomputable def V4 : List Int := [0, 1, 2, 3]
noncomputable def Ls : List Lit := [Sg.ne, Sg.le, Sg.eq, Sg.ge].flatMap fun s => K6.map fun k => ⟨0, s, k⟩
noncomputable def chkA : Bool := Ld.all fun d => Ls.all fun l =>
  (decide (struck l d = []) || Ld.contains (struck l d)) && (V4.all fun v => hasV (struck l d) v == (hasV d v && isMet l v)) && (decide (struck l d = d) || V4.any fun v => hasV d v && !isMet l v) && (decide (struck l d ≠ []) || V4.all fun v => !(hasV d v && isMet l v))
theorem chkA_ok : chkA = true := by decide +kernel
noncomputable def chkB : Bool := Ld.all fun d => V4.contains (least d) && V4.contains (greatest d) && hasV d (least d) && hasV d (greatest d) && (V4.all fun v => !hasV d v || (decide (least d ≤ v) && decide (v ≤ greatest d))) && decide (d.length ≤ 2) && decide (least d ≤ greatest d)
theorem chkB_ok : chkB = true := by decide +kernel

noncomputable def U6 (l : Lit) : Prop := -1 ≤ l.k ∧ l.k ≤ 4
theorem struck_x (x y : Nat) (s : Sg) (k : Int) (d : Dom) : struck ⟨x, s, k⟩ d = struck ⟨y, s, k⟩ d := by cases s <;> rfl
theorem isMet_x (x y : Nat) (s : Sg) (k : Int) (v : Int) : isMet ⟨x, s, k⟩ v = isMet ⟨y, s, k⟩ v := by cases s <;> rfl
theorem mem_V4 {v : Int} : v ∈ V4 ↔ 0 ≤ v ∧ v ≤ 3 := by
  refine ⟨fun h => (show ∀ u ∈ V4, 0 ≤ u ∧ u ≤ 3 by decide) v h, fun h => ?_⟩
  obtain ⟨k, rfl⟩ := Int.eq_ofNat_of_zero_le h.1
  have hk : k < 4 := Nat.lt_succ_of_le (Int.ofNat_le.mp h.2)
  clear h
  revert k; decide
theorem mem_Ls {s : Sg} {k : Int} (h : -1 ≤ k ∧ k ≤ 4) : (⟨0, s, k⟩ : Lit) ∈ Ls := by
  unfold Ls
  rw [List.mem_flatMap]
  refine ⟨s, by cases s <;> simp, List.mem_map.mpr ⟨k, ?_, rfl⟩⟩
  simp [K6]; walk_at "o"

section
variable {d : Dom} {l : Lit}
theorem factA (hd : d ∈ Ld) (hl : U6 l) : (struck l d = [] ∨ struck l d ∈ Ld) ∧ (∀ v, 0 ≤ v → v ≤ 3 → hasV (struck l d) v = (hasV d v && isMet l v)) ∧ (struck l d = d ∨ ∃ v, 0 ≤ v ∧ v ≤ 3 ∧ hasV d v = true ∧ isMet l v = false) ∧ (struck l d ≠ [] ∨ ∀ v, 0 ≤ v → v ≤ 3 → hasV d v = true → isMet l v = false) := by
  obtain ⟨x, s, k⟩ := l
  have h := List.all_eq_true.mp (List.all_eq_true.mp chkA_ok d hd) ⟨0, s, k⟩ (mem_Ls hl)
  simp only [Bool.and_eq_true, Bool.or_eq_true, decide_eq_true_eq, List.all_eq_true, List.any_eq_true, beq_iff_eq, Bool.not_eq_true', List.contains_iff_mem] at h
  obtain ⟨⟨⟨h1, h2⟩, h3⟩, h4⟩ := h
  rw [struck_x x 0]
  refine ⟨h1, fun v a b => ?_, ?_, ?_⟩
  · rw [isMet_x x 0]; exact h2 v (mem_V4.mpr ⟨a, b⟩)
  · refine h3.imp id fun ⟨v, hv, a, b⟩ => ⟨v, (mem_V4.mp hv).1, (mem_V4.mp hv).2, a, by rw [isMet_x x 0]; exact b⟩
  · refine h4.imp id fun q v a b c => ?_
    have := q v (mem_V4.mpr ⟨a, b⟩)
    rw [c, Bool.true_and] at this
    rw [isMet_x x 0]; exact this
theorem factB (hd : d ∈ Ld) : (0 ≤ least d ∧ least d ≤ 3) ∧ (0 ≤ greatest d ∧ greatest d ≤ 3) ∧ hasV d (least d) = true ∧ hasV d (greatest d) = true ∧ (∀ v, 0 ≤ v → v ≤ 3 → hasV d v = true → least d ≤ v ∧ v ≤ greatest d) ∧ d.length ≤ 2 ∧ d ≠ [] := by
  have h := List.all_eq_true.mp chkB_ok d hd
  simp only [Bool.and_eq_true, Bool.or_eq_true, decide_eq_true_eq, List.all_eq_true, Bool.not_eq_true', List.contains_iff_mem] at h
  obtain ⟨⟨⟨⟨⟨⟨h1, h2⟩, h3⟩, h4⟩, h5⟩, h6⟩, _⟩ := h
  refine ⟨mem_V4.mp h1, mem_V4.mp h2, h3, h4, fun v a b c => (h5 v (mem_V4.mpr ⟨a, b⟩)).elim (fun e => by rw [e] at c; cases c) id, h6, ?_⟩
  rintro rfl
  exact absurd hd (by decide)
theorem full_mem : full ∈ Ld := by decide

theorem said_one (hd : d ∈ Ld) (hl : U6 l) : saidOf l d = 1 ↔ ∀ v, 0 ≤ v → v ≤ 3 → hasV d v = true → isMet l v = true := by
  refine ex0_4 (factA hd hl) fun a1 a2 a3 a4 => ?_
  unfold saidOf
  constructor
  · intro h v h0 h3 hv
    by_cases e : struck l d = d
    · have := a2 v h0 h3
      rw [e, hv] at this; simpa using this.symm
    · rw [if_neg e] at h
      split at h <;> simp at h
  · intro h
    rw [if_pos]
    rcases a3 with e | ⟨v, h0, h3, hv, hm⟩
    · exact e
    · rw [h v h0 h3 hv] at hm; cases hm
theorem said_neg (hd : d ∈ Ld) (hl : U6 l) : saidOf l d = -1 ↔ ∀ v, 0 ≤ v → v ≤ 3 → hasV d v = true → isMet l v = false := by
  refine ex0_4 (factA hd hl) fun a1 a2 a3 a4 => ?_
  refine ex0_7 (factB hd) fun b1 b2 b3 b4 b5 b6 b7 => ?_
  unfold saidOf
  constructor
  · intro h v h0 h3 hv
    by_cases e : struck l d = d
    · rw [if_pos e] at h; cases h
    · rw [if_neg e] at h
      by_cases e2 : struck l d = []
      · have := a2 v h0 h3
        rw [e2, hv] at this
        have e3 : hasV [] v = false := rfl
        rw [e3] at this; simpa using this.symm
      · rw [if_neg e2] at h; cases h
  · intro h
    have e2 : struck l d = [] := by
      rcases a1 with e | e
      · exact e
      · refine ex0_4 (factB e) fun c1 u0 c3 u1 => ?_
        have := a2 _ c1.1 c1.2
        rw [c3] at this
        have := this.symm
        rw [Bool.and_eq_true] at this
        rw [h _ c1.1 c1.2 this.1] at this
        cases this.2
    rw [if_neg (by rw [e2]; exact fun e => b7 e.symm), if_pos e2]
theorem said_zero (hd : d ∈ Ld) (hl : U6 l) {u v : Int} (hu : 0 ≤ u ∧ u ≤ 3) (hu1 : hasV d u = true) (hu2 : isMet l u = true) (hv : 0 ≤ v ∧ v ≤ 3) (hv1 : hasV d v = true) (hv2 : isMet l v = false) : saidOf l d = 0 := by
  have n1 : saidOf l d ≠ 1 := fun e => by have := (said_one hd hl).mp e v hv.1 hv.2 hv1; rw [hv2] at this; cases this
  have n2 : saidOf l d ≠ -1 := fun e => by have := (said_neg hd hl).mp e u hu.1 hu.2 hu1; rw [hu2] at this; cases this
  unfold saidOf at *
  split at n1
  · exact absurd rfl n1
  · rename_i e
    rw [if_neg e] at n2 ⊢
    split at n2
    · exact absurd rfl n2
    · rename_i e2; rw [if_neg e2]
end

theorem met_negl (l : Lit) (v : Int) : isMet (negl l) v = !isMet l v := by
  obtain ⟨x, s, k⟩ := l
  cases s
  · show decide (v = k) = !decide (v ≠ k)
    by_cases h : v = k <;> simp [h]
  · show decide (k + 1 ≤ v) = !decide (v ≤ k)
    rw [← decide_not, decide_eq_decide]; walk_at "o"
  · show decide (v ≠ k) = !decide (v = k)
    by_cases h : v = k <;> simp [h]
  · show decide (v ≤ k - 1) = !decide (k ≤ v)
    rw [← decide_not, decide_eq_decide]; walk_at "o"
theorem negl_x (l : Lit) : (negl l).x = l.x := by obtain ⟨x, s, k⟩ := l; cases s <;> rfl
theorem negl_inj {a b : Lit} (h : negl a = negl b) : a = b := by
  have nn : ∀ l : Lit, negl (negl l) = l := fun l => by
    obtain ⟨x, s, k⟩ := l
    cases s with
    | ne => rfl
    | eq => rfl
    | le => show (⟨x, .le, k + 1 - 1⟩ : Lit) = _; rw [Int.add_sub_cancel]
    | ge => show (⟨x, .ge, k - 1 + 1⟩ : Lit) = _; rw [Int.sub_add_cancel]
  rw [← nn a, h, nn]
theorem implies_met {a b : Lit} (h : implies a b = true) : a.x = b.x ∧ ∀ v, isMet a v = true → isMet b v = true := by
  obtain ⟨x, s, k⟩ := a; obtain ⟨y, t, j⟩ := b
  unfold implies at h
  by_cases hxy : x = y
  case neg => rw [if_pos hxy] at h; cases h
  subst hxy
  rw [if_neg (fun h => h rfl)] at h
  refine ⟨rfl, fun v hv => ?_⟩
  cases s with
  | ne => have := of_decide_eq_true h; rw [← this]; exact hv
  | eq => have hk : v = k := of_decide_eq_true hv; rw [hk]; exact h
  | le =>
    rcases Bool.or_eq_true_iff.mp h with h | h
    · refine ex0_2 (Bool.and_eq_true_iff.mp h) fun e q => ?_
      obtain rfl : t = .le := of_decide_eq_true e
      exact decide_eq_true (Int.le_trans (of_decide_eq_true hv) (of_decide_eq_true q))
    · refine ex0_2 (Bool.and_eq_true_iff.mp h) fun e q => ?_
      obtain rfl : t = .ne := of_decide_eq_true e
      exact decide_eq_true (Int.ne_of_lt (Int.lt_of_le_of_lt (of_decide_eq_true hv) (of_decide_eq_true q)))
  | ge =>
    rcases Bool.or_eq_true_iff.mp h with h | h
    · refine ex0_2 (Bool.and_eq_true_iff.mp h) fun e q => ?_
      obtain rfl : t = .ge := of_decide_eq_true e
      exact decide_eq_true (Int.le_trans (of_decide_eq_true q) (of_decide_eq_true hv))
    · refine ex0_2 (Bool.and_eq_true_iff.mp h) fun e q => ?_
      obtain rfl : t = .ne := of_decide_eq_true e
      exact decide_eq_true (Int.ne_of_gt (Int.lt_of_lt_of_le (of_decide_eq_true q) (of_decide_eq_true hv)))
theorem mem_range : ∀ (k : Nat) (lo v : Int), v ∈ rangeI lo k ↔ lo ≤ v ∧ v < lo + k
  | 0, lo, v => by simp [rangeI]; try walk_at "o"
  | k + 1, lo, v => by rw [rangeI, List.mem_cons, mem_range k]; push_cast; walk_at "o"
noncomputable def U4 (l : Lit) : Prop := 0 ≤ l.k ∧ l.k ≤ 3
theorem U4.u6 {l : Lit} (h : U4 l) : U6 l := ⟨by have := h.1; walk_at "o", by have := h.2; walk_at "o"⟩
theorem elders_mem {m w e : Lit} {d : Dom} (hd : d ∈ Ld) (he : e ∈ elders m d w) : e.x = m.x ∧ U4 e ∧ saidOf e d = 1 := by
  refine ex0_7 (factB hd) fun b1 b2 b3 b4 b5 b6 b7 => ?_
  unfold elders at he
  split at he
  · cases he
  · rw [List.mem_append, List.mem_append] at he
    rcases he with (he | he) | he
    · split at he
      · rw [List.mem_singleton] at he; subst he
        have hu : U4 ⟨m.x, .le, greatest d⟩ := b2
        refine ⟨rfl, hu, (said_one hd hu.u6).mpr fun v h0 h3 hv => ?_⟩
        simp [isMet]; exact (b5 v h0 h3 hv).2
      · cases he
    · split at he
      · rw [List.mem_singleton] at he; subst he
        have hu : U4 ⟨m.x, .ge, least d⟩ := b1
        refine ⟨rfl, hu, (said_one hd hu.u6).mpr fun v h0 h3 hv => ?_⟩
        simp [isMet]; exact (b5 v h0 h3 hv).1
      · cases he
    · refine ex1_2 (List.mem_map.mp he) fun v hv hr1 => ?_; subst hr1
      refine ex0_2 (List.mem_filter.mp hv) fun hv1 hv2 => ?_
      rw [mem_range] at hv1
      simp only [Bool.and_eq_true, Bool.not_eq_true'] at hv2
      have hu : U4 ⟨m.x, .ne, v⟩ := ⟨by show 0 ≤ v; walk_at "o", by show v ≤ 3; walk_at "o"⟩
      refine ⟨rfl, hu, (said_one hd hu.u6).mpr fun u h0 h3 hu1 => ?_⟩
      simp [isMet]
      rintro rfl
      rw [hv2.1.1] at hu1; cases hu1
theorem elders_len4 {m w : Lit} {d : Dom} (hd : d ∈ Ld) : (elders m d w).length ≤ 6 := by
  refine ex0_7 (factB hd) fun b1 b2 b3 b4 b5 b6 b7 => ?_
  have hr : ∀ (k : Nat) (lo : Int), (rangeI lo k).length = k := by
    intro k; induction k with
    | zero => intro lo; rfl
    | succ k ih => intro lo; rw [rangeI, List.length_cons, ih]
  have one : ∀ (q : Prop) [Decidable q] (x : Lit), (if q then [x] else []).length ≤ 1 := fun q _ x => by
    split
    · exact Nat.le_refl _
    · exact Nat.zero_le _
  unfold elders
  split
  · exact Nat.zero_le _
  · rw [List.length_append, List.length_append, List.length_map]
    have h := List.length_filter_le (fun v => !hasV d v && isMet m v && !isMet w v) (rangeI (least d) (greatest d + 1 - least d).toNat)
    rw [hr] at h
    exact Nat.add_le_add (Nat.add_le_add (one _ _) (one _ _)) (Nat.le_trans h (Int.toNat_le.mpr (Int.sub_left_le_of_le_add (Int.le_trans (Int.add_le_add_right b2.2 1) (Int.le_add_of_nonneg_left b1.1)))))
theorem sg_lo1 {l : Lit} {v u t : Int} (hv : isMet l v = true) (hu : isMet l u = true) (ht : isMet l t = false) (h1 : v < u) (h2 : v < t) : l.s = .le ∨ l.s = .ne := by
  obtain ⟨x, s, k⟩ := l
  cases s with
  | le => exact .inl rfl
  | ne => exact .inr rfl
  | ge => exact absurd (Int.le_trans (of_decide_eq_true hv) (Int.le_of_lt h2)) (of_decide_eq_false ht)
  | eq => exact absurd ((of_decide_eq_true hv : v = k).trans (of_decide_eq_true hu : u = k).symm) (Int.ne_of_lt h1)
theorem sg_hi1 {l : Lit} {v u t : Int} (hv : isMet l v = true) (hu : isMet l u = true) (ht : isMet l t = false) (h1 : u < v) (h2 : t < v) : l.s = .ge ∨ l.s = .ne := by
  obtain ⟨x, s, k⟩ := l
  cases s with
  | ge => exact .inl rfl
  | ne => exact .inr rfl
  | le => exact absurd (Int.le_trans (Int.le_of_lt h2) (of_decide_eq_true hv)) (of_decide_eq_false ht)
  | eq => exact absurd ((of_decide_eq_true hu : u = k).trans (of_decide_eq_true hv : v = k).symm) (Int.ne_of_lt h1)
theorem ne_not {x : Nat} {k v : Int} (h : isMet ⟨x, .ne, k⟩ v = false) : v = k := Decidable.not_not.mp (of_decide_eq_false h)
theorem sg_lo2 {l : Lit} {v u r : Int} (hv : isMet l v = false) (hu : isMet l u = true) (hr : isMet l r = false) (h1 : v < u) (h2 : v < r) : l.s = .ge ∨ l.s = .eq := by
  obtain ⟨x, s, k⟩ := l
  cases s with
  | ge => exact .inl rfl
  | eq => exact .inr rfl
  | le => exact absurd (Int.le_trans (Int.le_of_lt h1) (of_decide_eq_true hu)) (of_decide_eq_false hv)
  | ne => exact absurd ((ne_not hv).trans (ne_not hr).symm) (Int.ne_of_lt h2)
theorem sg_hi2 {l : Lit} {v u r : Int} (hv : isMet l v = false) (hu : isMet l u = true) (hr : isMet l r = false) (h1 : u < v) (h2 : r < v) : l.s = .le ∨ l.s = .eq := by
  obtain ⟨x, s, k⟩ := l
  cases s with
  | le => exact .inl rfl
  | eq => exact .inr rfl
  | ge => exact absurd (Int.le_trans (of_decide_eq_true hu) (Int.le_of_lt h1)) (of_decide_eq_false hv)
  | ne => exact absurd ((ne_not hr).trans (ne_not hv).symm) (Int.ne_of_lt h2)
theorem elders_say {m w : Lit} {d : Dom} (hd : d ∈ Ld) (hm : U4 m) (hw : U4 w) (hx : m.x = w.x) (hne : struck m d ≠ []) (hst : struck m d ≠ d) (hs : saidOf w (struck m d) = 1) (hn : saidOf w d ≠ 1)
    {v : Int} (h0 : 0 ≤ v) (h3 : v ≤ 3) (hmv : isMet m v = true) (he : ∀ e ∈ elders m d w, isMet e v = true) : isMet w v = true := by
  refine ex0_7 (factB hd) fun b1 b2 b3 b4 b5 b6 b7 => ?_
  refine ex0_4 (factA hd hm.u6) fun a1 a2 a3 a4 => ?_
  have hd' : struck m d ∈ Ld := a1.resolve_left hne
  have hsw := (said_one hd' hw.u6).mp hs
  -- values that both have
  have both : ∀ u, 0 ≤ u → u ≤ 3 → hasV d u = true → isMet m u = true → isMet w u = true := fun u p q r t => hsw u p q (by rw [a2 u p q, r, t]; rfl)
  obtain ⟨u0, hu0, hu3, hud, hum⟩ : ∃ u, 0 ≤ u ∧ u ≤ 3 ∧ hasV d u = true ∧ isMet m u = true := by
    refine ex0_4 (factB hd') fun c1 u0 c3 u1 => ?_
    have := a2 _ c1.1 c1.2
    rw [c3] at this
    have := this.symm; rw [Bool.and_eq_true] at this
    exact ⟨_, c1.1, c1.2, this.1, this.2⟩
  refine ex1_4 (a3.resolve_left hst) fun t ht0 ht3 htd htm => ?_
  obtain ⟨r, hr0, hr3, hrd, hrw⟩ : ∃ r, 0 ≤ r ∧ r ≤ 3 ∧ hasV d r = true ∧ isMet w r = false := by
    by_cases hex : ∃ r, 0 ≤ r ∧ r ≤ 3 ∧ hasV d r = true ∧ isMet w r = false
    · exact hex
    · exact absurd ((said_one hd hw.u6).mpr fun v p q s => by
        cases e : isMet w v with
        | true => rfl
        | false => exact absurd ⟨v, p, q, s, e⟩ hex) hn
  cases hwv : isMet w v with
  | true => rfl
  | false =>
    exfalso
    unfold elders at he
    by_cases hi : implies m w = true
    · have := (implies_met hi).2 v hmv; rw [hwv] at this; cases this
    rw [if_neg hi] at he
    have hvd : hasV d v = false := by
      cases e : hasV d v with
      | false => rfl
      | true => have := both v h0 h3 e hmv; rw [hwv] at this; cases this
    have u1 := b5 u0 hu0 hu3 hud
    have u2 := both u0 hu0 hu3 hud hum
    have t1 := b5 t ht0 ht3 htd
    have r1 := b5 r hr0 hr3 hrd
    by_cases hlo : v < least d
    · have := he ⟨m.x, .ge, least d⟩ (List.mem_append_left _ (List.mem_append_right _ (by rw [if_pos ⟨sg_lo1 hmv hum htm (Int.lt_of_lt_of_le hlo u1.1) (Int.lt_of_lt_of_le hlo t1.1), sg_lo2 hwv u2 hrw (Int.lt_of_lt_of_le hlo u1.1) (Int.lt_of_lt_of_le hlo r1.1)⟩]; exact .head _)))
      exact absurd (of_decide_eq_true this) (Int.not_le_of_gt hlo)
    · by_cases hhi : greatest d < v
      · have := he ⟨m.x, .le, greatest d⟩ (List.mem_append_left _ (List.mem_append_left _ (by rw [if_pos ⟨sg_hi1 hmv hum htm (Int.lt_of_le_of_lt u1.2 hhi) (Int.lt_of_le_of_lt t1.2 hhi), sg_hi2 hwv u2 hrw (Int.lt_of_le_of_lt u1.2 hhi) (Int.lt_of_le_of_lt r1.2 hhi)⟩]; exact .head _)))
        exact absurd (of_decide_eq_true this) (Int.not_le_of_gt hhi)
      · have := he ⟨m.x, .ne, v⟩ (by
          refine List.mem_append_right _ (List.mem_map.mpr ⟨v, List.mem_filter.mpr ⟨?_, by simp [hvd, hmv, hwv]⟩, rfl⟩)
          rw [mem_range]; walk_at "o")
        simp [isMet] at this
end
section
set_option autoImplicit false
set_option linter.unusedVariables false
set_option maxRecDepth 100000

noncomputable def domAt (tr : List Ent) (x : Nat) : Nat → Dom
  | 0 => full
  | i + 1 => match tr[i]? with
    | some e => if e.x = x then struck e.lit e.old else domAt tr x i
    | none => domAt tr x i
structure EntOK (tr : List Ent) (i : Nat) (e : Ent) : Prop where
  x3 : e.x < 3
  lx : e.lit.x = e.x
  u : U4 e.lit
  old : e.old = domAt tr e.x i
  ne : struck e.lit e.old ≠ []
  turn : struck e.lit e.old ≠ e.old
  rsn : ∀ rs, e.rs = some rs → rs.length ≤ 2 ∧ ∀ r ∈ rs, U4 r ∧ r.x < 3 ∧ saidOf r (domAt tr r.x i) = 1
structure SI (tr : List Ent) (ms : List Nat) : Prop where
  ent : ∀ i e, tr[i]? = some e → EntOK tr i e
  inc : ms.Pairwise (· < ·)
  dec : ∀ i e, tr[i]? = some e → (e.rs = none ↔ i ∈ ms)
  mlt : ∀ m ∈ ms, m < tr.length

section
variable {tr : List Ent} {ms : List Nat}
theorem SI.dom (S : SI tr ms) (x : Nat) : ∀ i, domAt tr x i ∈ Ld
  | 0 => full_mem
  | i + 1 => by
    unfold domAt
    cases e : tr[i]? with
    | none => exact S.dom x i
    | some en =>
      dsimp only
      split
      · have ok := S.ent i en e
        have h0 : en.old ∈ Ld := by rw [ok.old]; exact S.dom en.x i
        exact ((factA h0 ok.u.u6).1).resolve_left ok.ne
      · exact S.dom x i
theorem domAt_succ {x i : Nat} {e : Ent} (h : tr[i]? = some e) : domAt tr x (i + 1) = if e.x = x then struck e.lit e.old else domAt tr x i := by
  conv => lhs; unfold domAt
  rw [h]
theorem SI.sub (S : SI tr ms) {x i : Nat} {v : Int} (h0 : 0 ≤ v) (h3 : v ≤ 3) (h : hasV (domAt tr x (i + 1)) v = true) : hasV (domAt tr x i) v = true := by
  unfold domAt at h
  cases e : tr[i]? with
  | none => rw [e] at h; exact h
  | some en =>
    rw [e] at h
    dsimp only at h
    have ok := S.ent i en e
    split at h
    · rename_i hx
      subst hx
      have h1 : en.old ∈ Ld := by rw [ok.old]; exact S.dom en.x i
      rw [(factA h1 ok.u.u6).2.1 v h0 h3, Bool.and_eq_true] at h
      rw [← ok.old]; exact h.1
    · exact h
theorem SI.sub' (S : SI tr ms) {x : Nat} {v : Int} (h0 : 0 ≤ v) (h3 : v ≤ 3) {i j : Nat} (hij : i ≤ j) (h : hasV (domAt tr x j) v = true) : hasV (domAt tr x i) v = true := by
  induction j with
  | zero => rw [Nat.le_zero.mp hij]; exact h
  | succ j ih =>
    by_cases e : i = j + 1
    · rw [e]; exact h
    · exact ih (by walk_at "o") (S.sub h0 h3 h)
theorem SI.mono (S : SI tr ms) {l : Lit} (hl : U6 l) {i j : Nat} (hij : i ≤ j) (h : saidOf l (domAt tr l.x i) = 1) : saidOf l (domAt tr l.x j) = 1 :=
  (said_one (S.dom _ _) hl).mpr fun v h0 h3 hv => (said_one (S.dom _ _) hl).mp h v h0 h3 (S.sub' h0 h3 hij hv)

noncomputable def cond (l : Lit) (e : Ent) : Prop := e.x = l.x ∧ saidOf l (struck e.lit e.old) = 1
theorem spotFrom_some {l : Lit} : ∀ (r : List Ent) (i s : Nat), spotFrom l r i = some s → i ≤ s ∧ (∃ e, r[s - i]? = some e ∧ cond l e) ∧ ∀ j e, j < s - i → r[j]? = some e → ¬ cond l e
  | [], i, s, h => by cases h
  | e :: r, i, s, h => by
    unfold spotFrom at h
    by_cases hc : e.x = l.x ∧ saidOf l (struck e.lit e.old) = 1
    · rw [if_pos hc] at h; cases h
      exact ⟨Nat.le_refl _, ⟨e, by simp, hc⟩, fun j e hj => by walk_at "o"⟩
    · rw [if_neg hc] at h
      obtain ⟨h1, ⟨e', h2, h3⟩, h4⟩ := spotFrom_some r (i + 1) s h
      refine ⟨by walk_at "o", ⟨e', ?_, h3⟩, fun j e'' hj he => ?_⟩
      · rw [show s - i = (s - (i + 1)) + 1 by walk_at "o"]; simpa using h2
      · cases j with
        | zero => simp at he; subst he; exact hc
        | succ j => exact h4 j e'' (by walk_at "o") (by simpa using he)
theorem spotFrom_none {l : Lit} : ∀ (r : List Ent) (i : Nat), spotFrom l r i = none → ∀ (j : Nat) e, r[j]? = some e → ¬ cond l e
  | [], i, h, j, e, he => by simp at he
  | e :: r, i, h, j, e', he => by
    unfold spotFrom at h
    by_cases hc : e.x = l.x ∧ saidOf l (struck e.lit e.old) = 1
    · rw [if_pos hc] at h; cases h
    · rw [if_neg hc] at h
      cases j with
      | zero => simp at he; subst he; exact hc
      | succ j => exact spotFrom_none r (i + 1) h j e' (by simpa using he)
theorem not_yet (S : SI tr ms) {l : Lit} (h0 : saidOf l full ≠ 1) {s : Nat} (h : ∀ j e, j < s → tr[j]? = some e → ¬ cond l e) : ∀ j, j ≤ s → saidOf l (domAt tr l.x j) ≠ 1
  | 0, _ => h0
  | j + 1, hj => by
    have ih := not_yet S h0 h j (by walk_at "o")
    cases e : tr[j]? with
    | none => unfold domAt; rw [e]; exact ih
    | some en =>
      rw [domAt_succ e]
      split
      · rename_i hx
        exact fun q => h j en (by walk_at "o") e ⟨hx, q⟩
      · exact ih
theorem spot_spec (S : SI tr ms) {l : Lit} {i : Int} (h : spotOf tr l = some i) : (i = -1 ∧ saidOf l full = 1) ∨ ∃ s : Nat, i = s ∧ s < tr.length ∧ saidOf l full ≠ 1 ∧ (∃ e, tr[s]? = some e ∧ e.x = l.x ∧ saidOf l (struck e.lit e.old) = 1) ∧ saidOf l (domAt tr l.x (s + 1)) = 1 ∧ saidOf l (domAt tr l.x s) ≠ 1 := by
  unfold spotOf at h
  by_cases h0 : saidOf l full = 1
  · rw [if_pos h0] at h; cases h; exact .inl ⟨rfl, h0⟩
  · rw [if_neg h0] at h
    refine ex1_2 (Option.map_eq_some_iff.mp h) fun s hs hr1 => ?_; subst hr1
    obtain ⟨-, ⟨e, h2, h3⟩, h4⟩ := spotFrom_some tr 0 s hs
    rw [Nat.sub_zero] at h2 h4
    refine .inr ⟨s, rfl, (List.getElem?_eq_some_iff.mp h2).1, h0, ⟨e, h2, h3⟩, ?_, not_yet S h0 h4 s (Nat.le_refl _)⟩
    rw [domAt_succ h2, if_pos h3.1]; exact h3.2
theorem spot_of_holds (S : SI tr ms) {l : Lit} (hl : U6 l) {j : Nat} (hj : j ≤ tr.length) (h : saidOf l (domAt tr l.x j) = 1) : ∃ i, spotOf tr l = some i ∧ -1 ≤ i ∧ i < j := by
  unfold spotOf
  by_cases h0 : saidOf l full = 1
  · rw [if_pos h0]; exact ⟨-1, rfl, by walk_at "o", by walk_at "o"⟩
  · rw [if_neg h0]
    cases e : spotFrom l tr 0 with
    | none => exact absurd h (not_yet S h0 (s := tr.length) (fun j e' u0 he => spotFrom_none tr 0 e j e' he) j hj)
    | some s =>
      obtain ⟨-, ⟨en, h2, h3⟩, h4⟩ := spotFrom_some tr 0 s e
      rw [Nat.sub_zero] at h2 h4
      refine ⟨s, rfl, by walk_at "o", ?_⟩
      by_cases hsj : s < j
      · walk_at "o"
      · exact absurd h (not_yet S h0 h4 j (by walk_at "o"))
theorem spot_own (S : SI tr ms) {s : Nat} {e : Ent} (he : tr[s]? = some e) : spotOf tr e.lit = some (s : Int) := by
  have ok := S.ent s e he
  have hd : e.old ∈ Ld := by rw [ok.old]; exact S.dom _ _
  have hd' : struck e.lit e.old ∈ Ld := ((factA hd ok.u.u6).1).resolve_left ok.ne
  have h1 : saidOf e.lit (domAt tr e.lit.x (s + 1)) = 1 := by
    rw [domAt_succ he, if_pos ok.lx.symm]
    refine (said_one hd' ok.u.u6).mpr fun v h0 h3 hv => ?_
    rw [(factA hd ok.u.u6).2.1 v h0 h3, Bool.and_eq_true] at hv; exact hv.2
  have h2 : saidOf e.lit (domAt tr e.lit.x s) ≠ 1 := by
    rw [ok.lx, ← ok.old]
    intro h; unfold saidOf at h
    rw [if_neg ok.turn] at h
    split at h <;> simp at h
  have hlt := (List.getElem?_eq_some_iff.mp he).1
  refine ex1_3 (spot_of_holds S ok.u.u6 (j := s + 1) (by walk_at "o") h1) fun i hi u0 hi2 => ?_
  rcases spot_spec S hi with ⟨rfl, h0⟩ | ⟨s', rfl, _, _, _, h3, _⟩
  · exact absurd (S.mono ok.u.u6 (i := 0) (Nat.zero_le s) h0) h2
  · by_cases e' : s' = s
    · rw [hi, e']
    · exact absurd (S.mono ok.u.u6 (show s' + 1 ≤ s by walk_at "o") h3) h2

noncomputable def levelOf (ms : List Nat) (s : Nat) : Nat := (ms.filter (fun m => decide (m ≤ s))).length
theorem level_le (ms : List Nat) (s : Nat) : levelOf ms s ≤ ms.length := List.length_filter_le _ _
theorem level_mono {s s' : Nat} (h : s ≤ s') : levelOf ms s ≤ levelOf ms s' := by
  unfold levelOf
  rw [← List.countP_eq_length_filter, ← List.countP_eq_length_filter]
  exact List.countP_mono_left fun m u0 hm => by simp at hm ⊢; walk_at "o"
theorem level_take : ∀ {ms : List Nat}, ms.Pairwise (· < ·) → ∀ (s lv m : Nat), ms[lv]? = some m → (lv < levelOf ms s ↔ m ≤ s)
  | [], _, s, lv, m, h => by simp at h
  | a :: r, hp, s, lv, m, h => by
    refine ex0_2 (List.pairwise_cons.mp hp) fun h1 h2 => ?_
    unfold levelOf
    by_cases ha : a ≤ s
    · rw [List.filter_cons_of_pos (by simpa using ha), List.length_cons]
      cases lv with
      | zero => simp at h; subst h; simp [ha]
      | succ lv =>
        have := level_take h2 s lv m (by simpa using h)
        unfold levelOf at this; walk_at "o"
    · have : r.filter (fun m => decide (m ≤ s)) = [] := by
        rw [List.filter_eq_nil_iff]; intro x hx; have := h1 x hx; simp; walk_at "o"
      rw [List.filter_cons_of_neg (by simpa using ha), this]
      cases lv with
      | zero => simp at h; subst h; simp; walk_at "o"
      | succ lv =>
        have hm : m ∈ r := List.mem_of_getElem? (by simpa using h)
        have := h1 m hm
        simp; walk_at "o"
theorem level_inj (hp : ms.Pairwise (· < ·)) {a b : Nat} (ha : a ∈ ms) (hb : b ∈ ms) (h : levelOf ms a = levelOf ms b) : a = b := by
  refine ex1_1 (List.getElem?_of_mem ha) fun i hi => ?_
  refine ex1_1 (List.getElem?_of_mem hb) fun j hj => ?_
  have h1 := level_take hp a i a hi
  have h2 := level_take hp b i a hi
  have h3 := level_take hp b j b hj
  have h4 := level_take hp a j b hj
  walk_at "o"
theorem level_pos {a : Nat} (ha : a ∈ ms) : 1 ≤ levelOf ms a := by
  unfold levelOf
  exact List.length_pos_of_mem (List.mem_filter.mpr ⟨ha, by simp⟩)
end
end
section
set_option autoImplicit false
set_option linter.unusedVariables false
set_option maxRecDepth 100000

noncomputable def sgN : Sg → Nat
  | .ne => 0
  | .le => 1
  | .eq => 2
  | .ge => 3
theorem sgN_inj {a b : Sg} (h : sgN a = sgN b) : a = b := by revert h; cases a <;> cases b <;> decide
abbrev litLt (a b : Lit) : Prop := a.x < b.x ∨ (a.x = b.x ∧ (sgN a.s < sgN b.s ∨ (sgN a.s = sgN b.s ∧ a.k < b.k)))
theorem litLt_trans {a b c : Lit} (h : litLt a b) (h' : litLt b c) : litLt a c := by
  rcases h with h | ⟨e, h⟩
  · rcases h' with h' | ⟨e', h'⟩
    · exact .inl (Nat.lt_trans h h')
    · exact .inl (e' ▸ h)
  · rcases h' with h' | ⟨e', h'⟩
    · exact .inl (e ▸ h')
    · refine .inr ⟨e.trans e', ?_⟩
      rcases h with h | ⟨e, h⟩
      · rcases h' with h' | ⟨e', h'⟩
        · exact .inl (Nat.lt_trans h h')
        · exact .inl (e' ▸ h)
      · rcases h' with h' | ⟨e', h'⟩
        · exact .inl (e ▸ h')
        · exact .inr ⟨e.trans e', Int.lt_trans h h'⟩
theorem litLt_irr {a : Lit} : ¬ litLt a a := by unfold litLt; walk_at "o"
theorem litLt_total {a b : Lit} (h : a ≠ b) : litLt a b ∨ litLt b a := by
  rcases Nat.lt_trichotomy a.x b.x with h1 | h1 | h1
  · exact .inl (.inl h1)
  · rcases Nat.lt_trichotomy (sgN a.s) (sgN b.s) with h2 | h2 | h2
    · exact .inl (.inr ⟨h1, .inl h2⟩)
    · rcases Int.lt_trichotomy a.k b.k with h3 | h3 | h3
      · exact .inl (.inr ⟨h1, .inr ⟨h2, h3⟩⟩)
      · obtain ⟨x, s, k⟩ := a; obtain ⟨y, t, j⟩ := b
        exact absurd (show (⟨x, s, k⟩ : Lit) = ⟨y, t, j⟩ by rw [show x = y from h1, show s = t from sgN_inj h2, show k = j from h3]) h
      · exact .inr (.inr ⟨h1.symm, .inr ⟨h2.symm, h3⟩⟩)
    · exact .inr (.inr ⟨h1.symm, .inl h2⟩)
  · exact .inr (.inl h1)
noncomputable def insL (a : Lit) : List Lit → List Lit
  | [] => [a]
  | b :: r => if litLt a b then a :: b :: r else b :: insL a r
noncomputable def sortL : List Lit → List Lit
  | [] => []
  | a :: r => insL a (sortL r)
theorem insL_perm (a : Lit) : ∀ r, (insL a r).Perm (a :: r)
  | [] => .refl _
  | b :: r => by
    unfold insL
    split
    · exact .refl _
    · exact (List.Perm.cons b (insL_perm a r)).trans (List.Perm.swap a b r)
theorem sortL_perm : ∀ r, (sortL r).Perm r
  | [] => .refl _
  | a :: r => (insL_perm a _).trans (List.Perm.cons a (sortL_perm r))
theorem insL_sorted {a : Lit} : ∀ {r : List Lit}, r.Pairwise litLt → a ∉ r → (insL a r).Pairwise litLt
  | [], _, _ => by simp [insL]
  | b :: r, h, hn => by
    refine ex0_2 (List.pairwise_cons.mp h) fun h1 h2 => ?_
    unfold insL
    split
    · rename_i hab
      refine List.pairwise_cons.mpr ⟨fun c hc => ?_, h⟩
      rcases List.mem_cons.mp hc with rfl | hc
      · exact hab
      · exact litLt_trans hab (h1 c hc)
    · rename_i hab
      have hne : a ≠ b := fun e => hn (e ▸ .head _)
      have hba : litLt b a := (litLt_total hne).resolve_left hab
      refine List.pairwise_cons.mpr ⟨fun c hc => ?_, insL_sorted h2 fun e => hn (.tail _ e)⟩
      rcases List.mem_cons.mp ((insL_perm a r).mem_iff.mp hc) with rfl | hc
      · exact hba
      · exact h1 c hc
theorem sortL_sorted : ∀ {r : List Lit}, r.Nodup → (sortL r).Pairwise litLt
  | [], _ => List.Pairwise.nil
  | a :: r, h => by
    refine ex0_2 (List.nodup_cons.mp h) fun h1 h2 => ?_
    exact insL_sorted (sortL_sorted h2) fun e => h1 ((sortL_perm r).mem_iff.mp e)
theorem sorted_unique : ∀ {xs ys : List Lit}, xs.Perm ys → xs.Pairwise litLt → ys.Pairwise litLt → xs = ys
  | [], ys, p, _, _ => (List.nil_perm.mp p).symm
  | x :: xs, [], p, _, _ => by have := p.length_eq; simp at this
  | x :: xs, y :: ys, p, h, h' => by
    refine ex0_2 (List.pairwise_cons.mp h) fun h1 h2 => ?_
    refine ex0_2 (List.pairwise_cons.mp h') fun h3 h4 => ?_
    have e : x = y := by
      by_cases e : x = y
      · exact e
      · exfalso
        have hx : x ∈ ys := (List.mem_cons.mp (p.mem_iff.mp (.head _))).resolve_left e
        have hy : y ∈ xs := (List.mem_cons.mp (p.mem_iff.mpr (.head _))).resolve_left (Ne.symm e)
        exact litLt_irr (litLt_trans (h1 y hy) (h3 x hx))
    subst e
    rw [sorted_unique (List.Perm.cons_inv p) h2 h4]
theorem sorted_nodup {xs : List Lit} (h : xs.Pairwise litLt) : xs.Nodup := List.Pairwise.imp (fun {a b} hab (e : a = b) => by subst e; exact litLt_irr hab) h
theorem sortL_of {xs ys : List Lit} (p : ys.Perm xs) (h : ys.Pairwise litLt) : ys = sortL xs :=
  sorted_unique (p.trans (sortL_perm xs).symm) h (sortL_sorted (p.nodup_iff.mp (sorted_nodup h)))

abbrev Front := List (Lit × Nat)
noncomputable def keys (fr : Front) : List Lit := fr.map (·.1)
noncomputable def lookF (fr : Front) (l : Lit) : Option Nat := (fr.find? fun e => decide (e.1 = l)).map (·.2)
noncomputable def storeF (fr : Front) (l : Lit) (s : Nat) : Front := if (lookF fr l).isSome then fr.map (fun e => if e.1 = l then (e.1, s) else e) else fr ++ [(l, s)]
noncomputable def dropF (fr : Front) (l : Lit) : Front := fr.filter fun e => decide (e.1 ≠ l)
noncomputable def putF (tr : List Ent) (fr : Front) (l : Lit) : Front := match spotOf tr l with
  | some i => if 0 ≤ i then storeF fr l i.toNat else fr
  | none => fr
noncomputable def isDec (tr : List Ent) (l : Lit) (s : Nat) : Bool := match tr[s]? with
  | some e => e.rs.isNone && decide (e.lit = l)
  | none => false
noncomputable def openedL (e : Ent) (l : Lit) : List Lit := e.rs.getD [e.lit] ++ elders e.lit e.old l
noncomputable def openedF (tr : List Ent) (fr : Front) (l : Lit) : Front := match (lookF fr l).bind fun s => tr[s]? with
  | some e => (openedL e l).foldl (putF tr) (dropF fr l)
  | none => fr
noncomputable def addU (us : List Nat) (s : Nat) : List Nat := if us.any (fun k => decide (k = s)) then us else us ++ [s]
noncomputable def openedU (tr : List Ent) (fr : Front) (us : List Nat) (l : Lit) : List Nat := match lookF fr l with
  | some s => match tr[s]? with
    | some e => if e.rs.isSome then addU us s else us
    | none => us
  | none => us
noncomputable def levL (ms : List Nat) (fr : Front) (l : Lit) : Nat := levelOf ms ((lookF fr l).getD 0)
noncomputable def lateOnes (ms : List Nat) (fr : Front) (lev : Nat) : List Lit := (sortL (keys fr)).filter fun l => decide (levL ms fr l = lev)
noncomputable def beats (fr : Front) (best : Option Lit) (l : Lit) : Bool := match best with
  | none => true
  | some b => decide ((lookF fr b).getD 0 < (lookF fr l).getD 0)
noncomputable def better (tr : List Ent) (fr : Front) (best : Option Lit) (l : Lit) : Option Lit :=
  if (!isDec tr l ((lookF fr l).getD 0) && beats fr best l) = true then some l else best
noncomputable def latest (tr : List Ent) (fr : Front) (ls : List Lit) : Option Lit := ls.foldl (better tr fr) none
noncomputable def maxLev (ms : List Nat) (fr : Front) : Nat := (fr.map fun e => levelOf ms e.2).foldl max 0
noncomputable def nextOne (tr : List Ent) (ms : List Nat) (fr : Front) : Option Lit := match latest tr fr (lateOnes ms fr 0) with
  | some l => some l
  | none => if 1 < (lateOnes ms fr (maxLev ms fr)).length then latest tr fr (lateOnes ms fr (maxLev ms fr)) else none

theorem lookF_some {fr : Front} {l : Lit} {s : Nat} (h : lookF fr l = some s) : (l, s) ∈ fr := by
  unfold lookF at h
  refine ex1_2 (Option.map_eq_some_iff.mp h) fun e he hr1 => ?_; subst hr1
  have h1 := List.find?_some he
  have h2 := List.mem_of_find?_eq_some he
  have : e.1 = l := by simpa using h1
  rw [← this]; exact h2
theorem lookF_mem {fr : Front} (hn : (keys fr).Nodup) {l : Lit} {s : Nat} (h : (l, s) ∈ fr) : lookF fr l = some s := by
  induction fr with
  | nil => cases h
  | cons e r ih =>
    refine ex0_2 (List.nodup_cons.mp hn) fun n1 n2 => ?_
    unfold lookF
    rw [List.find?_cons]
    rcases List.mem_cons.mp h with rfl | h
    · simp
    · have : e.1 ≠ l := fun q => n1 (List.mem_map.mpr ⟨(l, s), h, q.symm⟩)
      simp only [this, decide_false]
      exact ih n2 h
theorem lookF_isSome {fr : Front} {l : Lit} : (lookF fr l).isSome = true ↔ l ∈ keys fr := by
  unfold lookF keys
  rw [Option.isSome_map, List.find?_isSome]
  simp only [decide_eq_true_eq, List.mem_map]

structure FI (tr : List Ent) (fr : Front) : Prop where
  nd : (keys fr).Nodup
  at' : ∀ e ∈ fr, U4 e.1 ∧ e.1.x < 3 ∧ spotOf tr e.1 = some (e.2 : Int)
theorem FI.nil {tr : List Ent} : FI tr [] := ⟨List.nodup_nil, fun u0 h => by cases h⟩
section
variable {tr : List Ent} {ms : List Nat} {fr : Front}
theorem FI.look (F : FI tr fr) {l : Lit} {s : Nat} (h : spotOf tr l = some (s : Int)) (hm : l ∈ keys fr) : lookF fr l = some s := by
  refine ex1_2 (List.mem_map.mp hm) fun e he hr1 => ?_; subst hr1
  have := (F.at' e he).2.2
  rw [h] at this
  have : s = e.2 := by have := Option.some.inj this; walk_at "o"
  rw [this]; exact lookF_mem F.nd he
theorem storeF_same (F : FI tr fr) {l : Lit} {s : Nat} (h : spotOf tr l = some (s : Int)) (hm : l ∈ keys fr) : storeF fr l s = fr := by
  unfold storeF
  rw [if_pos (lookF_isSome.mpr hm)]
  have : ∀ e ∈ fr, (if e.1 = l then (e.1, s) else e) = e := fun e he => by
    split
    · rename_i q
      have := (F.at' e he).2.2
      rw [q, h] at this
      have : s = e.2 := by have := Option.some.inj this; walk_at "o"
      rw [this]
    · rfl
  rw [List.map_congr_left this]; simp
theorem storeF_new {l : Lit} {s : Nat} (hm : l ∉ keys fr) : storeF fr l s = fr ++ [(l, s)] := by
  unfold storeF; rw [if_neg fun h => hm (lookF_isSome.mp h)]
theorem FI.add (F : FI tr fr) {l : Lit} {s : Nat} (hu : U4 l) (hx : l.x < 3) (h : spotOf tr l = some (s : Int)) (hm : l ∉ keys fr) : FI tr (fr ++ [(l, s)]) := by
  refine ⟨?_, fun e he => ?_⟩
  · unfold keys; rw [List.map_append]
    refine List.nodup_append.mpr ⟨F.nd, by simp, fun a ha b hb => ?_⟩
    simp at hb; subst hb; rintro rfl; exact hm ha
  · rcases List.mem_append.mp he with he | he
    · exact F.at' e he
    · rw [List.mem_singleton] at he; subst he; exact ⟨hu, hx, h⟩
theorem FI.drop (F : FI tr fr) (l : Lit) : FI tr (dropF fr l) :=
  ⟨F.nd.sublist (List.Sublist.map _ List.filter_sublist), fun e he => F.at' e (List.mem_filter.mp he).1⟩
noncomputable def wt (tr : List Ent) (e : Lit × Nat) : Nat := if isDec tr e.1 e.2 then 0 else 10 ^ e.2
noncomputable def mu (tr : List Ent) (fr : Front) : Nat := (fr.map (wt tr)).sum
theorem put_spec (S : SI tr ms) (F : FI tr fr) {l : Lit} (hu : U4 l) (hx : l.x < 3) {i : Int} (h : spotOf tr l = some i) : FI tr (putF tr fr l) ∧ (∀ e ∈ fr, e ∈ putF tr fr l) ∧ (∀ s : Nat, i = s → (l, s) ∈ putF tr fr l) ∧ mu tr (putF tr fr l) ≤ mu tr fr + (if 0 ≤ i then wt tr (l, i.toNat) else 0) := by
  unfold putF
  rw [h]
  dsimp only
  by_cases hi : 0 ≤ i
  · rw [if_pos hi, if_pos hi]
    have hs : spotOf tr l = some (i.toNat : Int) := by rw [h]; congr 1; walk_at "o"
    by_cases hm : l ∈ keys fr
    · rw [storeF_same F hs hm]
      exact ⟨F, fun u0 h => h, fun s e => by have := lookF_some (F.look hs hm); rwa [show i.toNat = s by walk_at "o"] at this, Nat.le_add_right _ _⟩
    · rw [storeF_new hm]
      refine ⟨F.add hu hx hs hm, fun e he => List.mem_append_left _ he, fun s e => List.mem_append_right _ (by rw [show i.toNat = s by walk_at "o"]; simp), ?_⟩
      unfold mu; rw [List.map_append, List.sum_append]; simp
  · rw [if_neg hi, if_neg hi]
    exact ⟨F, fun u0 h => h, fun s e => by walk_at "o", Nat.le_refl _⟩
theorem puts_spec (S : SI tr ms) {B : Nat} : ∀ (ls : List Lit) (fr : Front), FI tr fr → (∀ l ∈ ls, U4 l ∧ l.x < 3 ∧ ∃ i, spotOf tr l = some i ∧ (if 0 ≤ i then wt tr (l, i.toNat) else 0) ≤ B) →
    FI tr (ls.foldl (putF tr) fr) ∧ (∀ e ∈ fr, e ∈ ls.foldl (putF tr) fr) ∧ (∀ l ∈ ls, ∀ s : Nat, spotOf tr l = some (s : Int) → (l, s) ∈ ls.foldl (putF tr) fr) ∧ mu tr (ls.foldl (putF tr) fr) ≤ mu tr fr + ls.length * B
  | [], fr, F, _ => ⟨F, fun u0 h => h, (fun u0 h => nomatch h), by simp⟩
  | l :: r, fr, F, h => by
    obtain ⟨hu, hx, i, hi, hw⟩ := h l (.head _)
    refine ex0_4 (put_spec S F hu hx hi) fun F1 k1 n1 m1 => ?_
    refine ex0_4 (puts_spec S r _ F1 fun l' hl' => h l' (.tail _ hl')) fun F2 k2 n2 m2 => ?_
    rw [List.foldl_cons]
    refine ⟨F2, fun e he => k2 e (k1 e he), fun l' hl' s hs => ?_, ?_⟩
    · rcases List.mem_cons.mp hl' with rfl | hl'
      · rw [hi] at hs; exact k2 _ (n1 s (Option.some.inj hs))
      · exact n2 l' hl' s hs
    · rw [List.length_cons, Nat.succ_mul]; walk_at "o"
theorem mu_drop {l : Lit} {s : Nat} (hn : (keys fr).Nodup) (h : (l, s) ∈ fr) : mu tr (dropF fr l) + wt tr (l, s) = mu tr fr := by
  induction fr with
  | nil => cases h
  | cons e r ih =>
    refine ex0_2 (List.nodup_cons.mp hn) fun n1 n2 => ?_
    unfold dropF mu
    rcases List.mem_cons.mp h with rfl | h
    · have : r.filter (fun e => decide (e.1 ≠ l)) = r := List.filter_eq_self.mpr fun x hx => by
        simp only [ne_eq, decide_not, Bool.not_eq_true', decide_eq_false_iff_not]; intro q; exact n1 (List.mem_map.mpr ⟨x, hx, q⟩)
      rw [List.filter_cons_of_neg (by simp), this, List.map_cons, List.sum_cons]; walk_at "o"
    · have hne : e.1 ≠ l := fun q => n1 (List.mem_map.mpr ⟨(l, s), h, q.symm⟩)
      have := ih n2 h
      unfold dropF mu at this
      rw [List.filter_cons_of_pos (by simpa using hne), List.map_cons, List.sum_cons, List.map_cons, List.sum_cons]; walk_at "o"
end
end
section
set_option autoImplicit false
set_option linter.unusedVariables false
set_option maxRecDepth 100000

noncomputable def sat (l : Lit) (p : Nat → Int) : Prop := isMet l (p l.x) = true
noncomputable def Pt (p : Nat → Int) : Prop := ∀ x, 0 ≤ p x ∧ p x ≤ 3
noncomputable def stepOK (tr : List Ent) (p : Nat → Int) (k : Nat) : Prop := ∀ e, tr[k]? = some e → (∀ r ∈ e.rs.getD [], sat r p) → sat e.lit p
structure LI (tr : List Ent) (clash : List Lit) (fr : Front) (us : List Nat) : Prop where
  F : FI tr fr
  und : us.Nodup
  uat : ∀ k ∈ us, ∃ e, tr[k]? = some e ∧ e.rs ≠ none
  sem : ∀ p, Pt p → (∀ e ∈ fr, sat e.1 p) → (∀ k ∈ us, stepOK tr p k) → ∀ l ∈ clash, sat l p

section
variable {tr : List Ent} {ms : List Nat} {fr : Front} {us : List Nat} {clash : List Lit}
theorem sat_full {l : Lit} (hu : U6 l) (h : saidOf l full = 1) {p : Nat → Int} (hp : Pt p) : sat l p :=
  (said_one full_mem hu).mp h _ (hp l.x).1 (hp l.x).2 (by
    have h1 := hp l.x
    have : p l.x = 0 ∨ p l.x = 1 ∨ p l.x = 2 ∨ p l.x = 3 := by walk_at "o"
    rcases this with e | e | e | e <;> rw [e] <;> decide)
theorem addU_mem {us : List Nat} {s k : Nat} : k ∈ addU us s ↔ k ∈ us ∨ k = s := by
  unfold addU
  split
  · rename_i h
    constructor
    · exact .inl
    · rintro (h' | rfl)
      · exact h'
      · refine ex1_2 (List.any_eq_true.mp h) fun x hx e => ?_; simp at e; subst e; exact hx
  · simp [List.mem_append]
theorem addU_nd {us : List Nat} {s : Nat} (h : us.Nodup) : (addU us s).Nodup := by
  unfold addU
  split
  · exact h
  · rename_i hn
    refine List.nodup_append.mpr ⟨h, by simp, fun a ha b hb => ?_⟩
    simp at hb; subst hb; rintro rfl
    exact hn (List.any_eq_true.mpr ⟨a, ha, by simp⟩)

theorem opened_pre (S : SI tr ms) (F : FI tr fr) {l : Lit} {s : Nat} (hl : lookF fr l = some s) (hd : isDec tr l s = false) :
    ∃ e, tr[s]? = some e ∧ EntOK tr s e ∧ e.x = l.x ∧ U4 l ∧ e.old ∈ Ld ∧ saidOf l (struck e.lit e.old) = 1 ∧ saidOf l e.old ≠ 1 ∧
      ∀ m ∈ openedL e l, U4 m ∧ m.x < 3 ∧ ∃ i, spotOf tr m = some i ∧ -1 ≤ i ∧ i ≤ s ∧ (if 0 ≤ i then wt tr (m, i.toNat) else 0) ≤ 10 ^ s / 10 := by
  refine ex0_3 (F.at' _ (lookF_some hl)) fun hu hx3 hsp => ?_
  dsimp only at hu hx3 hsp
  rcases spot_spec S hsp with ⟨e, _⟩ | ⟨s', e, hlt, h0, ⟨en, he, hex, hes⟩, h1, h2⟩
  · walk_at "o"
  have : s' = s := by walk_at "o"
  subst this
  have ok := S.ent _ _ he
  have hold : en.old ∈ Ld := by rw [ok.old]; exact S.dom _ _
  have hn : saidOf l en.old ≠ 1 := by rw [ok.old, hex]; exact h2
  refine ⟨en, he, ok, hex, hu, hold, hes, hn, fun m hm => ?_⟩
  -- a literal that holds before the entry
  have before : ∀ {m : Lit}, U4 m → m.x < 3 → saidOf m (domAt tr m.x s') = 1 → U4 m ∧ m.x < 3 ∧ ∃ i, spotOf tr m = some i ∧ -1 ≤ i ∧ i ≤ (s' : Int) ∧ (if 0 ≤ i then wt tr (m, i.toNat) else 0) ≤ 10 ^ s' / 10 := fun {m} hu hx h => by
    refine ex1_3 (spot_of_holds S hu.u6 (Nat.le_of_lt hlt) h) fun i hi hi1 hi2 => ?_
    refine ⟨hu, hx, i, hi, hi1, by walk_at "o", ?_⟩
    by_cases hi0 : 0 ≤ i
    · rw [if_pos hi0]
      have hle : wt tr (m, i.toNat) ≤ 10 ^ i.toNat := by unfold wt; split <;> simp
      refine ex1_1 (show ∃ k, s' = k + 1 from ⟨s' - 1, by walk_at "o"⟩) fun k hr1 => ?_; subst hr1
      rw [Nat.pow_succ, Nat.mul_div_cancel _ (by decide)]
      exact Nat.le_trans hle (Nat.pow_le_pow_right (by decide) (by walk_at "o"))
    · rw [if_neg hi0]; exact Nat.zero_le _
  rcases List.mem_append.mp hm with hm | hm
  · cases hrs : en.rs with
    | some rs =>
      rw [hrs] at hm
      refine ex0_2 (ok.rsn rs hrs) fun u0 hr => ?_
      refine ex0_3 (hr m hm) fun a b c => ?_
      exact before a b c
    | none =>
      rw [hrs] at hm
      have hm' : m = en.lit := by simpa using hm
      subst hm'
      refine ⟨ok.u, by rw [ok.lx]; exact ok.x3, s', spot_own S he, by walk_at "o", by walk_at "o", ?_⟩
      rw [if_pos (by walk_at "o")]
      have : isDec tr en.lit s' = true := by unfold isDec; rw [he]; simp [hrs]
      unfold wt
      dsimp only
      rw [show (s' : Int).toNat = s' by walk_at "o", this]; simp
  · refine ex0_3 (elders_mem hold hm) fun a b c => ?_
    refine before b (by rw [a, ok.lx]; exact ok.x3) ?_
    rw [a, ok.lx, ← ok.old]; exact c
theorem openedL_len (S : SI tr ms) {e : Ent} {s : Nat} {l : Lit} (ok : EntOK tr s e) (hold : e.old ∈ Ld) : (openedL e l).length ≤ 8 := by
  unfold openedL
  rw [List.length_append]
  have h1 := elders_len4 (m := e.lit) (w := l) hold
  cases hrs : e.rs with
  | none => simp; walk_at "o"
  | some rs => have := (ok.rsn rs hrs).1; simp; walk_at "o"
theorem opened_step (S : SI tr ms) (I : LI tr clash fr us) {l : Lit} {s : Nat} (hl : lookF fr l = some s) (hd : isDec tr l s = false) :
    LI tr clash (openedF tr fr l) (openedU tr fr us l) ∧ mu tr (openedF tr fr l) < mu tr fr := by
  refine ex1_8 (opened_pre S I.F hl hd) fun e he ok hex hu hold hes hn hput => ?_
  have hF : openedF tr fr l = (openedL e l).foldl (putF tr) (dropF fr l) := by unfold openedF; rw [hl]; dsimp only [Option.bind_some]; rw [he]
  have hU : openedU tr fr us l = if e.rs.isSome then addU us s else us := by unfold openedU; rw [hl]; dsimp only; rw [he]
  obtain ⟨F2, k2, n2, m2⟩ := puts_spec S (B := 10 ^ s / 10) (openedL e l) (dropF fr l) (I.F.drop l) fun m hm => by
    obtain ⟨a, b, i, c, _, _, d⟩ := hput m hm
    exact ⟨a, b, i, c, d⟩
  refine ⟨⟨hF ▸ F2, ?_, fun k hk => ?_, fun p hp hfr hus => I.sem p hp ?_ fun k hk => hus k ?_⟩, ?_⟩
  · rw [hU]; split
    · exact addU_nd I.und
    · exact I.und
  · rw [hU] at hk
    split at hk
    · rename_i hs
      rcases addU_mem.mp hk with hk | rfl
      · exact I.uat k hk
      · exact ⟨e, he, fun q => by rw [q] at hs; cases hs⟩
    · exact I.uat k hk
  · -- the old front follows
    rw [hF] at hfr
    have said : ∀ m ∈ openedL e l, sat m p := fun m hm => by
      obtain ⟨a, b, i, c, c2, _, d⟩ := hput m hm
      rcases spot_spec S c with ⟨_, h0⟩ | ⟨s', rfl, _⟩
      · exact sat_full a.u6 h0 hp
      · exact hfr (m, s') (n2 m hm s' c)
    have hlit : sat e.lit p := by
      cases hrs : e.rs with
      | none => exact said _ (List.mem_append_left _ (by rw [hrs]; simp))
      | some rs =>
        refine hus s ?_ e he fun r hr => said r (List.mem_append_left _ (by rw [hrs] at hr ⊢; exact hr))
        rw [hU, hrs]; exact addU_mem.mpr (.inr rfl)
    have hsl : sat l p := by
      unfold sat
      refine elders_say hold ok.u hu (by rw [ok.lx, hex]) ok.ne ok.turn hes hn (hp _).1 (hp _).2 ?_ fun x hx => ?_
      · have := hlit; unfold sat at this; rw [ok.lx, hex] at this; exact this
      · have := said x (List.mem_append_right _ hx)
        unfold sat at this; rw [(elders_mem hold hx).1, ok.lx, hex] at this; exact this
    intro x hx
    by_cases hxl : x.1 = l
    · rw [hxl]; exact hsl
    · exact hfr x (k2 x (List.mem_filter.mpr ⟨hx, by simpa using hxl⟩))
  · rw [hU]; split
    · exact addU_mem.mpr (.inl hk)
    · exact hk
  · rw [hF]
    have h1 := mu_drop (tr := tr) I.F.nd (lookF_some hl)
    have h2 := openedL_len S (l := l) ok hold
    have h3 : wt tr (l, s) = 10 ^ s := by unfold wt; rw [hd]; simp
    have h4 : (openedL e l).length * (10 ^ s / 10) ≤ 8 * (10 ^ s / 10) := Nat.mul_le_mul_right _ h2
    have h5 : 1 ≤ 10 ^ s := Nat.one_le_pow _ _ (by decide)
    walk_at "o"

theorem better_spec {best : Option Lit} {l : Lit} : better tr fr best l = best ∨ (better tr fr best l = some l ∧ isDec tr l ((lookF fr l).getD 0) = false) := by
  unfold better
  split
  · rename_i h; rw [Bool.and_eq_true, Bool.not_eq_true'] at h; exact .inr ⟨rfl, h.1⟩
  · exact .inl rfl
theorem latest_from : ∀ (ls : List Lit) (best : Option Lit), ls.foldl (better tr fr) best = best ∨ ∃ l ∈ ls, ls.foldl (better tr fr) best = some l ∧ isDec tr l ((lookF fr l).getD 0) = false
  | [], best => .inl rfl
  | x :: r, best => by
    rw [List.foldl_cons]
    rcases latest_from r (better tr fr best x) with h | ⟨l, hl, h1, h2⟩
    · rw [h]
      rcases better_spec (tr := tr) (fr := fr) (best := best) (l := x) with e | ⟨e, e2⟩
      · exact .inl e
      · exact .inr ⟨x, .head _, e, e2⟩
    · exact .inr ⟨l, .tail _ hl, h1, h2⟩
theorem latest_some {ls : List Lit} {l : Lit} (h : latest tr fr ls = some l) : l ∈ ls ∧ isDec tr l ((lookF fr l).getD 0) = false := by
  rcases latest_from (tr := tr) (fr := fr) ls none with e | ⟨l', h1, h2, h3⟩
  · unfold latest at h; rw [e] at h; cases h
  · unfold latest at h; rw [h2] at h; cases h; exact ⟨h1, h3⟩
theorem foldl_some : ∀ (ls : List Lit) (b : Lit), ∃ b', ls.foldl (better tr fr) (some b) = some b'
  | [], b => ⟨b, rfl⟩
  | x :: r, b => by
    rw [List.foldl_cons]
    rcases better_spec (tr := tr) (fr := fr) (best := some b) (l := x) with e | ⟨e, _⟩ <;> rw [e] <;> exact foldl_some r _
theorem latest_none {ls : List Lit} (h : latest tr fr ls = none) : ∀ l ∈ ls, isDec tr l ((lookF fr l).getD 0) = true := by
  unfold latest at h
  induction ls with
  | nil => intro l hl; cases hl
  | cons x r ih =>
    rw [List.foldl_cons] at h
    cases hx : isDec tr x ((lookF fr x).getD 0) with
    | false =>
      have : better tr fr none x = some x := by unfold better beats; rw [hx]; rfl
      rw [this] at h
      refine ex1_1 (foldl_some (tr := tr) (fr := fr) r x) fun b' hb => ?_
      rw [hb] at h; cases h
    | true =>
      have : better tr fr none x = none := by unfold better; rw [hx]; rfl
      rw [this] at h
      intro l hl
      rcases List.mem_cons.mp hl with rfl | hl
      · exact hx
      · exact ih h l hl
theorem late_mem {lev : Nat} {l : Lit} : l ∈ lateOnes ms fr lev ↔ l ∈ keys fr ∧ levL ms fr l = lev := by
  unfold lateOnes
  rw [List.mem_filter, (sortL_perm _).mem_iff, decide_eq_true_eq]
theorem next_some {l : Lit} (h : nextOne tr ms fr = some l) : ∃ s, lookF fr l = some s ∧ isDec tr l s = false := by
  have key : ∀ {lev : Nat}, latest tr fr (lateOnes ms fr lev) = some l → ∃ s, lookF fr l = some s ∧ isDec tr l s = false := fun {lev} h => by
    refine ex0_2 (latest_some h) fun h1 h2 => ?_
    refine ex1_1 (Option.isSome_iff_exists.mp (lookF_isSome.mpr (late_mem.mp h1).1)) fun s hs => ?_
    rw [hs] at h2
    exact ⟨s, hs, h2⟩
  unfold nextOne at h
  cases e : latest tr fr (lateOnes ms fr 0) with
  | some l' => rw [e] at h; cases h; exact key e
  | none =>
    rw [e] at h
    dsimp only at h
    split at h
    · exact key h
    · cases h
theorem maxLev_ge : ∀ e ∈ fr, levelOf ms e.2 ≤ maxLev ms fr := by
  have aux : ∀ (l : List Nat) (a : Nat), a ≤ l.foldl max a ∧ ∀ x ∈ l, x ≤ l.foldl max a := by
    intro l
    induction l with
    | nil => intro a; exact ⟨Nat.le_refl _, fun x hx => by cases hx⟩
    | cons y r ih =>
      intro a
      rw [List.foldl_cons]
      refine ex0_2 (ih (max a y)) fun h1 h2 => ?_
      refine ⟨by walk_at "o", fun x hx => ?_⟩
      rcases List.mem_cons.mp hx with rfl | hx
      · walk_at "o"
      · exact h2 x hx
  intro e he
  exact (aux _ 0).2 _ (List.mem_map_of_mem (f := fun e : Lit × Nat => levelOf ms e.2) he)
theorem maxLev_at : fr = [] ∨ ∃ e ∈ fr, levelOf ms e.2 = maxLev ms fr ∨ maxLev ms fr = 0 := by
  cases fr with
  | nil => exact .inl rfl
  | cons e r =>
    right
    by_cases h : maxLev ms (e :: r) = 0
    · exact ⟨e, .head _, .inr h⟩
    · have aux : ∀ (l : List Nat) (a : Nat), l.foldl max a = a ∨ l.foldl max a ∈ l := by
        intro l
        induction l with
        | nil => intro a; exact .inl rfl
        | cons y r ih =>
          intro a
          rw [List.foldl_cons]
          rcases ih (max a y) with e | e
          · by_cases hay : y ≤ a
            · rw [e]; left; walk_at "o"
            · rw [e]; right; rw [show max a y = y by walk_at "o"]; exact .head _
          · exact .inr (.tail _ e)
      rcases aux ((e :: r).map fun e => levelOf ms e.2) 0 with q | q
      · exact absurd q h
      · refine ex1_2 (List.mem_map.mp q) fun x hx hx2 => ?_
        exact ⟨x, hx, .inl hx2⟩
theorem next_none (S : SI tr ms) (F : FI tr fr) (h : nextOne tr ms fr = none) : (∀ e ∈ fr, 1 ≤ levelOf ms e.2) ∧ ∀ e ∈ fr, ∀ e' ∈ fr, levelOf ms e.2 = maxLev ms fr → levelOf ms e'.2 = maxLev ms fr → e = e' := by
  have hlook : ∀ e ∈ fr, lookF fr e.1 = some e.2 := fun e he => lookF_mem F.nd he
  have hlev : ∀ e ∈ fr, levL ms fr e.1 = levelOf ms e.2 := fun e he => by unfold levL; rw [hlook e he]; rfl
  have hdec : ∀ e ∈ fr, isDec tr e.1 e.2 = true → e.2 ∈ ms ∧ ∃ en, tr[e.2]? = some en ∧ en.lit = e.1 := fun e he hd => by
    unfold isDec at hd
    cases hen : tr[e.2]? with
    | none => rw [hen] at hd; cases hd
    | some en =>
      rw [hen] at hd
      dsimp only at hd
      rw [Bool.and_eq_true, Option.isNone_iff_eq_none, decide_eq_true_eq] at hd
      exact ⟨(S.dec _ _ hen).mp hd.1, en, rfl, hd.2⟩
  unfold nextOne at h
  cases e0 : latest tr fr (lateOnes ms fr 0) with
  | some l => rw [e0] at h; cases h
  | none =>
    rw [e0] at h
    dsimp only at h
    refine ⟨fun e he => ?_, fun e he e' he' h1 h2 => ?_⟩
    · by_cases hl : levelOf ms e.2 = 0
      · have := latest_none e0 e.1 (late_mem.mpr ⟨List.mem_map_of_mem he, by rw [hlev e he, hl]⟩)
        rw [hlook e he] at this
        have := level_pos (hdec e he this).1
        walk_at "o"
      · walk_at "o"
    · have m1 : e.1 ∈ lateOnes ms fr (maxLev ms fr) := late_mem.mpr ⟨List.mem_map_of_mem he, by rw [hlev e he, h1]⟩
      have m2 : e'.1 ∈ lateOnes ms fr (maxLev ms fr) := late_mem.mpr ⟨List.mem_map_of_mem he', by rw [hlev e' he', h2]⟩
      have same : e.1 = e'.1 := by
        split at h
        · have d1 := latest_none h e.1 m1
          have d2 := latest_none h e'.1 m2
          rw [hlook e he] at d1; rw [hlook e' he'] at d2
          obtain ⟨q1, en1, q2, q3⟩ := hdec e he d1
          obtain ⟨r1, en2, r2, r3⟩ := hdec e' he' d2
          have : e.2 = e'.2 := level_inj S.inc q1 r1 (h1.trans h2.symm)
          rw [this, r2] at q2
          rw [← q3, ← r3, Option.some.inj q2]
        · rename_i hlen
          generalize lateOnes ms fr (maxLev ms fr) = ls at m1 m2 hlen
          match ls, m1, m2, hlen with
          | [a], m1, m2, _ => rw [List.mem_singleton] at m1 m2; rw [m1, m2]
          | a :: b :: r, _, _, hlen => simp at hlen
      have := hlook e he
      rw [same, hlook e' he'] at this
      exact Prod.ext same (Option.some.inj this).symm
end
end
section
set_option autoImplicit false
set_option linter.unusedVariables false
set_option maxRecDepth 100000

noncomputable def isSaid (fr : Front) (l : Lit) : Bool := fr.any fun e => decide (e.1 ≠ l) && implies e.1 l
noncomputable def kept (fr : Front) : List Lit := (sortL (keys fr)).filter fun l => !isSaid fr l
noncomputable def clauseOf (fr : Front) : List Lit := sortL ((kept fr).map negl)
noncomputable def backTo (lvs : List Nat) : Nat := if 1 < lvs.length then (lvs[lvs.length - 2]?).getD 0 else 0

noncomputable def rank (l : Lit) : Nat := match l.s with
  | .eq => 0
  | .le => (l.k + 1).toNat
  | .ge => (4 - l.k).toNat
  | .ne => 10
theorem rank_lt {a b : Lit} (ha : U4 a) (hb : U4 b) (hne : a ≠ b) (h : implies a b = true) : rank a < rank b := by
  obtain ⟨x, s, k⟩ := a; obtain ⟨y, t, j⟩ := b
  unfold implies at h
  by_cases hxy : x = y
  case neg => rw [if_pos hxy] at h; cases h
  subst hxy
  rw [if_neg (fun h => h rfl)] at h
  unfold U4 at ha hb
  dsimp only at ha hb
  cases s <;> cases t <;> simp [isMet, rank] at h hne ⊢ <;> walk_at "o"
theorem negl_u {l : Lit} (h : U4 l) : U6 (negl l) := by
  obtain ⟨x, s, k⟩ := l
  have h1 : 0 ≤ k := h.1
  have h2 : k ≤ 3 := h.2
  cases s with
  | ne => exact ⟨Int.le_trans (by decide) h1, Int.le_trans h2 (by decide)⟩
  | eq => exact ⟨Int.le_trans (by decide) h1, Int.le_trans h2 (by decide)⟩
  | le => exact ⟨Int.le_trans (by decide) (Int.le_trans h1 (Int.le_of_lt (Int.lt_succ k))), Int.add_le_add_right h2 1⟩
  | ge => exact ⟨Int.sub_le_sub_right h1 1, Int.le_trans (Int.sub_le_self k (by decide)) (Int.le_trans h2 (by decide))⟩

theorem split_max {lvs R : List Nat} {M : Nat} (p : lvs.Perm (M :: R)) (hs : lvs.Pairwise (· ≤ ·)) (hR : ∀ r ∈ R, r < M) : ∃ A, lvs = A ++ [M] ∧ A.Perm R ∧ A.Pairwise (· ≤ ·) := by
  have hne : lvs ≠ [] := by rintro rfl; have := p.length_eq; simp at this
  refine ex2_1 (show ∃ A z, lvs = A ++ [z] from ⟨lvs.dropLast, lvs.getLast hne, (List.dropLast_concat_getLast hne).symm⟩) fun A z hr1 => ?_; subst hr1
  refine ex0_3 (List.pairwise_append.mp hs) fun h1 u0 h3 => ?_
  have hz : z = M := by
    have hm : M ∈ A ++ [z] := p.mem_iff.mpr (.head _)
    have hzm : z ∈ M :: R := p.mem_iff.mp (by simp)
    have le1 : M ≤ z := by
      rcases List.mem_append.mp hm with q | q
      · exact h3 M q z (by simp)
      · simp at q; walk_at "o"
    rcases List.mem_cons.mp hzm with e | e
    · exact e
    · have := hR z e; walk_at "o"
  subst hz
  exact ⟨A, rfl, List.Perm.cons_inv ((List.perm_append_comm (l₁ := [z]) (l₂ := A)).trans p), h1⟩
theorem backTo_of {A : List Nat} {M : Nat} (hs : A.Pairwise (· ≤ ·)) (hA : ∀ a ∈ A, a < M) (hM : 1 ≤ M) : backTo (A ++ [M]) < M ∧ ∀ a ∈ A, a ≤ backTo (A ++ [M]) := by
  by_cases hne : A = []
  · subst hne; exact ⟨hM, fun a ha => by cases ha⟩
  refine ex2_1 (show ∃ B z, A = B ++ [z] from ⟨A.dropLast, A.getLast hne, (List.dropLast_concat_getLast hne).symm⟩) fun B z hr1 => ?_; subst hr1
  have e : backTo ((B ++ [z]) ++ [M]) = z := by
    unfold backTo
    rw [if_pos (by simp)]
    simp
  rw [e]
  refine ⟨hA z (by simp), fun a ha => ?_⟩
  refine ex0_3 (List.pairwise_append.mp hs) fun u0 u1 h3 => ?_
  rcases List.mem_append.mp ha with q | q
  · exact h3 a q z (by simp)
  · simp at q; walk_at "o"

section
variable {tr : List Ent} {ms : List Nat} {fr : Front} {us : List Nat} {clash : List Lit}
theorem kept_mem {l : Lit} : l ∈ kept fr ↔ l ∈ keys fr ∧ isSaid fr l = false := by
  unfold kept; rw [List.mem_filter, (sortL_perm _).mem_iff, Bool.not_eq_true']
theorem kept_sorted (F : FI tr fr) : (kept fr).Pairwise litLt := (sortL_sorted F.nd).sublist List.filter_sublist
theorem kept_nodup (F : FI tr fr) : (kept fr).Nodup := sorted_nodup (kept_sorted F)
theorem kept_says (F : FI tr fr) : ∀ (k : Nat) (l : Lit), rank l ≤ k → l ∈ keys fr → ∃ l' ∈ kept fr, l'.x = l.x ∧ ∀ v, isMet l' v = true → isMet l v = true
  | k, l, hk, hl => by
    have hu : ∀ m ∈ keys fr, U4 m := fun m hm => by obtain ⟨e, he, rfl⟩ := List.mem_map.mp hm; exact (F.at' e he).1
    cases h : isSaid fr l with
    | false => exact ⟨l, kept_mem.mpr ⟨hl, h⟩, rfl, fun v hv => hv⟩
    | true =>
      refine ex1_2 (List.any_eq_true.mp h) fun e he h1 => ?_
      rw [Bool.and_eq_true, decide_eq_true_eq] at h1
      have hm : e.1 ∈ keys fr := List.mem_map_of_mem he
      have hr := rank_lt (hu _ hm) (hu _ hl) h1.1 h1.2
      match k, hk with
      | 0, hk => walk_at "o"
      | k + 1, hk =>
        refine ex1_3 (kept_says F k e.1 (by walk_at "o") hm) fun l' a b c => ?_
        refine ex0_2 (implies_met h1.2) fun d1 d2 => ?_
        exact ⟨l', a, b.trans d1, fun v hv => d2 v (c v hv)⟩
theorem kept_sat (F : FI tr fr) {p : Nat → Int} (h : ∀ l ∈ kept fr, sat l p) : ∀ e ∈ fr, sat e.1 p := fun e he => by
  refine ex1_3 (kept_says F _ e.1 (Nat.le_refl _) (List.mem_map_of_mem he)) fun l' a b c => ?_
  have := h l' a
  unfold sat at this ⊢
  rw [b] at this; exact c _ this

structure Done (tr : List Ent) (ms : List Nat) (fr : Front) : Prop where
  S : SI tr ms
  F : FI tr fr
  none : nextOne tr ms fr = none
theorem Done.top (D : Done tr ms fr) (hne : fr ≠ []) : ∃ e ∈ fr, levelOf ms e.2 = maxLev ms fr ∧ e.1 ∈ kept fr ∧ 1 ≤ maxLev ms fr ∧ ∀ l ∈ kept fr, l ≠ e.1 → levL ms fr l < maxLev ms fr := by
  refine ex0_2 (next_none D.S D.F D.none) fun h1 h2 => ?_
  obtain ⟨e, he, hlev⟩ : ∃ e ∈ fr, levelOf ms e.2 = maxLev ms fr := by
    rcases maxLev_at (ms := ms) (fr := fr) with q | ⟨e, he, q | q⟩
    · exact absurd q hne
    · exact ⟨e, he, q⟩
    · have := h1 e he; have := maxLev_ge (ms := ms) e he; walk_at "o"
  refine ⟨e, he, hlev, kept_mem.mpr ⟨List.mem_map_of_mem he, ?_⟩, by have := h1 e he; walk_at "o", fun l hl hle => ?_⟩
  · cases h : isSaid fr e.1 with
    | false => rfl
    | true =>
      exfalso
      refine ex1_2 (List.any_eq_true.mp h) fun e' he' q => ?_
      rw [Bool.and_eq_true, decide_eq_true_eq] at q
      refine ex0_2 (implies_met q.2) fun i1 i2 => ?_
      refine ex0_3 (D.F.at' e he) fun u x3 sp => ?_
      refine ex0_3 (D.F.at' e' he') fun u' x3' sp' => ?_
      rcases spot_spec D.S sp' with ⟨c, _⟩ | ⟨s', c, hlt, _, _, hh, _⟩
      · walk_at "o"
      have hs' : s' = e'.2 := by walk_at "o"
      subst hs'
      have : saidOf e.1 (domAt tr e.1.x (e'.2 + 1)) = 1 := by
        rw [← i1]
        exact (said_one (D.S.dom _ _) u.u6).mpr fun v h0 h3 hv => i2 v ((said_one (D.S.dom _ _) u'.u6).mp hh v h0 h3 hv)
      refine ex1_3 (spot_of_holds D.S u.u6 (by walk_at "o") this) fun i hi u0 hi2 => ?_
      rw [sp] at hi
      have hle : e.2 ≤ e'.2 := by have := Option.some.inj hi; walk_at "o"
      have l1 := level_mono (ms := ms) hle
      have l2 := maxLev_ge (ms := ms) e' he'
      have := h2 e he e' he' hlev (by walk_at "o")
      exact q.1 (by rw [this])
  · refine ex1_2 (List.mem_map.mp (kept_mem.mp hl).1) fun e' he' hr1 => ?_; subst hr1
    have hlk : levL ms fr e'.1 = levelOf ms e'.2 := by unfold levL; rw [lookF_mem D.F.nd he']; rfl
    rw [hlk]
    have l2 := maxLev_ge (ms := ms) e' he'
    by_cases q : levelOf ms e'.2 = maxLev ms fr
    · exact absurd (by rw [h2 e' he' e he q hlev]) hle
    · walk_at "o"
theorem perm_cons {α : Type} {x : α} : ∀ {l : List α}, x ∈ l → ∃ r, l.Perm (x :: r)
  | y :: l, h => by
    rcases List.mem_cons.mp h with rfl | h
    · exact ⟨l, .refl _⟩
    · refine ex1_1 (perm_cons h) fun r hr => ?_
      exact ⟨y :: r, (List.Perm.cons y hr).trans (List.Perm.swap x y r)⟩

theorem learnt_ok (D : Done tr ms fr) {lvs : List Nat} (hp : lvs.Perm ((kept fr).map (levL ms fr))) (hs : lvs.Pairwise (· ≤ ·)) :
    (∀ c ∈ clauseOf fr, U6 c ∧ c.x < 3 ∧ saidOf c (domAt tr c.x tr.length) = -1) ∧
    (clauseOf fr).Pairwise litLt ∧
    (clauseOf fr = [] → backTo lvs = 0) ∧
    (clauseOf fr ≠ [] → ∃ mark, ms[backTo lvs]? = some mark ∧ mark ≤ tr.length ∧ ((clauseOf fr).map fun c => saidOf c (domAt tr c.x mark)).Perm (List.replicate ((clauseOf fr).length - 1) (-1) ++ [0])) := by
  have hat : ∀ l ∈ kept fr, ∃ s, (l, s) ∈ fr ∧ U4 l ∧ l.x < 3 ∧ s < tr.length ∧ saidOf l (domAt tr l.x (s + 1)) = 1 ∧ saidOf l (domAt tr l.x s) ≠ 1 ∧ levL ms fr l = levelOf ms s := fun l hl => by
    refine ex1_2 (List.mem_map.mp (kept_mem.mp hl).1) fun e he hr1 => ?_; subst hr1
    refine ex0_3 (D.F.at' e he) fun u x3 sp => ?_
    rcases spot_spec D.S sp with ⟨c, _⟩ | ⟨s', c, hlt, _, _, hh, hn⟩
    · walk_at "o"
    have hs' : s' = e.2 := by walk_at "o"
    subst hs'
    exact ⟨_, he, u, x3, hlt, hh, hn, by unfold levL; rw [lookF_mem D.F.nd he]; rfl⟩
  have hcp : (clauseOf fr).Perm ((kept fr).map negl) := sortL_perm _
  have hnd : ((kept fr).map negl).Nodup := List.Pairwise.map (R := (· ≠ ·)) negl (fun a b hab e => hab (negl_inj e)) (kept_nodup D.F)
  -- a kept literal that holds at a place
  have neg1 : ∀ l ∈ kept fr, ∀ j, saidOf l (domAt tr l.x j) = 1 → saidOf (negl l) (domAt tr (negl l).x j) = -1 := fun l hl j h => by
    refine ex1_3 (hat l hl) fun s u0 u u1 => ?_
    rw [negl_x]
    refine (said_neg (D.S.dom _ _) (negl_u u)).mpr fun v h0 h3 hv => ?_
    rw [met_negl, (said_one (D.S.dom _ _) u.u6).mp h v h0 h3 hv]; rfl
  refine ⟨fun c hc => ?_, sortL_sorted hnd, fun h => ?_, fun h => ?_⟩
  · refine ex1_2 (List.mem_map.mp (hcp.mem_iff.mp hc)) fun l hl hr1 => ?_; subst hr1
    refine ex1_6 (hat l hl) fun s u0 u x3 hlt hh u1 => ?_
    exact ⟨negl_u u, by rw [negl_x]; exact x3, neg1 l hl _ (D.S.mono u.u6 (by walk_at "o") hh)⟩
  · have : kept fr = [] := by
      have := hcp.length_eq; rw [h, List.length_map] at this
      exact List.eq_nil_of_length_eq_zero this.symm
    rw [this] at hp
    have := hp.length_eq
    have e : lvs = [] := List.eq_nil_of_length_eq_zero (by simpa using this)
    rw [e]; rfl
  · have hne : fr ≠ [] := by rintro rfl; exact h rfl
    refine ex1_5 (D.top hne) fun e he hlev hek hM hoth => ?_
    refine ex1_1 (perm_cons hek) fun R hR => ?_
    have hRk : ∀ l ∈ R, l ∈ kept fr ∧ l ≠ e.1 := fun l hl => by
      refine ⟨hR.mem_iff.mpr (.tail _ hl), ?_⟩
      rintro rfl
      have := hR.nodup_iff.mp (kept_nodup D.F)
      exact (List.nodup_cons.mp this).1 hl
    have hle : levL ms fr e.1 = maxLev ms fr := by unfold levL; rw [lookF_mem D.F.nd he]; exact hlev
    have hp2 : lvs.Perm (maxLev ms fr :: R.map (levL ms fr)) := by
      have := hp.trans (hR.map (levL ms fr))
      rwa [List.map_cons, hle] at this
    have hRlt : ∀ r ∈ R.map (levL ms fr), r < maxLev ms fr := fun r hr => by
      refine ex1_2 (List.mem_map.mp hr) fun l hl hr1 => ?_; subst hr1
      exact hoth l (hRk l hl).1 (hRk l hl).2
    refine ex1_3 (split_max hp2 hs hRlt) fun A hr1 hA hAs => ?_; subst hr1
    refine ex0_2 (backTo_of hAs (fun a ha => hRlt a (hA.mem_iff.mp ha)) hM) fun b1 b2 => ?_
    generalize backTo (A ++ [maxLev ms fr]) = L at b1 b2 ⊢
    have hLm : L < ms.length := by have := level_le ms e.2; walk_at "o"
    refine ex1_1 (show ∃ mark, ms[L]? = some mark from ⟨_, List.getElem?_eq_getElem hLm⟩) fun mark hmk => ?_
    have hmt : mark < tr.length := D.S.mlt mark (List.mem_of_getElem? hmk)
    refine ⟨mark, hmk, by walk_at "o", ?_⟩
    -- the others
    have oth : ∀ l ∈ R, saidOf (negl l) (domAt tr (negl l).x mark) = -1 := fun l hl => by
      refine ex1_7 (hat l (hRk l hl).1) fun s u0 u x3 hlt hh u1 hl2 => ?_
      have h1 : levelOf ms s ≤ L := by rw [← hl2]; exact b2 _ (hA.mem_iff.mpr (List.mem_map_of_mem hl))
      have h2 := level_take D.S.inc s L mark hmk
      exact neg1 l (hRk l hl).1 mark (D.S.mono u.u6 (by walk_at "o") hh)
    have own : saidOf (negl e.1) (domAt tr (negl e.1).x mark) = 0 := by
      refine ex1_7 (hat e.1 hek) fun s hs1 u x3 hlt hh hn hl2 => ?_
      have h2 := level_take D.S.inc s L mark hmk
      have hms : mark ≤ s := by rw [hle] at hl2; walk_at "o"
      rw [negl_x]
      refine ex0_4 (factB (D.S.dom e.1.x (s + 1))) fun c1 u0 c3 u1 => ?_
      have m1 := (said_one (D.S.dom _ _) u.u6).mp hh _ c1.1 c1.2 c3
      have m2 := D.S.sub' c1.1 c1.2 (show mark ≤ s + 1 by walk_at "o") c3
      have hn2 : saidOf e.1 (domAt tr e.1.x mark) ≠ 1 := fun q => hn (D.S.mono u.u6 hms q)
      obtain ⟨v, v0, v3, hv, hv2⟩ : ∃ v, 0 ≤ v ∧ v ≤ 3 ∧ hasV (domAt tr e.1.x mark) v = true ∧ isMet e.1 v = false := by
        by_cases hex : ∃ v, 0 ≤ v ∧ v ≤ 3 ∧ hasV (domAt tr e.1.x mark) v = true ∧ isMet e.1 v = false
        · exact hex
        · exact absurd ((said_one (D.S.dom _ _) u.u6).mpr fun v p q r => by
            cases e' : isMet e.1 v with
            | true => rfl
            | false => exact absurd ⟨v, p, q, r, e'⟩ hex) hn2
      exact said_zero (D.S.dom _ _) (negl_u u) ⟨v0, v3⟩ hv (by rw [met_negl, hv2]; rfl) c1 m2 (by rw [met_negl, m1]; rfl)
    have hperm := (hcp.trans (hR.map negl)).map fun c => saidOf c (domAt tr c.x mark)
    have hlen : (clauseOf fr).length - 1 = R.length := by
      have := (hcp.trans (hR.map negl)).length_eq
      simp at this; walk_at "o"
    rw [hlen]
    refine hperm.trans ?_
    rw [List.map_cons, List.map_cons, own, List.map_map]
    have : R.map ((fun c => saidOf c (domAt tr c.x mark)) ∘ negl) = List.replicate R.length (-1) := by
      have e1 : R.map ((fun c => saidOf c (domAt tr c.x mark)) ∘ negl) = R.map fun u0 => (-1 : Int) := List.map_congr_left fun l hl => oth l hl
      rw [e1]; exact List.map_const' ..
    rw [this]
    exact (List.perm_append_comm (l₁ := [0]) (l₂ := List.replicate R.length (-1)))
theorem clause_says (F : FI tr fr) {p : Nat → Int} (h : ∀ c ∈ clauseOf fr, ¬ sat c p) : ∀ e ∈ fr, sat e.1 p :=
  kept_sat F fun l hl => by
    have := h (negl l) ((sortL_perm _).mem_iff.mpr (List.mem_map_of_mem hl))
    unfold sat at this ⊢
    rw [negl_x, met_negl] at this
    simpa using this
end
end
section
set_option autoImplicit false
set_option linter.unusedVariables false
set_option maxRecDepth 100000

abbrev Rule := List Lit × Lit
noncomputable def card (d : Dom) : Nat := (V4.filter fun v => hasV d v).length
noncomputable def chkC : Bool := Ld.all fun d => Ls.all fun l => decide (struck l d = d) || decide (struck l d = []) || decide (card (struck l d) < card d)
theorem chkC_ok : chkC = true := by decide +kernel
theorem factC {d : Dom} {l : Lit} (hd : d ∈ Ld) (hl : U6 l) (h1 : struck l d ≠ d) (h2 : struck l d ≠ []) : card (struck l d) < card d := by
  obtain ⟨x, s, k⟩ := l
  have h := List.all_eq_true.mp (List.all_eq_true.mp chkC_ok d hd) ⟨0, s, k⟩ (mem_Ls hl)
  rw [struck_x x 0] at h1 h2 ⊢
  simp only [Bool.or_eq_true, decide_eq_true_eq] at h
  rcases h with (h | h) | h
  · exact absurd h h1
  · exact absurd h h2
  · exact h
noncomputable def chkD : Bool := Ld.all fun d => decide (1 ≤ card d) && decide (card d ≤ 4)
theorem chkD_ok : chkD = true := by decide +kernel
theorem factD {d : Dom} (hd : d ∈ Ld) : 1 ≤ card d ∧ card d ≤ 4 := by
  have h := List.all_eq_true.mp chkD_ok d hd
  simpa using h

structure RSI (rules : List Rule) (doms : List Dom) (tr : List Ent) (ms : List Nat) : Prop where
  S : SI tr ms
  D : doms = [domAt tr 0 tr.length, domAt tr 1 tr.length, domAt tr 2 tr.length]
  R : ∀ e ∈ tr, ∀ rs, e.rs = some rs → (rs, e.lit) ∈ rules

theorem domAt_app {tr : List Ent} {e : Ent} {x : Nat} : ∀ {i : Nat}, i ≤ tr.length → domAt (tr ++ [e]) x i = domAt tr x i
  | 0, _ => rfl
  | i + 1, h => by
    unfold domAt
    rw [List.getElem?_append_left (by walk_at "o"), domAt_app (by walk_at "o")]
theorem domAt_last {tr : List Ent} {e : Ent} {x : Nat} : domAt (tr ++ [e]) x (tr.length + 1) = if e.x = x then struck e.lit e.old else domAt tr x tr.length := by
  rw [domAt_succ (e := e) (by simp), domAt_app (Nat.le_refl _)]

section
variable {rules : List Rule} {doms : List Dom} {tr : List Ent} {ms : List Nat}
theorem RSI.at' (R : RSI rules doms tr ms) {x : Nat} (hx : x < 3) : doms[x]? = some (domAt tr x tr.length) := by
  rw [R.D]
  have : x = 0 ∨ x = 1 ∨ x = 2 := lt3 _ (by walk_at "o")
  rcases this with rfl | rfl | rfl <;> rfl
theorem RSI.nil {rules : List Rule} : RSI rules [full, full, full] [] [] :=
  ⟨⟨fun i e h => by simp at h, List.Pairwise.nil, fun i e h => by simp at h, fun m h => by cases h⟩, rfl, fun e h => by cases h⟩
theorem count_le (S : SI tr ms) : ∀ i, i ≤ tr.length → card (domAt tr 0 i) + card (domAt tr 1 i) + card (domAt tr 2 i) + i ≤ 12
  | 0, _ => by
    show card full + card full + card full + 0 ≤ 12
    decide
  | i + 1, h => by
    have ih := count_le S i (by walk_at "o")
    refine ex1_1 (show ∃ e, tr[i]? = some e from ⟨_, List.getElem?_eq_getElem (by walk_at "o")⟩) fun e he => ?_
    have ok := S.ent i e he
    rw [domAt_succ he, domAt_succ he, domAt_succ he]
    have hold : e.old ∈ Ld := by rw [ok.old]; exact S.dom _ _
    have hc := factC hold ok.u.u6 ok.turn ok.ne
    have hx := ok.x3
    have ho := ok.old
    have : e.x = 0 ∨ e.x = 1 ∨ e.x = 2 := lt3 _ (by walk_at "o")
    rcases this with q | q | q <;> rw [q] at ho ⊢ <;> simp <;> rw [← ho] at ih <;> walk_at "o"
theorem RSI.len (R : RSI rules doms tr ms) : tr.length ≤ 9 := by
  have h := count_le R.S tr.length (Nat.le_refl _)
  have h0 := (factD (R.S.dom 0 tr.length)).1
  have h1 := (factD (R.S.dom 1 tr.length)).1
  have h2 := (factD (R.S.dom 2 tr.length)).1
  walk_at "o"
theorem inc_len : ∀ {ms : List Nat} {a n : Nat}, ms.Pairwise (· < ·) → (∀ m ∈ ms, a ≤ m ∧ m < n) → ms.length ≤ n - a
  | [], _, _, _, _ => Nat.zero_le _
  | m :: r, a, n, h, hm => by
    refine ex0_2 (List.pairwise_cons.mp h) fun h1 h2 => ?_
    have i := inc_len (a := m + 1) (n := n) h2 fun k hk => ⟨h1 k hk, (hm k (.tail _ hk)).2⟩
    have q := hm m (.head _)
    exact Nat.le_trans (Nat.succ_le_of_lt (Nat.lt_of_le_of_lt i (Nat.sub_succ_lt_self n m q.2))) (Nat.sub_le_sub_left q.1 n)
theorem RSI.mlen (R : RSI rules doms tr ms) : ms.length ≤ 9 := by
  have := inc_len (a := 0) R.S.inc fun m hm => ⟨Nat.zero_le _, R.S.mlt m hm⟩
  have := R.len; walk_at "o"

theorem RSI.add (R : RSI rules doms tr ms) {l : Lit} {rs : Option (List Lit)} {ms' : List Nat} (hu : U4 l) (hx : l.x < 3) (h1 : struck l (domAt tr l.x tr.length) ≠ []) (h2 : struck l (domAt tr l.x tr.length) ≠ domAt tr l.x tr.length)
    (hr : ∀ r, rs = some r → r.length ≤ 2 ∧ (r, l) ∈ rules ∧ ∀ m ∈ r, U4 m ∧ m.x < 3 ∧ saidOf m (domAt tr m.x tr.length) = 1) (hm : ms' = if rs.isNone then ms ++ [tr.length] else ms) :
    RSI rules (doms.set l.x (struck l (domAt tr l.x tr.length))) (tr ++ [⟨l.x, domAt tr l.x tr.length, l, rs⟩]) ms' := by
  have hget : ∀ i e, (tr ++ [⟨l.x, domAt tr l.x tr.length, l, rs⟩])[i]? = some e → (i < tr.length ∧ tr[i]? = some e) ∨ (i = tr.length ∧ e = ⟨l.x, domAt tr l.x tr.length, l, rs⟩) := fun i e h => by
    by_cases hi : i < tr.length
    · rw [List.getElem?_append_left hi] at h; exact .inl ⟨hi, h⟩
    · rw [List.getElem?_append_right (by walk_at "o")] at h
      by_cases e' : i = tr.length
      · subst e'; simp at h; exact .inr ⟨rfl, h.symm⟩
      · rw [List.getElem?_eq_none (by walk_at "m")] at h; cases h
  refine ⟨⟨fun i e h => ?_, ?_, fun i e h => ?_, fun m hm' => ?_⟩, ?_, fun e he r her => ?_⟩
  · rcases hget i e h with ⟨hi, h⟩ | ⟨rfl, rfl⟩
    · have ok := R.S.ent i e h
      refine ⟨ok.x3, ok.lx, ok.u, by rw [domAt_app (by walk_at "o")]; exact ok.old, ok.ne, ok.turn, fun r hr' => ?_⟩
      refine ex0_2 (ok.rsn r hr') fun a b => ?_
      exact ⟨a, fun m hm => by rw [domAt_app (by walk_at "o")]; exact b m hm⟩
    · refine ⟨hx, rfl, hu, by rw [domAt_app (Nat.le_refl _)], h1, h2, fun r hr' => ?_⟩
      refine ex0_3 (hr r hr') fun a u0 b => ?_
      exact ⟨a, fun m hm => by rw [domAt_app (Nat.le_refl _)]; exact b m hm⟩
  · rw [hm]; split
    · refine List.pairwise_append.mpr ⟨R.S.inc, by simp, fun a ha b hb => ?_⟩
      simp at hb; subst hb; exact R.S.mlt a ha
    · exact R.S.inc
  · rcases hget i e h with ⟨hi, h⟩ | ⟨rfl, rfl⟩
    · rw [R.S.dec i e h, hm]
      split
      · simp; walk_at "o"
      · rfl
    · dsimp only
      rw [hm]
      cases rs with
      | none => simp
      | some r => simp; intro q; have := R.S.mlt _ q; walk_at "o"
  · rw [hm] at hm'
    rw [List.length_append]
    split at hm'
    · rcases List.mem_append.mp hm' with q | q
      · have := R.S.mlt m q; simp; walk_at "o"
      · simp at q; simp; walk_at "o"
    · have := R.S.mlt m hm'; simp; walk_at "o"
  · rw [List.length_append, List.length_cons, List.length_nil, domAt_last, domAt_last, domAt_last, R.D]
    have : l.x = 0 ∨ l.x = 1 ∨ l.x = 2 := lt3 _ (by walk_at "o")
    rcases this with q | q | q <;> simp only [q] <;> simp
  · rcases List.mem_append.mp he with he | he
    · exact R.R e he r her
    · rw [List.mem_singleton] at he; subst he; exact (hr r her).2.1

structure Failed (rules : List Rule) (tr : List Ent) (clash : List Lit) : Prop where
  ex : ∃ r l, (r, l) ∈ rules ∧ clash = r ++ [negl l]
  at' : ∀ m ∈ clash, U4 m ∧ m.x < 3 ∧ saidOf m (domAt tr m.x tr.length) = 1
theorem negl_u4 {l : Lit} {a : Int} (hu : U4 l) (h0 : 0 ≤ a) (h3 : a ≤ 3) (q : isMet l a = false) : U4 (negl l) := by
  obtain ⟨x, s, k⟩ := l
  cases s with
  | ne => exact hu
  | eq => exact hu
  | le => exact ⟨Int.le_trans hu.1 (Int.le_of_lt (Int.lt_succ k)), Int.le_trans (Int.add_one_le_of_lt (Int.not_le.mp (of_decide_eq_false q))) h3⟩
  | ge => exact ⟨Int.le_sub_one_of_lt (Int.lt_of_le_of_lt h0 (Int.not_le.mp (of_decide_eq_false q))), Int.le_trans (Int.sub_le_self k (by decide)) hu.2⟩
theorem fail_of (R : RSI rules doms tr ms) {r : List Lit} {l : Lit} (hm : (r, l) ∈ rules) (hu : U4 l) (hx : l.x < 3) (h1 : struck l (domAt tr l.x tr.length) = []) (hr : ∀ m ∈ r, U4 m ∧ m.x < 3 ∧ saidOf m (domAt tr m.x tr.length) = 1) : Failed rules tr (r ++ [negl l]) := by
  refine ⟨⟨r, l, hm, rfl⟩, fun m hm => ?_⟩
  rcases List.mem_append.mp hm with hm | hm
  · exact hr m hm
  rw [List.mem_singleton] at hm; subst hm
  have hd := R.S.dom l.x tr.length
  refine ex0_4 (factA hd hu.u6) fun a1 a2 a3 a4 => ?_
  have hno : ∀ v, 0 ≤ v → v ≤ 3 → hasV (domAt tr l.x tr.length) v = true → isMet l v = false := a4.resolve_left (fun q => q h1)
  refine ex0_5 (factB hd) fun c1 c2 c3 c4 u0 => ?_
  have hu4 : U4 (negl l) := negl_u4 hu c1.1 c1.2 (hno _ c1.1 c1.2 c3)
  refine ⟨hu4, by rw [negl_x]; exact hx, ?_⟩
  rw [negl_x]
  exact (said_one hd hu4.u6).mpr fun v h0 h3 hv => by rw [met_negl, hno v h0 h3 hv]; rfl
noncomputable def ruleOK (p : Nat → Int) (r : Rule) : Prop := (∀ m ∈ r.1, sat m p) → sat r.2 p
theorem Failed.no {clash : List Lit} (F : Failed rules tr clash) {p : Nat → Int} (h : ∀ r ∈ rules, ruleOK p r) : ¬ ∀ m ∈ clash, sat m p := fun hs => by
  refine ex2_2 F.ex fun r l hm hr1 => ?_; subst hr1
  have h1 := h _ hm fun m hm => hs m (List.mem_append_left _ hm)
  have h2 := hs (negl l) (by simp)
  unfold sat at h1 h2
  rw [negl_x, met_negl, h1] at h2
  cases h2
theorem start_ok (R : RSI rules doms tr ms) {clash : List Lit} (F : Failed rules tr clash) : LI tr clash (clash.foldl (putF tr) []) [] := by
  obtain ⟨F2, _, n2, _⟩ := puts_spec R.S (B := 10 ^ 9) clash [] FI.nil fun m hm => by
    refine ex0_3 (F.at' m hm) fun u x3 h => ?_
    refine ex1_3 (spot_of_holds R.S u.u6 (Nat.le_refl _) h) fun i hi u0 hi2 => ?_
    refine ⟨u, x3, i, hi, ?_⟩
    split
    · have hl := R.len
      have : wt tr (m, i.toNat) ≤ 10 ^ i.toNat := by unfold wt; split <;> simp
      exact Nat.le_trans this (Nat.pow_le_pow_right (by decide) (by walk_at "o"))
    · exact Nat.zero_le _
  refine ⟨F2, List.nodup_nil, (fun k hk => nomatch hk), fun p hp hfr u0 m hm => ?_⟩
  refine ex0_3 (F.at' m hm) fun u x3 h => ?_
  refine ex1_3 (spot_of_holds R.S u.u6 (Nat.le_refl _) h) fun i hi u0 hi2 => ?_
  rcases spot_spec R.S hi with ⟨_, h0⟩ | ⟨s, rfl, _⟩
  · exact sat_full u.u6 h0 hp
  · exact hfr (m, s) (n2 m hm s hi)
end
theorem undo_domAt {tr : List Ent} {ms : List Nat} (S : SI tr ms) : ∀ (k mark : Nat), mark + k = tr.length →
    (tr.drop mark).foldr (fun e d => d.set e.x e.old) [domAt tr 0 tr.length, domAt tr 1 tr.length, domAt tr 2 tr.length] = [domAt tr 0 mark, domAt tr 1 mark, domAt tr 2 mark]
  | 0, mark, h => by rw [List.drop_of_length_le (by walk_at "o"), ← h]; rfl
  | k + 1, mark, h => by
    have hlt : mark < tr.length := by walk_at "o"
    rw [List.drop_eq_getElem_cons hlt, List.foldr_cons, undo_domAt S k (mark + 1) (by walk_at "o")]
    have he : tr[mark]? = some tr[mark] := List.getElem?_eq_getElem hlt
    have ok := S.ent mark _ he
    rw [domAt_succ he, domAt_succ he, domAt_succ he]
    generalize tr[mark] = e at ok he ⊢
    have ho := ok.old
    have : e.x = 0 ∨ e.x = 1 ∨ e.x = 2 := lt3 _ ok.x3
    rcases this with q | q | q <;> rw [q] at ho <;> rw [ho] <;> simp [q]
end
section
open PySem PySem.W PyProof.Rows PySem.Calls
set_option maxRecDepth 100000
set_option linter.unusedVariables false

section
variable {prog : Program} {w : World} {A : Around} {E : Value → Shared → Prop} {s : Shared}
theorem range_map {α : Type} (xs : List α) (d : α) : (List.range xs.length).map (fun i => xs.getD i d) = xs := by
  apply List.ext_getElem
  · simp
  · intro i h1 h2
    simp at h1
    simp [h1]
theorem list_sort_wp {a : Addr} {vs : List Value} {m : Nat} {lt : Nat → Nat → Bool} {P : PySem.Fin → Shared → Prop} (ho : s.heap.get? a = some (seqObj "list" vs.toArray m)) (h64 : vs.length < 64) (S : Strict vs.length lt)
    (hk : 2 ≤ vs.length → ∀ h', (∀ b o, b ≠ a → s.heap.get? b = some o → h'.get? b = some o) → ∃ κ, (∀ Q : SortKind → Shared → Prop, Q κ { s with heap := h' } → wpAny (model prog w) A (keyKind' vs.toArray) Q E { s with heap := h' }) ∧ Sound vs.length lt (kas_ask prog w A κ vs) { s with heap := h' })
    (h : ∀ p : Array Nat, GoodP vs.length p → Asc lt p vs.length → P (.done (.ret .none)) { s with heap := sortedHeap s.heap a vs (List.toArray (p.toList.map fun i => vs.getD i Value.none)) }) :
    wpAny (model prog w) A (Builtin.«list.sort» ⟨[.ref a], []⟩) P E s := by
  rw [list_sort_plain]
  have ha : a < s.heap.objs.size := Heap.lt_size ho
  refine wpAny_bind (listItems_at ho rfl ?_)
  refine wpAny_bind (listUpdate_at ho rfl ?_ (by rw [List.size_toArray, sizeLine_eq]; walk_at "o") (Nat.zero_le _))
  refine ex1_1 (show ∃ e1, (s.heap.update a (Obj.mapSeq fun u0 => (#[] : Array Value))).get? a = some (seqObj "list" #[] e1) from ⟨_, get?_update_seq ho (fun u0 => #[])⟩) fun e1 ho1 => ?_
  refine wpAny_bind (seqEpoch_at ho1 rfl ?_)
  refine wpAny_bind (wpAny_newTuple ?_ (by show vs.length ≤ _; rw [sizeLine_eq]; walk_at "o"))
  refine wpAny_bind (wpAny_newList ?_ (Nat.zero_le _))
  refine wpAny_holding ?_
  have ho6 : (((s.heap.update a (Obj.mapSeq fun u0 => (#[] : Array Value))).push (seqObj "tuple" vs.toArray 0)).push (seqObj "list" #[] 0)).get? a = some (seqObj "list" #[] e1) := by
    rw [Heap.get?_push_ne _ _ _ (by rw [size_push', Heap.size_update]; exact Nat.ne_of_lt (Nat.lt_succ_of_lt ha)), Heap.get?_push_ne _ _ _ (by rw [Heap.size_update]; exact Nat.ne_of_lt ha)]
    exact ho1
  have keep : ∀ b o, b ≠ a → s.heap.get? b = some o → (((s.heap.update a (Obj.mapSeq fun u0 => (#[] : Array Value))).push (seqObj "tuple" vs.toArray 0)).push (seqObj "list" #[] 0)).get? b = some o := fun b o hb e => by
    have hlt := Heap.lt_size e
    rw [Heap.get?_push_ne _ _ _ (by rw [size_push', Heap.size_update]; exact Nat.ne_of_lt (Nat.lt_succ_of_lt hlt)), Heap.get?_push_ne _ _ _ (by rw [Heap.size_update]; exact Nat.ne_of_lt hlt), Heap.get?_update_ne _ _ _ _ hb]
    exact e
  show wpAny (model prog w) A _ P E { s with heap := ((s.heap.update a (Obj.mapSeq fun u0 => #[])).push (seqObj "tuple" vs.toArray 0)).push (seqObj "list" #[] 0) }
  dsimp only
  by_cases h2 : vs.toArray.size < 2
  · rw [if_pos h2, if_pos h2]
    refine wpAny_bind (wpAny_pure ?_)
    rw [StateT.run_pure]
    refine wpAny_bind (wpAny_pure ?_)
    dsimp only
    refine wpAny_bind (seqEpoch_at ho6 rfl ?_)
    refine wpAny_bind (listUpdate_at ho6 rfl ?_ (hsz2 := by rw [Array.size_map]; show (pairsOf vs).size ≤ _; rw [pairsOf_size, sizeLine_eq]; walk_at "o"))
    simp only [bne_self_eq_false, Bool.false_eq_true, if_false]
    refine wpAny_pure ?_
    have key := h (List.toArray (List.range vs.length)) ⟨by simp⟩ fun i j hij hj => by rw [List.size_toArray] at h2; walk_at "o"
    have e : ((arrOf (SortSt.mk' general' (vs.toArray.zip vs.toArray) #[] 7 none)).map (·.2)) = List.toArray ((List.toArray (List.range vs.length)).toList.map fun i => vs.getD i Value.none) := by
      show ((vs.toArray.zip vs.toArray).map (·.2)) = _
      rw [show (List.toArray (List.range vs.length)).toList = List.range vs.length from rfl, range_map]
      apply Array.toList_inj.mp
      simp [List.map_snd_zip]
    rw [e]
    exact key
  · rw [if_neg h2, if_neg h2]
    rw [List.size_toArray] at h2
    refine ex1_2 (hk (by walk_at "o") _ keep) fun κ k1 k2 => ?_
    refine wpAny_bind (k1 _ ?_)
    refine wpAny_bind (wpAny_mono (kat_run (vs := vs) (ks := vs) (κ := κ) (Q := fun st' s' => ∃ p : Array Nat, p.size = vs.length ∧ arrOf st' = p.map (kas_item (vs.toArray.zip vs.toArray)) ∧ failedOf st' = none ∧ GoodP vs.length p ∧ Asc lt p vs.length ∧ s' = { s with heap := ((s.heap.update a (Obj.mapSeq fun u0 => #[])).push (seqObj "tuple" vs.toArray 0)).push (seqObj "list" #[] 0) })
      rfl (by walk_at "o") h64 (fun p' st' s' a1 a2 a3 a4 => ⟨p', a1, a2, a3, a4⟩) (sort_wp S k2 (by walk_at "o") fun p' g as => ⟨g, as, rfl⟩)) ?_ fun u0 u1 e => e)
    rintro ⟨⟨⟩, st'⟩ s' ⟨p, hp, har, hf, g, as, rfl⟩
    dsimp only
    have hout := kat_snds rfl har
    have hsz : (List.toArray (p.toList.map fun i => vs.getD i Value.none)).size = vs.length := by rw [List.size_toArray, List.length_map, Array.length_toList, hp]
    rw [hout]
    refine wpAny_bind (seqEpoch_at ho6 rfl ?_)
    refine wpAny_bind (listUpdate_at ho6 rfl ?_ (Nat.zero_le _) (Nat.le_trans (Nat.le_of_eq hsz) (by rw [sizeLine_eq]; walk_at "o")))
    rw [hf]
    simp only [bne_self_eq_false, Bool.false_eq_true, if_false]
    exact wpAny_pure (h p g as)

theorem sorted_wp {v : Value} {nn : Nat} {lt : Nat → Nat → Bool} {Pv : List Value → Prop} {Q : Value → Shared → Prop} (h64 : nn < 64) (S : Strict nn lt)
    (hc : ∀ {E : Value → Shared → Prop} (R : List Value → Shared → Prop), (∀ h' tk vs, (∀ b o, s.heap.get? b = some o → h'.get? b = some o) → vs.length = nn → Pv vs → R vs { s with heap := h', toks := tk }) → wpAny (model prog w) A.in1 (collect v) R E s)
    (hk : ∀ vs, vs.length = nn → Pv vs → 2 ≤ nn → ∀ {E : Value → Shared → Prop} h' tk, (∀ b o, s.heap.get? b = some o → h'.get? b = some o) → ∃ κ, (∀ Q : SortKind → Shared → Prop, Q κ { s with heap := h', toks := tk } → wpAny (model prog w) A.in1.in1 (keyKind' vs.toArray) Q E { s with heap := h', toks := tk }) ∧ Sound nn lt (kas_ask prog w A.in1.in1 κ vs) { s with heap := h', toks := tk })
    (h : ∀ h' tk D e vs (p : Array Nat), (∀ b o, s.heap.get? b = some o → h'.get? b = some o) → s.heap.get? D = none → vs.length = nn → Pv vs → GoodP nn p → Asc lt p nn → h'.get? D = some (seqO "list" (p.toList.map fun i => vs.getD i Value.none) e) → Q (.ref D) { s with heap := h', toks := tk }) :
    wpAny (model prog w) A (call (.builtin "sorted") [v]) Q E s := by
  refine call_function_entry kind_sorted plain_sorted entry_sorted (args_sorted1 _) ?_
  unfold Builtin.«sorted»
  refine wpAny_bind (m := checkCount "sorted" 1 1 _) (wpAny_pure ?_)
  refine wpAny_bind (hc _ fun h1 tk vs hk1 hl hp => ?_)
  subst hl
  refine wpAny_bind (wpAny_newList ?_ (by rw [sizeLine_eq]; walk_at "o"))
  show wpAny _ _ _ _ _ { s with heap := h1.push (seqObj "list" vs.toArray 0), toks := tk }
  have hoL : (h1.push (seqObj "list" vs.toArray 0)).get? h1.objs.size = some (seqObj "list" vs.toArray 0) := Heap.get?_push_size _ rfl
  have hne : ∀ b o, s.heap.get? b = some o → b ≠ h1.objs.size := fun b o e => Nat.ne_of_lt (Heap.lt_size (hk1 b o e))
  refine wpAny_bind (wpAny_holding (wpAny_call_entry slot_list_sort ⟨_, hoL, rfl⟩ entry_list_sort (list_sort_wp hoL h64 S (fun h2 h' hk2 => hk vs rfl hp h2 h' tk fun b o e => hk2 b o (hne b o e) (Heap.get?_push_of_some _ (hk1 b o e))) fun p g as => ⟨_, rfl, ?_⟩) (args_list_sort _)))
  refine ex1_1 (sortedHeap_at (n := 0) (out := List.toArray (p.toList.map fun i => vs.getD i Value.none)) (vs := vs) hoL) fun e he => ?_
  refine wpAny_pure ⟨_, rfl, h _ tk _ e vs p (fun b o eb => ?_) ?_ rfl hp g as he⟩
  · rw [sortedHeap_old (hne b o eb) (Heap.lt_size (Heap.get?_push_of_some _ (hk1 b o eb)))]
    exact Heap.get?_push_of_some _ (hk1 b o eb)
  · cases q : s.heap.get? h1.objs.size with
    | none => rfl
    | some o => exact absurd rfl (hne _ o q)
end
end
section
open PySem PySem.W PyProof.Rows PySem.Calls
set_option maxRecDepth 100000
set_option linter.unusedVariables false

section
variable {prog : Program} {w : World} {A : Around} {E : Value → Shared → Prop} {s : Shared} {G : Gh}
theorem RepD.int1 {v : Value} {i : Int} (r : RepD G v (.int i)) : ∃ t, v = .int i t := by cases r; exact ⟨_, rfl⟩
theorem RepD.str1 {v : Value} {x : Str} (r : RepD G v (.str x)) : ∃ t, v = .str x t := by cases r; exact ⟨_, rfl⟩
theorem RepD.tup1 {v : Value} {xs : List D} (r : RepD G v (.tup xs)) : ∃ a vs n, v = .ref a ∧ G a = some (true, seqO "tuple" vs n) ∧ RepDs G vs xs := by cases r with | tup e q => exact ⟨_, _, _, rfl, e, q⟩
theorem RepDs.cons1 {vs : List Value} {x : D} {xs : List D} (r : RepDs G vs (x :: xs)) : ∃ v ws, vs = v :: ws ∧ RepD G v x ∧ RepDs G ws xs := by cases r with | cons a q => exact ⟨_, _, rfl, a, q⟩
theorem RepDs.nil1 {vs : List Value} (r : RepDs G vs []) : vs = [] := by cases r; rfl
theorem repLit {v : Value} {l : Lit} (r : RepD G v (litD l)) : ∃ t m i1 i2 i3, v = .ref t ∧ G t = some (true, seqO "tuple" [.int l.x i1, .str l.s.str i2, .int l.k i3] m) := by
  obtain ⟨a, vs, m, rfl, e, q⟩ := RepD.tup1 (xs := [.int l.x, .str l.s.str, .int l.k]) r
  obtain ⟨v1, ws1, rfl, q1, q⟩ := q.cons1
  obtain ⟨v2, ws2, rfl, q2, q⟩ := q.cons1
  obtain ⟨v3, ws3, rfl, q3, q⟩ := q.cons1
  obtain rfl := q.nil1
  obtain ⟨t1, rfl⟩ := q1.int1
  obtain ⟨t2, rfl⟩ := q2.str1
  obtain ⟨t3, rfl⟩ := q3.int1
  exact ⟨_, _, _, _, _, rfl, e⟩
noncomputable def ltS (a b : Sg) : Bool := decide (a.str.cps.toList < b.str.cps.toList)
theorem ltS_ok (a b : Sg) : ltS a b = decide (sgN a < sgN b) := by cases a <;> cases b <;> decide +kernel
theorem eqS_ok (a b : Sg) : (a.str == b.str) = decide (sgN a = sgN b) := by cases a <;> cases b <;> decide +kernel
theorem lit_lt {v v' : Value} {l l' : Lit} {Q : Bool → Shared → Prop} (r : RepD G v (litD l)) (r' : RepD G v' (litD l')) (hG : ∀ t o, G t = some (true, o) → s.heap.get? t = some o) (h : Q (decide (litLt l l')) s) :
    wpAny (model prog w) A (keyLt' (tuples' true) v v') Q E s := by
  refine ex5_2 (repLit r) fun t m i1 i2 i3 hr1 e => ?_; subst hr1
  refine ex5_2 (repLit r') fun t' m' j1 j2 j3 hr1 e' => ?_; subst hr1
  refine kat_lt (hG _ _ e) rfl (hG _ _ e') rfl ?_
  show KatLex prog w A true _ Q [(.int l.x i1, .int l'.x j1), (.str l.s.str i2, .str l'.s.str j2), (.int l.k i3, .int l'.k j3)] 0 s
  refine kat_cons (wpAny_eqBool_int (kat_go (fun h1 => kat_yes ?_) fun h1 => kat_no ?_))
  · have hx : l.x = l'.x := by have := eq_of_beq h1; walk_at "o"
    refine kat_cons (eqBool_str (kat_go (fun h2 => kat_yes ?_) fun h2 => kat_no ?_))
    · rw [eqS_ok, decide_eq_true_eq] at h2
      refine kat_cons (wpAny_eqBool_int (kat_go (fun h3 => kat_yes (kat_nil ?_)) fun h3 => kat_no ?_))
      · have hk : l.k = l'.k := eq_of_beq h3
        have : decide (litLt l l') = decide (((#[.int l.x i1, .str l.s.str i2, .int l.k i3] : Array Value)).size < (#[.int l'.x j1, .str l'.s.str j2, .int l'.k j3] : Array Value).size) := by
          rw [decide_eq_decide]; unfold litLt; simp only [List.size_toArray]; show _ ↔ 3 < 3; walk_at "o"
        first | (rw [this] at h; exact h) | (have e3 : decide (litLt l l') = false := by (rw [decide_eq_false_iff_not]; unfold litLt; walk_at "o")); rw [e3] at h; exact h
      · have hk : l.k ≠ l'.k := fun q => by rw [q] at h3; simp at h3
        refine kat_one _ _ (PyProof.Rows.lt_int ?_)
        have e3 : decide (litLt l l') = decide (l.k < l'.k) := by rw [decide_eq_decide]; unfold litLt; walk_at "o"
        rw [e3] at h; exact h
    · rw [eqS_ok, decide_eq_false_iff_not] at h2
      refine kat_one _ _ (PyProof.Rows.lt_str ?_)
      have e3 : decide (litLt l l') = decide (l.s.str.cps.toList < l'.s.str.cps.toList) := by
        show _ = ltS _ _
        rw [ltS_ok, decide_eq_decide]; unfold litLt; walk_at "o"
      rw [e3] at h; exact h
  · have hx : l.x ≠ l'.x := fun q => by rw [q] at h1; simp at h1
    refine oneLt_int ?_
    have e3 : decide (litLt l l') = decide ((l.x : Int) < l'.x) := by rw [decide_eq_decide]; unfold litLt; walk_at "o"
    rw [e3] at h; exact h
theorem RepDs.get! {vs : List Value} {xs : List D} (q : RepDs G vs xs) {i : Nat} (h : i < xs.length) : RepD G (vs.getD i Value.none) (xs[i]) := by
  refine ex1_2 (q.get (List.getElem?_eq_getElem h)) fun v hv r => ?_
  rw [List.getD_eq_getElem?_getD, hv]; exact r
structure SortK (prog : Program) (w : World) (α : Type) (enc : α → D) (lt : α → α → Bool) (κ : SortKind) : Prop where
  trans : ∀ a b c, lt a b = true → lt b c = true → lt a c = true
  irr : ∀ a, lt a a = false
  total : ∀ a b, a ≠ b → lt a b = true ∨ lt b a = true
  kind : ∀ {A : Around} {E : Value → Shared → Prop} {s : Shared} {G : Gh} {vs : List Value} {xs : List α} {Q : SortKind → Shared → Prop}, RepDs G vs (xs.map enc) → (∀ t o, G t = some (true, o) → s.heap.get? t = some o) → 2 ≤ xs.length → Q κ s → wpAny (model prog w) A (keyKind' vs.toArray) Q E s
  ask : ∀ {A : Around} {E : Value → Shared → Prop} {s : Shared} {G : Gh} {v v' : Value} {a b : α} {Q : Bool → Shared → Prop}, RepD G v (enc a) → RepD G v' (enc b) → (∀ t o, G t = some (true, o) → s.heap.get? t = some o) → Q (lt a b) s → wpAny (model prog w) A (keyLt' κ v v') Q E s
noncomputable def ltAt {α : Type} (lt : α → α → Bool) (xs : List α) (i j : Nat) : Bool := match xs[i]?, xs[j]? with
  | some a, some b => lt a b
  | _, _ => false
theorem SortK.strict {α : Type} {enc : α → D} {lt : α → α → Bool} {κ : SortKind} (S : SortK prog w α enc lt κ) {xs : List α} (nd : xs.Nodup) : Strict xs.length (ltAt lt xs) := by
  refine ⟨fun i j k h1 h2 => ?_, fun i j hi hj hij => ?_, fun i => ?_⟩
  · unfold ltAt at h1 h2 ⊢
    cases e1 : xs[i]? with
    | none => rw [e1] at h1; cases h1
    | some a =>
      cases e2 : xs[j]? with
      | none => rw [e2] at h2; cases h2
      | some b =>
        cases e3 : xs[k]? with
        | none => rw [e2, e3] at h2; cases h2
        | some c => rw [e1, e2] at h1; rw [e2, e3] at h2; exact S.trans _ _ _ h1 h2
  · unfold ltAt
    rw [List.getElem?_eq_getElem hi, List.getElem?_eq_getElem hj]
    exact S.total _ _ fun e => hij ((List.getElem_inj nd).mp e)
  · unfold ltAt
    cases e1 : xs[i]? with
    | none => rfl
    | some a => exact S.irr a
theorem SortK.sound {α : Type} {enc : α → D} {lt : α → α → Bool} {κ : SortKind} (S : SortK prog w α enc lt κ) {xs : List α} {vs : List Value} (q : RepDs G vs (xs.map enc)) (hG : ∀ t o, G t = some (true, o) → s.heap.get? t = some o) : Sound xs.length (ltAt lt xs) (kas_ask prog w A κ vs) s := fun i j hi hj C hC => by
  unfold kas_ask
  have r1 := q.get! (i := i) (by rw [List.length_map]; exact hi)
  have r2 := q.get! (i := j) (by rw [List.length_map]; exact hj)
  rw [List.getElem_map] at r1 r2
  refine S.ask r1 r2 hG ?_
  unfold ltAt at hC
  rw [List.getElem?_eq_getElem hi, List.getElem?_eq_getElem hj] at hC
  exact hC
theorem SortK.out {α : Type} {enc : α → D} {lt : α → α → Bool} {xs : List α} {vs : List Value} (q : RepDs G vs (xs.map enc)) {p : Array Nat} (g : GoodP xs.length p) (as : Asc (ltAt lt xs) p xs.length) :
    ∃ ys : List α, ys.Perm xs ∧ ys.Pairwise (fun a b => lt a b = true) ∧ RepDs G (p.toList.map fun i => vs.getD i Value.none) (ys.map enc) := by
  have hb : ∀ i ∈ p.toList, i < xs.length := fun i hi => List.mem_range.mp (g.perm.mem_iff.mp hi)
  by_cases hne : xs = []
  · subst hne
    have : p.toList = [] := by have := g.perm; simp at this; rw [this]
    rw [this]; exact ⟨[], .refl _, .nil, .nil⟩
  · refine ex2_1 (show ∃ d r, xs = d :: r from by cases xs with | nil => exact absurd rfl hne | cons d r => exact ⟨d, r, rfl⟩) fun d r hr1 => ?_; subst hr1
    generalize hxs : d :: r = xs at *
    refine ⟨p.toList.map fun i => xs.getD i d, ?_, ?_, ?_⟩
    · have := g.perm.map fun i => xs.getD i d
      rwa [range_map] at this
    · rw [List.pairwise_iff_getElem]
      intro i j hi hj hij
      simp only [List.length_map] at hi hj
      have hpn := g.size
      have hil : i < p.size := by simpa using hi
      have hjl : j < p.size := by simpa using hj
      have h := as i j hij (by walk_at "o")
      simp only [Array.getD, hil, hjl, dif_pos] at h
      have b1 : p[i] < xs.length := hb _ (Array.getElem_mem_toList hil)
      have b2 : p[j] < xs.length := hb _ (Array.getElem_mem_toList hjl)
      unfold ltAt at h
      simp only [Array.getInternal_eq_getElem] at h
      rw [List.getElem?_eq_getElem b1, List.getElem?_eq_getElem b2] at h
      simpa [b1, b2] using h
    · have : ∀ l : List Nat, (∀ i ∈ l, i < xs.length) → RepDs G (l.map fun i => vs.getD i Value.none) ((l.map fun i => xs.getD i d).map enc) := fun l => by
        induction l with
        | nil => intro _; exact .nil
        | cons i l ih =>
          intro hl
          refine .cons ?_ (ih fun k hk => hl k (.tail _ hk))
          have hi := hl i (.head _)
          have r1 := q.get! (i := i) (by rw [List.length_map]; exact hi)
          rw [List.getElem_map] at r1
          show RepD G (vs.getD i Value.none) (enc (xs.getD i d))
          rw [List.getD_eq_getElem?_getD (l := xs), List.getElem?_eq_getElem hi]; exact r1
      exact this _ hb

theorem sortK_lit : SortK prog w Lit litD (fun a b => decide (litLt a b)) (tuples' (Value.type "int" != Value.type "tuple")) where
  trans := fun a b c h1 h2 => decide_eq_true (litLt_trans (of_decide_eq_true h1) (of_decide_eq_true h2))
  irr := fun a => decide_eq_false litLt_irr
  total := fun a b h => (litLt_total h).imp decide_eq_true decide_eq_true
  kind := fun {A E s G vs xs Q} q hG h2 hQ => by
    have key : ∀ (vs : List Value) (xs : List Lit), RepDs G vs (xs.map litD) → ∃ fs, fs.length = xs.length ∧ KatTups s.heap vs fs ∧ ∀ v ∈ fs, ∃ i t, v = Value.int i t := fun vs xs => by
      intro q
      induction xs generalizing vs with
      | nil => cases q with | nil => exact ⟨[], rfl, .nil, fun u0 h => nomatch h⟩
      | cons l xs ih =>
        cases q with | cons r q =>
        refine ex5_2 (repLit r) fun t m i1 i2 i3 hr1 e => ?_; subst hr1
        refine ex1_3 (ih _ q) fun fs h1 h2 h3 => ?_
        refine ⟨.int l.x i1 :: fs, by simp [h1], KatTups.cons (hG _ _ e) rfl rfl (by simp) h2, fun v hv => ?_⟩
        rcases List.mem_cons.mp hv with rfl | hv
        · exact ⟨_, _, rfl⟩
        · exact h3 v hv
    refine ex1_3 (key vs xs q) fun fs h1 ht h3 => ?_
    refine kat_kind ht (by walk_at "o") (fun v hv => ?_) (by rfl) hQ
    refine ex2_1 (h3 v hv) fun i t hr1 => ?_; subst hr1
    first | exact Looks.now | exact .now | exact looks_int
  ask := fun r r' hG hQ => lit_lt r r' hG hQ
theorem sortK_int : SortK prog w Int D.int (fun a b => decide (a < b)) oneType' where
  trans := fun a b c h1 h2 => by simp only [decide_eq_true_eq] at *; walk_at "o"
  irr := fun a => by simp
  total := fun a b h => by simp only [decide_eq_true_eq]; walk_at "o"
  kind := fun {A E s G vs xs Q} q hG h2 hQ => by
    have hI := ints_of q
    have hl := q.length
    rw [List.length_map] at hl
    obtain ⟨v₁, v₂, rest, rfl⟩ : ∃ v₁ v₂ rest, vs = v₁ :: v₂ :: rest := by
      match vs, hl, h2 with
      | [], hl, h2 => simp at hl; walk_at "o"
      | [_], hl, h2 => simp at hl; walk_at "o"
      | v₁ :: v₂ :: rest, _, _ => exact ⟨v₁, v₂, rest, rfl⟩
    rw [keyKind_ints hI]
    exact wpAny_pure hQ
  ask := fun r r' hG hQ => by cases r with | int => cases r' with | int => exact kat_lt_int hQ

variable {c : Ctx} {n : Nat} {env : Env} {ρ : Loc} {st : St}
structure Coll (c : Ctx) (st : St) (v : V) (xs : List D) : Prop where
  run : ∀ {A : Around} {E : Value → Shared → Prop} {G : Gh} {s : Shared} {a : Value} (R : List Value → Shared → Prop), A.handled = none → Conc c G st s → Rep G a v →
    (∀ h' tk vs, (∀ b o, s.heap.get? b = some o → h'.get? b = some o) → RepDs G vs xs → R vs { s with heap := h', toks := tk }) → wpAny (model c.prog c.w) A (collect a) R E s
theorem Coll.list {v : V} {xs : List D} (il : IsL st v xs) (hl : xs.length ≤ 1000) : Coll c st v xs := ⟨fun R hh C r h => by
  refine ex3_3 (il.get C r) fun l vs m hr1 ho q => ?_; subst hr1
  refine collect_list (vs := vs) ⟨_, ho, rfl, m, rfl⟩ (h _ _ vs (fun b o e => ?_) q) (by rw [sizeLine_eq]; have := q.length; walk_at "o")
  have hlt := Heap.lt_size e
  rw [Heap.get?_update_ne _ _ _ _ (Nat.ne_of_lt hlt), Heap.get?_push_ne _ _ _ (Nat.ne_of_lt hlt)]
  exact e⟩
theorem walks_raw {A : Around} (hh : A.handled = none) (it d : Addr) (hne : it ≠ d) (es : List DictEntry) (ep : Nat) :
    Walks prog w A it [it, d] [it] es.length (fun i v => ∃ e, es[i]? = some e ∧ v = e.key) (fun i h => IsDIter "dict_keyiterator" h it d i es.length ep ∧ h.get? d = some (dictO es ep)) where
  sub := fun b hb => by simp at hb; simp [hb]
  frame := fun u0 u1 u2 st hk => ⟨let ⟨o, ho, x⟩ := st.1; ⟨o, hk it (by simp) o ho, x⟩, hk d (by simp) _ st.2⟩
  item := fun i s Q E hi st hQ => raw_keyiter_head st.1 st.2 (fun e he h' hi' hs => hQ e.key h' s.toks ⟨e, he, rfl⟩ ⟨hi', hs.extBut d _ (Ne.symm hne) st.2⟩ fun b o hb eb => hs.extBut b o (fun q => hb (by simp [q])) eb)
    (fun hn => by rw [List.getElem?_eq_getElem hi] at hn; cases hn) hh
  done := fun s Q E st hQ => raw_keyiter_head st.1 st.2 (fun e he => by rw [List.getElem?_eq_none (Nat.le_refl _)] at he; cases he) (fun u0 h' hs => hQ h' s.toks fun b o hb eb => hs b o (fun q => hb (by simp [q])) eb) hh
  self := fun i s Q E st hQ => wpAny_pyIter_keyiter st.1 hQ
theorem kdl_raw {d : Addr} {es : List DictEntry} {ep : Nat} (lo : (d == sysModules) = false) : KdlSrc prog w "dict" d d es.length (fun i v => ∃ e, es[i]? = some e ∧ v = e.key) (fun h => h.get? d = some (dictO es ep)) where
  type := fun s hm => ⟨_, hm, rfl⟩
  there := fun u0 hm => ⟨Heap.lt_size hm, Heap.lt_size hm⟩
  keep := fun u0 u1 hm hk => hk d (.inl rfl) _ hm
  notList := by decide
  notTuple := by decide
  hint := fun u0 u1 u2 u3 hm hq => kdl_hint_dict ⟨_, hm, rfl⟩ hq
  iter := fun A s hh hm => ⟨_, _, (fun u0 u1 hq => raw_iter lo hm fun h' e => by subst e; exact hq), walks_raw hh _ d (Nat.ne_of_gt (Heap.lt_size hm)) es ep, ⟨⟨_, Heap.get?_push_size _ rfl, rfl, rfl⟩, Heap.get?_push_of_some _ hm⟩⟩
theorem repDs_items {vs : List Value} {ks : List Value} {xs : List D} (q : RepDs G ks xs) (hl : vs.length = ks.length) (h : ∀ (j : Nat) (v : Value), vs[j]? = some v → ks[j]? = some v) : RepDs G vs xs := by
  have : vs = ks := List.ext_getElem? fun j => by
    by_cases hj : j < vs.length
    · rw [List.getElem?_eq_getElem hj]; exact (h j _ (List.getElem?_eq_getElem hj)).symm
    · rw [List.getElem?_eq_none (by walk_at "o"), List.getElem?_eq_none (by walk_at "o")]
  rw [this]; exact q
theorem Coll.dT (H : CtxOK c) {d : Addr} {ep : Nat} {es : List (List Atom × D)} (hs : st d = some (.dT ep es)) (hl : es.length ≤ 1000) : Coll c st (.o d) (es.map fun e => keyD e.1) := ⟨fun {A E G s a} R hh C r h => by
  cases r with | o =>
  refine ex1_3 (C.own _ _ hs) fun ents ho q nd => ?_
  have hlen := q.length
  refine kdu_collect (kdl_raw (notSys H C hs rfl)) hh ho (by rw [sizeLine_eq]; walk_at "o") fun h' tk acc hk hi => h h' tk acc.toList hk (repDs_items q.keys (by rw [Array.length_toList, hi.1, List.length_map]) fun j v e => ?_)
  refine ex1_2 (hi.2 j v (by rw [← Array.getElem?_toList]; exact e)) fun e' he hr1 => ?_; subst hr1
  rw [List.getElem?_map, he]; rfl⟩
theorem Coll.dI (H : CtxOK c) {d : Addr} {ep : Nat} {es : List (Int × D)} (hs : st d = some (.dI ep es)) (hl : es.length ≤ 1000) : Coll c st (.o d) (es.map fun e => D.int e.1) := ⟨fun {A E G s a} R hh C r h => by
  cases r with | o =>
  refine ex1_3 (C.own _ _ hs) fun ents ho q nd => ?_
  have hlen := q.length
  refine kdu_collect (kdl_raw (notSys H C hs rfl)) hh ho (by rw [sizeLine_eq]; walk_at "o") fun h' tk acc hk hi => h h' tk acc.toList hk (repDs_items q.keys (by rw [Array.length_toList, hi.1, List.length_map]) fun j v e => ?_)
  refine ex1_2 (hi.2 j v (by rw [← Array.getElem?_toList]; exact e)) fun e' he hr1 => ?_; subst hr1
  rw [List.getElem?_map, he]; rfl⟩
theorem OpF_sortedK {α : Type} {enc : α → D} {lt : α → α → Bool} {κ : SortKind} {v : V} {xs : List α} {K : V → St → Prop} (S : SortK c.prog c.w α enc lt κ) (src : Coll c st v (xs.map enc)) (nd : xs.Nodup) (hl : xs.length < 64)
    (h : ∀ ys : List α, ys.Perm xs → ys.Pairwise (fun a b => lt a b = true) → K (.d (.lst (ys.map enc))) st) : OpF c n (.builtin "sorted") [v] st K := fun A G s vs R C r => by
  cases r with | cons r1 r => cases r with | nil =>
  refine sorted_wp (nn := xs.length) (Pv := fun vs => RepDs G vs (xs.map enc)) hl (S.strict nd) (fun R' h' => src.run R' R.handled C r1 fun h1 tk vs hk q => h' h1 tk vs hk (by rw [q.length, List.length_map]) q)
    (fun vs hvl q h2 {E} h' tk hk => ⟨κ, fun Q hQ => S.kind q (fun t o e => hk t o (C.fz _ _ e)) h2 hQ, S.sound q fun t o e => hk t o (C.fz _ _ e)⟩)
    fun h' tk D e vs p hk hD hvl q g as ho => ?_
  refine ex1_3 (SortK.out q g as) fun ys y1 y2 y3 => ?_
  exact PostC.lstAt C hk tk hD ho y3 (h ys y1 y2)
theorem FV.sortedLit {v : V} {xs : List Lit} (src : Coll c st v (xs.map litD)) (nd : xs.Nodup) (hl : xs.length < 64) : FV c n st (.builtin "sorted") [v] (.d (.lst ((sortL xs).map litD))) :=
  ⟨OpF_sortedK sortK_lit src nd hl fun ys p o => ⟨by rw [sortL_of p (o.imp fun h => of_decide_eq_true h)], rfl⟩⟩
end
end
section
set_option autoImplicit false
set_option linter.unusedVariables false
set_option maxRecDepth 100000
theorem nodup_sub_len {α : Type} [DecidableEq α] : ∀ {xs ys : List α}, xs.Nodup → (∀ a ∈ xs, a ∈ ys) → xs.length ≤ ys.length
  | [], _, _, _ => Nat.zero_le _
  | x :: r, ys, h, hs => by
    refine ex0_2 (List.nodup_cons.mp h) fun h1 h2 => ?_
    have hx := hs x (.head _)
    have := nodup_sub_len (ys := ys.erase x) h2 fun a ha => (List.mem_erase_of_ne (fun e => by rw [e] at ha; exact h1 ha)).mpr (hs a (.tail _ ha))
    rw [List.length_erase_of_mem hx] at this
    have := List.length_pos_of_mem hx
    rw [List.length_cons]; walk_at "o"
noncomputable def all48 : List Lit := (List.range 3).flatMap fun x => [Sg.ne, .le, .eq, .ge].flatMap fun s => [(0 : Int), 1, 2, 3].map fun k => ⟨x, s, k⟩
theorem mem48 {l : Lit} (hu : U4 l) (hx : l.x < 3) : l ∈ all48 := by
  obtain ⟨x, s, k⟩ := l
  refine ex0_2 hu fun h1 h2 => ?_
  dsimp only at hx h1 h2
  unfold all48
  rw [List.mem_flatMap]
  refine ⟨x, List.mem_range.mpr hx, List.mem_flatMap.mpr ⟨s, by cases s <;> decide, List.mem_map.mpr ⟨k, ?_, rfl⟩⟩⟩
  exact mem_V4.mpr ⟨h1, h2⟩
theorem lits_len {xs : List Lit} (nd : xs.Nodup) (h : ∀ l ∈ xs, U4 l ∧ l.x < 3) : xs.length ≤ 48 :=
  nodup_sub_len (ys := all48) nd fun l hl => mem48 (h l hl).1 (h l hl).2
section
variable {tr : List Ent} {ms : List Nat} {fr : Front}
theorem FI.len (F : FI tr fr) : fr.length ≤ 48 := by
  have := lits_len F.nd fun l hl => by obtain ⟨e, he, rfl⟩ := List.mem_map.mp hl; exact ⟨(F.at' e he).1, (F.at' e he).2.1⟩
  unfold keys at this
  rwa [List.length_map] at this
theorem FI.ent (S : SI tr ms) (F : FI tr fr) {l : Lit} {s : Nat} (h : lookF fr l = some s) : ∃ e, tr[s]? = some e := by
  rcases spot_spec S (F.at' _ (lookF_some h)).2.2 with ⟨e, _⟩ | ⟨s', e, hlt, _⟩
  · dsimp only at e; walk_at "o"
  · dsimp only at e
    have : s = s' := by walk_at "o"
    subst this
    exact ⟨_, List.getElem?_eq_getElem hlt⟩
theorem maxLev_of {M : Int} (h1 : M ∈ (fr.map fun e => ((levelOf ms e.2 : Nat) : Int)) ++ [0]) (h2 : ∀ a ∈ (fr.map fun e => ((levelOf ms e.2 : Nat) : Int)) ++ [0], a ≤ M) : M = maxLev ms fr := by
  have h0 := h2 0 (by simp)
  have hge := maxLev_ge (ms := ms) (fr := fr)
  have hle : M ≤ maxLev ms fr := by
    rcases List.mem_append.mp h1 with h | h
    · refine ex1_2 (List.mem_map.mp h) fun e he hr1 => ?_; subst hr1
      have := hge e he; walk_at "o"
    · simp at h; walk_at "o"
  rcases maxLev_at (ms := ms) (fr := fr) with rfl | ⟨e, he, q | q⟩
  · have : maxLev ms [] = 0 := rfl
    walk_at "o"
  · have := h2 _ (List.mem_append_left _ (List.mem_map.mpr ⟨e, he, rfl⟩))
    walk_at "o"
  · walk_at "o"
end
end
section
open PySem PySem.W PyProof.Rows PySem.Calls
set_option maxRecDepth 100000
set_option linter.unusedVariables false

noncomputable def it {α : Type} (f : α → α) : Nat → α → α
  | 0, a => a
  | n + 1, a => it f n (f a)
theorem it_add {α : Type} (f : α → α) : ∀ (m n : Nat) (a : α), it f (m + n) a = it f n (it f m a)
  | 0, n, a => by rw [Nat.zero_add]; rfl
  | m + 1, n, a => by rw [show m + 1 + n = (m + n) + 1 by walk_at "o"]; exact it_add f m n (f a)
noncomputable def f5 (mask i : Nat) : Nat := (i * 5 + 1) % (mask + 1)
noncomputable def goodM (mask : Nat) : Prop := mask = 7 ∨ mask = 31 ∨ mask = 127
noncomputable def chkO (mask : Nat) : Bool := decide (it (f5 mask) (mask + 1) 0 = 0) && (List.range (mask + 1)).all fun e => (List.range (mask + 1)).any fun k => it (f5 mask) k 0 == e
theorem chkO_ok : chkO 7 = true ∧ chkO 31 = true ∧ chkO 127 = true := by decide +kernel
theorem orbit {mask : Nat} (hm : goodM mask) {i e : Nat} (hi : i ≤ mask) (he : e ≤ mask) : ∃ k, k ≤ mask ∧ it (f5 mask) k i = e := by
  have h : chkO mask = true := by rcases hm with rfl | rfl | rfl; exact chkO_ok.1; exact chkO_ok.2.1; exact chkO_ok.2.2
  simp only [chkO, Bool.and_eq_true, decide_eq_true_eq, List.all_eq_true, List.any_eq_true, List.mem_range, beq_iff_eq] at h
  refine ex0_2 h fun h0 h1 => ?_
  refine ex1_2 (h1 i (by walk_at "o")) fun a ha hr1 => ?_; subst hr1
  refine ex1_2 (h1 e (by walk_at "o")) fun b hb hr1 => ?_; subst hr1
  by_cases hab : a ≤ b
  · exact ⟨b - a, by walk_at "o", by rw [← it_add]; congr 1; walk_at "o"⟩
  · refine ⟨b + (mask + 1) - a, by walk_at "o", ?_⟩
    rw [← it_add, show a + (b + (mask + 1) - a) = (mask + 1) + b by walk_at "o", it_add, h0]

noncomputable def headI (mask : Nat) : Nat → Nat → Nat → Nat × Nat
  | 0, i, b => (i, b)
  | n + 1, i, b => headI mask n (SetTable.leap mask i b).1 (SetTable.leap mask i b).2
theorem head_add (mask : Nat) : ∀ (m n i b : Nat), headI mask (m + n) i b = headI mask n (headI mask m i b).1 (headI mask m i b).2
  | 0, n, i, b => by rw [Nat.zero_add]; rfl
  | m + 1, n, i, b => by rw [show m + 1 + n = (m + n) + 1 by walk_at "o"]; exact head_add mask m n _ _
theorem head_p (mask : Nat) : ∀ (n i b : Nat), (headI mask n i b).2 = b / 32 ^ n
  | 0, i, b => by simp [headI]
  | n + 1, i, b => by
    show (headI mask n _ _).2 = _
    rw [head_p mask n]
    show b / 32 / 32 ^ n = _
    rw [Nat.div_div_eq_div_mul, Nat.pow_succ, Nat.mul_comm]
theorem head_le (mask : Nat) : ∀ (n i b : Nat), i ≤ mask → (headI mask n i b).1 ≤ mask
  | 0, i, b, h => h
  | n + 1, i, b, h => head_le mask n _ _ (by show (i * 5 + 1 + b / 32) % (mask + 1) ≤ mask; exact Nat.le_of_lt_succ (Nat.mod_lt _ (Nat.succ_pos mask)))
theorem head_zero (mask : Nat) : ∀ (k i : Nat), headI mask k i 0 = (it (f5 mask) k i, 0)
  | 0, i => rfl
  | k + 1, i => by
    show headI mask k _ _ = _
    have : SetTable.leap mask i 0 = (f5 mask i, 0) := by simp [SetTable.leap, f5]
    rw [this, head_zero mask k]; rfl
theorem head_hits {mask : Nat} (hm : goodM mask) {b i e : Nat} (hb : b < 2 ^ 64) (hi : i ≤ mask) (he : e ≤ mask) : ∃ n, n ≤ 13 + mask ∧ (headI mask n i b).1 = e := by
  have hp : (headI mask 13 i b).2 = 0 := by
    rw [head_p, Nat.div_eq_of_lt]
    exact Nat.lt_trans hb (by decide)
  refine ex1_2 (orbit hm (head_le mask 13 i b hi) he) fun k hk e' => ?_
  refine ⟨13 + k, by walk_at "o", ?_⟩
  rw [head_add, hp, head_zero]; exact e'
theorem bits_lt (h : Int) : SetTable.bits h < 2 ^ 64 := by unfold SetTable.bits; walk_at "o"

noncomputable def hp (mask i b : Nat) : SetTable.Probe := { j := i, more := SetTable.runEnd mask i - i, i := i, perturb := b, dummy := none }
theorem run_le (mask i : Nat) : SetTable.runEnd mask i - i ≤ 9 := by unfold SetTable.runEnd; split <;> walk_at "o"
theorem adv_run (t : SetTable) : ∀ (r : Nat) (p : SetTable.Probe), p.more = r → p.dummy = none → it t.advance (r + 1) p = hp t.mask (SetTable.leap t.mask p.i p.perturb).1 (SetTable.leap t.mask p.i p.perturb).2
  | 0, p, h, hd => by
    show t.advance p = _
    unfold SetTable.advance
    rw [if_neg (by walk_at "o")]
    obtain ⟨j, m, i, b, d⟩ := p
    dsimp only at hd; subst hd; rfl
  | r + 1, p, h, hd => by
    show it t.advance (r + 1) (t.advance p) = _
    have e : t.advance p = { p with j := p.j + 1, more := p.more - 1 } := by unfold SetTable.advance; rw [if_pos (by walk_at "o")]
    rw [e]
    exact adv_run t r { p with j := p.j + 1, more := p.more - 1 } (by show p.more - 1 = r; walk_at "o") hd
theorem adv_head (t : SetTable) : ∀ (n i b : Nat), ∃ K, K ≤ 10 * n ∧ it t.advance K (hp t.mask i b) = hp t.mask (headI t.mask n i b).1 (headI t.mask n i b).2
  | 0, i, b => ⟨0, Nat.le_refl _, rfl⟩
  | n + 1, i, b => by
    refine ex1_2 (adv_head t n (SetTable.leap t.mask i b).1 (SetTable.leap t.mask i b).2) fun K hK e => ?_
    refine ⟨(SetTable.runEnd t.mask i - i) + 1 + K, by have := run_le t.mask i; walk_at "o", ?_⟩
    have e1 : it t.advance (SetTable.runEnd t.mask i - i + 1) (hp t.mask i b) = hp t.mask (SetTable.leap t.mask i b).1 (SetTable.leap t.mask i b).2 := adv_run t (SetTable.runEnd t.mask i - i) (hp t.mask i b) rfl rfl
    rw [it_add, e1]
    exact e
structure Tab (t : SetTable) (n : Nat) : Prop where
  m : goodM t.mask
  p : t.place.size = n
  d : t.dummies = #[]
  f : n ≤ t.mask
theorem no_dummy {t : SetTable} (hd : t.dummies = #[]) (j : Nat) : t.slot j ≠ .dummy := by
  unfold SetTable.slot
  dsimp only
  split
  · exact fun h => by cases h
  · rw [hd]
    have : SetTable.has #[] j = false := by simp [SetTable.has]
    rw [this]
    exact fun h => by cases h
theorem slot_live {t : SetTable} {j i : Nat} (h : t.slot j = .live i) : t.place[i]? = some j := by
  unfold SetTable.slot at h
  dsimp only at h
  split at h
  · rename_i q; cases h; exact eq_of_beq q
  · split at h <;> cases h
theorem slot_empty {t : SetTable} {n : Nat} (T : Tab t n) : ∃ e, e ≤ t.mask ∧ t.slot e = .empty := by
  refine Classical.byContradiction fun hno => ?_
  have hall : ∀ e ∈ List.range (t.mask + 1), e ∈ t.place.toList := fun e he => by
    have hle : e ≤ t.mask := by have := List.mem_range.mp he; walk_at "o"
    cases q : t.slot e with
    | empty => exact absurd ⟨e, hle, q⟩ hno
    | dummy => exact absurd q (no_dummy T.d e)
    | live i =>
      have := slot_live q
      rw [← Array.getElem?_toList] at this
      exact List.mem_of_getElem? this
  have := nodup_sub_len List.nodup_range hall
  rw [List.length_range, Array.length_toList, T.p] at this
  have := T.f; walk_at "o"
theorem start_hits {t : SetTable} {n : Nat} (T : Tab t n) (h : Int) : ∃ K, K < 10 * SetTable.turns t.mask ∧ t.slot (it t.advance K (t.probeStart h)).j = .empty := by
  refine ex1_2 (slot_empty T) fun e he hs => ?_
  have hi : SetTable.bits h % (t.mask + 1) ≤ t.mask := Nat.le_of_lt_succ (Nat.mod_lt _ (Nat.succ_pos t.mask))
  refine ex1_2 (head_hits T.m (bits_lt h) hi he) fun k hk e1 => ?_
  refine ex1_2 (adv_head t k (SetTable.bits h % (t.mask + 1)) (SetTable.bits h)) fun K hK e2 => ?_
  refine ⟨K, by unfold SetTable.turns; walk_at "o", ?_⟩
  rw [show t.probeStart h = hp t.mask (SetTable.bits h % (t.mask + 1)) (SetTable.bits h) from rfl, e2]
  show t.slot (headI t.mask k _ _).1 = _
  rw [e1]; exact hs
theorem go_ok {t : SetTable} (hd : t.dummies = #[]) (hashAt : Nat → Int) (h : Int) : ∀ (K : Nat) (p : SetTable.Probe) (fuel : Nat), p.dummy = none → K < fuel → t.slot (it t.advance K p).j = .empty →
    (∃ j, SetTable.probe.go t hashAt h fuel p = some (.empty j none) ∧ t.slot j = .empty) ∨
    ∃ j i next K2, SetTable.probe.go t hashAt h fuel p = some (.candidate j i next) ∧ t.slot j = .live i ∧ hashAt i = h ∧ next.dummy = none ∧ K2 < K ∧ t.slot (it t.advance K2 next).j = .empty
  | K, p, 0, _, hf, _ => absurd hf (Nat.not_lt_zero _)
  | 0, p, fuel + 1, hdm, hf, hs => by
    left
    have hs' : t.slot p.j = .empty := hs
    refine ⟨p.j, ?_, hs'⟩
    unfold SetTable.probe.go
    rw [hs']; dsimp only; rw [hdm]
  | K + 1, p, fuel + 1, hdm, hf, hs => by
    have hs' : t.slot (it t.advance K (t.advance p)).j = .empty := hs
    have hdm' : (t.advance p).dummy = none := by
      unfold SetTable.advance
      split
      · exact hdm
      · exact hdm
    cases q : t.slot p.j with
    | empty => left; refine ⟨p.j, ?_, q⟩; unfold SetTable.probe.go; rw [q]; dsimp only; rw [hdm]
    | dummy => exact absurd q (no_dummy hd _)
    | live i =>
      by_cases hh : hashAt i = h
      · right
        refine ⟨p.j, i, t.advance p, K, ?_, q, hh, hdm', Nat.lt_succ_self _, hs'⟩
        unfold SetTable.probe.go; rw [q]; dsimp only; rw [if_pos (by rw [hh]; exact beq_self_eq_true h)]
      · have e : SetTable.probe.go t hashAt h (fuel + 1) p = SetTable.probe.go t hashAt h fuel (t.advance p) := by
          rw [SetTable.probe.go, q]; dsimp only; rw [if_neg (by simpa using hh)]
        rw [e]
        rcases go_ok hd hashAt h K (t.advance p) fuel hdm' (by walk_at "o") hs' with c | ⟨j, i, nx, K2, a, b, c, d, f, g⟩
        · exact .inl c
        · exact .inr ⟨j, i, nx, K2, a, b, c, d, by walk_at "o", g⟩
end
section
open PySem PySem.W PyProof.Rows PySem.Calls
set_option maxRecDepth 100000
set_option linter.unusedVariables false

theorem free_ok (mask : Nat) (owner : Array (Option Nat)) : ∀ (n i b fuel : Nat), n < fuel → (owner.getD (headI mask n i b).1 (some 0)).isNone = true →
    ∃ j, SetTable.layClean.free mask owner fuel i b = some j ∧ (owner.getD j (some 0)).isNone = true
  | n, i, b, 0, hf, _ => absurd hf (Nat.not_lt_zero _)
  | n, i, b, fuel + 1, hf, h => by
    unfold SetTable.layClean.free
    cases q : (List.range (SetTable.runEnd mask i + 1 - i)).find? fun k => (owner.getD (i + k) (some 0)).isNone with
    | some k => exact ⟨i + k, rfl, List.find?_some (p := fun k => (owner.getD (i + k) (some 0)).isNone) q⟩
    | none =>
      dsimp only
      cases n with
      | zero =>
        exfalso
        have hr : 0 < SetTable.runEnd mask i + 1 - i := by unfold SetTable.runEnd; split <;> walk_at "o"
        have := List.find?_eq_none.mp q 0 (List.mem_range.mpr hr)
        exact this h
      | succ n => exact free_ok mask owner n _ _ fuel (by walk_at "o") h
theorem set_filter {k : Nat} : ∀ (l : List (Option Nat)) (j : Nat), l[j]? = some none → ((l.set j (some k)).filterMap id).Perm (k :: l.filterMap id)
  | [], j, h => by simp at h
  | x :: l, 0, h => by
    simp at h; subst h
    simp
  | x :: l, j + 1, h => by
    have ih := set_filter (k := k) l j (by simpa using h)
    rw [List.set_cons_succ]
    cases x with
    | none => simpa using ih
    | some y =>
      simp only [List.filterMap_cons, id]
      exact (List.Perm.cons y ih).trans (List.Perm.swap k y _)
structure LayI (mask : Nat) (owner : Array (Option Nat)) (k : Nat) : Prop where
  s : owner.size = mask + 1
  p : (owner.toList.filterMap id).Perm (List.range k)
theorem LayI.free {mask k : Nat} {owner : Array (Option Nat)} (I : LayI mask owner k) (hk : k ≤ mask) : ∃ e, e ≤ mask ∧ (owner.getD e (some 0)).isNone = true := by
  refine Classical.byContradiction fun hno => ?_
  have hall : ∀ x ∈ owner.toList, x.isSome = true := fun x hx => by
    obtain ⟨i, hi, rfl⟩ := List.getElem_of_mem hx
    rw [Array.length_toList, I.s] at hi
    cases q : owner.toList[i] with
    | some _ => rfl
    | none =>
      refine absurd ⟨i, by walk_at "o", ?_⟩ hno
      have hi' : i < owner.size := by rw [I.s]; exact hi
      rw [Array.getElem_toList] at q
      simp [Array.getD, hi', q]
  have hl : (owner.toList.filterMap id).length = owner.toList.length := by
    generalize owner.toList = l at hall
    induction l with
    | nil => rfl
    | cons x l ih =>
      cases x with
      | none => have := hall none (.head _); cases this
      | some y => simp only [List.filterMap_cons, id, List.length_cons]; rw [ih fun z hz => hall z (.tail _ hz)]
  have := I.p.length_eq
  rw [hl, List.length_range, Array.length_toList, I.s] at this
  walk_at "o"
theorem lay_step {mask k : Nat} {owner : Array (Option Nat)} (hm : goodM mask) (I : LayI mask owner k) (hk : k ≤ mask) (h : Int) :
    ∃ j, SetTable.layClean.free mask owner (SetTable.turns mask) (SetTable.bits h % (mask + 1)) (SetTable.bits h) = some j ∧ LayI mask (owner.setIfInBounds j (some k)) (k + 1) := by
  refine ex1_2 (I.free hk) fun e he hn => ?_
  have hi : SetTable.bits h % (mask + 1) ≤ mask := Nat.le_of_lt_succ (Nat.mod_lt _ (Nat.succ_pos mask))
  refine ex1_2 (head_hits hm (bits_lt h) hi he) fun n hn1 e1 => ?_
  refine ex1_2 (free_ok mask owner n _ _ (SetTable.turns mask) (by unfold SetTable.turns; walk_at "o") (by rw [e1]; exact hn)) fun j hj hnj => ?_
  refine ⟨j, hj, by rw [Array.size_setIfInBounds]; exact I.s, ?_⟩
  have hjs : j < owner.size := by
    by_cases q : j < owner.size
    · exact q
    · simp [Array.getD, q] at hnj
  have hg : owner.toList[j]? = some none := by
    rw [Array.getElem?_toList, Array.getElem?_eq_getElem hjs]
    simp [Array.getD, hjs] at hnj
    rw [hnj]
  rw [Array.toList_setIfInBounds]
  refine (set_filter owner.toList j hg).trans ?_
  rw [List.range_succ]
  exact (List.Perm.cons k I.p).trans (List.perm_append_singleton k _).symm
theorem lay_fold {mask : Nat} (hm : goodM mask) : ∀ (hs : List Int) (owner : Array (Option Nat)) (k : Nat), LayI mask owner k → k + hs.length ≤ mask + 1 →
    ∃ owner', hs.foldl (fun acc h => do
      let (owner, k) ← acc
      let j ← SetTable.layClean.free mask owner (SetTable.turns mask) (SetTable.bits h % (mask + 1)) (SetTable.bits h)
      pure (owner.setIfInBounds j (some k), k + 1)) (some (owner, k)) = some (owner', k + hs.length) ∧ LayI mask owner' (k + hs.length)
  | [], owner, k, I, _ => ⟨owner, rfl, I⟩
  | h :: hs, owner, k, I, hk => by
    rw [List.length_cons] at hk
    refine ex1_2 (lay_step hm I (by walk_at "o") h) fun j hj I2 => ?_
    refine ex1_2 (lay_fold hm hs _ _ I2 (by walk_at "o")) fun o2 e2 I3 => ?_
    refine ⟨o2, ?_, by rw [List.length_cons, show k + (hs.length + 1) = k + 1 + hs.length by walk_at "o"]; exact I3⟩
    rw [List.foldl_cons, List.length_cons, show k + (hs.length + 1) = k + 1 + hs.length by walk_at "o", ← e2]
    congr 1
    show ((some (owner, k) : Option (Array (Option Nat) × Nat)).bind fun x => (SetTable.layClean.free mask x.1 (SetTable.turns mask) (SetTable.bits h % (mask + 1)) (SetTable.bits h)).bind fun j => some (x.1.setIfInBounds j (some x.2), x.2 + 1)) = _
    rw [Option.bind_some, hj]; rfl
theorem fm_congr {α β : Type} {f g : α → Option β} : ∀ {l : List α}, (∀ x ∈ l, f x = g x) → l.filterMap f = l.filterMap g
  | [], _ => rfl
  | x :: l, h => by rw [List.filterMap_cons, List.filterMap_cons, h x (.head _), fm_congr fun y hy => h y (.tail _ hy)]
noncomputable def Rise (t : SetTable) : Prop := t.place.toList.Pairwise (· < ·)
theorem laid_ok {mask : Nat} (hm : goodM mask) (finger moves : Nat) (led plain : Bool) (hs : Array Int) (hk : hs.size ≤ mask) :
    ∃ t order, SetTable.laid mask finger moves led plain hs = some (t, order) ∧ Tab t hs.size ∧ t.mask = mask ∧ Rise t ∧ t.led = led ∧ t.plain = plain ∧ order.toList.Perm (List.range hs.size) := by
  have I0 : LayI mask (Array.replicate (mask + 1) none) 0 := ⟨by simp, by simp⟩
  refine ex1_2 (lay_fold hm hs.toList _ 0 I0 (by rw [Array.length_toList]; walk_at "o")) fun owner e I => ?_
  rw [Array.length_toList, Nat.zero_add] at e I
  have hlc : SetTable.layClean mask hs = some owner := by
    unfold SetTable.layClean
    rw [← Array.foldl_toList]
    rw [e]; rfl
  unfold SetTable.laid
  rw [hlc]
  refine ⟨_, _, rfl, ?_⟩
  generalize hl : (List.range (mask + 1)).filterMap (fun j => (owner.getD j none).map fun x => (j, x)) = live
  have hsnd : live.map (·.2) = owner.toList.filterMap id := by
    rw [← hl, List.map_filterMap]
    have h1 : owner.toList = (List.range (mask + 1)).map fun j => owner.getD j none := by
      apply List.ext_getElem
      · simp [I.s]
      · intro i h1 h2
        simp only [List.length_map, List.length_range] at h2
        have : i < owner.size := by rw [I.s]; exact h2
        simp [Array.getD, this]
    rw [h1, List.filterMap_map]
    refine fm_congr fun j u0 => ?_
    dsimp only [Function.comp]
    rw [Option.map_map]
    cases owner.getD j none <;> rfl
  have hrise : (live.map (·.1)).Pairwise (· < ·) := by
    rw [← hl, List.map_filterMap]
    have : ((List.range (mask + 1)).filterMap fun j => ((owner.getD j none).map fun x => (j, x)).map (·.1)) = (List.range (mask + 1)).filter fun j => (owner.getD j none).isSome := by
      rw [← List.filterMap_eq_filter]
      refine fm_congr fun j u0 => ?_
      cases q : owner.getD j none <;> simp [Option.guard, q]
    rw [this]
    exact List.pairwise_lt_range.sublist List.filter_sublist
  have hlen : live.length = hs.size := by
    have := I.p.length_eq
    rw [← hsnd, List.length_map, List.length_range] at this; exact this
  exact ⟨⟨hm, by simp [hlen], rfl, hk⟩, rfl, hrise, rfl, rfl, by show (live.map (·.2)).Perm _; rw [hsnd]; exact I.p⟩

theorem below_go (xs : Array Nat) (hs : xs.toList.Pairwise (· < ·)) (j : Nat) : ∀ (fuel lo hi : Nat), hi - lo ≤ fuel → lo ≤ hi → hi ≤ xs.size → (∀ k, k < lo → xs.getD k j < j ∨ xs.size ≤ k) → (∀ k, hi ≤ k → k < xs.size → j ≤ xs.getD k j) →
    SetTable.below.go xs j fuel lo hi ≤ xs.size ∧ (∀ k, k < SetTable.below.go xs j fuel lo hi → xs.getD k j < j ∨ xs.size ≤ k) ∧ (∀ k, SetTable.below.go xs j fuel lo hi ≤ k → k < xs.size → j ≤ xs.getD k j)
  | 0, lo, hi, hf, h1, h2, h3, h4 => by
    have : lo = hi := by walk_at "o"
    subst this
    exact ⟨h2, h3, h4⟩
  | fuel + 1, lo, hi, hf, h1, h2, h3, h4 => by
    have mono : ∀ a b, a ≤ b → b < xs.size → xs.getD a j ≤ xs.getD b j := fun a b hab hb => by
      by_cases e : a = b
      · subst e; exact Nat.le_refl _
      · have := List.pairwise_iff_getElem.mp hs a b (by rw [Array.length_toList]; walk_at "o") (by rw [Array.length_toList]; walk_at "o") (by walk_at "o")
        have ha : a < xs.size := by walk_at "o"
        simp only [Array.getElem_toList] at this
        simp [Array.getD, ha, hb]; walk_at "o"
    unfold SetTable.below.go
    by_cases hlt : lo < hi
    · rw [if_pos hlt]
      dsimp only
      have hmid : (lo + hi) / 2 < xs.size := by walk_at "o"
      by_cases hc : xs.getD ((lo + hi) / 2) j < j
      · rw [if_pos hc]
        refine below_go xs hs j fuel _ hi (by walk_at "o") (by walk_at "o") h2 (fun k hk => ?_) h4
        exact .inl (Nat.lt_of_le_of_lt (mono k _ (by walk_at "o") hmid) hc)
      · rw [if_neg hc]
        refine below_go xs hs j fuel lo _ (by walk_at "o") (by walk_at "o") (by walk_at "o") h3 fun k hk hks => ?_
        exact Nat.le_trans (Nat.le_of_not_lt hc) (mono _ k hk hks)
    · rw [if_neg hlt]
      have : lo = hi := by walk_at "o"
      subst this
      exact ⟨h2, h3, h4⟩
theorem below_ok {xs : Array Nat} (hs : xs.toList.Pairwise (· < ·)) (j : Nat) : SetTable.below xs j ≤ xs.size ∧ (∀ k (h : k < xs.size), k < SetTable.below xs j → xs[k] < j) ∧ (∀ k (h : k < xs.size), SetTable.below xs j ≤ k → j ≤ xs[k]) := by
  refine ex0_3 (below_go xs hs j xs.size 0 xs.size (by walk_at "o") (Nat.zero_le _) (Nat.le_refl _) (fun k hk => absurd hk (Nat.not_lt_zero _)) fun k hk h => absurd h (Nat.not_lt.mpr hk)) fun a b c => ?_
  refine ⟨a, fun k h hk => ?_, fun k h hk => ?_⟩
  · rcases b k hk with q | q
    · simpa [Array.getD, h] using q
    · walk_at "o"
  · simpa [Array.getD, h] using c k hk h
theorem empty_notin {t : SetTable} (R : Rise t) {j : Nat} (h : t.slot j = .empty) : j ∉ t.place.toList := fun hj => by
  obtain ⟨i, hi, e⟩ := List.getElem_of_mem hj
  rw [Array.length_toList] at hi
  rw [Array.getElem_toList] at e
  refine ex0_3 (below_ok R j) fun b1 b2 b3 => ?_
  have hle : SetTable.below t.place j ≤ i := by
    refine Nat.le_of_not_lt fun q => ?_
    have := b2 i hi q; walk_at "o"
  have hb : SetTable.below t.place j < t.place.size := by walk_at "o"
  have h1 := b3 _ hb (Nat.le_refl _)
  have h2 : t.place[SetTable.below t.place j] ≤ t.place[i] := by
    by_cases q : SetTable.below t.place j = i
    · simp [q]
    · have := List.pairwise_iff_getElem.mp R (SetTable.below t.place j) i (by rw [Array.length_toList]; walk_at "o") (by rw [Array.length_toList]; walk_at "o") (by walk_at "o")
      simp only [Array.getElem_toList] at this; walk_at "o"
  have h3 : t.place[SetTable.below t.place j]? = some j := by rw [Array.getElem?_eq_getElem hb]; congr 1; walk_at "o"
  unfold SetTable.slot at h
  dsimp only at h
  rw [if_pos (by rw [h3]; exact beq_self_eq_true _)] at h
  cases h
theorem put_rise {t : SetTable} (R : Rise t) {j : Nat} (h : t.slot j = .empty) : Rise (t.put j).1 := by
  have hn := empty_notin R h
  refine ex0_3 (below_ok R j) fun b1 b2 b3 => ?_
  unfold Rise SetTable.put
  dsimp only
  rw [SetTable.toList_insertAt]
  have R' : t.place.toList.Pairwise (· < ·) := R
  rw [← List.take_append_drop (SetTable.below t.place j) t.place.toList] at R'
  refine ex0_3 (List.pairwise_append.mp R') fun r1 r2 r3 => ?_
  have hlo : ∀ a ∈ t.place.toList.take (SetTable.below t.place j), a < j := fun a ha => by
    obtain ⟨i, hi, e⟩ := List.getElem_of_mem ha
    rw [List.length_take, Array.length_toList] at hi
    rw [List.getElem_take, Array.getElem_toList] at e
    rw [← e]; exact b2 i (by walk_at "o") (by walk_at "o")
  have hhi : ∀ a ∈ t.place.toList.drop (SetTable.below t.place j), j < a := fun a ha => by
    obtain ⟨i, hi, e⟩ := List.getElem_of_mem ha
    rw [List.length_drop, Array.length_toList] at hi
    rw [List.getElem_drop, Array.getElem_toList] at e
    have := b3 (SetTable.below t.place j + i) (by walk_at "o") (by walk_at "o")
    have hne : a ≠ j := fun q => hn (q ▸ List.mem_of_mem_drop ha)
    walk_at "o"
  refine List.pairwise_append.mpr ⟨r1, List.pairwise_cons.mpr ⟨hhi, r2⟩, fun a ha b hb => ?_⟩
  rcases List.mem_cons.mp hb with rfl | hb
  · exact hlo a ha
  · exact r3 a ha b hb
structure TabI (t : SetTable) (n : Nat) : Prop where
  p : t.place.size = n
  d : t.dummies = #[]
  l : (t.mask = 7 ∧ n ≤ 4) ∨ (t.mask = 31 ∧ n ≤ 18) ∨ (t.mask = 127 ∧ n ≤ 60)
theorem TabI.tab {t : SetTable} {n : Nat} (T : TabI t n) : Tab t n := ⟨by unfold goodM; have := T.l; walk_at "o", T.p, T.d, by have := T.l; walk_at "o"⟩
theorem TabI.fits {t : SetTable} {n : Nat} (T : TabI t n) : t.fits n = true := by
  have := T.l
  simp only [SetTable.fits, SetTable.fill, T.p, T.d, Bool.and_eq_true, beq_iff_eq, decide_eq_true_eq, List.size_toArray, List.length_nil]
  exact ⟨trivial, by walk_at "o"⟩
theorem put_shape (t : SetTable) {n : Nat} (T : TabI t n) (j : Nat) : (t.put j).1.place.size = n + 1 ∧ (t.put j).1.dummies = #[] ∧ (t.put j).1.mask = t.mask ∧ (t.put j).1.led = t.led ∧ (t.put j).1.plain = t.plain ∧ (t.put j).2 = SetTable.below t.place j ∧ (t.put j).1.moves = t.moves := by
  unfold SetTable.put
  dsimp only
  rw [T.d]
  have : SetTable.has #[] j = false := by simp [SetTable.has]
  rw [this]
  refine ⟨?_, rfl, rfl, rfl, rfl, rfl, rfl⟩
  rw [← Array.length_toList, (SetTable.insertAt_perm t.place _ j).length_eq, Array.length_toList, Array.size_push, T.p]
theorem grow_ok {t : SetTable} {n : Nat} (T : TabI t n) (hn : n + 1 ≤ 50) {t1 : SetTable} (h1 : t1.place.size = n + 1) (h2 : t1.dummies = #[]) (h3 : t1.mask = t.mask) (h4 : t1.plain = true → Rise t1) (hs : Array Int) (hsz : hs.size = n + 1) :
    (t1.tooFull = false → TabI t1 (n + 1)) ∧ (t1.tooFull = true → SetTable.sizeAbove (SetTable.grown (n + 1)) ≤ 128 ∧ ∃ t2 order, t1.relaid hs (SetTable.grown (n + 1)) = some (t2, order) ∧ TabI t2 (n + 1) ∧ Rise t2 ∧ t2.led = t1.led ∧ t2.plain = t1.plain ∧ order.toList.Perm (List.range (n + 1))) := by
  have hfill : t1.fill = n + 1 := by unfold SetTable.fill; rw [h1, h2]; rfl
  unfold SetTable.tooFull
  rw [hfill, h3]
  have key : (¬ (n + 1) * 5 ≥ t.mask * 3 → (t.mask = 7 ∧ n + 1 ≤ 4) ∨ (t.mask = 31 ∧ n + 1 ≤ 18) ∨ (t.mask = 127 ∧ n + 1 ≤ 60)) ∧ ((n + 1) * 5 ≥ t.mask * 3 → n = 4 ∨ n = 18) := by
    rcases T.l with ⟨e, q⟩ | ⟨e, q⟩ | ⟨e, q⟩ <;> rw [e] <;> clear e T h3
    · exact ⟨fun h => .inl ⟨rfl, by walk_at "o"⟩, fun h => .inl (by walk_at "o")⟩
    · exact ⟨fun h => .inr (.inl ⟨rfl, by walk_at "o"⟩), fun h => .inr (by walk_at "o")⟩
    · exact ⟨fun h => .inr (.inr ⟨rfl, by walk_at "o"⟩), fun h => by walk_at "o"⟩
  refine ⟨fun h => ⟨h1, h2, ?_⟩, fun h => ?_⟩
  · rw [h3]; exact key.1 (of_decide_eq_false h)
  · have hM : ∃ M, SetTable.sizeAbove (SetTable.grown (n + 1)) = M ∧ M ≤ 128 ∧ goodM (M - 1) ∧ n + 1 ≤ M - 1 ∧ ((M - 1 = 7 ∧ n + 1 ≤ 4) ∨ (M - 1 = 31 ∧ n + 1 ≤ 18) ∨ (M - 1 = 127 ∧ n + 1 ≤ 60)) := by
      rcases key.2 (of_decide_eq_true h) with e | e <;> rw [e]
      · exact ⟨32, by decide, by decide, .inr (.inl rfl), by decide, .inr (.inl ⟨rfl, by decide⟩)⟩
      · exact ⟨128, by decide, by decide, .inr (.inr rfl), by decide, .inr (.inr ⟨rfl, by decide⟩)⟩
    clear key T h3 hfill h
    refine ex1_5 hM fun M e0 e1 e2 e3 e4 => ?_
    rw [e0]
    refine ⟨e1, ?_⟩
    unfold SetTable.relaid
    rw [e0]
    refine ex2_7 (laid_ok (mask := M - 1) e2 t1.finger (t1.movedTo (M - 1)) t1.led t1.plain hs (by rw [hsz]; exact e3)) fun t2 order e T2 hm R hl hp ho => ?_
    rw [hsz] at T2 ho
    exact ⟨t2, order, e, ⟨T2.p, T2.d, by rw [hm]; exact e4⟩, R, hl, hp, ho⟩
end
section
open PySem PySem.W PyProof.Rows PySem.Calls
set_option maxRecDepth 100000
set_option linter.unusedVariables false
set_option maxHeartbeats 2000000

section
variable {c : Ctx} {n : Nat} {env : Env} {ρ : Loc} {st : St} {names : List (Str × NameKind)}
theorem Ld_facts : (Ld.all fun d => decide (d.length ≤ 4) && decide (d ≠ []) && decide (0 ≤ least d) && decide (least d ≤ 3) && decide (0 ≤ greatest d) && decide (greatest d ≤ 3)) = true := by decide +kernel
theorem Ld_at {d : Dom} (h : d ∈ Ld) : d.length ≤ 4 ∧ d ≠ [] ∧ 0 ≤ least d ∧ least d ≤ 3 ∧ 0 ≤ greatest d ∧ greatest d ≤ 3 := by
  have := List.all_eq_true.mp Ld_facts d h
  simpa [and_assoc] using this
theorem ent_len {tr : List Ent} {ms : List Nat} (S : SI tr ms) : ∀ e ∈ tr, e.old.length ≤ 400 ∧ (struck e.lit e.old).length ≤ 400 ∧ e.old ∈ Ld := fun e he => by
  obtain ⟨i, hi, rfl⟩ := List.getElem_of_mem he
  have hg : tr[i]? = some tr[i] := List.getElem?_eq_getElem hi
  have ok := S.ent i _ hg
  have h1 := S.dom tr[i].x i
  have h2 := S.dom tr[i].x (i + 1)
  rw [← ok.old] at h1
  rw [domAt_succ hg, if_pos rfl] at h2
  have := (Ld_at h1).1
  have := (Ld_at h2).1
  exact ⟨by walk_at "o", by walk_at "o", h1⟩
theorem w_spotOf (P : Prg c) {L : SLoc} {t : Sto} {l : Lit} {i : Int} {K : V → St → Prop} (s : SAt st L t) (hf : t.firsts[l.x]? = some full) (hx : l.x < 100) (htl : t.tr.length ≤ 50) (hd : ∀ e ∈ t.tr, e.old.length ≤ 400 ∧ (struck e.lit e.old).length ≤ 400 ∧ e.old ∈ Ld)
    (hi : spotOf t.tr l = some i) (hn : 5 ≤ n) (h : K (.d (.int i)) st) : AWC c n (.ref 179) [.o L.S, .d (litD l)] st K := by
  refine AWC_fn (L := 4) (pn := ["store", "literal"]) (P.fn (st := top 21) rfl rfl (by rfl)) rfl hn fun m env hm E EK => ?_
  refine AWX_cons (AWS_Set EK (by rfl) (by walk_at "v") ?_)
  refine AWX_cons (AWS_IfV (q := decide (saidOf l full = 1)) ?_ (fun hq => ?_) fun hq => AWX_nil ?_)
  · walk_at "v"
    · exact EV.callM P (by walk_at "v") s.S (cls_store P) rfl (by rfl) (by rfl) (by walk_at "v") ⟨w_initial P s hf hx (by walk_at "o") ⟨rfl, rfl⟩⟩
    walk_at "v"
    · exact ⟨w_saidOf P (by decide) hm ⟨rfl, rfl⟩⟩
    walk_at "v"
  · unfold spotOf at hi
    rw [if_pos (of_decide_eq_true hq)] at hi
    cases hi
    exact AWX_cons (AWS_Ret (by walk_at "v") h)
  unfold spotOf at hi
  rw [if_neg (of_decide_eq_false hq)] at hi
  refine ex1_2 (Option.map_eq_some_iff.mp hi) fun j hj hr1 => ?_; subst hr1
  refine AWX_cons (AWS_ForV (v := .d (.rng 0 t.tr.length)) ?_ (OpI_rng ?_ ?_))
  · walk_at "v"
    · exact EV.attr P (by walk_at "v") s.S (cls_store P) (by rfl) rfl
    walk_at "v"
    · have := FV.lenL (c := c) (n := m) (IsL.obj s.T) (by walk_at "m")
      rw [List.length_map] at this; exact this
    walk_at "v"
  · exact small_one (by walk_at "o") (by walk_at "o") (by walk_at "o") (by walk_at "o")
  rw [rangeI_eq]
  refine AWF_ind (fun r ρ1 st1 => st1 = st ∧ Has [("store", .o L.S), ("literal", .d (litD l)), ("x", .d (.int l.x))] ρ1 ∧ ∃ k : Nat, r = rangeI k (t.tr.length - k) ∧ k ≤ t.tr.length ∧ spotFrom l (t.tr.drop k) k = some j) ?_ ?_ _ _ _ ⟨rfl, by walk_at "has", 0, by simp, Nat.zero_le _, by rw [List.drop_zero]; exact hj⟩
  · intro ρ1 s1 hq; refine ex0_3 hq fun hr1 H hq2 => ?_; clear hq; subst hr1; refine ex1_3 hq2 fun k e hk hs => ?_; clear hq2
    have : t.tr.length - k = 0 := by
      cases q : t.tr.length - k with
      | zero => rfl
      | succ q' => rw [q] at e; cases e
    rw [List.drop_of_length_le (by walk_at "o")] at hs
    cases hs
  · intro x r ρ1 s1 hq K2 h2; refine ex0_3 hq fun hr1 H hq2 => ?_; clear hq; subst hr1; refine ex1_3 hq2 fun k e hk hs => ?_; clear hq2
    obtain ⟨q', hq'⟩ : ∃ q', t.tr.length - k = q' + 1 := by
      cases q : t.tr.length - k with
      | zero => rw [q] at e; cases e
      | succ q' => exact ⟨q', rfl⟩
    rw [hq'] at e
    injection e with e1 e2
    subst e1
    have hlt : k < t.tr.length := by walk_at "o"
    rw [List.drop_eq_getElem_cons hlt] at hs
    have hg : t.tr[k]? = some t.tr[k] := List.getElem?_eq_getElem hlt
    refine ex0_3 (hd _ (List.getElem_mem hlt)) fun ho1 ho2 u0 => ?_
    generalize t.tr[k] = en at hs hg ho1 ho2
    refine AWA_Name (EK.keeps (by rfl)) ?_
    refine AWX_cons (AWS_Set (v := .d (entD en)) EK (by rfl) ?_ ?_)
    · walk_at "v"
      · exact EV.attr P (by walk_at "v") s.S (cls_store P) (by rfl) rfl
      walk_at "v"
      exact GV.mlst s.T (by rw [List.getElem?_map, hg]; rfl) (by walk_at "o")
    refine AWX_cons (AWS_IfV (q := decide ((en.x : Int) = l.x) && (decide (saidOf l (struck en.lit en.old) = 1) && true)) ?_ (fun hq => ?_) fun hq => ?_)
    · walk_at "v"
      · exact ⟨w_struck P ho1 (by walk_at "o") ⟨rfl, rfl⟩⟩
      walk_at "v"
      · exact ⟨w_saidOf P ho2 hm ⟨rfl, rfl⟩⟩
      walk_at "v"
    · have hc : en.x = l.x ∧ saidOf l (struck en.lit en.old) = 1 := by
        simp only [Bool.and_true, Bool.and_eq_true, decide_eq_true_eq] at hq; exact ⟨by walk_at "o", hq.2⟩
      unfold spotFrom at hs
      rw [if_pos hc] at hs
      cases hs
      exact AWX_cons (AWS_Ret (by walk_at "v") (h2 h))
    · have hc : ¬ (en.x = l.x ∧ saidOf l (struck en.lit en.old) = 1) := by
        intro hq1; refine ex0_2 hq1 fun q1 q2 => ?_; clear hq1
        rw [q1, q2] at hq; simp at hq
      unfold spotFrom at hs
      rw [if_neg hc] at hs
      refine AWX_nil (AWX_nil (h2 ⟨(fun a ha => nomatch ha), rfl, (H.upd rfl).upd rfl, k + 1, ?_, by walk_at "o", hs⟩))
      rw [e2, show t.tr.length - (k + 1) = q' by walk_at "o"]; rfl

end
end
section
open PySem PySem.W PyProof.Rows PySem.Calls
set_option maxRecDepth 100000
set_option linter.unusedVariables false
set_option maxHeartbeats 2000000

section
variable {c : Ctx} {n : Nat} {env : Env} {ρ : Loc} {st : St} {names : List (Str × NameKind)}
noncomputable def litK (l : Lit) : List Atom := [.inl l.x, .inr l.s.str, .inl l.k]
theorem keyD_lit (l : Lit) : keyD (litK l) = litD l := rfl
theorem litK_inj {a b : Lit} : litK a = litK b ↔ a = b := ⟨fun h => litD_inj (by rw [← keyD_lit, h]; rfl), fun h => by rw [h]⟩
noncomputable def frE (fr : Front) : List (List Atom × D) := fr.map fun e => (litK e.1, natD e.2)
noncomputable def usE (us : List Nat) : List (Int × D) := us.map fun k : Nat => ((k : Int), .bool true)
theorem frE_look (l : Lit) : ∀ fr : Front, lookT (frE fr) (litK l) = (lookF fr l).map natD
  | [] => rfl
  | e :: r => by
    have ih := frE_look l r
    unfold lookT frE lookF at ih ⊢
    rw [List.map_cons, List.find?_cons, List.find?_cons]
    by_cases h : e.1 = l
    · simp [h]
    · have h' : ¬ litK e.1 = litK l := fun q => h (litK_inj.mp q)
      simp only [h, h', decide_false]
      exact ih
theorem frE_store (fr : Front) (l : Lit) (s : Nat) : storeT (frE fr) (litK l) (natD s) = frE (storeF fr l s) := by
  unfold storeT storeF
  rw [frE_look, Option.isSome_map]
  split
  · unfold frE
    rw [List.map_map, List.map_map]
    refine List.map_congr_left fun e u0 => ?_
    dsimp only [Function.comp]
    by_cases h : e.1 = l
    · rw [if_pos h, if_pos (by rw [h])]
    · rw [if_neg h, if_neg fun q => h (litK_inj.mp q)]
  · unfold frE; rw [List.map_append]; rfl
theorem frE_drop (fr : Front) (l : Lit) : dropT (frE fr) (litK l) = frE (dropF fr l) := by
  unfold dropT dropF frE
  rw [List.filter_map]
  congr 1
  refine List.filter_congr fun e u0 => ?_
  dsimp only [Function.comp]
  rw [decide_eq_decide, ne_eq, ne_eq, litK_inj]
theorem usE_store (us : List Nat) (s : Nat) : storeI (usE us) s (.bool true) = usE (addU us s) := by
  have any : (usE us).any (fun e => decide (e.1 = (s : Int))) = us.any fun k => decide (k = s) := by
    unfold usE
    rw [List.any_map]
    congr 1
    funext k
    dsimp only [Function.comp]
    rw [decide_eq_decide]; walk_at "o"
  unfold storeI addU
  rw [any]
  split
  · unfold usE
    rw [List.map_map]
    refine List.map_congr_left fun k u0 => ?_
    dsimp only [Function.comp]
    split <;> rfl
  · unfold usE; rw [List.map_append]; rfl
theorem frE_keys (fr : Front) : (frE fr).map (fun e => keyD e.1) = (keys fr).map litD := by
  unfold frE keys
  rw [List.map_map, List.map_map]; rfl
theorem frE_vals (fr : Front) : (frE fr).map (fun e => e.2) = (fr.map (·.2)).map natD := by
  unfold frE
  rw [List.map_map, List.map_map]; rfl
theorem usE_keys (us : List Nat) : (usE us).map (fun e => D.int e.1) = us.map natD := by
  unfold usE
  rw [List.map_map]; rfl

structure ALoc where
  A : Addr
  dx : Addr
  F : Addr
  U : Addr
noncomputable def ALoc.all (a : ALoc) : List Addr := [a.A, a.F, a.U]
noncomputable def aList (L : SLoc) (a : ALoc) : List (Str × V) := [("store", .o L.S), ("front", .o a.F), ("used", .o a.U)]
structure AAt (st : St) (L : SLoc) (t : Sto) (a : ALoc) (fr : Front) (us : List Nat) : Prop where
  s : SAt st L t
  A : st a.A = some (.inst 249 a.dx 3 (attrsOf (aList L a)))
  F : ∃ ep, st a.F = some (.dT ep (frE fr))
  U : ∃ ep, st a.U = some (.dI ep (usE us))
  nd : a.all.Nodup
  sep : ∀ x ∈ L.all, x ∉ a.all
theorem ndA {a : ALoc} (h : a.all.Nodup) : a.A ≠ a.F ∧ a.A ≠ a.U ∧ a.F ≠ a.U := by
  simp only [ALoc.all, List.nodup_cons, List.mem_cons, List.not_mem_nil, or_false, not_or, not_false_eq_true, List.nodup_nil, and_true] at h
  exact ⟨h.1.1, h.1.2, h.2⟩
theorem SAt.only {L : SLoc} {t : Sto} {X : List Addr} {st st' : St} (s : SAt st L t) (h : Only X st st') (hs : ∀ x ∈ L.all, x ∉ X) : SAt st' L t := by
  refine ex2_2 s.N fun ep es hN hl => ?_
  exact ⟨(h _ (hs _ (by simp [SLoc.all]))).trans s.S, (h _ (hs _ (by simp [SLoc.all]))).trans s.D, (h _ (hs _ (by simp [SLoc.all]))).trans s.F, (h _ (hs _ (by simp [SLoc.all]))).trans s.T, (h _ (hs _ (by simp [SLoc.all]))).trans s.M,
    ⟨ep, es, (h _ (hs _ (by simp [SLoc.all]))).trans hN, hl⟩, s.nd⟩
theorem IV.dT (P : Prg c) {a : Addr} {ep : Nat} {fr : Front} (hs : st a = some (.dT ep (frE fr))) : IV c n st (.o a) ((keys fr).map litD) := ⟨fun K h => OpI_dT P.ok hs (by rw [frE_keys]; exact h _)⟩
theorem GV.dT {a : Addr} {ep : Nat} {fr : Front} {l : Lit} {s : Nat} (hs : st a = some (.dT ep (frE fr))) (hl : lookF fr l = some s) : GV c n st (.o a) (.d (litD l)) (.d (.int s)) := ⟨OpG_dT hs (k := litK l) (by rw [frE_look, hl]; rfl) ⟨rfl, rfl⟩⟩
structure SB (t : Sto) : Prop where
  S : SI t.tr t.marks
  f : t.firsts = [full, full, full]
  d : t.doms.length = 3
  tl : t.tr.length ≤ 9
  ml : t.marks.length ≤ 9
theorem SB.fat {t : Sto} (B : SB t) {x : Nat} (h : x < 3) : t.firsts[x]? = some full := by
  rw [B.f]
  have : x = 0 ∨ x = 1 ∨ x = 2 := lt3 _ (by walk_at "o")
  rcases this with rfl | rfl | rfl <;> rfl
theorem w_levelOf (P : Prg c) {L : SLoc} {t : Sto} {a : ALoc} {fr : Front} {us : List Nat} {s : Nat} (W : AAt st L t a fr us) (B : SB t) (hn : 1 ≤ n) : CV c n st (.ref 198) [.o a.A, .d (.int s)] (.d (.int (levelOf t.marks s))) := by
  refine ⟨AWC_fn (L := 0) (pn := ["self", "spot"]) (P.fn (st := meth 22 1) rfl rfl (by rfl)) rfl hn fun m env hm E EK => ?_⟩
  refine AWX_cons (AWS_Ret (x := .d (.int (levelOf t.marks s))) ?_ ⟨rfl, rfl⟩)
  walk_at "v"
  · refine EV.comp1 (xs := t.marks) (enc := natD) (p := fun k => decide ((k : Int) ≤ s)) (g := natD) E (by rfl) rfl (EV.attr P (EV.attr P (by walk_at "v") W.A (cls_an P) (by rfl) rfl) W.s.S (cls_store P) (by rfl) rfl) (IV.mlst W.s.M) (by have := B.ml; walk_at "o") fun k hk => ⟨fun env' ρ' EK' A => ?_⟩
    refine AWA_Name (EK'.keeps (by rfl)) ⟨rfl, A.upd (by rfl), ?_, fun u0 => ?_⟩
    · walk_at "v"
    · walk_at "v"
  walk_at "v"
  have := FV.lenL (c := c) (n := m) (st := st) (IsL.val ((t.marks.filter fun k : Nat => decide ((k : Int) ≤ s)).map natD)) (by rw [List.length_map]; have := List.length_filter_le (fun k : Nat => decide ((k : Int) ≤ s)) t.marks; have := B.ml; walk_at "o")
  rw [List.length_map] at this
  have e : (t.marks.filter fun k : Nat => decide ((k : Int) ≤ s)).length = levelOf t.marks s := by
    unfold levelOf
    congr 2
    funext k
    rw [decide_eq_decide]; walk_at "o"
  rw [e] at this
  exact this
theorem w_put (P : Prg c) {L : SLoc} {t : Sto} {a : ALoc} {fr : Front} {us : List Nat} {l : Lit} {i : Int} {K : V → St → Prop} (W : AAt st L t a fr us) (B : SB t) (hx : l.x < 3) (hi : spotOf t.tr l = some i) (hfl : fr.length ≤ 60) (hn : 6 ≤ n)
    (h : ∀ st', AAt st' L t a (putF t.tr fr l) us → Only a.all st st' → K (.d .none) st') : AWC c n (.ref 205) [.o a.A, .d (litD l)] st K := by
  refine AWC_fn (L := 5) (pn := ["self", "literal"]) (P.fn (st := meth 22 2) rfl rfl (by rfl)) rfl hn fun m env hm E EK => ?_
  refine ex0_3 (ndA W.nd) fun n1 n2 n3 => ?_
  refine AWX_cons (AWS_Set (v := .d (.int i)) EK (by rfl) ?_ ?_)
  · walk_at "v"
    · exact EV.attr P (by walk_at "v") W.A (cls_an P) (by rfl) rfl
    walk_at "v"
    exact ⟨w_spotOf P W.s (B.fat hx) (by walk_at "o") (by have := B.tl; walk_at "o") (ent_len B.S) hi hm ⟨rfl, rfl⟩⟩
  unfold putF at h
  rw [hi] at h
  dsimp only at h
  refine AWX_cons (AWS_IfV (q := decide (0 ≤ i)) ?_ (fun hq => ?_) fun hq => AWX_nil ?_)
  · walk_at "v"
  · rw [if_pos (of_decide_eq_true hq)] at h
    refine ex1_1 W.F fun ep hF => ?_
    refine ex1_1 W.U fun ep2 hU => ?_
    have hi' : i = ((i.toNat : Nat) : Int) := by have := of_decide_eq_true hq; walk_at "o"
    refine AWX_cons (AWS_SetSub (v := .d (.int i)) (w := .o a.F) (k := .d (litD l)) (by walk_at "v") (EV.attr P (by walk_at "v") W.A (cls_an P) (by rfl) rfl) (by walk_at "v") ?_)
    refine OpSet_dT (k := litK l) hF (by unfold frE; rw [List.length_map]; walk_at "o") fun ep' => ?_
    rw [hi', show (D.int ((i.toNat : Nat) : Int)) = natD i.toNat from rfl, frE_store]
    have hO : Only a.all st (st.set a.F (.dT ep' (frE (storeF fr l i.toNat)))) := Only.set (by simp [ALoc.all])
    refine AWX_nil (AWX_nil (h _ ⟨W.s.only hO W.sep, ?_, ⟨_, St.set_same _ _ _⟩, ⟨ep2, ?_⟩, W.nd, W.sep⟩ hO))
    · rw [St.set_other _ _ n1]; exact W.A
    · rw [St.set_other _ _ n3.symm]; exact hU
  · rw [if_neg (of_decide_eq_false hq)] at h
    exact AWX_nil (h _ W Only.rfl)
theorem w_isSaid (P : Prg c) {L : SLoc} {t : Sto} {a : ALoc} {fr : Front} {us : List Nat} {l : Lit} (W : AAt st L t a fr us) (hfl : fr.length ≤ 60) (hn : 3 ≤ n) : CV c n st (.ref 210) [.o a.A, .d (litD l)] (.d (.bool (isSaid fr l))) := by
  refine ⟨AWC_fn (L := 2) (pn := ["self", "literal"]) (P.fn (st := meth 22 3) rfl rfl (by rfl)) rfl hn fun m env hm E EK => ?_⟩
  refine ex1_1 W.F fun ep hF => ?_
  refine AWX_cons (AWS_Ret (x := .d (.bool (isSaid fr l))) ?_ ⟨rfl, rfl⟩)
  refine EV.cmp (EV.comp1 (xs := keys fr) (enc := litD) (p := fun k => decide (k ≠ l) && implies k l) (g := litD) E (by rfl) rfl (EV.attr P (by walk_at "v") W.A (cls_an P) (by rfl) rfl) (IV.dT P hF) (by unfold keys; rw [List.length_map]; walk_at "o") fun k hk => ⟨fun env' ρ' EK' A => ?_⟩) (EV.lst EVL.nil rfl rfl) ?_
  · refine AWA_Name (EK'.keeps (by rfl)) ⟨rfl, A.upd (by rfl), ?_, fun u0 => ?_⟩
    · rw [show (decide (k ≠ l) && implies k l) = (decide (k ≠ l) && (implies k l && true)) by simp]
      walk_at "v"
      · exact CmpV.neb (OK_lit _) (OK_lit _) (by decide) (by decide) ⟨fun e q => of_decide_eq_true e (litD_inj q), fun e => decide_eq_true fun q => e (by rw [q])⟩
      walk_at "v"
      · exact ⟨w_implies P hm ⟨rfl, rfl⟩⟩
      walk_at "v"
    · walk_at "v"
  · refine CmpV.neb (k := 2) (m := 1) (.lst fun x hx => ?_) (.lst fun x hx => nomatch hx) (by decide) (by decide) ⟨fun e q => ?_, fun e => ?_⟩
    · refine ex1_2 (List.mem_map.mp hx) fun y u0 hr1 => ?_; subst hr1; exact OK_lit y
    · refine ex1_2 (List.any_eq_true.mp e) fun x hx hp => ?_
      injection q with q
      rw [List.map_eq_nil_iff, List.filter_eq_nil_iff] at q
      exact q x.1 (List.mem_map_of_mem hx) hp
    · refine Classical.byContradiction fun q => e ?_
      have : (keys fr).filter (fun k => decide (k ≠ l) && implies k l) = [] := by
        rw [List.filter_eq_nil_iff]
        intro k hk hp
        refine ex1_2 (List.mem_map.mp hk) fun x hx hr1 => ?_; subst hr1
        exact q (List.any_eq_true.mpr ⟨x, hx, hp⟩)
      rw [this]; rfl
theorem w_isDec (P : Prg c) {L : SLoc} {t : Sto} {a : ALoc} {fr : Front} {us : List Nat} {l : Lit} {s : Nat} {e : Ent} (W : AAt st L t a fr us) (B : SB t) (hl : lookF fr l = some s) (he : t.tr[s]? = some e) (hn : 1 ≤ n) : CV c n st (.ref 217) [.o a.A, .d (litD l)] (.d (.bool (isDec t.tr l s))) := by
  refine ⟨AWC_fn (L := 0) (pn := ["self", "literal"]) (P.fn (st := meth 22 4) rfl rfl (by rfl)) rfl hn fun m env hm E EK => ?_⟩
  refine ex1_1 W.F fun ep hF => ?_
  have hs : s < t.tr.length := (List.getElem?_eq_some_iff.mp he).1
  have htl := B.tl
  refine AWX_cons (AWS_Set (v := .d (entD e)) EK (by rfl) ?_ ?_)
  · refine EV.sub (EV.attr P (EV.attr P (by walk_at "v") W.A (cls_an P) (by rfl) rfl) W.s.S (cls_store P) (by rfl) rfl) (EV.sub (EV.attr P (by walk_at "v") W.A (cls_an P) (by rfl) rfl) (by walk_at "v") (GV.dT hF hl)) ?_
    exact GV.mlst W.s.T (by rw [List.getElem?_map, he]; rfl) (by walk_at "o")
  have hd : isDec t.tr l s = ((match rsD e.rs with | .none => true | _ => false) && decide (e.lit = l)) := by
    unfold isDec; rw [he]; dsimp only
    cases e.rs <;> rfl
  refine AWX_cons (AWS_Ret (x := .d (.bool (isDec t.tr l s))) ?_ ⟨rfl, rfl⟩)
  rw [hd]
  walk_at "v"
  · exact CmpV.isNone
  walk_at "v"
  exact CmpV.eqb (OK_lit _) (OK_lit _) (by decide) (by decide) ⟨fun e => by rw [of_decide_eq_true e], fun e => decide_eq_true (litD_inj e)⟩

end
end
section
open PySem PySem.W PyProof.Rows PySem.Calls
set_option maxRecDepth 100000
set_option linter.unusedVariables false
set_option maxHeartbeats 2000000

section
variable {c : Ctx} {n : Nat} {env : Env} {ρ : Loc} {st : St} {names : List (Str × NameKind)}
theorem Sub.aat {st st' : St} (h : Sub st st') {L : SLoc} {t : Sto} {a : ALoc} {fr : Front} {us : List Nat} (W : AAt st L t a fr us) : AAt st' L t a fr us := by
  refine ex2_2 W.s.N fun ep es hN hl => ?_
  refine ex1_1 W.F fun e1 hF => ?_
  refine ex1_1 W.U fun e2 hU => ?_
  exact ⟨⟨h _ _ W.s.S, h _ _ W.s.D, h _ _ W.s.F, h _ _ W.s.T, h _ _ W.s.M, ⟨ep, es, h _ _ hN, hl⟩, W.s.nd⟩, h _ _ W.A, ⟨e1, h _ _ hF⟩, ⟨e2, h _ _ hU⟩, W.nd, W.sep⟩
theorem EV.drop {e : Expr} {x : V} (p : AWE c n env ρ st e fun v st' => v = x ∧ Sub st st') : EV c n env ρ st e x := ⟨p.conseq fun v st' q => ⟨st, q.2, q.1, rfl⟩⟩
theorem BV.lst {x y : V} {xs ys : List D} (h1 : IsL st x xs) (h2 : IsL st y ys) (hl : xs.length + ys.length ≤ 1000) : BV c n st .Add x y (.d (.lst (xs ++ ys))) := ⟨OpB_list h1 h2 hl ⟨rfl, rfl⟩⟩
noncomputable def optL : Option Lit → D
  | none => .none
  | some l => litD l
section
variable {L : SLoc} {t : Sto} {a : ALoc} {fr : Front} {us : List Nat}
theorem w_lateOnes (P : Prg c) {lev : Nat} (W : AAt st L t a fr us) (B : SB t) (F : FI t.tr fr) (hn : 2 ≤ n) : CV c n st (.ref 229) [.o a.A, .d (.int lev)] (.d (.lst ((lateOnes t.marks fr lev).map litD))) := by
  refine ⟨AWC_fn (L := 1) (pn := ["self", "level"]) (P.fn (st := meth 22 6) rfl rfl (by rfl)) rfl hn fun m env hm E EK => ?_⟩
  refine ex1_1 W.F fun ep hF => ?_
  have hfl := F.len
  have hkl : (keys fr).length ≤ 48 := by unfold keys; rw [List.length_map]; exact hfl
  refine AWX_cons (AWS_Ret (x := .d (.lst ((lateOnes t.marks fr lev).map litD))) ?_ ⟨rfl, rfl⟩)
  refine EV.comp1 (xs := sortL (keys fr)) (enc := litD) (p := fun l => decide (levL t.marks fr l = lev)) (g := litD) E (by rfl) rfl (v := .d (.lst ((sortL (keys fr)).map litD))) ?_ IV.lst (by rw [(sortL_perm _).length_eq]; walk_at "o") fun l hl => ⟨fun env' ρ' EK' A => ?_⟩
  · walk_at "v"
    · exact EV.attr P (by walk_at "v") W.A (cls_an P) (by rfl) rfl
    walk_at "v"
    refine FV.sortedLit ?_ F.nd (by walk_at "o")
    have := Coll.dT P.ok hF (by unfold frE; rw [List.length_map]; walk_at "o")
    rwa [frE_keys] at this
  · refine ex1_1 (Option.isSome_iff_exists.mp (lookF_isSome.mpr ((sortL_perm _).mem_iff.mp hl))) fun s hs => ?_
    refine AWA_Name (EK'.keeps (by rfl)) ⟨rfl, A.upd (by rfl), ?_, fun u0 => by walk_at "v"⟩
    have e : decide (levL t.marks fr l = lev) = decide (((levelOf t.marks s : Nat) : Int) = lev) := by
      rw [decide_eq_decide]; unfold levL; rw [hs]; show levelOf t.marks s = lev ↔ _; walk_at "o"
    rw [e]
    walk_at "v"
    · refine EV.callM P (by walk_at "v") W.A (cls_an P) rfl (by rfl) (by rfl) (EVL.cons (EV.sub (EV.attr P (by walk_at "v") W.A (cls_an P) (by rfl) rfl) (by walk_at "v") (GV.dT hF hs)) EVL.nil) (w_levelOf P W B hm)
    walk_at "v"
theorem w_latest (P : Prg c) {ls : List Lit} (W : AAt st L t a fr us) (B : SB t) (F : FI t.tr fr) (hls : ∀ l ∈ ls, l ∈ keys fr) (hn : 2 ≤ n) : CV c n st (.ref 236) [.o a.A, .d (.lst (ls.map litD))] (.d (optL (latest t.tr fr ls))) := by
  refine ⟨AWC_fn (L := 1) (pn := ["self", "some"]) (P.fn (st := meth 22 7) rfl rfl (by rfl)) rfl hn fun m env hm E EK => ?_⟩
  refine ex1_1 W.F fun ep hF => ?_
  refine AWX_cons (AWS_Set EK (by rfl) (by walk_at "v") ?_)
  refine AWX_cons (AWS_ForV (v := .d (.lst (ls.map litD))) (by walk_at "v") (OpI_lst ?_))
  refine AWF_ind (fun r ρ1 st1 => st1 = st ∧ ∃ b : Option Lit, Has [("self", .o a.A), ("best", .d (optL b))] ρ1 ∧ r.foldl (better t.tr fr) b = latest t.tr fr ls ∧ (∀ l ∈ r, l ∈ keys fr) ∧ ∀ l, b = some l → l ∈ keys fr) ?_ ?_ _ _ _ ⟨rfl, none, by walk_at "has", rfl, hls, fun l h => nomatch h⟩
  · intro ρ1 s1 hq; refine ex0_2 hq fun hr1 hq2 => ?_; clear hq; subst hr1; refine ex1_4 hq2 fun b H e u0 u1 => ?_; clear hq2 u0 u1
    have e' : b = latest t.tr fr ls := e
    subst e'
    exact AWX_nil (AWX_cons (AWS_Ret (by walk_at "v") ⟨rfl, rfl⟩))
  · intro l r ρ1 s1 hq K2 h2; refine ex0_2 hq fun hr1 hq2 => ?_; clear hq; subst hr1; refine ex1_4 hq2 fun b H e hr hb => ?_; clear hq2
    refine ex1_1 (Option.isSome_iff_exists.mp (lookF_isSome.mpr (hr l (.head _)))) fun s hs => ?_
    refine ex1_1 (F.ent B.S hs) fun en hen => ?_
    have hsg : (lookF fr l).getD 0 = s := by rw [hs]; rfl
    rw [List.foldl_cons] at e
    refine AWA_Name (EK.keeps (by rfl)) ?_
    refine AWX_cons (AWS_IfV (q := !isDec t.tr l s && (beats fr b l && true)) ?_ (fun hq => ?_) fun hq => ?_)
    · refine EVT.and (EVT.not (EVT.val (EV.callM P (by walk_at "v") W.A (cls_an P) rfl (by rfl) (by rfl) (by walk_at "v") (w_isDec P W B hs hen hm)))) fun u0 => EVT.and ?_ fun u0 => EVT.andNil
      cases b with
      | none =>
        refine EVT.or (a := true) (b := false) (EVT.cmp (by walk_at "v") EV.none CmpV.isNone) fun q => nomatch q
      | some b =>
        refine ex1_1 (Option.isSome_iff_exists.mp (lookF_isSome.mpr (hb b rfl))) fun s' hs' => ?_
        have eb : beats fr (some b) l = (false || (decide ((s' : Int) < s) || false)) := by
          unfold beats; dsimp only; rw [hs', hs]; simp
        rw [eb]
        refine EVT.or (EVT.cmp (by walk_at "v") EV.none (CmpV.isNone (x := litD b))) fun u0 => EVT.or (EVT.cmp (EV.sub (EV.attr P (by walk_at "v") W.A (cls_an P) (by rfl) rfl) (by walk_at "v") (GV.dT hF hs)) (EV.sub (EV.attr P (by walk_at "v") W.A (cls_an P) (by rfl) rfl) (by walk_at "v") (GV.dT hF hs')) CmpV.gt) fun u0 => EVT.orNil
    · refine AWX_cons (AWS_Set (v := .d (optL (some l))) EK (by rfl) (by walk_at "v") ?_)
      have hbt : better t.tr fr b l = some l := by unfold better; rw [hsg, if_pos (by simpa using hq)]
      rw [hbt] at e
      refine AWX_nil (AWX_nil (h2 ⟨(fun a ha => nomatch ha), rfl, some l, by walk_at "has", e, fun l' h => hr l' (.tail _ h), fun l' h => by cases h; exact hr l (.head _)⟩))
    · have hbt : better t.tr fr b l = b := by unfold better; rw [hsg, if_neg (by rw [Bool.and_true] at hq; rw [hq]; decide)]
      rw [hbt] at e
      refine AWX_nil (AWX_nil (h2 ⟨(fun a ha => nomatch ha), rfl, b, by walk_at "has", e, fun l' h => hr l' (.tail _ h), hb⟩))
end

end
end
section
open PySem PySem.W PyProof.Rows PySem.Calls
set_option maxRecDepth 100000
set_option linter.unusedVariables false
set_option maxHeartbeats 2000000

section
variable {c : Ctx} {n : Nat} {env : Env} {ρ : Loc} {st : St} {names : List (Str × NameKind)}
theorem exec_del1 (t : Expr) (pos : Pos) (env : Env) : exec (.Delete [t] pos) env = (do standAt pos; delete t env; pure .next) := by
  rw [arm_exec_Delete, arm_deleteEach_cons, arm_deleteEach_nil]
  have e : ∀ m : Sem Unit, (m >>= fun u0 => pure ()) = m := fun m => bind_pure m
  rw [e]
section
variable {L : SLoc} {t : Sto} {a : ALoc} {fr : Front} {us : List Nat}
theorem w_nextOne (P : Prg c) (W : AAt st L t a fr us) (B : SB t) (F : FI t.tr fr) (hn : 3 ≤ n) : CV c n st (.ref 241) [.o a.A] (.d (optL (nextOne t.tr t.marks fr))) := by
  refine ⟨AWC_fn (L := 2) (pn := ["self"]) (P.fn (st := meth 22 8) rfl rfl (by rfl)) rfl hn fun m env hm E EK => ?_⟩
  refine ex1_1 W.F fun ep hF => ?_
  have hfl := F.len
  have hla : ∀ lev, ∀ l ∈ lateOnes t.marks fr lev, l ∈ keys fr := fun lev l hl => (late_mem.mp hl).1
  have hll : ∀ lev, (lateOnes t.marks fr lev).length ≤ 48 := fun lev => by
    have h1 : (lateOnes t.marks fr lev).length ≤ (sortL (keys fr)).length := List.length_filter_le _ _
    rw [(sortL_perm _).length_eq] at h1
    unfold keys at h1; rw [List.length_map] at h1; walk_at "o"
  refine AWX_cons (AWS_Set (v := .d (optL (latest t.tr fr (lateOnes t.marks fr 0)))) EK (by rfl) ?_ ?_)
  · refine EV.callM P (by walk_at "v") W.A (cls_an P) rfl (by rfl) (by rfl) (EVL.cons (x := .d (.lst ((lateOnes t.marks fr 0).map litD))) ?_ EVL.nil) (w_latest P W B F (hla 0) (by walk_at "o"))
    exact EV.callM P (by walk_at "v") W.A (cls_an P) rfl (by rfl) (by rfl) (by walk_at "v") (w_lateOnes P (lev := 0) W B F (by walk_at "o"))
  cases hl0 : latest t.tr fr (lateOnes t.marks fr 0) with
  | some l =>
    refine AWX_cons (AWS_IfV (q := true) ?_ (fun u0 => ?_) fun hq => nomatch hq)
    · exact EVT.cmp (by walk_at "v") EV.none (CmpV.isNotNone (x := litD l))
    · refine AWX_cons (AWS_Ret (x := .d (optL (some l))) (by walk_at "v") ⟨?_, rfl⟩)
      unfold nextOne; rw [hl0]
  | none =>
    refine AWX_cons (AWS_IfV (q := false) ?_ (fun hq => nomatch hq) fun u0 => AWX_nil ?_)
    · exact EVT.cmp (by walk_at "v") EV.none (CmpV.isNotNone (x := .none))
    refine AWX_cons (AWS_Set (v := .d (.lst ((lateOnes t.marks fr (maxLev t.marks fr)).map litD))) EK (by rfl) ?_ ?_)
    · refine EV.callM P (by walk_at "v") W.A (cls_an P) rfl (by rfl) (by rfl) (EVL.cons (x := .d (.int (maxLev t.marks fr))) ?_ EVL.nil) (w_lateOnes P W B F (by walk_at "o"))
      refine EV.callB (by assumption) (by assumption) (by rfl) (by rfl) (by walk_at "bt") (EVL.cons (EV.bin (x := .d (.lst ((fr.map fun e => natD (levelOf t.marks e.2))))) (y := .d (.lst [.int 0])) ?_ ?_ (BV.lst (.val _) (.val _) (by walk_at "m"))) EVL.nil) ?_
      · refine EV.drop (AWE_comp0 E (by rfl) rfl ?_)
        refine AWE_Values P.ok (EV.use (EV.attr P (by walk_at "v") W.A (cls_an P) (by rfl) rfl) ⟨a.F, ep, _, rfl, hF, fun b hb => ?_⟩)
        have hbF : b ≠ a.F := by rintro rfl; rw [hF] at hb; cases hb
        refine OpI_view (St.set_same _ _ _) ((St.set_other _ _ hbF.symm).trans hF) ?_
        have W' := (Sub.set (ob := .view a.F) hb).aat W
        refine ⟨Nat, fr.map (·.2), natD, fun s => natD (levelOf t.marks s), by rw [frE_vals], by rw [List.length_map]; walk_at "o", fun s hs env' ρ' EK' A => ?_, by rw [List.map_map]; rfl, Sub.set hb⟩
        refine AWA_Name (EK'.keeps (by rfl)) ?_
        refine EV.use (EV.callM P (by walk_at "v") W'.A (cls_an P) rfl (by rfl) (by rfl) (by walk_at "v") (w_levelOf P W' B (by walk_at "o"))) ⟨rfl, rfl, A.upd (by rfl)⟩
      · exact EV.lst (by walk_at "v") rfl rfl
      · refine ⟨OpF_maxL (ns := (fr.map fun e => ((levelOf t.marks e.2 : Nat) : Int)) ++ [0]) ?_ (by simp) fun M h1 h2 => ⟨by rw [maxLev_of h1 h2], rfl⟩⟩
        rw [List.map_append, List.map_map]
        exact .val _
    refine AWX_cons (AWS_Ret (x := .d (optL (nextOne t.tr t.marks fr))) ?_ ⟨rfl, rfl⟩)
    have hno : nextOne t.tr t.marks fr = if 1 < (lateOnes t.marks fr (maxLev t.marks fr)).length then latest t.tr fr (lateOnes t.marks fr (maxLev t.marks fr)) else none := by
      unfold nextOne; rw [hl0]
    refine EV.ite (q := decide ((1 : Int) < (lateOnes t.marks fr (maxLev t.marks fr)).length)) ?_ (fun hq => ?_) fun hq => ?_
    · walk_at "v"
      · have := FV.lenL (c := c) (n := m) (st := st) (IsL.val ((lateOnes t.marks fr (maxLev t.marks fr)).map litD)) (by rw [List.length_map]; have := hll (maxLev t.marks fr); walk_at "o")
        rw [List.length_map] at this; exact this
      walk_at "v"
    · have : 1 < (lateOnes t.marks fr (maxLev t.marks fr)).length := by have := of_decide_eq_true hq; walk_at "o"
      rw [hno, if_pos this]
      exact EV.callM P (by walk_at "v") W.A (cls_an P) rfl (by rfl) (by rfl) (by walk_at "v") (w_latest P W B F (hla _) (by walk_at "o"))
    · have : ¬ 1 < (lateOnes t.marks fr (maxLev t.marks fr)).length := by have := of_decide_eq_false hq; walk_at "o"
      rw [hno, if_neg this]
      exact EV.none
theorem Keep.rfl {X : List Addr} {st : St} : Keep X st st := fun u0 u1 u2 h => h
theorem Keep.trans {X : List Addr} {s1 s2 s3 : St} (h : Keep X s1 s2) (h' : Keep X s2 s3) : Keep X s1 s3 := fun b hb ob e => h' b hb ob (h b hb ob e)
theorem Only.keep {X : List Addr} {s1 s2 : St} (h : Only X s1 s2) : Keep X s1 s2 := fun b hb ob e => (h b hb).trans e
theorem Sub.keep {X : List Addr} {s1 s2 : St} (h : Sub s1 s2) : Keep X s1 s2 := fun b u0 ob e => h b ob e
noncomputable def opA (S : Addr) (l : Lit) (s : Nat) (e : Ent) : List (Str × V) := [("self", .o S), ("literal", .d (litD l)), ("spot", .d (.int s)), ("before", .d (domD e.old)), ("struck_by", .d (litD e.lit)), ("reasons", .d (rsD e.rs))]
noncomputable def opB (S : Addr) (l : Lit) (e : Ent) : List (Str × V) := [("self", .o S), ("literal", .d (litD l)), ("before", .d (domD e.old)), ("struck_by", .d (litD e.lit)), ("reasons", .d (.tup ((e.rs.getD [e.lit]).map litD)))]
theorem w_opened (P : Prg c) {l : Lit} {s : Nat} {K : V → St → Prop} (W : AAt st L t a fr us) (B : SB t) (F : FI t.tr fr) (hus : us.length ≤ 50) (hl : lookF fr l = some s) (hd : isDec t.tr l s = false) (hn : 7 ≤ n)
    (h : ∀ st', AAt st' L t a (openedF t.tr fr l) (openedU t.tr fr us l) → Keep a.all st st' → K (.d .none) st') : AWC c n (.ref 224) [.o a.A, .d (litD l)] st K := by
  refine AWC_fn (L := 6) (pn := ["self", "literal"]) (P.fn (st := meth 22 5) rfl rfl (by rfl)) rfl hn fun m env hm E EK => ?_
  refine ex1_8 (opened_pre B.S F hl hd) fun e he ok hex hu hold hes u0 hput => ?_
  refine ex0_3 (ndA W.nd) fun n1 n2 n3 => ?_
  refine ex1_1 W.F fun ep hF => ?_
  refine ex1_1 W.U fun ep2 hU => ?_
  have hst : s < t.tr.length := (List.getElem?_eq_some_iff.mp he).1
  have htl := B.tl
  have hfl := F.len
  have hoF : openedF t.tr fr l = (openedL e l).foldl (putF t.tr) (dropF fr l) := by unfold openedF; rw [hl]; dsimp only [Option.bind_some]; rw [he]
  have hoU : openedU t.tr fr us l = if e.rs.isSome then addU us s else us := by unfold openedU; rw [hl]; dsimp only; rw [he]
  rw [hoF, hoU] at h
  refine AWX_cons (AWS_Set (v := .d (.int s)) EK (by rfl) (EV.sub (EV.attr P (by walk_at "v") W.A (cls_an P) (by rfl) rfl) (by walk_at "v") (GV.dT hF hl)) ?_)
  refine AWX_cons (AWS_AssignTup (EV.use (x := .d (entD e)) (EV.sub (EV.attr P (EV.attr P (by walk_at "v") W.A (cls_an P) (by rfl) rfl) W.s.S (cls_store P) (by rfl) rfl) (by walk_at "v") (GV.mlst W.s.T (by rw [List.getElem?_map, he]; rfl) (by walk_at "o"))) ?_) (by rfl) (by rfl))
  refine AWA_Tuple (AWAs_cons (AWA_Name (EK.keeps (by rfl)) (AWAs_cons (AWA_Name (EK.keeps (by rfl)) (AWAs_cons (AWA_Name (EK.keeps (by rfl)) (AWAs_cons (AWA_Name (EK.keeps (by rfl)) (AWAs_cons (AWA_Name (EK.keeps (by rfl)) ?_)))))))))) rfl (fun t ht r => by
    simp only [List.mem_cons, List.not_mem_nil, or_false] at ht; rcases ht with rfl | rfl | rfl | rfl | rfl <;> rfl) rfl
  refine AWX_gen (l := (opA a.A l s e)) (by walk_at "has") fun ρ H => ?_
  have hkk : (lookT (frE fr) (litK l)).isSome = true := by rw [frE_look, hl]; rfl
  refine AWX_cons (AWS_DelSub (EV.use (x := .o a.F) (EV.attr P (by walk_at "v") W.A (cls_an P) (by rfl) rfl) (EV.use (x := .d (litD l)) (by walk_at "v") ⟨a.F, ep, frE fr, litK l, rfl, rfl, hF, hkk, by unfold frE; rw [List.length_map]; walk_at "o", fun ep' => ?_⟩)) (exec_del1 _ _ _))
  rw [frE_drop]
  generalize hs1 : st.set a.F (.dT ep' (frE (dropF fr l))) = s1
  have hO : Only a.all st s1 := by rw [← hs1]; exact Only.set (by simp [ALoc.all])
  have W1 : AAt s1 L t a (dropF fr l) us := by
    refine ⟨W.s.only hO W.sep, ?_, ⟨ep', by rw [← hs1]; exact St.set_same _ _ _⟩, ⟨ep2, ?_⟩, W.nd, W.sep⟩
    · rw [← hs1, St.set_other _ _ n1]; exact W.A
    · rw [← hs1, St.set_other _ _ n3.symm]; exact hU
  refine AWX_cut (fun ρ2 s2 => Has (opB a.A l e) ρ2 ∧ AAt s2 L t a (dropF fr l) (if e.rs.isSome then addU us s else us) ∧ Keep a.all st s2)
    (fun K2 h2 => AWS_IfV (q := e.rs.isNone) ?_ (fun hq => ?_) fun hq => ?_) ?_
  · have : e.rs.isNone = (match rsD e.rs with | .none => true | _ => false) := by cases e.rs <;> rfl
    rw [this]
    exact EVT.cmp (by walk_at "v") EV.none CmpV.isNone
  · obtain hrs : e.rs = none := by simpa using hq
    refine AWX_cons (AWS_Set (v := .d (.tup [litD e.lit])) EK (by rfl) (by walk_at "v") ?_)
    refine AWX_nil (h2 ?_)
    unfold opB; rw [hrs]
    exact ⟨by walk_at "has", W1, hO.keep⟩
  · refine ex1_1 (show ∃ rs, e.rs = some rs from Option.isSome_iff_exists.mp (by cases q : e.rs <;> simp_all)) fun rs hrs => ?_
    unfold opA at H; rw [hrs] at H
    refine ex1_1 W1.U fun ep3 hU1 => ?_
    refine AWX_cons (AWS_SetSub (v := .d (.bool true)) (w := .o a.U) (k := .d (.int s)) (by walk_at "v") (EV.attr P (by walk_at "v") W1.A (cls_an P) (by rfl) rfl) (by walk_at "v") ?_)
    refine OpSet_dI hU1 (by unfold usE; rw [List.length_map]; walk_at "o") fun ep4 => ?_
    rw [usE_store]
    refine ex1_1 W1.F fun ep5 hF1 => ?_
    have hO2 : Only a.all s1 (s1.set a.U (.dI ep4 (usE (addU us s)))) := Only.set (by simp [ALoc.all])
    refine AWX_nil (h2 ?_)
    unfold opB; rw [hrs]
    refine ⟨by walk_at "has", ⟨W1.s.only hO2 W1.sep, ?_, ⟨ep5, ?_⟩, ⟨ep4, St.set_same _ _ _⟩, W1.nd, W1.sep⟩, hO.keep.trans hO2.keep⟩
    · rw [St.set_other _ _ n2]; exact W1.A
    · rw [St.set_other _ _ n3]; exact hF1
  intro ρ2 s2 hq1; refine ex0_3 hq1 fun H2 W2 hK2 => ?_; clear hq1
  have hld := Ld_at hold
  have hol := openedL_len B.S (l := l) ok hold
  have hel : (e.rs.getD [e.lit]).length + (elders e.lit e.old l).length ≤ 8 := by unfold openedL at hol; rwa [List.length_append] at hol
  refine AWX_cons (AWS_For (AWE_BinOp (EV.use (x := .d (.lst ((e.rs.getD [e.lit]).map litD))) ?_ ?_)))
  · walk_at "v"
    exact ⟨OpF_list (by walk_at "m") ⟨rfl, rfl⟩⟩
  refine AWE_CallG P.ok (EK.g (by rfl)) (P.glob (by rfl)) (P.isFn (by rfl)) ?_
  refine EVL.use (x := [.d (litD e.lit), .d (domD e.old), .d (litD l)]) (by walk_at "v") (w_elders P hld.2.1 (by walk_at "o") (by walk_at "o") (by walk_at "o") fun b hb => ?_)
  refine OpB_list (.val _) (.obj (St.set_same _ _ _)) (by rw [List.length_map, List.length_map]; walk_at "o") (OpI_lst ?_)
  rw [← List.map_append, show e.rs.getD [e.lit] ++ elders e.lit e.old l = openedL e l from rfl]
  have W3 := (Sub.set (ob := .lst ((elders e.lit e.old l).map litD)) hb).aat W2
  have hK3 : Keep a.all st (s2.set b (.lst ((elders e.lit e.old l).map litD))) := hK2.trans (Sub.set hb).keep
  generalize s2.set b (.lst ((elders e.lit e.old l).map litD)) = s3 at W3 hK3
  refine AWF_ind (fun r ρ3 s4 => Has [("self", .o a.A)] ρ3 ∧ Keep a.all st s4 ∧ ∃ fr', AAt s4 L t a fr' (if e.rs.isSome then addU us s else us) ∧ FI t.tr fr' ∧ r.foldl (putF t.tr) fr' = (openedL e l).foldl (putF t.tr) (dropF fr l) ∧ ∀ q ∈ r, q ∈ openedL e l) ?_ ?_ _ _ _ ⟨by walk_at "has", hK3, dropF fr l, W3, F.drop l, rfl, fun q h => h⟩
  · intro ρ3 s4 hq; refine ex0_3 hq fun H3 hK4 hq2 => ?_; clear hq; refine ex1_4 hq2 fun fr' W4 u0 e4 u1 => ?_; clear hq2 u0 u1
    have e4' : fr' = (openedL e l).foldl (putF t.tr) (dropF fr l) := e4
    rw [e4'] at W4
    exact AWX_nil (AWX_nil (h _ W4 hK4))
  · intro q r ρ3 s4 hq K2 h2; refine ex0_3 hq fun H3 hK4 hq2 => ?_; clear hq; refine ex1_4 hq2 fun fr' W4 F4 e4 hr => ?_; clear hq2
    obtain ⟨qu, qx, i, qi, -⟩ := hput q (hr q (.head _))
    refine ex0_2 (put_spec B.S F4 qu qx qi) fun F5 u0 => ?_
    have hl4 := F4.len
    refine AWA_Name (EK.keeps (by rfl)) ?_
    refine AWX_cons (AWS_Expr (AWE_M (ps := [.d (litD q)]) P (by walk_at "v") W4.A (cls_an P) rfl (by rfl) (by rfl) (by walk_at "v") (w_put P W4 B qx qi (by walk_at "o") hm fun s5 W5 hO5 => ?_)) (E.inter rfl))
    refine AWX_nil (h2 ⟨(fun a ha => nomatch ha), H3.upd rfl, hK4.trans hO5.keep, _, W5, F5, e4, fun q' h' => hr q' (.tail _ h')⟩)
end

end
end
section
open PySem PySem.W PyProof.Rows PySem.Calls
set_option maxRecDepth 100000
set_option linter.unusedVariables false
set_option maxHeartbeats 2000000

section
variable {c : Ctx} {n : Nat} {env : Env} {ρ : Loc} {st : St} {names : List (Str × NameKind)}
theorem swc_congr {env env' : Env} (h : env.scope = env'.scope) (v : Expr) (t : Option Expr) (n : Nat) : swapsWith v t n env = swapsWith v t n env' := by
  unfold swapsWith Env.kindOf Env.blockKind; rw [h]
theorem CT1.comp {sc inner : List (Str × NameKind)} {t q elt : Expr} {x : D} {p : Bool} {g : D} (h : CT1 c n sc inner ρ st t q elt x p g) : CompT c n sc inner ρ st t q elt x p g := fun env' ρ' EK' A => (h.run env' ρ' EK' A).mono fun ρ1 st1 ⟨e, A1, h1, h2⟩ => by
  subst e
  refine h1.use ⟨rfl, ?_⟩
  cases p with
  | true => rw [if_pos rfl]; exact (h2 rfl).use ⟨rfl, rfl, A1⟩
  | false => exact ⟨rfl, A1⟩
theorem CT0.comp {sc inner : List (Str × NameKind)} {t elt : Expr} {x : D} {g : D} (h : CT0 c n sc inner ρ st t elt x g) : CompE c n sc inner ρ st t elt x g := fun env' ρ' EK' A => (h.run env' ρ' EK' A).mono fun ρ1 st1 ⟨e, A1, h1⟩ => by
  subst e; exact h1.use ⟨rfl, rfl, A1⟩
theorem AWS_comp1 {y : Str} {py spos : Pos} {sc : Scope} {elt t iter q : Expr} {scope : Scope} {pos : Pos} {v : V} {α : Type} {xs : List α} {enc : α → D} {p : α → Bool} {g : α → D} {K : Fl → Loc → St → Prop} (E : EnvOf env sc) (EK : EnvK env names) (hk : isVar (names.lookup y) = true) (hc : compChk scope sc.names = true) (hs : sc.kind = .function)
    (hi : EV c n env ρ st iter v) (hv : IV c n st v (xs.map enc)) (hlen : xs.length ≤ 999) (ht : ∀ x ∈ xs, CT1 c n sc.names scope.names ρ st t q elt (enc x) (p x) (g x))
    (k : K .next (upd ρ y (.d (.lst ((xs.filter p).map g)))) st)
    (hsw : swapsWith (.ListComp elt [⟨t, iter, [q], 0⟩] scope pos) (some (.Name y py)) spos.line (envAt sc) = pure true)
    (hf : ∀ x, foldedSetIterable iter env x = pure x := by intro _; rfl) :
    AWS c n env ρ st (.Assign [.Name y py] (.ListComp elt [⟨t, iter, [q], 0⟩] scope pos) spos) K := by
  refine ex1_3 (EnvK.comp E scope hc hs) fun cl h1 h2 h3 => ?_
  refine AWS_AssignComp (h1 ρ) (EK.keeps hk) (hi.use (hv.run _ fun src L => ?_)) ((swc_congr (env' := envAt sc) E.scope _ _ _).trans hsw) hf
  refine AWG_all1 (ok := Agree scope.names ρ) rfl rfl xs [] _ (by simpa using hlen) rho0_agree (fun x hx ρ' ha => (ht x hx).comp _ ρ' (h2 L) ha) fun ρe he => ⟨fun x a hx => he x (h3 x a hx), by simpa using k⟩
theorem AWS_comp0 {y : Str} {py spos : Pos} {sc : Scope} {elt t iter : Expr} {scope : Scope} {pos : Pos} {v : V} {α : Type} {xs : List α} {enc : α → D} {g : α → D} {K : Fl → Loc → St → Prop} (E : EnvOf env sc) (EK : EnvK env names) (hk : isVar (names.lookup y) = true) (hc : compChk scope sc.names = true) (hs : sc.kind = .function)
    (hi : EV c n env ρ st iter v) (hv : IV c n st v (xs.map enc)) (hlen : xs.length ≤ 999) (ht : ∀ x ∈ xs, CT0 c n sc.names scope.names ρ st t elt (enc x) (g x))
    (k : K .next (upd ρ y (.d (.lst (xs.map g)))) st)
    (hsw : swapsWith (.ListComp elt [⟨t, iter, [], 0⟩] scope pos) (some (.Name y py)) spos.line (envAt sc) = pure true)
    (hf : ∀ x, foldedSetIterable iter env x = pure x := by intro _; rfl) :
    AWS c n env ρ st (.Assign [.Name y py] (.ListComp elt [⟨t, iter, [], 0⟩] scope pos) spos) K := by
  refine ex1_3 (EnvK.comp E scope hc hs) fun cl h1 h2 h3 => ?_
  refine AWS_AssignComp (h1 ρ) (EK.keeps hk) (hi.use (hv.run _ fun src L => ?_)) ((swc_congr (env' := envAt sc) E.scope _ _ _).trans hsw) hf
  refine AWG_all0 (ok := Agree scope.names ρ) rfl rfl xs [] _ (by simpa using hlen) rho0_agree (fun x hx ρ' ha => (ht x hx).comp _ ρ' (h2 L) ha) fun ρe he => ⟨fun x a hx => he x (h3 x a hx), by simpa using k⟩
noncomputable def dec0 (k : Nat) : Lit := ⟨k, .ne, 0⟩
noncomputable def sortN (us : List Nat) : List Nat := (sortL (us.map dec0)).map (·.x)
theorem dec0_lt {a b : Nat} : litLt (dec0 a) (dec0 b) ↔ a < b := by unfold litLt dec0; dsimp only; walk_at "o"
theorem dec0_nodup {us : List Nat} (h : us.Nodup) : (us.map dec0).Nodup := List.Pairwise.map (R := (· ≠ ·)) dec0 (fun a b hab e => hab (congrArg Lit.x e)) h
theorem sortN_perm (us : List Nat) : (sortN us).Perm us := by
  have := (sortL_perm (us.map dec0)).map (·.x)
  rw [List.map_map] at this
  simpa [sortN, Function.comp_def, dec0] using this
theorem sortN_of {us ys : List Nat} (p : ys.Perm us) (h : ys.Pairwise (· < ·)) : ys = sortN us := by
  have h1 : ys.map dec0 = sortL (us.map dec0) := sortL_of (p.map dec0) (List.Pairwise.map _ (fun a b hab => dec0_lt.mpr hab) h)
  unfold sortN
  rw [← h1, List.map_map]
  simp [Function.comp_def, dec0]
theorem sortN_sorted {us : List Nat} (h : us.Nodup) : (sortN us).Pairwise (· < ·) := by
  unfold sortN
  rw [List.pairwise_map]
  have hm : ∀ x ∈ sortL (us.map dec0), ∃ k, x = dec0 k := fun x hx => by
    refine ex1_2 (List.mem_map.mp ((sortL_perm _).mem_iff.mp hx)) fun k u0 e => ?_; exact ⟨k, e.symm⟩
  refine List.Pairwise.imp_of_mem (fun {a b} ha hb hab => ?_) (sortL_sorted (dec0_nodup h))
  refine ex1_1 (hm a ha) fun i hr1 => ?_; subst hr1
  refine ex1_1 (hm b hb) fun j hr1 => ?_; subst hr1
  exact dec0_lt.mp hab
theorem sortK_nat {prog : Program} {w : World} : SortK prog w Nat natD (fun a b => decide (a < b)) oneType' where
  trans := fun a b c h1 h2 => by simp only [decide_eq_true_eq] at *; walk_at "o"
  irr := fun a => by simp
  total := fun a b h => by simp only [decide_eq_true_eq]; walk_at "o"
  kind := fun {A E s G vs xs Q} q hG h2 hQ => by
    have e : xs.map natD = (xs.map fun k : Nat => (k : Int)).map D.int := by rw [List.map_map]; rfl
    rw [e] at q
    exact sortK_int.kind q hG (by rw [List.length_map]; exact h2) hQ
  ask := fun {A E s G v v' a b Q} r r' hG hQ => sortK_int.ask r r' hG (by
    have e : decide ((a : Int) < b) = decide (a < b) := by rw [decide_eq_decide]; walk_at "o"
    rw [e]; exact hQ)
theorem FV.sortedN {v : V} {us : List Nat} (src : Coll c st v (us.map natD)) (nd : us.Nodup) (hl : us.length < 64) : FV c n st (.builtin "sorted") [v] (.d (.lst ((sortN us).map natD))) :=
  ⟨OpF_sortedK sortK_nat src nd hl fun ys p o => ⟨by rw [sortN_of p (o.imp fun h => of_decide_eq_true h)], rfl⟩⟩
theorem LI.ulen {tr : List Ent} {clash : List Lit} {fr : Front} {us : List Nat} (I : LI tr clash fr us) : us.length ≤ tr.length := by
  have := nodup_sub_len (ys := List.range tr.length) I.und fun k hk => by
    refine ex1_2 (I.uat k hk) fun e he u0 => ?_
    exact List.mem_range.mpr (List.getElem?_eq_some_iff.mp he).1
  rwa [List.length_range] at this
section
variable {L : SLoc} {t : Sto} {a : ALoc} {fr : Front} {us : List Nat}
theorem SAt.some (s : SAt st L t) : ∀ x ∈ L.all, st x ≠ none := by
  have n0 : ∀ {x : Addr} {ob : Ob}, st x = Option.some ob → st x ≠ none := fun e q => nomatch e.symm.trans q
  exact List.forall_mem_cons.mpr ⟨n0 s.S, List.forall_mem_cons.mpr ⟨n0 s.D, List.forall_mem_cons.mpr ⟨n0 s.F, List.forall_mem_cons.mpr ⟨n0 s.T, List.forall_mem_cons.mpr ⟨n0 s.M, List.forall_mem_cons.mpr ⟨ex2_2 s.N fun ep es e u0 => n0 e, nofun⟩⟩⟩⟩⟩⟩
structure Learnt (t : Sto) (x : V) : Prop where
  ex : ∃ fr us lvs, LI t.tr t.clash fr us ∧ Done t.tr t.marks fr ∧ lvs.Perm ((kept fr).map (levL t.marks fr)) ∧ lvs.Pairwise (· ≤ ·) ∧ x = .d (.tup [.tup ((clauseOf fr).map litD), natD (backTo lvs), .tup ((sortN us).map natD)])
noncomputable def lrnI (st0 : St) (L : SLoc) (t : Sto) (a : ALoc) (X : List Addr) (μ : Nat) (ρ : Loc) (s : St) : Prop :=
  ∃ fr us, AAt s L t a fr us ∧ LI t.tr t.clash fr us ∧ Has [("self", .o a.A), ("literal", .d (optL (nextOne t.tr t.marks fr)))] ρ ∧ μ = mu t.tr fr ∧ Keep X st0 s
theorem w_learn (P : Prg c) {K : V → St → Prop} (W : AAt st L t a [] []) (B : SB t) (I0 : LI t.tr t.clash (t.clash.foldl (putF t.tr) []) []) (hc : ∀ l ∈ t.clash, U4 l ∧ l.x < 3 ∧ ∃ i, spotOf t.tr l = some i) (hn : 8 ≤ n)
    (h : ∀ x st', Learnt t x → SAt st' L t → Keep [a.A] st st' → K x st') : AWC c n (.ref 246) [.o a.A] st K := by
  refine AWC_fn (L := 7) (pn := ["self"]) (P.fn (st := meth 22 9) rfl rfl (by rfl)) rfl hn fun m env hm E EK => ?_
  refine ex0_3 (ndA W.nd) fun n1 n2 n3 => ?_
  refine AWX_cons (AWS_AssignTupE (AWL_cons (AWE_DictT fun f ep hf => AWL_cons (AWE_DictI fun u ep2 hu => AWL_nil ⟨rfl, AWA_Attr P.ok (EV.use (x := .o a.A) (by walk_at "v") ⟨a.A, 249, a.dx, 3, attrsOf (aList L a), rfl, ?_, cls_an P, by rw [P.K]; rfl, by decide, ?_⟩)⟩))) (by decide) (fun t ht r => by
    simp only [List.mem_cons, List.not_mem_nil, or_false] at ht; rcases ht with rfl | rfl <;> rfl) rfl (by rfl) ((sw_congr (env' := envAt (scopeOf (meth 22 9))) E.scope _ _).trans (by rfl)))
  · have q1 : a.A ≠ u := by rintro rfl; rw [St.set_other, W.A] at hu; cases hu; rintro rfl; rw [W.A] at hf; cases hf
    have q2 : a.A ≠ f := by rintro rfl; rw [W.A] at hf; cases hf
    rw [St.set_other _ _ q1, St.set_other _ _ q2]; exact W.A
  have hu0 : st u = none := by
    by_cases q : u = f
    · rw [q]; exact hf
    · rwa [St.set_other _ _ q] at hu
  have q1 : a.A ≠ u := by rintro rfl; rw [W.A] at hu0; cases hu0
  have q2 : a.A ≠ f := by rintro rfl; rw [W.A] at hf; cases hf
  have q3 : u ≠ f := by rintro rfl; rw [St.set_same] at hu; cases hu
  refine AWA_Attr P.ok (EV.use (x := .o a.A) (by walk_at "v") ⟨a.A, 249, a.dx, 3, attrsOf (setL (aList L a) "front" (.o f)), rfl, ?_, cls_an P, by rw [P.K]; rfl, by decide, ?_⟩)
  · rw [St.set_same, attrs_upd]; rfl
  rw [St.set_set, attrs_upd]
  generalize ha' : (⟨a.A, a.dx, f, u⟩ : ALoc) = a'
  have hA' : a'.A = a.A := by rw [← ha']
  have hlst : setL (setL (aList L a) "front" (.o f)) "used" (.o u) = aList L a' := by rw [← ha']; rfl
  rw [hlst]
  have sep : ∀ x ∈ L.all, x ≠ a.A ∧ x ≠ f ∧ x ≠ u := fun x hx => by
    have h1 := W.sep x hx
    exact ⟨fun e => h1 (e ▸ .head _), fun e => W.s.some x hx (e ▸ hf), fun e => W.s.some x hx (e ▸ hu0)⟩
  generalize hs1 : ((st.set f (.dT ep [])).set u (.dI ep2 [])).set a.A (.inst 249 a.dx (if (attrsOf (setL (aList L a) "front" (.o f)) "used").isSome = true then 3 else 3 + 1) (attrsOf (aList L a'))) = s1
  have hO : Only a'.all st s1 := by
    rw [← hs1, ← ha']
    exact ((Only.set (by simp [ALoc.all])).trans (Only.set (by simp [ALoc.all]))).trans (Only.set (by simp [ALoc.all]))
  have sep' : ∀ x ∈ L.all, x ∉ a'.all := fun x hx => by
    refine ex0_3 (sep x hx) fun h1 h2 h3 => ?_
    rw [← ha']; simp [ALoc.all, h1, h2, h3]
  have W1 : AAt s1 L t a' [] [] := by
    refine ⟨W.s.only hO sep', ?_, ⟨ep, ?_⟩, ⟨ep2, ?_⟩, ?_, sep'⟩
    · rw [← hs1, hA', St.set_same, ← ha']; rfl
    · rw [← hs1, ← ha']; rw [St.set_other _ _ q2.symm, St.set_other _ _ q3.symm, St.set_same]; rfl
    · rw [← hs1, ← ha']; rw [St.set_other _ _ q1.symm, St.set_same]; rfl
    · rw [← ha']; simp [ALoc.all, q1, q2, q3.symm]
  have hkeep : ∀ {s' : St}, Keep a'.all s1 s' → Keep [a.A] st s' := fun hk b hb ob e => by
    have hb1 : b ≠ a.A := fun q => hb (by simp [q])
    have hb2 : b ≠ f := by rintro rfl; rw [hf] at e; cases e
    have hb3 : b ≠ u := by rintro rfl; rw [hu0] at e; cases e
    have hn : b ∉ a'.all := by rw [← ha']; simp [ALoc.all, hb1, hb2, hb3]
    exact hk b hn ob ((hO b hn).trans e)
  have hself : bindV ((["self"] : List Str).zip [V.o a.A]) (fun u0 => none) "self" = some (.o a'.A) := by rw [hA']; rfl
  clear hO hs1
  refine AWX_cut (fun ρ2 s2 => Has [("self", .o a'.A)] ρ2 ∧ AAt s2 L t a' (t.clash.foldl (putF t.tr) []) [] ∧ Keep a'.all s1 s2) (fun K2 h2 => AWS_ForV (v := .d (.tup (t.clash.map litD))) ?_ (OpI_tup ?_)) ?_
  · exact EV.attr P (EV.attr P (EV.nm (by assumption) (by rfl) hself) W1.A (cls_an P) (by rfl) rfl) W1.s.S (cls_store P) (by rfl) rfl
  · refine AWF_ind (fun r ρ3 s4 => Has [("self", .o a'.A)] ρ3 ∧ Keep a'.all s1 s4 ∧ ∃ fr', AAt s4 L t a' fr' [] ∧ FI t.tr fr' ∧ r.foldl (putF t.tr) fr' = t.clash.foldl (putF t.tr) [] ∧ ∀ q ∈ r, q ∈ t.clash) ?_ ?_ _ _ _ ⟨Has.mk2 hself Has.nil, Keep.rfl, [], W1, FI.nil, rfl, fun q h => h⟩
    · intro ρ3 s4 hq; refine ex0_3 hq fun H3 hK4 hq2 => ?_; clear hq; refine ex1_4 hq2 fun fr' W4 u0 e4 u1 => ?_; clear hq2 u0 u1
      have e4' : fr' = t.clash.foldl (putF t.tr) [] := e4
      rw [e4'] at W4
      exact AWX_nil (h2 ⟨H3, W4, hK4⟩)
    · intro q r ρ3 s4 hq K3 h3; refine ex0_3 hq fun H3 hK4 hq2 => ?_; clear hq; refine ex1_4 hq2 fun fr' W4 F4 e4 hr => ?_; clear hq2
      obtain ⟨qu, qx, i, qi⟩ := hc q (hr q (.head _))
      refine ex0_2 (put_spec B.S F4 qu qx qi) fun F5 u0 => ?_
      have hl4 := F4.len
      refine AWA_Name (EK.keeps (by rfl)) ?_
      refine AWX_cons (AWS_Expr (AWE_M (ps := [.d (litD q)]) P (by walk_at "v") W4.A (cls_an P) rfl (by rfl) (by rfl) (by walk_at "v") (w_put P W4 B qx qi (by walk_at "o") (by walk_at "o") fun s5 W5 hO5 => ?_)) (E.inter rfl))
      refine AWX_nil (h3 ⟨(fun a ha => nomatch ha), H3.upd rfl, hK4.trans hO5.keep, _, W5, F5, e4, fun q' h' => hr q' (.tail _ h')⟩)
  intro ρ2 s2 hq1; refine ex0_3 hq1 fun H2 W2 hK2 => ?_; clear hq1
  refine AWX_cons (AWS_Set EK (by rfl) (EV.callM0 P (by walk_at "v") W2.A (cls_an P) rfl (by rfl) (by rfl) (w_nextOne P W2 B I0.F (by walk_at "o"))) ?_)
  refine AWX_cons (AWS_While (AWW_ind (lrnI s1 L t a' a'.all) ?_ (mu t.tr (t.clash.foldl (putF t.tr) [])) _ _ ⟨_, _, W2, I0, by walk_at "has", rfl, hK2⟩))
  intro μ ρ s3 hq1 K2 h2; refine ex2_5 hq1 fun fr us W3 I3 H3 hμ hK3 => ?_; clear hq1
  refine EVT.use (x := match optL (nextOne t.tr t.marks fr) with | .none => false | _ => true) (EVT.cmp (by walk_at "v") EV.none CmpV.isNotNone) ?_
  cases hno : nextOne t.tr t.marks fr with
  | some l =>
    rw [hno] at H3
    rw [if_pos (show (match optL (some l) with | .none => false | _ => true) = true from rfl)]
    refine ex1_2 (next_some hno) fun s hs hd => ?_
    refine ex0_2 (opened_step B.S I3 hs hd) fun I4 hmu => ?_
    have hul := I3.ulen
    have htl := B.tl
    refine AWX_cons (AWS_Expr (AWE_M (ps := [.d (litD l)]) P (by walk_at "v") W3.A (cls_an P) rfl (by rfl) (by rfl) (EVL.cons (EV.nm (by assumption) (by rfl) (p := .d (optL (some l))) (by walk_at "nm")) EVL.nil) (w_opened P W3 B I3.F (by walk_at "o") hs hd hm fun s5 W5 hK5 => ?_)) (E.inter rfl))
    refine AWX_cons (AWS_Set EK (by rfl) (EV.callM0 P (by walk_at "v") W5.A (cls_an P) rfl (by rfl) (by rfl) (w_nextOne P W5 B I4.F (by walk_at "o"))) ?_)
    refine AWX_nil (h2 ⟨_, by rw [hμ]; exact hmu, _, _, W5, I4, by walk_at "has", rfl, hK3.trans hK5⟩)
  | none =>
    rw [hno] at H3
    rw [if_neg (show ¬ (match optL none with | .none => false | _ => true) = true by decide)]
    have Dn : Done t.tr t.marks fr := ⟨B.S, I3.F, hno⟩
    refine AWX_nil ?_
    refine ex1_1 W3.F fun ep5 hF => ?_
    refine ex1_1 W3.U fun ep6 hU => ?_
    have hfl := I3.F.len
    have hkl : (keys fr).length ≤ 48 := by unfold keys; rw [List.length_map]; exact hfl
    have hkp : (kept fr).length ≤ 48 := by
      have h1 : (kept fr).length ≤ (sortL (keys fr)).length := List.length_filter_le _ _
      rw [(sortL_perm _).length_eq] at h1; walk_at "o"
    refine AWX_cons (AWS_comp1 (xs := sortL (keys fr)) (enc := litD) (p := fun l => !isSaid fr l) (g := litD) E EK (by rfl) (by rfl) rfl (v := .d (.lst ((sortL (keys fr)).map litD))) ?_ IV.lst (by rw [(sortL_perm _).length_eq]; walk_at "o") (fun l hl => ⟨fun env' ρ' EK' A => ?_⟩) ?_ (by rfl))
    · · walk_at "v"
        · exact EV.attr P (by walk_at "v") W3.A (cls_an P) (by rfl) rfl
        walk_at "v"
        refine FV.sortedLit ?_ I3.F.nd (by walk_at "o")
        have := Coll.dT P.ok hF (by unfold frE; rw [List.length_map]; walk_at "o")
        rwa [frE_keys] at this
    · · refine AWA_Name (EK'.keeps (by rfl)) ⟨rfl, A.upd (by rfl), ?_, fun u0 => by walk_at "v"⟩
        refine EVT.not (EVT.val (EV.callM P (EV.nm (by assumption) (by rfl) ?_) W3.A (cls_an P) rfl (by rfl) (by rfl) (by walk_at "v") (w_isSaid P W3 (by walk_at "o") (by walk_at "o"))))
        apply nm_ne; focus decide
        exact (A _ (by rfl)).trans (by walk_at "nm")
    show AWX _ _ _ (upd _ _ (.d (.lst ((kept fr).map litD)))) _ _ _
    refine AWX_cons (AWS_Assign (EK.keeps (by rfl)) (AWE_CallB P.ok (EK.g (by rfl)) (P.glob (by rfl)) (by walk_at "bt") (by decide) (AWL_cons (EV.use (x := .d (.lst ((kept fr).map fun l => natD (levL t.marks fr l)))) ?_ (AWL_nil ?_)))))
    · refine EV.comp0 (xs := kept fr) (enc := litD) (g := fun l => natD (levL t.marks fr l)) E (by rfl) rfl (v := .d (.lst ((kept fr).map litD))) (by walk_at "v") IV.lst (by walk_at "o") fun l hl => ⟨fun env' ρ' EK' A => ?_⟩
      refine ex1_1 (Option.isSome_iff_exists.mp (lookF_isSome.mpr (kept_mem.mp hl).1)) fun s hs => ?_
      refine AWA_Name (EK'.keeps (by rfl)) ⟨rfl, A.upd (by rfl), ?_⟩
      have hself3 : ∀ v, upd ρ' "one" v "self" = some (.o a'.A) := fun v => by
        apply nm_ne; focus decide
        exact (A _ (by rfl)).trans (by walk_at "nm")
      have e : natD (levL t.marks fr l) = .int (levelOf t.marks s) := by unfold levL; rw [hs]; rfl
      rw [e]
      exact EV.callM P (EV.nm (by assumption) (by rfl) (hself3 _)) W3.A (cls_an P) rfl (by rfl) (by rfl) (EVL.cons (EV.sub (EV.attr P (EV.nm (by assumption) (by rfl) (hself3 _)) W3.A (cls_an P) (by rfl) rfl) (by walk_at "v") (GV.dT hF hs)) EVL.nil) (w_levelOf P W3 B (by walk_at "o"))
    refine OpF_sortedI (ns := (kept fr).map fun l => ((levL t.marks fr l : Nat) : Int)) (by rw [List.map_map]; exact .val _) (by walk_at "m") fun ns' hp hpw => ?_
    obtain ⟨lvs, rfl⟩ : ∃ lvs : List Nat, ns' = lvs.map fun k : Nat => (k : Int) := by
      refine ⟨ns'.map Int.toNat, ?_⟩
      rw [List.map_map]
      have : ∀ x ∈ ns', ((fun k : Nat => (k : Int)) ∘ Int.toNat) x = x := fun x hx => by
        refine ex1_2 (List.mem_map.mp (hp.mem_iff.mp hx)) fun l u0 hr1 => ?_; subst hr1
        simp
      rw [List.map_congr_left this]; simp
    have hp' : lvs.Perm ((kept fr).map (levL t.marks fr)) := by
      have := hp.map Int.toNat
      rw [List.map_map, List.map_map] at this
      simpa [Function.comp_def] using this
    have hpw' : lvs.Pairwise (· ≤ ·) := by
      rw [List.pairwise_map] at hpw
      exact hpw.imp fun h => by walk_at "o"
    have hll : lvs.length ≤ 48 := by rw [hp'.length_eq, List.length_map]; exact hkp
    have hnd : ((kept fr).map negl).Nodup := List.Pairwise.map (R := (· ≠ ·)) negl (fun a b hab e => hab (negl_inj e)) (kept_nodup I3.F)
    refine AWX_cons (AWS_Set (v := .d (.tup ((clauseOf fr).map litD))) EK (by rfl) ?_ ?_)
    · have hcl : (clauseOf fr).length ≤ 48 := by unfold clauseOf; rw [(sortL_perm _).length_eq, List.length_map]; exact hkp
      refine EV.callT (by assumption) (by assumption) (by rfl) (by rfl) (by walk_at "bt") (EVL.cons (x := .d (.lst ((clauseOf fr).map litD))) ?_ EVL.nil) (FV.tupL (.val _) (by walk_at "m"))
      refine EV.callB (by assumption) (by assumption) (by rfl) (by rfl) (by walk_at "bt") (EVL.cons (x := .d (.lst (((kept fr).map negl).map litD))) ?_ EVL.nil) (FV.sortedLit (Coll.list (.val _) (by walk_at "m")) hnd (by walk_at "m"))
      have e : ((kept fr).map negl).map litD = (kept fr).map fun l => litD (negl l) := by rw [List.map_map]; rfl
      rw [e]
      refine EV.comp0 (xs := kept fr) (enc := litD) (g := fun l => litD (negl l)) E (by rfl) rfl (v := .d (.lst ((kept fr).map litD))) (by walk_at "v") IV.lst (by walk_at "o") fun l hl => ⟨fun env' ρ' EK' A => ?_⟩
      refine AWA_Name (EK'.keeps (by rfl)) ⟨rfl, A.upd (by rfl), ?_⟩
      walk_at "v"
      exact ⟨w_negation P (by walk_at "o") ⟨rfl, rfl⟩⟩
    refine AWX_cons (AWS_Ret (x := .d (.tup [.tup ((clauseOf fr).map litD), natD (backTo lvs), .tup ((sortN us).map natD)])) ?_ ?_)
    · refine EV.tup (ps := [.d (.tup ((clauseOf fr).map litD)), .d (natD (backTo lvs)), .d (.tup ((sortN us).map natD))]) (EVL.cons (by walk_at "v") (EVL.cons ?_ (EVL.cons ?_ EVL.nil))) rfl rfl
      · refine EV.ite (q := decide ((1 : Int) < lvs.length)) ?_ (fun hq => ?_) fun hq => ?_
        · walk_at "v"
          · have := FV.lenL (c := c) (n := m) (st := s3) (IsL.val ((lvs.map fun k : Nat => (k : Int)).map D.int)) (by rw [List.length_map, List.length_map]; walk_at "o")
            rw [List.length_map, List.length_map] at this; exact this
          walk_at "v"
        · have h1 : 1 < lvs.length := by have := of_decide_eq_true hq; walk_at "o"
          have hg : lvs[lvs.length - 2]? = some (backTo lvs) := by
            unfold backTo; rw [if_pos h1, List.getElem?_eq_getElem (by walk_at "o")]; rfl
          refine EV.sub (x := .d (.lst ((lvs.map fun k : Nat => (k : Int)).map D.int))) (by walk_at "v") (EV.un EV.int UV.neg) ⟨OpG_lst (j := lvs.length - 2) ?_ ?_ (by decide) ⟨rfl, rfl⟩⟩
          · unfold seqIndex?
            simp only [List.length_map]
            have e1 : (if (-2 : Int) < 0 then -2 + (lvs.length : Int) else -2) = ((lvs.length - 2 : Nat) : Int) := by rw [if_pos (by decide)]; walk_at "o"
            rw [e1, if_pos (by walk_at "m")]; rfl
          · rw [List.getElem?_map, List.getElem?_map, hg]; rfl
        · have h1 : ¬ 1 < lvs.length := by have := of_decide_eq_false hq; walk_at "o"
          have : backTo lvs = 0 := by unfold backTo; rw [if_neg h1]
          rw [this]; exact EV.int
      · have hul := I3.ulen
        have htl := B.tl
        have hsl : (sortN us).length ≤ 9 := by rw [(sortN_perm us).length_eq]; walk_at "o"
        refine EV.callT (by assumption) (by assumption) (by rfl) (by rfl) (by walk_at "bt") (EVL.cons (x := .d (.lst ((sortN us).map natD))) ?_ EVL.nil) (FV.tupL (.val _) (by walk_at "m"))
        refine EV.callB (by assumption) (by assumption) (by rfl) (by rfl) (by walk_at "bt") (EVL.cons (x := .o a'.U) (EV.attr P (by walk_at "v") W3.A (cls_an P) (by rfl) rfl) EVL.nil) (FV.sortedN ?_ I3.und (by walk_at "o"))
        have := Coll.dI P.ok hU (by unfold usE; rw [List.length_map]; walk_at "o")
        rwa [usE_keys] at this
    · exact h _ _ ⟨fr, us, lvs, I3, Dn, hp', hpw', rfl⟩ W3.s (hkeep hK3)
end

end
end
section
open PySem PySem.W PyProof.Rows PySem.Calls
set_option maxRecDepth 100000
set_option linter.unusedVariables false
set_option maxHeartbeats 2000000

section
variable {c : Ctx} {n : Nat} {env : Env} {ρ : Loc} {st : St} {names : List (Str × NameKind)}
theorem BV.mod {i j : Int} (hj : 0 < j) : BV c n st .Mod (.d (.int i)) (.d (.int j)) (.d (.int (i % j))) := ⟨OpB_mod hj ⟨rfl, rfl⟩⟩
theorem BV.div {i j : Int} (hj : 0 < j) (hj' : j < 1000000) : BV c n st .FloorDiv (.d (.int i)) (.d (.int j)) (.d (.int (i / j))) := ⟨OpB_div hj hj' ⟨rfl, rfl⟩⟩
noncomputable def sgAt : Nat → Sg
  | 0 => .le
  | 1 => .ge
  | 2 => .ne
  | _ => .eq
noncomputable def lawLit (k : Nat) : Lit := ⟨k % 3, sgAt (k / 3 % 4), ((k / 12 % 4 : Nat) : Int)⟩
theorem lawLit_ok (k : Nat) : U4 (lawLit k) ∧ (lawLit k).x < 3 := by
  refine ⟨⟨?_, ?_⟩, ?_⟩
  · exact Int.natCast_nonneg _
  · exact Int.ofNat_le.mpr (Nat.le_of_lt_succ (Nat.mod_lt _ (by decide)))
  · exact Nat.mod_lt _ (by decide)
theorem w_lawLiteral (P : Prg c) {k : Nat} (hn : 1 ≤ n) : CV c n st (.ref 414) [.d (.int k)] (.d (litD (lawLit k))) := by
  refine ⟨AWC_fn (L := 0) (pn := ["n"]) (P.fn (st := top 26) rfl rfl (by rfl)) rfl hn fun m env hm E EK => ?_⟩
  refine AWX_cons (AWS_Ret (x := .d (litD (lawLit k))) ?_ ⟨rfl, rfl⟩)
  have e1 : (((k % 3 : Nat) : Int)) = (k : Int) % 3 := rfl
  have e2 : (((k / 12 % 4 : Nat) : Int)) = (k : Int) / 12 % 4 := rfl
  have e3 : (((k / 3 % 4 : Nat) : Int)) = (k : Int) / 3 % 4 := rfl
  refine EV.tup (ps := [.d (.int (k % 3 : Nat)), .d (.str (sgAt (k / 3 % 4)).str), .d (.int (k / 12 % 4 : Nat))]) (EVL.cons ?_ (EVL.cons ?_ (EVL.cons ?_ EVL.nil))) rfl rfl
  · rw [e1]; exact EV.bin (by walk_at "v") EV.int (BV.mod (by decide))
  · refine EV.sub (x := .d (.lst [.str "<=", .str ">=", .str "!=", .str "="])) (y := .d (.int (k / 3 % 4 : Nat))) (EV.lst (by walk_at "v") rfl rfl) ?_ ?_
    · rw [e3]; exact EV.bin (EV.bin (by walk_at "v") EV.int (BV.div (by decide) (by decide))) EV.int (BV.mod (by decide))
    · refine GV.lst ?_ (Nat.lt_trans (Nat.mod_lt _ (by decide)) (Nat.le_of_ble_eq_true rfl : 4 < 1000000))
      have := lt4 (k / 3 % 4) (Nat.mod_lt _ (by decide))
      rcases this with h | h | h | h <;> rw [h] <;> rfl
  · rw [e2]; exact EV.bin (EV.bin (by walk_at "v") EV.int (BV.div (by decide) (by decide))) EV.int (BV.mod (by decide))
noncomputable def ptD (p : Int × Int × Int) : D := .tup [.int p.1, .int p.2.1, .int p.2.2]
noncomputable def ptF (p : Int × Int × Int) : Nat → Int
  | 0 => p.1
  | 1 => p.2.1
  | _ => p.2.2
theorem w_lawSays (P : Prg c) {l : Lit} {p : Int × Int × Int} (hx : l.x < 3) (hn : 1 ≤ n) : CV c n st (.ref 421) [.d (litD l), .d (ptD p)] (.d (.bool (isMet l (ptF p l.x)))) := by
  refine ⟨AWC_fn (L := 0) (pn := ["literal", "point"]) (P.fn (st := top 27) rfl rfl (by rfl)) rfl hn fun m env hm E EK => ?_⟩
  refine AWX_cons (AWS_Swap3 (x := "v") (y := "sign") (z := "k") E EK (by rfl) (by rfl) (by rfl) (EVL.use (x := [.d (.int (ptF p l.x)), .d (.str l.s.str), .d (.int l.k)]) (EVL.cons ?_ (by walk_at "v")) ⟨_, _, _, rfl, ?_⟩) (by rfl))
  · refine EV.sub (x := .d (ptD p)) (y := .d (.int l.x)) (by walk_at "v") (by walk_at "v") (GV.tup ?_ (by walk_at "o"))
    have : l.x = 0 ∨ l.x = 1 ∨ l.x = 2 := lt3 _ (by walk_at "o")
    rcases this with h | h | h <;> rw [h] <;> rfl
  generalize ptF p l.x = v
  obtain ⟨x, s, k⟩ := l
  refine AWX_cons (AWS_IfV (q := decide (s = .le)) (by walk_at "v") (fun hq => ?_) fun hq => AWX_nil ?_)
  · obtain rfl := of_decide_eq_true hq
    exact AWX_cons (AWS_Ret (x := .d (.bool (decide (v ≤ k)))) (by walk_at "v") ⟨rfl, rfl⟩)
  refine AWX_cons (AWS_IfV (q := decide (s = .ge)) (by walk_at "v") (fun hq2 => ?_) fun hq2 => AWX_nil ?_)
  · obtain rfl := of_decide_eq_true hq2
    exact AWX_cons (AWS_Ret (x := .d (.bool (decide (k ≤ v)))) (by walk_at "v") ⟨rfl, rfl⟩)
  refine AWX_cons (AWS_Ret (x := .d (.bool (isMet ⟨x, s, k⟩ v))) (EV.ite (q := decide (s = .eq)) (by walk_at "v") (fun hq3 => ?_) fun hq3 => ?_) ⟨rfl, rfl⟩)
  · obtain rfl := of_decide_eq_true hq3
    show EV _ _ _ _ _ _ (.d (.bool (decide (v = k))))
    walk_at "v"
  · cases s with
    | le => cases hq
    | ge => cases hq2
    | eq => cases hq3
    | ne =>
      show EV _ _ _ _ _ _ (.d (.bool (decide (v ≠ k))))
      walk_at "v"
theorem CmpV.emptyL {α : Type} {xs : List α} {enc : α → D} {k : Nat} (hx : ∀ x ∈ xs, OK k (enc x)) (hk : k ≤ 50) : CmpV c n st .Eq (.d (.lst (xs.map enc))) (.d (.lst [])) xs.isEmpty := by
  refine CmpV.eqb (k := k + 1) (m := 1) (.lst fun x hx' => ?_) (.lst fun x hx => nomatch hx) (by walk_at "o") (by decide) ⟨fun e => ?_, fun e => ?_⟩
  · refine ex1_2 (List.mem_map.mp hx') fun y hy hr1 => ?_; subst hr1; exact hx y hy
  · rw [List.isEmpty_iff.mp e]; rfl
  · injection e with e; rw [List.map_eq_nil_iff.mp e]; rfl
theorem CmpV.nemptyL {α : Type} {xs : List α} {enc : α → D} {k : Nat} (hx : ∀ x ∈ xs, OK k (enc x)) (hk : k ≤ 50) : CmpV c n st .NotEq (.d (.lst (xs.map enc))) (.d (.lst [])) (!xs.isEmpty) := by
  refine CmpV.neb (k := k + 1) (m := 1) (.lst fun x hx' => ?_) (.lst fun x hx => nomatch hx) (by walk_at "o") (by decide) ⟨fun e q => ?_, fun e => ?_⟩
  · refine ex1_2 (List.mem_map.mp hx') fun y hy hr1 => ?_; subst hr1; exact hx y hy
  · injection q with q; rw [List.map_eq_nil_iff.mp q] at e; cases e
  · cases xs with
    | nil => exact absurd rfl e
    | cons => rfl
theorem filter_none {α : Type} {p : α → Bool} {xs : List α} : (xs.filter fun x => !p x).isEmpty = xs.all p := by
  rw [Bool.eq_iff_iff, List.isEmpty_iff, List.filter_eq_nil_iff, List.all_eq_true]
  simp
theorem w_lawHasAll (P : Prg c) {ls : List Lit} {p : Int × Int × Int} (hls : ∀ l ∈ ls, l.x < 3) (hl : ls.length ≤ 900) (hn : 2 ≤ n) : CV c n st (.ref 426) [.d (.tup (ls.map litD)), .d (ptD p)] (.d (.bool (ls.all fun l => isMet l (ptF p l.x)))) := by
  refine ⟨AWC_fn (L := 1) (pn := ["literals", "point"]) (P.fn (st := top 28) rfl rfl (by rfl)) rfl hn fun m env hm E EK => ?_⟩
  refine AWX_cons (AWS_Ret (x := .d (.bool (ls.all fun l => isMet l (ptF p l.x)))) ?_ ⟨rfl, rfl⟩)
  rw [← filter_none]
  refine EV.cmp (EV.comp1 (xs := ls) (enc := litD) (p := fun l => !isMet l (ptF p l.x)) (g := litD) E (by rfl) rfl (v := .d (.tup (ls.map litD))) (by walk_at "v") IV.tup (by walk_at "o") fun l hl => ⟨fun env' ρ' EK' A => ?_⟩) (EV.lst EVL.nil rfl rfl) (CmpV.emptyL (k := 1) (fun x u0 => OK_lit x) (by decide))
  refine AWA_Name (EK'.keeps (by rfl)) ⟨rfl, A.upd (by rfl), ?_, fun u0 => by walk_at "v"⟩
  walk_at "v"
  exact w_lawSays P (hls l hl) hm
noncomputable def pts : List (Int × Int × Int) := (rangeI 0 4).flatMap fun a => (rangeI 0 4).flatMap fun b => (rangeI 0 4).map fun d => (a, b, d)
theorem AWG.mono {elt : Expr} {gens : List Comprehension} {scope : Scope} {pos : Pos} {d : Nat} {xs : List D} {src : Option Addr} {ds : List D} {K K' : Loc → St → List D → Prop} (p : AWG c n env ρ st elt gens scope pos d xs src ds K) (h : ∀ ρ st ds, K ρ st ds → K' ρ st ds) : AWG c n env ρ st elt gens scope pos d xs src ds K' := fun A G s r acc R P =>
  codeAny_mono (p A G s r acc R P) fun res s' q => by
    cases res with
    | ok _ => obtain ⟨G', st', ρ', ds', a, b, d, e, f, k⟩ := q.out; exact ⟨G', st', ρ', ds', a, b, d, e, f, h _ _ _ k⟩
    | error _ => exact q
theorem AWG_outer {α : Type} {enc : α → D} {h : α → List D} {elt t iter t' iter' : Expr} {ifs' : List Expr} {gens : List Comprehension} {scope : Scope} {pos : Pos} {d : Nat} {src : Option Addr} {ok : Loc → Prop} {K : Loc → St → List D → Prop}
    (hg : gens[d]? = some ⟨t, iter, [], 0⟩) (hl : gens[d + 1]? = some ⟨t', iter', ifs', 0⟩) (hf : ∀ (e : Env) y, foldedSetIterable iter' e y = pure y) :
    ∀ (xs : List α) (ds : List D) (ρ : Loc) (B : Nat), ds.length + xs.length * B ≤ 999 → ok ρ → (∀ x ∈ xs, (h x).length ≤ B) →
    (∀ x ∈ xs, ∀ ρ ds, ok ρ → ds.length + B ≤ 999 → AWA c n env ρ st t (.d (enc x)) fun ρ1 st1 => AWE c n env ρ1 st1 iter' fun v st2 => OpI c n v st2 fun ys src' => st2 = st ∧ AWG c n env ρ1 st2 elt gens scope pos (d + 1) ys src' ds fun ρ3 st3 ds3 => st3 = st ∧ ok ρ3 ∧ ds3 = ds ++ h x) →
    (∀ ρe, ok ρe → K ρe st (ds ++ xs.flatMap h)) → AWG c n env ρ st elt gens scope pos d (xs.map enc) src ds K
  | [], ds, ρ, B, _, ho, _, _, k => AWG_nil hg (by simpa using k ρ ho)
  | x :: xs, ds, ρ, B, hn, ho, hB, ht, k => by
    rw [List.length_cons, Nat.succ_mul] at hn
    refine AWG_nest hg hl hf ((ht x (.head _) ρ ds ho (by walk_at "o")).mono fun ρ1 st1 k1 => k1.mono fun v st2 k2 A G s a R C r Q hQ => k2 A G s a R C r Q fun h' ys src' ⟨e, hk⟩ => hQ h' ys src' ⟨fun u0 u1 => by rw [e], ?_⟩)
    refine AWG.mono hk fun ρ3 st3 ds3 ⟨e3, o3, ed⟩ => ⟨fun u0 u1 => by rw [e3], ?_⟩
    rw [e3, ed]
    refine AWG_outer hg hl hf xs _ ρ3 B (by rw [List.length_append]; have := hB x (.head _); walk_at "o") o3 (fun y hy => hB y (.tail _ hy)) (fun y hy => ht y (.tail _ hy)) fun ρe he => ?_
    have := k ρe he
    rw [List.flatMap_cons] at this
    rw [List.append_assoc]; exact this
theorem w_lawPoints (P : Prg c) (hn : 1 ≤ n) : CV c n st (.ref 431) [] (.d (.lst (pts.map ptD))) := by
  refine ⟨AWC_fn (L := 0) (pn := []) (P.fn (st := top 29) rfl rfl (by rfl)) rfl hn fun m env hm E EK => ?_⟩
  refine AWX_cons (AWS_Ret (x := .d (.lst (pts.map ptD))) ⟨?_⟩ ⟨rfl, rfl⟩)
  refine ex1_3 (EnvK.comp E { kind := .function, names := [(".0", .local), ("a", .local), ("b", .local), ("range", .globalImplicit), ("c", .local)], isGenerator := false, isCoroutine := false } (by rfl) rfl) fun cl h1 h2 h3 => ?_
  have he : pts.map ptD = (rangeI 0 4).flatMap fun a => (rangeI 0 4).flatMap fun b => (rangeI 0 4).map fun d => ptD (a, b, d) := by
    unfold pts
    simp only [List.map_flatMap, List.map_map]
    rfl
  rw [he]
  have r4 : ∀ {env' : Env} {ρ' : Loc} {p1 p2 p3 : Pos} {nm : List (Str × NameKind)}, EnvK env' nm → nm.lookup ("range" : Str) = some .globalImplicit → EV c m env' ρ' st (.Call (.Name "range" p1) [.Constant (.int 4) 0 p2] [] p3) (.d (.rng 0 4)) := fun EK' h => by
    exact EV.callT (by assumption) EK' h (by rfl) (by walk_at "bt") (EVL.cons EV.int EVL.nil) FV.range1
  refine AWE_ListComp (h1 _) (EV.use (x := .d (.rng 0 4)) (r4 EK (by rfl)) (OpI_rng (by rfl) fun L => ?_))
  have EK' := h2 L
  generalize cenvOf env _ cl L = env' at EK'
  rw [show rangeD 0 (4 - 0 : Int).toNat = (rangeI 0 4).map D.int from rangeI_eq _ _]
  refine AWG_outer (ok := fun u0 => True) (h := fun a => (rangeI 0 4).flatMap fun b => (rangeI 0 4).map fun d => ptD (a, b, d)) rfl rfl (fun u0 u1 => rfl) (rangeI 0 4) [] _ 16 (by decide) trivial (fun a u0 => by simp [rangeI]) (fun a u0 ρ1 ds1 u1 hd1 => ?_) fun ρe u0 => ⟨fun x b hx => by have := lookup_mem' (h3 x b hx); simp at this, rfl, rfl⟩
  refine AWA_Name (EK'.keeps (by rfl)) (EV.use (x := .d (.rng 0 4)) (r4 EK' (by rfl)) (OpI_rng (by rfl) ⟨rfl, ?_⟩))
  rw [show rangeD 0 (4 - 0 : Int).toNat = (rangeI 0 4).map D.int from rangeI_eq _ _]
  refine AWG_outer (ok := Has [("a", .d (.int a))]) (h := fun b => (rangeI 0 4).map fun d => ptD (a, b, d)) rfl rfl (fun u0 u1 => rfl) (rangeI 0 4) ds1 _ 4 (by rw [show (rangeI 0 4).length = 4 from rfl]; walk_at "o") (by walk_at "has") (fun a u0 => by simp [rangeI]) (fun b u0 ρ2 ds2 H2 hd2 => ?_) fun ρe u0 => ⟨rfl, trivial, rfl⟩
  refine AWA_Name (EK'.keeps (by rfl)) (EV.use (x := .d (.rng 0 4)) (r4 EK' (by rfl)) (OpI_rng (by rfl) ⟨rfl, ?_⟩))
  rw [show rangeD 0 (4 - 0 : Int).toNat = (rangeI 0 4).map D.int from rangeI_eq _ _]
  refine AWG_all0 (ok := Has [("a", .d (.int a)), ("b", .d (.int b))]) (g := fun d => ptD (a, b, d)) rfl rfl (rangeI 0 4) ds2 _ (by rw [show (rangeI 0 4).length = 4 from rfl]; walk_at "o") (by walk_at "has") (fun d u0 ρ3 H3 => ?_) fun ρe He => ⟨rfl, by walk_at "has", rfl⟩
  refine AWA_Name (EK'.keeps (by rfl)) (EV.use (x := .d (ptD (a, b, d))) (by walk_at "v") ⟨rfl, rfl, H3.upd rfl⟩)

end
end
section
open PySem PySem.W PyProof.Rows PySem.Calls
set_option maxRecDepth 100000
set_option linter.unusedVariables false
set_option maxHeartbeats 2000000

section
variable {c : Ctx} {n : Nat} {env : Env} {ρ : Loc} {st : St} {names : List (Str × NameKind)}
noncomputable def ruleD (r : Rule) : D := .tup [.tup (r.1.map litD), litD r.2]
structure RulesOK (rules : List Rule) : Prop where
  len : rules.length ≤ 20
  at' : ∀ r ∈ rules, U4 r.2 ∧ r.2.x < 3 ∧ r.1.length ≤ 2 ∧ ∀ m ∈ r.1, U4 m ∧ m.x < 3
structure RT (rules : List Rule) (t : Sto) : Prop where
  R : RSI rules t.doms t.tr t.marks
  f : t.firsts = [full, full, full]
theorem RT.dl {rules : List Rule} {t : Sto} (T : RT rules t) : t.doms.length = 3 := by rw [T.R.D]; rfl
theorem RT.sb {rules : List Rule} {t : Sto} (T : RT rules t) : SB t := ⟨T.R.S, T.f, T.dl, T.R.len, T.R.mlen⟩
theorem RT.dat {rules : List Rule} {t : Sto} (T : RT rules t) {x : Nat} (hx : x < 3) : t.doms[x]? = some (domAt t.tr x t.tr.length) ∧ (domAt t.tr x t.tr.length).length ≤ 400 := by
  refine ⟨T.R.at' hx, ?_⟩
  have := (Ld_at (T.R.S.dom x t.tr.length)).1
  walk_at "o"
theorem strike_ok {rules : List Rule} {t : Sto} (T : RT rules t) (OK : RulesOK rules) {rs : List Lit} {l : Lit} (hm : (rs, l) ∈ rules) (hs : ∀ m ∈ rs, saidOf m (domAt t.tr m.x t.tr.length) = 1) :
    RT rules (enterS t l (some rs)).1 ∧ t.tr.length ≤ (enterS t l (some rs)).1.tr.length ∧ ((enterS t l (some rs)).2 = false → Failed rules (enterS t l (some rs)).1.tr (enterS t l (some rs)).1.clash) := by
  refine ex0_4 (OK.at' _ hm) fun hu hx hl hr => ?_
  have hold : (t.doms[l.x]?).getD [] = domAt t.tr l.x t.tr.length := by rw [(T.dat hx).1]; rfl
  unfold enterS
  simp only [hold]
  split
  · rename_i h
    exact ⟨⟨T.R, T.f⟩, Nat.le_refl _, fun u0 => fail_of T.R hm hu hx h fun m hm' => ⟨(hr m hm').1, (hr m hm').2, hs m hm'⟩⟩
  · rename_i h
    split
    · exact ⟨T, Nat.le_refl _, fun q => nomatch q⟩
    · rename_i h2
      refine ⟨⟨T.R.add hu hx h h2 (fun r hr' => ?_) rfl, T.f⟩, by simp, fun q => nomatch q⟩
      cases hr'
      exact ⟨hl, hm, fun m hm' => ⟨(hr m hm').1, (hr m hm').2, hs m hm'⟩⟩
theorem w_lawRun (P : Prg c) {L : SLoc} {t : Sto} {r : Addr} {rules : List Rule} {K : V → St → Prop} (s : SAt st L t) (T : RT rules t) (OK : RulesOK rules) (hr : st r = some (.lst (rules.map ruleD))) (hrL : r ∉ L.all) (hn : 6 ≤ n)
    (h : ∀ st' t' b, SAt st' L t' → RT rules t' → Only L.all st st' → (b = false → Failed rules t'.tr t'.clash) → K (.d (.bool b)) st') : AWC c n (.ref 436) [.o L.S, .o r] st K := by
  refine AWC_fn (L := 5) (pn := ["store_now", "rules"]) (P.fn (st := top 30) rfl rfl (by rfl)) rfl hn fun m env hm E EK => ?_
  refine AWX_cons (AWS_Set (v := .d (.int (-1))) EK (by rfl) (by walk_at "v") ?_)
  have hlen : ∀ {s1 : St} {t1 : Sto} {ρ1 : Loc}, SAt s1 L t1 → t1.tr.length ≤ 9 → FV c m s1 (.builtin "len") [.o L.aT] (.d (.int t1.tr.length)) := fun {s1 t1 ρ1} h1 h2 => by
    have := FV.lenL (c := c) (n := m) (IsL.obj h1.T) (by walk_at "m")
    rw [List.length_map] at this; exact this
  refine AWX_cons (AWS_While (AWW_ind (fun μ ρ1 s1 => ∃ t1 mk, SAt s1 L t1 ∧ RT rules t1 ∧ Only L.all st s1 ∧ Has [("store_now", .o L.S), ("rules", .o r), ("mark", .d (.int mk))] ρ1 ∧ mk ≤ t1.tr.length ∧ -1 ≤ mk ∧ μ = (9 - mk).toNat) ?_ 10 _ _ ⟨t, -1, s, T, Only.rfl, by walk_at "has", by walk_at "o", by walk_at "o", by decide⟩))
  intro μ ρ1 s1 hq1 K2 k2; refine ex2_7 hq1 fun t1 mk h1 T1 hO1 H1 hmk hmk1 hμ => ?_; clear hq1
  have hl9 := T1.R.len
  refine EVT.use (x := decide (mk ≠ t1.tr.length)) ?_ ?_
  · walk_at "v"
    · exact EV.attr P (by walk_at "v") h1.S (cls_store P) (by rfl) rfl
    walk_at "v"
    · exact hlen (ρ1 := ρ1) h1 hl9
    walk_at "v"
  refine if_d (fun hne => ?_) fun heq => AWX_nil (AWX_cons (AWS_Ret (x := .d (.bool true)) (by walk_at "v") (h _ t1 true h1 T1 hO1 fun q => nomatch q)))
  refine AWX_cons (AWS_Set (v := .d (.int t1.tr.length)) EK (by rfl) ?_ ?_)
  · walk_at "v"
    · exact EV.attr P (by walk_at "v") h1.S (cls_store P) (by rfl) rfl
    walk_at "v"
    exact hlen (ρ1 := ρ1) h1 hl9
  have hr1 : s1 r = some (.lst (rules.map ruleD)) := (hO1 r hrL).trans hr
  refine AWX_cons (AWS_ForV (v := .o r) (by walk_at "v") (OpI_mlst hr1 ?_))
  refine AWF_ind (fun rest ρ2 s2 => ∃ t2, SAt s2 L t2 ∧ RT rules t2 ∧ Only L.all st s2 ∧ Has [("store_now", .o L.S), ("rules", .o r), ("mark", .d (.int t1.tr.length))] ρ2 ∧ t1.tr.length ≤ t2.tr.length ∧ ∀ q ∈ rest, q ∈ rules) ?_ ?_ _ _ _ ⟨t1, h1, T1, hO1, by walk_at "has", Nat.le_refl _, fun q h => h⟩
  · intro ρ2 s2 hq1; refine ex1_6 hq1 fun t2 h2 T2 hO2 H2 hle _ => ?_; clear hq1
    exact AWX_nil (AWX_nil (k2 ⟨_, by rw [hμ]; walk_at "o", t2, t1.tr.length, h2, T2, hO2, H2, by walk_at "o", by walk_at "o", rfl⟩))
  · intro hq1 rest ρ2 s2 hq2 K3 k3; obtain ⟨rs, l⟩ := hq1; refine ex1_6 hq2 fun t2 h2 T2 hO2 H2 hle hrest => ?_; clear hq2
    have hmem := hrest _ (.head _)
    refine ex0_4 (OK.at' _ hmem) fun hu hx hl2 hrr => ?_
    have hnext : ∀ q ∈ rest, q ∈ rules := fun q hq => hrest q (.tail _ hq)
    dsimp only at hx hl2 hrr hu
    refine AWA_T2 (a := .tup (rs.map litD)) (b := litD l) EK (by rfl) (by rfl) ?_
    refine AWX_cons (AWS_IfV (q := (rs.filter fun m => decide (saidOf m (domAt t2.tr m.x t2.tr.length) ≠ 1)).isEmpty) ?_ (fun hq => ?_) fun hq => ?_)
    · refine EVT.cmp (EV.comp1 (xs := rs) (enc := litD) (p := fun m => decide (saidOf m (domAt t2.tr m.x t2.tr.length) ≠ 1)) (g := litD) E (by rfl) rfl (v := .d (.tup (rs.map litD))) (by walk_at "v") IV.tup (by walk_at "o") fun q hq => ⟨fun env' ρ' EK' A => ?_⟩) (EV.lst EVL.nil rfl rfl) (CmpV.emptyL (k := 1) (fun x u0 => OK_lit x) (by decide))
      refine AWA_Name (EK'.keeps (by rfl)) ⟨rfl, A.upd (by rfl), ?_, fun u0 => by walk_at "v"⟩
      refine ex0_2 (T2.dat (hrr q hq).2) fun d1 d2 => ?_
      refine EVT.cmp (EV.callM P (EV.nm (by assumption) (by rfl) (p := .o L.S) ?_) h2.S (cls_store P) rfl (by rfl) (by rfl) (by walk_at "v") ⟨w_holds P h2.h d1 d2 (by have := (hrr q hq).2; walk_at "o") hm ⟨rfl, rfl⟩⟩) EV.int CmpV.nei
      apply nm_ne; focus decide
      exact (A _ (by rfl)).trans (by walk_at "nm")
    · have hs : ∀ m ∈ rs, saidOf m (domAt t2.tr m.x t2.tr.length) = 1 := fun q hq' => by
        have := List.filter_eq_nil_iff.mp (List.isEmpty_iff.mp hq) q hq'
        simpa using this
      refine ex0_3 (strike_ok T2 OK hmem hs) fun S1 S2 S3 => ?_
      refine ex0_2 (T2.dat hx) fun d1 d2 => ?_
      have ht9 := T2.R.len
      have hdl := T2.dl
      refine AWX_cons (AWS_If (AWT_Not (AWT_val (AWE_M (ps := [.d (litD l), .d (.tup (rs.map litD))]) P (by walk_at "v") h2.S (cls_store P) rfl (by rfl) (by rfl) (by walk_at "v") (w_strike P h2 d1 d2 (by walk_at "o") (by walk_at "o") (by walk_at "o") (by walk_at "o") hm fun s3 h3 hO3 => OpT_bool ?_)))))
      generalize enterS t2 l (some rs) = en at h3 S1 S2 S3
      obtain ⟨t3, b⟩ := en
      dsimp only at h3 S1 S2 S3
      have hk : Only L.all st s3 := hO2.trans hO3
      cases b with
      | false => exact AWX_cons (AWS_Ret (x := .d (.bool false)) (by walk_at "v") (k3 (k2 (h _ t3 false h3 S1 hk fun u0 => S3 rfl))))
      | true =>
        refine AWX_nil (AWX_nil (AWX_nil (k3 ⟨fun a ha => ?_, t3, h3, S1, hk, (H2.upd rfl).upd rfl, by walk_at "o", hnext⟩)))
        cases ha
        rw [hk r hrL, hO2 r hrL]
    · exact AWX_nil (AWX_nil (k3 ⟨fun a ha => rfl, t2, h2, T2, hO2, (H2.upd rfl).upd rfl, hle, hnext⟩))

end
end
section
open PySem PySem.W PyProof.Rows PySem.Calls
set_option maxRecDepth 100000
set_option linter.unusedVariables false

section
variable {prog : Program} {w : World} {A : Around} {E : Value → Shared → Prop} {s : Shared}
noncomputable def LK (prog : Program) (w : World) (h : Heap) (l : Lit) (v : Value) : Prop := ∃ a, v = .ref a ∧ IsTupleKey (mixKind prog w) h (litK l) a
noncomputable def litHash (w : World) (l : Lit) : Int := reduceHash (Builtin.Tuple.tupleHashOf ((litK l).map (atomHash w)))
theorem LK.keep {h h' : Heap} {l : Lit} {v : Value} {S : Addr} (x : LK prog w h l v) (hk : ∀ b o, b ≠ S → h.get? b = some o → h'.get? b = some o) (hS : ∃ o, h.get? S = some o ∧ o.cls = .type "set") : LK prog w h' l v := by
  obtain ⟨a, rfl, o, items, n, ho, hc, hd, hi⟩ := x
  refine ⟨a, rfl, o, items, n, hk a o ?_ ho, hc, hd, hi⟩
  rintro rfl
  refine ex1_2 hS fun o' ho' hc' => ?_
  rw [ho] at ho'; cases ho'
  rw [hc] at hc'; injection hc' with q; exact absurd q (by decide)
theorem lit_items {l : Lit} {items : List Value} (hi : ItemsAre (mixKind prog w) (litK l) items) : ∃ t1 t2 t3, items = [.int l.x t1, .str l.s.str t2, .int l.k t3] := by
  unfold litK at hi
  cases hi with | cons h1 hi =>
  cases hi with | cons h2 hi =>
  cases hi with | cons h3 hi =>
  cases hi with | nil =>
  have h1' : isAtom (.inl (l.x : Int)) _ = true := h1
  have h2' : isAtom (.inr l.s.str) _ = true := h2
  have h3' : isAtom (.inl l.k) _ = true := h3
  rcases isAtom_shape h1' with ⟨i, t1, e, rfl⟩ | ⟨x, t, e, rfl⟩
  · cases e
    rcases isAtom_shape h2' with ⟨i, t, e, rfl⟩ | ⟨x, t2, e, rfl⟩
    · cases e
    · cases e
      rcases isAtom_shape h3' with ⟨i, t3, e, rfl⟩ | ⟨x, t, e, rfl⟩
      · cases e; exact ⟨_, _, _, rfl⟩
      · cases e
  · cases e
theorem byValue_lit {l : Lit} {v : Value} (x : LK prog w s.heap l v) {Q : Bool → Shared → Prop} (h : Q false s) : wpAny (model prog w) A (hashByValue 8 v) Q E s := by
  refine ex1_2 x fun a hr1 hk => ?_; subst hr1
  have hT := hk.typeIs
  refine ex3_4 hk fun o items n ho u0 hd hi => ?_
  refine ex3_1 (lit_items hi) fun t1 t2 t3 e => ?_
  unfold hashByValue
  refine wpAny_bind (wpAny_specialOf hT F.slot_tuple_hash.lookup ?_)
  show wpAny _ _ (seqItems? (.ref a) >>= _) _ _ s
  refine wpAny_bind (wpAny_seqItems ho hd ?_)
  show wpAny _ _ (forIn items _ _ >>= _) _ _ s
  rw [← Array.forIn_toList, e]
  refine wpAny_bind ?_
  rw [List.forIn_cons]
  refine wpAny_bind ?_
  have e1 : hashByValue 7 (.int l.x t1) = pure true := by unfold hashByValue; rfl
  have e2 : hashByValue 7 (.str l.s.str t2) = pure false := by unfold hashByValue; rfl
  rw [e1]
  refine wpAny_bind (wpAny_pure (wpAny_pure ?_))
  dsimp only
  rw [List.forIn_cons]
  refine wpAny_bind ?_
  rw [e2]
  refine wpAny_bind (wpAny_pure (wpAny_pure ?_))
  exact wpAny_pure (wpAny_pure h)
theorem noClass {ks : List Atom} {a : Addr} {Q : Bool → Shared → Prop} (hk : IsTupleKey (mixKind prog w) s.heap ks a) (h : Q false s) : wpAny (model prog w) A (ofAClassStatement 8 (.ref a)) Q E s := by
  have hT := hk.typeIs
  refine ex3_4 hk fun o items n ho u0 hd hi => ?_
  unfold ofAClassStatement
  refine wpAny_bind (wpAny_typeOf hT ?_)
  dsimp only
  refine wpAny_bind ?_
  refine wpAny_pure ?_
  simp only [Bool.not_true, Bool.false_eq_true, if_false]
  refine wpAny_bind (wpAny_seqItems ho hd ?_)
  dsimp only
  rw [← Array.forIn_toList]
  refine wpAny_bind (wpAny_forIn_list _ (fun rest r s' => r.1 = none ∧ s' = s ∧ ∀ v ∈ rest, carriedByValue v = true) _ ?_ ?_ _ _ ⟨rfl, rfl, hi.byValue⟩)
  · intro v rest r s' hq1; refine ex0_3 hq1 fun hr hr1 hall => ?_; clear hq1; subst hr1
    have : ofAClassStatement 7 v = pure false := by
      have hv := hall v List.mem_cons_self
      cases v with
      | ref a => simp [carriedByValue] at hv
      | _ => unfold ofAClassStatement; rfl
    rw [this]
    refine wpAny_bind (wpAny_pure ?_)
    simp only [Bool.false_eq_true, if_false]
    exact wpAny_pure ⟨rfl, rfl, fun u hu' => hall u (List.mem_cons_of_mem _ hu')⟩
  · intro hq1 s' hq2; obtain ⟨r1, r2⟩ := hq1; refine ex0_3 hq2 fun hr hr1 _ => ?_; clear hq2; subst hr1
    simp only at hr
    subst hr
    exact wpAny_pure h
theorem notSeen {l : Lit} {v : Value} (x : LK prog w s.heap l v) {vs : List Value} (hv : ∀ y ∈ vs, ∃ l', LK prog w s.heap l' y) {Q : Bool → Shared → Prop} (h : Q false s) : wpAny (model prog w) A (searchCouldBeSeen v vs) Q E s := by
  refine ex1_2 x fun a hr1 hk => ?_; subst hr1
  unfold searchCouldBeSeen
  refine wpAny_bind (wpAny_forIn_list _ (fun rest r s' => r.1 = none ∧ s' = s ∧ ∀ v ∈ rest, ∃ l', LK prog w s.heap l' v) _ ?_ ?_ _ _ ⟨rfl, rfl, hv⟩)
  · intro y rest r s' hq1; refine ex0_3 hq1 fun hr hr1 hall => ?_; clear hq1; subst hr1
    have hrest : ∀ v ∈ rest, ∃ l', LK prog w s'.heap l' v := fun u hu => hall u (List.mem_cons_of_mem _ hu)
    refine ex2_2 (hall y List.mem_cons_self) fun l' b hr1 hk' => ?_; subst hr1
    dsimp only
    refine wpAny_ite_split (fun u0 => wpAny_pure ⟨rfl, rfl, hrest⟩) fun u0 => ?_
    refine wpAny_bind (wpAny_eqIsQuiet_tuple hk ?_)
    simp only [Bool.not_true, Bool.false_eq_true, if_false]
    refine wpAny_bind (wpAny_eqIsQuiet_tuple hk' ?_)
    simp only [Bool.not_true, Bool.false_eq_true, if_false]
    refine wpAny_bind (noClass hk ?_)
    simp only [Bool.false_eq_true, if_false]
    refine wpAny_bind (noClass hk' ?_)
    simp only [Bool.false_eq_true, if_false]
    exact wpAny_pure ⟨rfl, rfl, hrest⟩
  · intro hq1 s' hq2; obtain ⟨r1, r2⟩ := hq1; refine ex0_3 hq2 fun hr hr1 _ => ?_; clear hq2; subst hr1
    simp only at hr
    subst hr
    exact wpAny_pure h
theorem isSame_self {a : Addr} {Q : Bool → Shared → Prop} (h : Q true s) : wpAny (model prog w) A (isSame (.ref a) (.ref a)) Q E s := by
  unfold isSame
  dsimp only
  rw [if_pos (beq_self_eq_true a)]
  exact wpAny_pure h

noncomputable def setO (es : Array (Int × Value)) (ep : Nat) (t : SetTable) : Obj := { cls := .type "set", dict := none, data := .set es ep t }
theorem gaveWay_no {t : SetTable} {n : Nat} (T : TabI t n) : t.gaveWay = false := by
  have := T.l
  unfold SetTable.gaveWay
  rw [beq_eq_false_iff_ne]; walk_at "o"
theorem go_cps {G : Prop} {t : SetTable} {hashAt : Nat → Int} {h : Int} {p : SetTable.Probe} {m : Option SetTable.Met} (hm : t.probe hashAt h p = m) (hd : t.dummies = #[]) (K : Nat) (h1 : p.dummy = none) (h2 : K < 10 * SetTable.turns t.mask) (h3 : t.slot (it t.advance K p).j = .empty)
    (a : ∀ j, m = some (.empty j none) → t.slot j = .empty → G)
    (b : ∀ j i next K2, m = some (.candidate j i next) → t.slot j = .live i → next.dummy = none → K2 < K → t.slot (it t.advance K2 next).j = .empty → G) : G :=
  (go_ok hd hashAt h K p _ h1 h2 h3).elim (fun z => ex1_2 z fun j e q => a j (hm.symm.trans e) q) fun z => ex4_6 z fun j i nx K2 e q _ r u v => b j i nx K2 (hm.symm.trans e) q r u v
theorem search_lit {S : Addr} {es : Array (Int × Value)} {ep : Nat} {t : SetTable} {l : Lit} {v : Value} {hs : Int} {Q : SetFound → Shared → Prop} (ho : s.heap.get? S = some (setO es ep t)) (T : TabI t es.size) (hu : A.units < cLine) (x : LK prog w s.heap l v)
    (hes : ∀ e ∈ es.toList, ∃ l', l' ≠ l ∧ LK prog w s.heap l' e.2) (h : ∀ j, t.slot j = .empty → Q (.free j false) s) : ∀ (K fuel : Nat) (stand : Option SetTable.Probe), K < fuel → K < 10 * SetTable.turns t.mask → (stand.getD (t.probeStart hs)).dummy = none → t.slot (it t.advance K (stand.getD (t.probeStart hs))).j = .empty →
    wpAny (model prog w) A (setSearchFrom S v hs true fuel stand) Q E s
  | K, 0, stand, hf, _, _, _ => absurd hf (Nat.not_lt_zero _)
  | K, fuel + 1, stand, hf, hK, hd, hsl => by
    refine ex1_2 x fun a hr1 hk => ?_; subst hr1
    have hgw : ¬ t.gaveWay = true := by rw [gaveWay_no T]; decide
    refine wpAny_bind (wpAny_setState_of ho rfl T.fits (wpAny_ite_false (decide_eq_false hgw) ?_))
    generalize hm : t.probe _ hs (stand.getD (t.probeStart hs)) = m
    refine go_cps hm T.d K hd hK hsl (fun j e hj => ?_) fun j i next K2 e hj hd2 hK2 hsl2 => ?_
    · clear hm
      subst e
      exact wpAny_pure (h j hj)
    · clear hm
      subst e
      have hpl := slot_live hj
      have hi : i < es.size := by
        have := (Array.getElem?_eq_some_iff.mp hpl).1
        rw [T.p] at this; exact this
      have hg : es[i]? = some es[i] := Array.getElem?_eq_getElem hi
      obtain ⟨l', hne, a', ha', hk'⟩ := hes es[i] (Array.getElem_mem_toList hi)
      have hsm : t.sameMemory t.moves t.mask = some true := by unfold SetTable.sameMemory; rw [if_pos (beq_self_eq_true _)]
      have hneq : decide (litK l' = litK l) = false := decide_eq_false fun q => hne (litK_inj.mp q)
      have hsee : ∀ y ∈ ((es.filter (·.1 == hs)).toList.map (·.2)), ∃ l2, LK prog w s.heap l2 y := fun y hy => by
        refine ex1_2 (List.mem_map.mp hy) fun e he hr1 => ?_; subst hr1
        rw [Array.toList_filter] at he
        refine ex1_2 (hes e (List.mem_filter.mp he).1) fun l2 u0 h2 => ?_
        exact ⟨l2, h2⟩
      have rec' := search_lit (hs := hs) ho T hu ⟨a, rfl, hk⟩ hes h K2 fuel (some next) (by walk_at "o") (by walk_at "o") hd2 hsl2
      generalize es[i] = en at ha' hk' hg
      obtain ⟨hen, yen⟩ := en
      have ha2 : yen = .ref a' := ha'
      subst ha2
      suffices tail : _ from wpAny_ite_split (fun u0 => wpAny_bind (notSeen ⟨a, rfl, hk⟩ hsee (wpAny_ite_false rfl tail))) fun u0 => tail
      rw [hg]
      refine wpAny_bind (wpAny_holding (wpAny_eqBool_tuple hu hk' hk ?_))
      rw [hneq]
      refine wpAny_bind (wpAny_setState_of ho rfl T.fits (wpAny_ite_false rfl ?_))
      rw [hsm]
      dsimp only
      rw [if_pos rfl, hj]
      dsimp only
      rw [hg]
      refine wpAny_bind (isSame_self (wpAny_bind (wpAny_pure ?_)))
      exact rec'
end
end
section
open PySem PySem.W PyProof.Rows PySem.Calls
set_option maxRecDepth 100000
set_option linter.unusedVariables false

section
variable {prog : Program} {w : World} {A : Around} {E : Value → Shared → Prop} {s : Shared}
structure SetLAt (prog : Program) (w : World) (h : Heap) (S : Addr) (led : Bool) (xs : List (Lit × Value)) : Prop where
  ex : ∃ es ep t, h.get? S = some (setO es ep t) ∧ es.toList.Perm (xs.map fun x => (litHash w x.1, x.2)) ∧ TabI t es.size ∧ t.led = led ∧ (xs ≠ [] → t.plain = false)
  ks : ∀ x ∈ xs, LK prog w h x.1 x.2
theorem put_set {o : Obj} {es : Array (Int × Value)} {ep : Nat} {t : SetTable} (es' : Array (Int × Value)) (t' : SetTable) : Obj.putSet es' t' (setO es ep t) = setO es' (ep + 1) t' := putSet_of (o := setO es ep t) es' t' rfl
theorem stored_set {h : Heap} {S : Addr} {es : Array (Int × Value)} {ep : Nat} {t : SetTable} (ho : h.get? S = some (setO es ep t)) (es' : Array (Int × Value)) (t' : SetTable) : (h.update S (Obj.putSet es' t')).get? S = some (setO es' (ep + 1) t') := by
  have := Heap.get?_update_self (Obj.putSet es' t') ho (by rw [put_set (o := setO es ep t)]; rfl)
  rw [put_set (o := setO es ep t)] at this
  exact this
theorem order_all {es : Array (Int × Value)} {order : Array Nat} (ho : order.toList.Perm (List.range es.size)) : (order.filterMap (es[·]?)).toList.Perm es.toList := by
  rw [Array.toList_filterMap]
  exact (ho.filterMap _).trans (by rw [filterMap_getElem?_range])
theorem add_lit {S : Addr} {led : Bool} {xs : List (Lit × Value)} {l : Lit} {v : Value} {Q : Bool → Shared → Prop} (hS : SetLAt prog w s.heap S led xs) (hu : A.units < cLine) (x : LK prog w s.heap l v) (hne : ∀ y ∈ xs, y.1 ≠ l) (hn : xs.length + 1 ≤ 50)
    (h : ∀ h' tk, Heap.SameBut S s.heap h' → SetLAt prog w h' S led (xs ++ [(l, v)]) → Q true { s with heap := h', toks := tk }) : wpAny (model prog w) A (setAdd S v) Q E s := by
  obtain ⟨⟨es, ep, t, ho, hp, T, hled, hpl⟩, hks⟩ := hS
  have hsz : es.size = xs.length := by have := hp.length_eq; rwa [Array.length_toList, List.length_map] at this
  have hes : ∀ e ∈ es.toList, ∃ l', l' ≠ l ∧ LK prog w s.heap l' e.2 := fun e he => by
    refine ex1_2 (List.mem_map.mp (hp.mem_iff.mp he)) fun y hy hr1 => ?_; subst hr1
    exact ⟨y.1, hne y hy, hks y hy⟩
  refine ex1_2 x fun a hr1 hk => ?_; subst hr1
  unfold setAdd
  refine wpAny_holding (wpAny_bind (wpAny_pyHash_tuple hu hk ?_))
  rw [show tupleKeyHash (mixKind prog w) (litK l) = litHash w l from rfl]
  generalize s.toks + ((litK l).length + 1) = tk0
  have ho' : ({ s with toks := tk0 } : Shared).heap.get? S = some (setO es ep t) := ho
  generalize hs0 : ({ s with toks := tk0 } : Shared) = s0 at ho'
  have hh0 : s0.heap = s.heap := by rw [← hs0]
  unfold setAddHashed setAddHashedIn
  refine wpAny_holding (wpAny_bind (wpAny_setState_of ho' rfl T.fits ?_))
  dsimp only
  have hbs : byScan (.ref a) es = false := by simp [byScan, Value.scannable]
  rw [hbs]
  simp only [Bool.false_eq_true, if_false]
  refine ex1_2 (start_hits T.tab (litHash w l)) fun K hK hsl => ?_
  have htn : 10 * SetTable.turns t.mask ≤ 1500 := by have := T.l; unfold SetTable.turns; walk_at "o"
  refine wpAny_bind ?_
  unfold setSearch
  refine search_lit ho' T hu ⟨a, rfl, by rw [hh0]; exact hk⟩ (fun e he => by rw [hh0]; exact hes e he) (fun j hj => ?_) K 100000 none (by walk_at "o") hK rfl hsl
  dsimp only
  refine wpAny_bind (wpAny_setState_of ho' rfl T.fits ?_)
  refine ex0_7 (put_shape t T j) fun q1 q2 q3 q4 q5 q6 q7 => ?_
  generalize hput : t.put j = pt at q1 q2 q3 q4 q5 q6 q7
  obtain ⟨t1, p⟩ := pt
  dsimp only at q1 q2 q3 q4 q5 q6 q7 ⊢
  have hes1 : (SetTable.insertAt es p (litHash w l, Value.ref a)).toList.Perm ((xs ++ [(l, Value.ref a)]).map fun x => (litHash w x.1, x.2)) := by
    refine (SetTable.insertAt_perm es p _).trans ?_
    rw [Array.toList_push, List.map_append]
    exact hp.append (.refl _)
  have hsz1 : (SetTable.insertAt es p (litHash w l, Value.ref a)).size = es.size + 1 := by
    rw [← Array.length_toList, (SetTable.insertAt_perm es p _).length_eq, Array.length_toList, Array.size_push]
  generalize hE1 : SetTable.insertAt es p (litHash w l, Value.ref a) = es1 at hes1 hsz1
  have hG := grow_ok T (t1 := { t1 with plain := false }) (by walk_at "o") q1 q2 q3 (fun q => by cases q) (es1.map (·.1)) (by rw [Array.size_map, hsz1])
  have fin : ∀ (t2 : SetTable), t2 = { t1 with plain := false } → wpAny (model prog w) A (do
      storeSet S es1 t2
      if !false && t2.tooFull then setRelay S (SetTable.grown (es.size + 1))
      return true) Q E s0 := by
    rintro t2 rfl
    refine wpAny_bind (wpAny_storeSet_of ho' rfl ?_ (by rw [hsz1, sizeLine_eq]; walk_at "o"))
    have ho1 := stored_set ho' es1 { t1 with plain := false }
    have sb1 := Heap.SameBut.update s0.heap S (Obj.putSet es1 { t1 with plain := false })
    generalize s0.heap.update S (Obj.putSet es1 { t1 with plain := false }) = h1 at ho1 sb1
    have lk : ∀ {h' : Heap}, Heap.SameBut S s0.heap h' → ∀ x ∈ xs ++ [(l, Value.ref a)], LK prog w h' x.1 x.2 := fun {h'} sb y hy => by
      have hold : LK prog w s0.heap y.1 y.2 := by
        rw [hh0]
        rcases List.mem_append.mp hy with hy | hy
        · exact hks y hy
        · rw [List.mem_singleton] at hy; subst hy; exact ⟨a, rfl, hk⟩
      exact hold.keep (fun b o hb e => (sb.2 b hb).trans e) ⟨_, ho', rfl⟩
    have out : ∀ {h' : Heap} {es' : Array (Int × Value)} {ep' : Nat} {t' : SetTable}, Heap.SameBut S s0.heap h' → h'.get? S = some (setO es' ep' t') → es'.toList.Perm es1.toList → TabI t' es'.size → t'.led = t.led → t'.plain = false → Q true { s0 with heap := h' } := fun {h' es' ep' t'} sb hg hpp hT hl hpn => by
      have := h h' tk0 (by rw [← hh0]; exact sb) ⟨⟨es', ep', t', hg, hpp.trans hes1, hT, hl.trans hled, fun u0 => hpn⟩, lk sb⟩
      rw [← hs0]; exact this
    cases htf : ({ t1 with plain := false } : SetTable).tooFull with
    | false =>
      simp only [Bool.not_false, Bool.and_false, Bool.false_eq_true, if_false]
      refine wpAny_pure (out sb1 ho1 (.refl _) ?_ q4 rfl)
      rw [hsz1]; exact hG.1 htf
    | true =>
      obtain ⟨hsa, t3, order, hre, T3, R3, l3, p3, ord⟩ := hG.2 htf
      simp only [Bool.not_false, Bool.and_true, if_true]
      refine wpAny_bind ?_
      unfold setRelay
      have hfit1 : ({ t1 with plain := false } : SetTable).fits es1.size = true := by
        simp only [SetTable.fits, SetTable.fill, q1, q2, q3, hsz1, Bool.and_eq_true, beq_iff_eq, decide_eq_true_eq, List.size_toArray, List.length_nil]
        have := T.l; exact ⟨trivial, by walk_at "o"⟩
      refine wpAny_bind (wpAny_setState_of (s := { s0 with heap := h1 }) ho1 rfl hfit1 ?_)
      dsimp only
      rw [if_neg (by rw [sizeLine_eq]; walk_at "o")]
      rw [hre]
      have hpo : (order.filterMap (es1[·]?)).toList.Perm es1.toList := order_all (by rw [hsz1]; exact ord)
      have hszo : (order.filterMap (es1[·]?)).size = es1.size := by rw [← Array.length_toList, hpo.length_eq, Array.length_toList]
      refine wpAny_bind ?_
      show wpAny _ _ (do
        let es' := order.filterMap (es1[·]?)
        if es'.size != es1.size then unsupported "internal:set-table-lost-an-element"
        pure (es', t3)) _ _ _
      dsimp only
      rw [hszo]
      simp only [bne_self_eq_false, Bool.false_eq_true, if_false]
      refine wpAny_pure ?_
      dsimp only
      refine wpAny_storeSet_of (s := { s0 with heap := h1 }) ho1 rfl ?_ (by rw [hszo, hsz1, sizeLine_eq]; walk_at "o")
      have ho2 := stored_set ho1 (order.filterMap (es1[·]?)) t3
      have sb2 := Heap.SameBut.update h1 S (Obj.putSet (order.filterMap (es1[·]?)) t3)
      refine wpAny_pure (out (sb1.trans sb2) ho2 hpo ?_ (l3.trans q4) p3)
      rw [hszo, hsz1]; exact T3
  by_cases hpt : t1.plain = true
  · rw [if_pos hpt]
    refine wpAny_bind (byValue_lit ⟨a, rfl, by rw [hh0]; exact hk⟩ ?_)
    simp only [Bool.false_eq_true, if_false]
    exact fin _ rfl
  · rw [if_neg hpt]
    refine wpAny_bind (wpAny_pure ?_)
    simp only [if_true]
    refine fin t1 ?_
    have : t1.plain = false := by simpa using hpt
    rw [← this]
end
end
section
open PySem PySem.W PyProof.Rows PySem.Calls
set_option maxRecDepth 100000
set_option linter.unusedVariables false
theorem slot_si_next : Slot "set_iterator" "__next__" "set_iterator.__next__" :=
  .of (owner := "set_iterator") (n := "__next__") (by rw [typeLookup_type, builtinLookup_eq_fast]; kernel_rfl) (by decide +kernel) (by decide +kernel) (by decide +kernel)
    (by first | exact .inl (by decide +kernel) | exact .inr (by decide +kernel)) (by rw [isSubtype_type]; kernel_rfl)
theorem entry_si_next : entryFor table "set_iterator.__next__" = some Builtin.«set_iterator.__next__» := entryFor_of_tree (by kernel_rfl)
theorem args_si_next (a : Value) : argsOk "set_iterator.__next__" ⟨[a], []⟩ := by unfold argsOk; kernel_rfl
theorem entry_set_iter : entryFor table "set.__iter__" = some Builtin.«frozenset.__iter__» :=
  entryFor_alias (id' := "frozenset.__iter__") (by kernel_rfl) rfl (by decide +kernel) (by kernel_rfl)
theorem sub_tuple_set : isSubtype (.type "tuple") (.type "set") = pure false := by rw [isSubtype_type]; kernel_rfl
theorem sub_tuple_frozenset : isSubtype (.type "tuple") (.type "frozenset") = pure false := by rw [isSubtype_type]; kernel_rfl
theorem slot_si_iter : Slot "set_iterator" "__iter__" "set_iterator.__iter__" :=
  .of (owner := "set_iterator") (n := "__iter__") (by rw [typeLookup_type, builtinLookup_eq_fast]; kernel_rfl) (by decide +kernel) (by decide +kernel) (by decide +kernel)
    (by first | exact .inl (by decide +kernel) | exact .inr (by decide +kernel)) (by rw [isSubtype_type]; kernel_rfl)
theorem args_si_iter (a : Value) : argsOk "set_iterator.__iter__" ⟨[a], []⟩ := by unfold argsOk; kernel_rfl
theorem entry_si_iter : entryFor table "set_iterator.__iter__" = some Builtin.«dict_keyiterator.__iter__» :=
  entryFor_alias (id' := "dict_keyiterator.__iter__") (by kernel_rfl) rfl (by decide +kernel) (by kernel_rfl)
end
section
open PySem PySem.W PyProof.Rows PySem.Calls
set_option maxRecDepth 100000
set_option linter.unusedVariables false

section
variable {prog : Program} {w : World} {A : Around} {E : Value → Shared → Prop} {s : Shared}
noncomputable def siF (fs : Array Value) : Obj := { cls := .type "set_iterator", data := .fields fs }
noncomputable def siO (first : Value) (i : Nat) (S : Addr) (n ep : Nat) : Obj := siF #[first, .int i 0, .ref S, .int n 0, .int ep 0]
theorem si_set {I : Addr} {k : Nat} {v : Value} {fs : Array Value} {Q : Unit → Shared → Prop} (ho : s.heap.get? I = some (siF fs)) (hk : k < fs.size)
    (h : ∀ h', Heap.SameBut I s.heap h' → h'.get? I = some (siF (fs.setIfInBounds k v)) → Q () { s with heap := h' }) : wpAny (model prog w) A (setField (.ref I) k v) Q E s := by
  refine wpAny_setField ho rfl hk (h _ (Heap.SameBut.update ..) ?_)
  exact Heap.get?_update_self _ ho (Obj.isFreed_of_fields (Obj.data_mapFields rfl _))
theorem si_int {I S : Addr} {slot i n ep : Nat} {es : Array (Int × Value)} {t : SetTable} {Q : Option Value → Shared → Prop} (hh : A.handled = none) (hI : s.heap.get? I = some (siO (.int (slot : Nat) 0) i S n ep)) (hS : s.heap.get? S = some (setO es ep t)) (hf : t.fits es.size = true) (hn : es.size = n)
    {r : Option (Value × Nat)} (hnx : ∀ {A : Around} {E : Value → Shared → Prop} {R : Option (Value × Nat) → Shared → Prop}, R r s → wpAny (model prog w) A (setNext S slot i ep) R E s)
    (hs : ∀ v slot', r = some (v, slot') → ∀ h', Heap.SameBut I s.heap h' → h'.get? I = some (siO (.int (slot' : Nat) 0) (i + 1) S n ep) → Q (some v) { s with heap := h' })
    (he : r = none → ∀ h', Heap.ExtBut I s.heap h' → Q none { s with heap := h' }) : wpAny (model prog w) A (pyNext (.ref I)) Q E s := by
  have hT : s.TypeIs (.ref I) "set_iterator" := ⟨_, hI, rfl⟩
  unfold pyNext
  refine wpAny_bind (wpAny_attempt (wpAny_callSpecial?_slot (name := Str.ofString "__next__") hT slot_si_next
    (wpAny_call_entry slot_si_next hT entry_si_next ?_ (args_si_next _))))
  unfold Builtin.«set_iterator.__next__»
  refine wpAny_bind (m := slotArgs _ _ _) (wpAny_pure ?_)
  refine wpAny_bind (wpAny_fieldsOf hI rfl ?_)
  dsimp only
  refine wpAny_bind (wpAny_setEntries_of hS rfl hf ?_)
  rw [hn]
  simp only [bne_self_eq_false, Bool.false_eq_true, if_false, Int.toNat_natCast]
  refine wpAny_bind (hnx ?_)
  cases r with
  | some r =>
    obtain ⟨v, slot'⟩ := r
    dsimp only
    refine wpAny_bind (si_set hI (by simp) fun h1 sb1 g1 => ?_)
    refine wpAny_bind (si_set (s := { s with heap := h1 }) g1 (by simp) fun h2 sb2 g2 => ?_)
    exact wpAny_pure ⟨_, rfl, wpAny_pure (hs v slot' rfl h2 (sb1.trans sb2) g2)⟩
  | none =>
    dsimp only
    refine wpAny_bind (si_set hI (by simp) fun h1 sb1 g1 => ?_)
    show wpAny _ _ (newExc (.type "StopIteration") [] >>= _) _ _ _
    refine wpAny_bind ?_
    simp only [newExc, newTuple]
    refine wpAny_bind (wpAny_newObj_type ?_ (by size_fits))
    refine wpAny_bind (m := firstArgMember _ _) (wpAny_of_eq (a := Value.none) (by first | rfl | (simp only [firstArgMember]; rfl)) ?_)
    refine wpAny_newObj_type ?_ (by size_fits)
    simp only [raiseNew]
    refine wpAny_bind (wpAny_handled ?_)
    rw [show A.in1.handled = none from hh]
    refine wpAny_bind (wpAny_pure (wpAny_throw ?_))
    refine wpAny_bind (wpAny_isInstance (T := "StopIteration") (b := true) ⟨_, Heap.get?_push_size _ rfl, rfl⟩ isSubtype_stop ?_)
    exact wpAny_pure (he rfl _ ((sb1.extBut.push _).push _))
theorem si_tup {I S T : Addr} {i n m ep : Nat} {es : Array (Int × Value)} {t : SetTable} {places : List Nat} {Q : Option Value → Shared → Prop} (hh : A.handled = none) (hI : s.heap.get? I = some (siO (.ref T) i S n ep)) (hS : s.heap.get? S = some (setO es ep t)) (hf : t.fits es.size = true) (hn : es.size = n)
    (hT2 : s.heap.get? T = some (seqO "tuple" (places.map fun k : Nat => Value.int k 0) m)) (hTI : T ≠ I)
    (hs : ∀ k e, places[i]? = some k → es[k]? = some e → ∀ h', Heap.SameBut I s.heap h' → h'.get? I = some (siO (.ref T) (i + 1) S n ep) → Q (some e.2) { s with heap := h' }) (hp : ∀ k ∈ places, k < n)
    (he : places[i]? = none → ∀ h', Heap.ExtBut I s.heap h' → Q none { s with heap := h' }) : wpAny (model prog w) A (pyNext (.ref I)) Q E s := by
  have hT : s.TypeIs (.ref I) "set_iterator" := ⟨_, hI, rfl⟩
  unfold pyNext
  refine wpAny_bind (wpAny_attempt (wpAny_callSpecial?_slot (name := Str.ofString "__next__") hT slot_si_next
    (wpAny_call_entry slot_si_next hT entry_si_next ?_ (args_si_next _))))
  unfold Builtin.«set_iterator.__next__»
  refine wpAny_bind (m := slotArgs _ _ _) (wpAny_pure ?_)
  refine wpAny_bind (wpAny_fieldsOf hI rfl ?_)
  dsimp only
  refine wpAny_bind (wpAny_setEntries_of hS rfl hf ?_)
  rw [hn]
  simp only [bne_self_eq_false, Bool.false_eq_true, if_false, Int.toNat_natCast]
  refine wpAny_bind (wpAny_seqItems hT2 rfl ?_)
  dsimp only
  have hget : (List.toArray (places.map fun k : Nat => Value.int k 0))[i]? = (places[i]?).map fun k : Nat => Value.int k 0 := by
    rw [List.getElem?_toArray, List.getElem?_map]
  rw [hget]
  cases q : places[i]? with
  | some k =>
    dsimp only [Option.map_some]
    have hk : k < es.size := by rw [hn]; exact hp k (List.mem_of_getElem? q)
    have hek : es[k]? = some es[k] := Array.getElem?_eq_getElem hk
    refine wpAny_bind ?_
    unfold setNextDrawn
    refine wpAny_bind (wpAny_setState_of hS rfl hf ?_)
    dsimp only
    simp only [Int.toNat_natCast, bne_self_eq_false, Bool.false_eq_true, if_false]
    rw [hek]
    generalize es[k] = en at hek
    obtain ⟨hen, ven⟩ := en
    dsimp only
    refine wpAny_pure ?_
    refine wpAny_bind (si_set hI (by simp) fun h1 sb1 g1 => ?_)
    exact wpAny_pure ⟨_, rfl, wpAny_pure (hs k _ q hek h1 sb1 g1)⟩
  | none =>
    dsimp only [Option.map_none]
    refine wpAny_bind (si_set hI (by simp) fun h0 sb0 g0 => ?_)
    refine wpAny_bind (si_set (s := { s with heap := h0 }) g0 (by simp) fun h1 sb1 g1 => ?_)
    show wpAny _ _ (newExc (.type "StopIteration") [] >>= _) _ _ _
    refine wpAny_bind ?_
    simp only [newExc, newTuple]
    refine wpAny_bind (wpAny_newObj_type ?_ (by size_fits))
    refine wpAny_bind (m := firstArgMember _ _) (wpAny_of_eq (a := Value.none) (by first | rfl | (simp only [firstArgMember]; rfl)) ?_)
    refine wpAny_newObj_type ?_ (by size_fits)
    simp only [raiseNew]
    refine wpAny_bind (wpAny_handled ?_)
    rw [show A.in1.handled = none from hh]
    refine wpAny_bind (wpAny_pure (wpAny_throw ?_))
    refine wpAny_bind (wpAny_isInstance (T := "StopIteration") (b := true) ⟨_, Heap.get?_push_size _ rfl, rfl⟩ isSubtype_stop ?_)
    exact wpAny_pure (he q _ (((sb0.trans sb1).extBut.push _).push _))
end
end
section
open PySem PySem.W PyProof.Rows PySem.Calls
set_option maxRecDepth 100000
set_option linter.unusedVariables false

theorem erase_perm {α : Type} : ∀ (l : List α) (i : Nat) (h : i < l.length), (l[i] :: l.eraseIdx i).Perm l
  | x :: l, 0, h => .refl _
  | x :: l, i + 1, h => by
    rw [List.eraseIdx_cons_succ, List.getElem_cons_succ]
    exact (List.Perm.swap x _ _).trans (List.Perm.cons x (erase_perm l i (by simpa using h)))
theorem pick_go {α : Type} (next : Nat → Nat) : ∀ (fuel k : Nat) (left : List α) (out : Array α), fuel = left.length → (pickOrder.go next fuel k left out).toList.Perm (out.toList ++ left)
  | 0, k, left, out, h => by
    have : left = [] := List.length_eq_zero_iff.mp h.symm
    subst this
    rw [List.append_nil]; exact .refl _
  | fuel + 1, k, left, out, h => by
    have hlt : next k % left.length < left.length := Nat.mod_lt _ (by walk_at "o")
    unfold pickOrder.go
    rw [List.getElem?_eq_getElem hlt]
    dsimp only
    refine (pick_go next fuel (k + 1) _ _ (by rw [List.length_eraseIdx_of_lt hlt]; walk_at "o")).trans ?_
    rw [Array.toList_push, List.append_assoc]
    exact List.Perm.append_left _ (erase_perm _ _ hlt)
theorem pick_perm {α : Type} (next : Nat → Nat) (xs : Array α) : (pickOrder next xs).toList.Perm xs.toList := by
  have := pick_go next xs.size 0 xs.toList #[] (by rw [Array.length_toList])
  simpa [pickOrder] using this
section
variable {prog : Program} {w : World} {A : Around} {E : Value → Shared → Prop} {s : Shared}
theorem choose_wp {src : Source} {n : Nat} {Q : Nat → Shared → Prop} (hn : n ≠ 0) (h : ∀ i d, i < n → Q i { s with drawn := d }) : wpAny (model prog w) A (choose src n) Q E s := fun Γ p hΓ => by
  show Sem.wp _ _ (.choose src n .pure) _ _ _ _
  rw [Sem.wp_choose]
  exact ⟨hn, h _ _ (Nat.mod_lt _ (Nat.pos_of_ne_zero hn))⟩
theorem draw_wp {α : Type} : ∀ (n : Nat) (xs : List α) (s : Shared) {Q : List α → Shared → Prop}, xs.length = n → (∀ ys d, ys.Perm xs → Q ys { s with drawn := d }) → wpAny (model prog w) A (drawOrder n xs) Q E s
  | 0, xs, s, Q, hl, h => by
    have : xs = [] := List.length_eq_zero_iff.mp hl
    subst this
    unfold drawOrder
    exact wpAny_pure (h [] s.drawn (.refl _))
  | n + 1, [], s, Q, hl, h => by simp at hl
  | n + 1, x :: xs, s, Q, hl, h => by
    unfold drawOrder
    refine wpAny_bind (choose_wp (by simp) fun i d hi => ?_)
    rw [List.getElem?_eq_getElem hi]
    dsimp only
    refine wpAny_bind (draw_wp n _ _ (by rw [List.length_eraseIdx_of_lt hi]; walk_at "o") fun ys d' hp => ?_)
    exact wpAny_pure (h _ d' ((List.Perm.cons _ hp).trans (erase_perm _ _ hi)))
structure SetF (w : World) (h : Heap) (S : Addr) (es : Array (Int × Value)) (ep : Nat) (t : SetTable) : Prop where
  o : h.get? S = some (setO es ep t)
  f : t.fits es.size = true
  n : es.size ≤ 60
  l : t.led = !w.params.followText "set-order"
  r : t.plain = true → Rise t
theorem SetF.keep {h h' : Heap} {S : Addr} {es : Array (Int × Value)} {ep : Nat} {t : SetTable} (F : SetF w h S es ep t) (k : ∀ o, h.get? S = some o → h'.get? S = some o) : SetF w h' S es ep t := ⟨k _ F.o, F.f, F.n, F.l, F.r⟩
theorem byText_wp {Q : Bool → Shared → Prop} (h : Q (w.params.followText "set-order") s) : wpAny (model prog w) A setsByText Q E s := by
  unfold setsByText
  exact wpAny_bind (wpAny_askSetting (wpAny_pure h))
theorem next_text {S : Addr} {es : Array (Int × Value)} {ep slot i : Nat} {t : SetTable} (ht : w.params.followText "set-order" = true) (hS : s.heap.get? S = some (setO es ep t)) (hf : t.fits es.size = true) {R : Option (Value × Nat) → Shared → Prop}
    (h : R (((pickOrder (w.params.setOrder S ep) es)[i]?).map fun e => (e.2, slot)) s) : wpAny (model prog w) A (setNext S slot i ep) R E s := by
  unfold setNext
  refine wpAny_bind (wpAny_setState_of hS rfl hf ?_)
  dsimp only
  refine wpAny_bind (byText_wp ?_)
  rw [ht]
  simp only [if_true, bne_self_eq_false, Bool.false_eq_true, if_false]
  refine wpAny_bind ?_
  unfold setWalk
  refine wpAny_bind (wpAny_setState_of hS rfl hf ?_)
  dsimp only
  refine wpAny_bind (byText_wp ?_)
  rw [ht]
  simp only [if_true]
  refine wpAny_bind (wpAny_askSetting (wpAny_pure ?_))
  exact wpAny_pure h
theorem next_slot {S : Addr} {es : Array (Int × Value)} {ep slot i : Nat} {t : SetTable} (ht : w.params.followText "set-order" = false) (hl : t.led = true) (hd : t.plain = true ∨ es.size ≤ 1) (hS : s.heap.get? S = some (setO es ep t)) (hf : t.fits es.size = true) {R : Option (Value × Nat) → Shared → Prop}
    (h : R (match es[SetTable.below t.place slot]?, t.place[SetTable.below t.place slot]? with | some (_, x), some j => some (x, j + 1) | _, _ => none) s) : wpAny (model prog w) A (setNext S slot i ep) R E s := by
  unfold setNext
  refine wpAny_bind (wpAny_setState_of hS rfl hf ?_)
  dsimp only
  refine wpAny_bind (byText_wp ?_)
  rw [ht]
  simp only [Bool.false_eq_true, if_false]
  refine wpAny_ite_split (fun q => absurd q ?_) fun u0 => ?_
  · show ¬ ((!t.plain && decide (es.size > 1)) = true)
    rcases hd with hd | hd
    · rw [hd]; simp
    · simp; intro _; walk_at "o"
  refine wpAny_bind ?_
  show wpAny _ _ (if (!t.led && !es.isEmpty) = true then unsupported _ else pure ()) _ _ _
  rw [hl]
  simp only [Bool.not_true, Bool.false_and, Bool.false_eq_true, if_false]
  refine wpAny_pure ?_
  exact wpAny_pure h
theorem iter_set {S : Addr} {es : Array (Int × Value)} {ep : Nat} {t : SetTable} (F : SetF w s.heap S es ep t) {Q : Value → Shared → Prop}
    (h1 : (w.params.followText "set-order" = true ∨ (w.params.followText "set-order" = false ∧ (t.plain = true ∨ es.size ≤ 1))) → Q (.ref s.heap.objs.size) { s with heap := s.heap.push (siO (.int (0 : Nat) 0) 0 S es.size ep) })
    (h2 : ∀ (places : List Nat) d, places.Perm (List.range es.size) → Q (.ref (s.heap.objs.size + 1)) { s with heap := (s.heap.push (seqO "tuple" (places.map fun k : Nat => Value.int k 0) 0)).push (siO (.ref s.heap.objs.size) 0 S es.size ep), drawn := d }) :
    wpAny (model prog w) A (pyIter (.ref S)) Q E s := by
  have hT : s.TypeIs (.ref S) "set" := ⟨_, F.o, rfl⟩
  have hsz : (es.size : Nat) ≤ sizeLine := by rw [sizeLine_eq]; have := F.n; walk_at "o"
  refine wpAny_pyIter_slot hT PySem.F.slot_set_iter (wpAny_call_entry PySem.F.slot_set_iter hT entry_set_iter ?_ (PySem.F.args_set_iter_1 _))
  unfold Builtin.«frozenset.__iter__»
  refine wpAny_bind (m := Builtin.Frozenset.slot0 _ _) (wpAny_pure ?_)
  unfold Builtin.Frozenset.sizeOf
  refine wpAny_bind (wpAny_bind (wpAny_setEntries_of F.o rfl F.f (wpAny_pure ?_)))
  unfold setDrawn
  have last : ∀ (first : Value) (s1 : Shared), SetF w s1.heap S es ep t → Q (.ref s1.heap.objs.size) { s1 with heap := s1.heap.push (siO first 0 S es.size ep) } →
      wpAny (model prog w) A.in1 (do
        ret (← newFields "set_iterator" [first, rawInt 0, .ref S, rawInt es.size, rawInt (← setEpoch S)])) (fun fin s' => ∃ r, fin = .done (.ret r) ∧ ∃ T' r', s'.TypeIs r T' ∧ typeLookup (.type T') "__next__" = pure (some r') ∧ Q r s') E s1 := fun first s1 F1 hq => by
    refine wpAny_bind (wpAny_setEpoch_of F1.o rfl F1.f ?_)
    refine wpAny_bind (wpAny_newObj_type ?_ (by size_fits))
    exact wpAny_pure ⟨_, rfl, "set_iterator", _, ⟨_, Heap.get?_push_size _ rfl, rfl⟩, slot_si_next.lookup, hq⟩
  refine wpAny_bind ?_
  refine wpAny_bind (wpAny_setState_of F.o rfl F.f ?_)
  dsimp only
  refine wpAny_bind (byText_wp (wpAny_pure ?_))
  cases ht : w.params.followText "set-order" with
  | true =>
    rw [ht] at h1
    simp only [Bool.not_true, Bool.false_and, Bool.false_eq_true, if_false]
    exact wpAny_bind (wpAny_pure (last _ s F (h1 (.inl rfl))))
  | false =>
    rw [ht] at h1
    simp only [Bool.not_false, Bool.true_and]
    refine wpAny_ite_split (fun q => ?_) fun q => ?_
    · refine wpAny_bind (draw_wp _ _ _ (by rw [List.length_range]) fun places d hp => ?_)
      refine wpAny_bind (wpAny_newTuple ?_ (by rw [List.length_map, hp.length_eq, List.length_range]; exact hsz))
      have hF : SetF w (s.heap.push (seqO "tuple" (places.map fun k : Nat => Value.int k 0) 0)) S es ep t := F.keep fun o e => Heap.get?_push_of_some _ e
      have := last (.ref s.heap.objs.size) { s with heap := s.heap.push (seqO "tuple" (places.map fun k : Nat => Value.int k 0) 0), drawn := d } hF (by
        have hz : (s.heap.push (seqO "tuple" (places.map fun k : Nat => Value.int k 0) 0)).objs.size = s.heap.objs.size + 1 := size_push' _ _
        show Q (.ref (s.heap.push (seqO "tuple" (places.map fun k : Nat => Value.int k 0) 0)).objs.size) _
        rw [hz]; exact h2 places d hp)
      exact this
    · refine wpAny_bind (wpAny_pure (last _ s F (h1 (.inr ⟨rfl, ?_⟩))))
      have q' : ¬ ((!t.plain && decide (es.size > 1)) = true) := q
      cases hp : t.plain with
      | true => exact .inl rfl
      | false => right; rw [hp] at q'; simp at q'; walk_at "o"
end
end
section
open PySem PySem.W PyProof.Rows PySem.Calls
set_option maxRecDepth 100000
set_option linter.unusedVariables false
section
variable {prog : Program} {w : World} {A : Around} {E : Value → Shared → Prop} {s : Shared}
theorem iter_si {I : Addr} {fs : Array Value} {Q : Value → Shared → Prop} (hI : s.heap.get? I = some (siF fs)) (h : Q (.ref I) s) : wpAny (model prog w) A (pyIter (.ref I)) Q E s := by
  have hT : s.TypeIs (.ref I) "set_iterator" := ⟨_, hI, rfl⟩
  refine wpAny_pyIter_slot hT slot_si_iter (wpAny_call_entry slot_si_iter hT entry_si_iter ?_ (args_si_iter _))
  show wpAny _ _ (ret (.ref I)) _ _ s
  exact wpAny_pure ⟨_, rfl, "set_iterator", _, hT, slot_si_next.lookup, h⟩
theorem walks_slot (hh : A.handled = none) (I S : Addr) (hIS : S ≠ I) {n ep : Nat} {es : Array (Int × Value)} {t : SetTable} (hf : t.fits es.size = true) (hn : es.size = n) (val : Nat → Option Value) (slotOf : Nat → Nat) (hv : ∀ i, i < n → ∃ v, val i = some v) (hend : val n = none)
    (hnx : ∀ i, i ≤ n → ∀ {A : Around} {E : Value → Shared → Prop} {s : Shared} {R : Option (Value × Nat) → Shared → Prop}, s.heap.get? S = some (setO es ep t) → R ((val i).map fun v => (v, slotOf (i + 1))) s → wpAny (model prog w) A (setNext S (slotOf i) i ep) R E s) :
    Walks prog w A I [I, S] [I] n (fun i v => val i = some v) (fun i h => h.get? I = some (siO (.int (slotOf i : Nat) 0) i S n ep) ∧ h.get? S = some (setO es ep t)) where
  sub := fun b hb => by simp at hb; simp [hb]
  frame := fun i h h' st hk => ⟨hk I (by simp) _ st.1, hk S (by simp) _ st.2⟩
  item := fun i s Q E hi st hQ => by
    refine ex1_1 (hv i hi) fun v hvi => ?_
    refine si_int hh st.1 st.2 hf hn (r := (val i).map fun v => (v, slotOf (i + 1))) (fun hr => hnx i (Nat.le_of_lt hi) st.2 hr) (fun v' slot' e h' sb g => ?_) fun e => by rw [hvi] at e; cases e
    rw [hvi] at e
    cases e
    exact hQ v h' s.toks hvi ⟨g, (sb.2 S hIS).trans st.2⟩ fun b o hb eb => (sb.2 b (fun q => hb (by simp [q]))).trans eb
  done := fun s Q E st hQ => si_int hh st.1 st.2 hf hn (r := (val n).map fun v => (v, slotOf (n + 1))) (fun hr => hnx n (Nat.le_refl _) st.2 hr) (fun v' slot' e => by rw [hend] at e; cases e)
    fun u0 h' eb => hQ h' s.toks fun b o hb e => eb b o (fun q => hb (by simp [q])) e
  self := fun i s Q E st hQ => iter_si st.1 hQ
theorem walks_tup (hh : A.handled = none) (I S T : Addr) (hIS : S ≠ I) (hTI : T ≠ I) {n ep : Nat} {es : Array (Int × Value)} {t : SetTable} (hf : t.fits es.size = true) (hn : es.size = n) {places : List Nat} (hp : places.Perm (List.range n)) :
    Walks prog w A I [I, S, T] [I] n (fun i v => ∃ k e, places[i]? = some k ∧ es[k]? = some e ∧ v = e.2) (fun i h => h.get? I = some (siO (.ref T) i S n ep) ∧ h.get? S = some (setO es ep t) ∧ h.get? T = some (seqO "tuple" (places.map fun k : Nat => Value.int k 0) 0)) where
  sub := fun b hb => by simp at hb; simp [hb]
  frame := fun i h h' st hk => ⟨hk I (by simp) _ st.1, hk S (by simp) _ st.2.1, hk T (by simp) _ st.2.2⟩
  item := fun i s Q E hi st hQ => by
    have hl : places.length = n := by rw [hp.length_eq, List.length_range]
    refine si_tup hh st.1 st.2.1 hf hn st.2.2 hTI (fun k e hk he h' sb g => ?_) (fun k hk => List.mem_range.mp (hp.mem_iff.mp hk)) fun e => by rw [List.getElem?_eq_getElem (by walk_at "o")] at e; cases e
    exact hQ e.2 h' s.toks ⟨k, e, hk, he, rfl⟩ ⟨g, (sb.2 S hIS).trans st.2.1, (sb.2 T hTI).trans st.2.2⟩ fun b o hb eb => (sb.2 b (fun q => hb (by simp [q]))).trans eb
  done := fun s Q E st hQ => by
    have hl : places.length = n := by rw [hp.length_eq, List.length_range]
    exact si_tup hh st.1 st.2.1 hf hn st.2.2 hTI (fun k e hk => by rw [List.getElem?_eq_none (by walk_at "o")] at hk; cases hk) (fun k hk => List.mem_range.mp (hp.mem_iff.mp hk))
      fun u0 h' eb => hQ h' s.toks fun b o hb e => eb b o (fun q => hb (by simp [q])) e
  self := fun i s Q E st hQ => iter_si st.1 hQ
theorem hint_set {r : Addr} {Q : Bool → Shared → Prop} (hT : s.TypeIs (.ref r) "set") (h : Q false s) : wpAny (model prog w) A (Builtin.List.listLengthHint (.ref r)) Q E s := by
  unfold Builtin.List.listLengthHint
  refine wpAny_bind (wpAny_specialOf hT PySem.F.slot_set_len.lookup ?_)
  generalize hid : ("set.__len__" : String) = id0
  wp_delta
  rw [show splitId id0 = some ("set", "__len__") from by subst hid; decide +kernel]
  subst hid
  refine wpAny_bind (wpAny_isInstance (T := "set") (b := true) hT (by rw [isSubtype_type]; kernel_rfl) ?_)
  refine wpAny_ite_split (fun hab => absurd hab (by decide)) (fun u0 => ?_)
  refine wpAny_ite_split (fun u0 => ?_) (fun hab => absurd (by decide +kernel) hab)
  refine wpAny_bind (wpAny_typeOf hT ?_)
  exact wpAny_pure h
noncomputable def lstO (xs : Array Value) (n : Nat) : Obj := { cls := .type "list", dict := none, data := .seq xs n, slots := #[] }
structure Like (s s' : Shared) : Prop where
  g : s'.gens = s.gens
  o : s'.os = s.os
theorem items_perm {α : Type} {val : Nat → Option α} {n : Nat} {xs : List α} (hx : ∀ i, val i = xs[i]?) (hl : xs.length = n) {acc : Array α} (h1 : acc.size = n) (h2 : ∀ j v, acc[j]? = some v → val j = some v) : acc.toList = xs := by
  apply List.ext_getElem?
  intro j
  by_cases hj : j < n
  · have hj' : j < acc.size := by walk_at "o"
    have := h2 j acc[j] (Array.getElem?_eq_getElem hj')
    rw [hx] at this
    rw [this, Array.getElem?_toList, Array.getElem?_eq_getElem hj']
  · rw [List.getElem?_eq_none (by rw [Array.length_toList]; walk_at "o"), List.getElem?_eq_none (by walk_at "o")]
structure SWalk (prog : Program) (w : World) (s : Shared) (S : Addr) (es : Array (Int × Value)) (v : Value) (s1 : Shared) : Prop where
  ex : ∃ (I : Addr) (fp : List Addr) (P : Nat → Value → Prop) (St : Nat → Heap → Prop), v = .ref I ∧ (∀ A : Around, A.handled = none → Walks prog w A I fp [I] es.size P St) ∧ (∀ b ∈ fp, b = S ∨ s.heap.objs.size ≤ b) ∧ s.heap.objs.size ≤ I ∧ St 0 s1.heap ∧ ∀ acc, ItemsOf P acc es.size → acc.toList.Perm (es.toList.map (·.2))
  l : Like s s1
  k : ∀ b o, s.heap.get? b = some o → s1.heap.get? b = some o
theorem rise_below {t : SetTable} (R : Rise t) {n : Nat} (hn : t.place.size = n) : SetTable.below t.place 0 = 0 ∧ ∀ i (h : i < t.place.size), SetTable.below t.place (t.place[i] + 1) = i + 1 := by
  constructor
  · refine ex0_3 (below_ok R 0) fun a b c => ?_
    by_cases q : SetTable.below t.place 0 = 0
    · exact q
    · have := b 0 (by walk_at "o") (by walk_at "o"); walk_at "o"
  · intro i h
    refine ex0_3 (below_ok R (t.place[i] + 1)) fun a b c => ?_
    have hle : ¬ SetTable.below t.place (t.place[i] + 1) ≤ i := fun q => by have := c i h q; walk_at "o"
    have hge : ¬ i + 1 < SetTable.below t.place (t.place[i] + 1) := fun q => by
      have h1 := b (i + 1) (by walk_at "o") q
      have := List.pairwise_iff_getElem.mp R i (i + 1) (by rw [Array.length_toList]; walk_at "o") (by rw [Array.length_toList]; walk_at "o") (by walk_at "o")
      simp only [Array.getElem_toList] at this
      walk_at "o"
    walk_at "o"
theorem iter_walk {S : Addr} {es : Array (Int × Value)} {ep : Nat} {t : SetTable} (F : SetF w s.heap S es ep t) : wpAny (model prog w) A (pyIter (.ref S)) (SWalk prog w s S es) E s := by
  have hS := Heap.lt_size F.o
  refine iter_set F (fun hc => ?_) (fun places d hp => ?_)
  · have hIS : S ≠ s.heap.objs.size := Nat.ne_of_lt hS
    have hk : ∀ b o, s.heap.get? b = some o → (s.heap.push (siO (.int (0 : Nat) 0) 0 S es.size ep)).get? b = some o := fun b o e => Heap.get?_push_of_some _ e
    have hg : (s.heap.push (siO (.int (0 : Nat) 0) 0 S es.size ep)).get? s.heap.objs.size = some (siO (.int (0 : Nat) 0) 0 S es.size ep) := Heap.get?_push_size _ rfl
    have hfp : ∀ b ∈ [s.heap.objs.size, S], b = S ∨ s.heap.objs.size ≤ b := fun b hb => by simp at hb; rcases hb with rfl | rfl; exact .inr (Nat.le_refl _); exact .inl rfl
    rcases hc with ht | ⟨ht, hd⟩
    · generalize hpk : pickOrder (w.params.setOrder S ep) es = pk
      have hpp : pk.toList.Perm es.toList := by rw [← hpk]; exact pick_perm _ _
      have hps : pk.size = es.size := by rw [← Array.length_toList, hpp.length_eq, Array.length_toList]
      refine ⟨⟨s.heap.objs.size, [s.heap.objs.size, S], _, _, rfl, fun A hh => walks_slot hh _ S hIS (es := es) (t := t) (ep := ep) F.f rfl (fun i => (pk[i]?).map (·.2)) (fun u0 => 0) (fun i hi => ⟨_, by rw [Array.getElem?_eq_getElem (by walk_at "o")]; rfl⟩) (by rw [Array.getElem?_eq_none (by walk_at "o")]; rfl) (fun i hi A E s R hS hr => next_text ht hS F.f (by
        rw [hpk]
        rw [Option.map_map] at hr; exact hr)), hfp, Nat.le_refl _, ⟨hg, hk _ _ F.o⟩, fun acc hacc => ?_⟩, ⟨rfl, rfl⟩, hk⟩
      have := items_perm (xs := pk.toList.map (·.2)) (fun i => by rw [List.getElem?_map, Array.getElem?_toList]) (by rw [List.length_map, Array.length_toList, hps]) hacc.1 hacc.2
      rw [this]; exact hpp.map _
    · have hl : t.led = true := by rw [F.l, ht]; rfl
      have hpl : t.place.size = es.size := by have := F.f; simp only [SetTable.fits, Bool.and_eq_true, beq_iff_eq] at this; exact this.1
      have R : Rise t := by
        rcases hd with hd | hd
        · exact F.r hd
        · unfold Rise
          have h1 : t.place.toList.length ≤ 1 := by rw [Array.length_toList]; walk_at "o"
          match hq : t.place.toList, h1 with
          | [], _ => exact .nil
          | [x], _ => exact List.pairwise_singleton ..
      refine ex0_2 (rise_below R hpl) fun b0 bs => ?_
      let slotOf : Nat → Nat := fun i => match i with | 0 => 0 | i + 1 => (t.place[i]?).getD 0 + 1
      have hbl : ∀ i, i ≤ es.size → SetTable.below t.place (slotOf i) = i := fun i hi => by
        cases i with
        | zero => exact b0
        | succ i =>
          show SetTable.below t.place ((t.place[i]?).getD 0 + 1) = i + 1
          rw [Array.getElem?_eq_getElem (by walk_at "o")]
          exact bs i (by walk_at "o")
      refine ⟨⟨s.heap.objs.size, [s.heap.objs.size, S], _, _, rfl, fun A hh => walks_slot hh _ S hIS (es := es) (t := t) (ep := ep) F.f rfl (fun i => (es[i]?).map (·.2)) slotOf (fun i hi => ⟨_, by rw [Array.getElem?_eq_getElem hi]; rfl⟩) (by rw [Array.getElem?_eq_none (Nat.le_refl _)]; rfl) (fun i hi A E s R hS hr => next_slot ht hl hd hS F.f (by
        rw [hbl i hi]
        by_cases hi' : i < es.size
        · have e1 : es[i]? = some es[i] := Array.getElem?_eq_getElem hi'
          have e2 : t.place[i]? = some t.place[i] := Array.getElem?_eq_getElem (by walk_at "o")
          have e3 : slotOf (i + 1) = t.place[i] + 1 := by show (t.place[i]?).getD 0 + 1 = _; rw [e2]; rfl
          rw [e3, e1] at hr
          rw [e1, e2]
          exact hr
        · have e1 : es[i]? = none := Array.getElem?_eq_none (by walk_at "o")
          rw [e1] at hr ⊢
          exact hr)), hfp, Nat.le_refl _, ⟨hg, hk _ _ F.o⟩, fun acc hacc => ?_⟩, ⟨rfl, rfl⟩, hk⟩
      have := items_perm (xs := es.toList.map (·.2)) (fun i => by rw [List.getElem?_map, Array.getElem?_toList]) (by rw [List.length_map, Array.length_toList]) hacc.1 hacc.2
      rw [this]
  · have hk : ∀ b o, s.heap.get? b = some o → ((s.heap.push (seqO "tuple" (places.map fun k : Nat => Value.int k 0) 0)).push (siO (.ref s.heap.objs.size) 0 S es.size ep)).get? b = some o := fun b o e => Heap.get?_push_of_some _ (Heap.get?_push_of_some _ e)
    have hz : (s.heap.push (seqO "tuple" (places.map fun k : Nat => Value.int k 0) 0)).objs.size = s.heap.objs.size + 1 := size_push' _ _
    have hg : ((s.heap.push (seqO "tuple" (places.map fun k : Nat => Value.int k 0) 0)).push (siO (.ref s.heap.objs.size) 0 S es.size ep)).get? (s.heap.objs.size + 1) = some (siO (.ref s.heap.objs.size) 0 S es.size ep) := by rw [← hz]; exact Heap.get?_push_size _ rfl
    have hg2 : ((s.heap.push (seqO "tuple" (places.map fun k : Nat => Value.int k 0) 0)).push (siO (.ref s.heap.objs.size) 0 S es.size ep)).get? s.heap.objs.size = some (seqO "tuple" (places.map fun k : Nat => Value.int k 0) 0) := Heap.get?_push_of_some _ (Heap.get?_push_size _ rfl)
    refine ⟨⟨s.heap.objs.size + 1, [s.heap.objs.size + 1, S, s.heap.objs.size], _, _, rfl, fun A hh => walks_tup hh _ S s.heap.objs.size (Nat.ne_of_lt (Nat.lt_succ_of_lt hS)) (Nat.ne_of_lt (Nat.lt_succ_self _)) (ep := ep) F.f rfl hp, fun b hb => ?_, Nat.le_succ _, ⟨hg, hk _ _ F.o, hg2⟩, fun acc hacc => ?_⟩, ⟨rfl, rfl⟩, hk⟩
    · simp at hb; rcases hb with rfl | rfl | rfl
      · exact .inr (Nat.le_succ _)
      · exact .inl rfl
      · exact .inr (Nat.le_refl _)
    · have hl : places.length = es.size := by rw [hp.length_eq, List.length_range]
      have hlt : ∀ k ∈ places, k < es.size := fun k hk => List.mem_range.mp (hp.mem_iff.mp hk)
      have e1 : acc.toList = (places.filterMap fun k => es[k]?).map (·.2) := by
        have e0 : places.filterMap (fun k => es[k]?) = places.map fun k => es.getD k (0, .none) := by
          have : ∀ l : List Nat, (∀ k ∈ l, k < es.size) → l.filterMap (fun k => es[k]?) = l.map fun k => es.getD k (0, .none) := fun l => by
            induction l with
            | nil => intro _; rfl
            | cons k l ih =>
              intro h
              have hk := h k (.head _)
              rw [List.filterMap_cons, Array.getElem?_eq_getElem hk, List.map_cons, ih fun x hx => h x (.tail _ hx)]
              simp [Array.getD, hk]
          exact this places hlt
        refine items_perm (val := fun j => ((places.filterMap fun k => es[k]?).map (·.2))[j]?) (n := es.size) (fun u0 => rfl) (by rw [e0]; simp [hl]) hacc.1 fun j v hv => ?_
        refine ex2_3 (hacc.2 j v hv) fun k e hk he hr1 => ?_; subst hr1
        rw [e0, List.getElem?_map, List.getElem?_map, hk]
        have hks : k < es.size := hlt k (List.mem_of_getElem? hk)
        rw [Array.getElem?_eq_getElem hks] at he
        cases he
        simp [Array.getD, hks]
      rw [e1]
      refine ((hp.filterMap _).trans ?_).map _
      rw [filterMap_getElem?_range]
theorem collect_set {S : Addr} {es : Array (Int × Value)} {ep : Nat} {t : SetTable} {R : List Value → Shared → Prop} (hh : A.handled = none) (F : SetF w s.heap S es ep t)
    (h : ∀ vs s', Like s s' → (∀ b o, s.heap.get? b = some o → s'.heap.get? b = some o) → vs.Perm (es.toList.map (·.2)) → R vs s') : wpAny (model prog w) A (collect (.ref S)) R E s := by
  have hSlt := Heap.lt_size F.o
  have hn : es.size ≤ sizeLine := by rw [sizeLine_eq]; have := F.n; walk_at "o"
  unfold collect
  refine wpAny_bind (wpAny_runValue (codeAny_builtin entry_proto_collect' ?_))
  rw [Around.under_plainId PySem.F.plain_proto_collect _]
  show wpAny _ A.in1 (newList [] >>= fun l => again (.builtin "list.__iadd__" ⟨[l, .ref S], []⟩)) _ _ s
  refine wpAny_bind (wpAny_newObj_type ?_)
  refine wpAny_pure ⟨plainId_quiet PySem.F.plain_list_iadd _, codeAny_builtin entry_list_iadd' ?_⟩
  rw [Around.under_plainId PySem.F.plain_list_iadd _]
  generalize hL : s.heap.objs.size = L at *
  have hL1 : (s.heap.push { cls := .type "list", data := .seq ([] : List Value).toArray }).get? L = some (lstO #[] 0) := by rw [← hL]; exact Heap.get?_push_size _ rfl
  show wpAny _ A.in1 (Builtin.List.listExtendWith (.ref L) (.ref S) (.ref L)) _ _ _
  have hk1 : ∀ b o, s.heap.get? b = some o → (s.heap.push { cls := .type "list", data := .seq ([] : List Value).toArray }).get? b = some o := fun b o e => Heap.get?_push_of_some _ e
  generalize hs1 : ({ s with heap := s.heap.push { cls := .type "list", data := .seq ([] : List Value).toArray } } : Shared) = s1
  have hh1 : s1.heap = s.heap.push { cls := .type "list", data := .seq ([] : List Value).toArray } := by rw [← hs1]
  have hlike1 : Like s s1 := by rw [← hs1]; exact ⟨rfl, rfl⟩
  rw [← hh1] at hL1 hk1
  have F1 : SetF w s1.heap S es ep t := F.keep fun o e => hk1 _ _ e
  have hsz1 : s1.heap.objs.size = L + 1 := by rw [hh1, size_push', hL]
  unfold Builtin.List.listExtendWith
  refine wpAny_bind (wpAny_typeOf (T := "set") ⟨_, F1.o, rfl⟩ ?_)
  have h1 : Builtin.List.listSameRef (.ref L) (.ref S) = false := by simp [Builtin.List.listSameRef]; exact Nat.ne_of_gt hSlt
  have h2 : (Value.type "set" == Value.type "list") = false := by decide
  have h3 : (Value.type "set" == Value.type "tuple") = false := by decide
  simp only [h1, h2, h3, Bool.or_false, Bool.false_eq_true, if_false]
  refine wpAny_bind (wpAny_mono (iter_walk (A := A.in1) (E := fun u0 u1 => False) F1) (fun v s2 q => ?_) fun u0 u1 q => q.elim)
  obtain ⟨⟨I, fp, P, St, rfl, W, hfp, hIge, st, hperm⟩, lk2, k2⟩ := q
  have hLf : L ∉ fp := fun q => by rcases hfp L q with e | e; exact Nat.ne_of_gt hSlt e; rw [hsz1] at e; exact Nat.not_succ_le_self L e
  have hL2 := k2 _ _ hL1
  have key : ∀ (s3 : Shared) (c₁ : Nat), St 0 s3.heap → Like s2 s3 → (∀ b o, b ≠ L → s2.heap.get? b = some o → s3.heap.get? b = some o) → s3.heap.get? L = some (lstO #[] c₁) →
      codeAny (model prog w) A (.builtin "list.extend.loop" ⟨[.ref L, .ref I, .ref L], []⟩) (fun r s' => ∃ acc c', r = .ok (.ret (.ref L)) ∧ Like s s' ∧ (∀ b o, s.heap.get? b = some o → s'.heap.get? b = some o) ∧ s'.heap.get? L = some (lstO acc c') ∧ ItemsOf P acc es.size) s3 := by
    intro s3 c₁ hst lk3 k3 hL3
    refine codeAny_extend_loopS (W A.in1 hh).toS hn L hLf (.ref L) es.size 0 _ #[] c₁ rfl (Nat.zero_le _) hst hL3 (ItemsOf.nil _) fun s' acc' c' hm hS' hacc => ?_
    refine ⟨acc', c', rfl, ?_, fun b o e => ?_, hS', hacc⟩
    · have hg : s'.gens = s3.gens := hm.gens
      exact ⟨hg.trans (lk3.g.trans (lk2.g.trans hlike1.g)), hm.os.trans (lk3.o.trans (lk2.o.trans hlike1.o))⟩
    · have hb := Heap.lt_size e
      rw [hL] at hb
      refine hm.heap b o (fun hmem => ?_) (k3 b o (Nat.ne_of_lt hb) (k2 b o (hk1 b o e)))
      rcases List.mem_cons.mp hmem with e' | hmem
      · exact Nat.ne_of_lt hb e'
      · rw [hsz1] at hIge
        exact Nat.ne_of_lt (Nat.lt_of_lt_of_le hb (Nat.le_trans (Nat.le_succ L) hIge)) (List.mem_singleton.mp hmem)
  refine wpAny_bind (wpAny_holding (hint_set ⟨_, k2 _ _ F1.o, rfl⟩ ?_))
  have conv : ∀ {s3 : Shared}, codeAny (model prog w) A (.builtin "list.extend.loop" ⟨[.ref L, .ref I, .ref L], []⟩) (fun r s' => ∃ acc c', r = .ok (.ret (.ref L)) ∧ Like s s' ∧ (∀ b o, s.heap.get? b = some o → s'.heap.get? b = some o) ∧ s'.heap.get? L = some (lstO acc c') ∧ ItemsOf P acc es.size) s3 → ∀ {Q' : Result → Shared → Prop}, (∀ acc c' s', Like s s' → (∀ b o, s.heap.get? b = some o → s'.heap.get? b = some o) → s'.heap.get? L = some (lstO acc c') → ItemsOf P acc es.size → Q' (.ok (.ret (.ref L))) s') → codeAny (model prog w) A (.builtin "list.extend.loop" ⟨[.ref L, .ref I, .ref L], []⟩) Q' s3 := fun hc Q' hq => codeAny_mono hc fun r s' ⟨acc, c', e, a, b, d, f⟩ => by subst e; exact hq acc c' s' a b d f
  have out : ∀ acc c' s', Like s s' → (∀ b o, s.heap.get? b = some o → s'.heap.get? b = some o) → s'.heap.get? L = some (lstO acc c') → ItemsOf P acc es.size → wpAny (model prog w) A (do
      let o ← load L
      match o.data with
      | .seq xs _ => pure xs.toList
      | _ => unsupported "internal:collect") R E s' := fun acc c' s' a b d f => by
    refine wpAny_bind (wpAny_load d ?_)
    exact wpAny_pure (h acc.toList s' a b (hperm acc f))
  refine wpAny_ite_split (fun u0 => ?_) (fun u0 => wpAny_pure ⟨plainId_quiet PySem.F.plain_extend_loop _, conv (key _ 0 st ⟨rfl, rfl⟩ (fun b o u0 e => e) hL2) out⟩)
  refine wpAny_bind (wpAny_rule ?_)
  refine wpAny_bind ?_
  show wpAny _ _ (updateSeq L (·.push .none) >>= fun u0 => updateSeq L (·.pop)) _ _ _
  refine wpAny_bind (wpAny_updateSeq hL2 rfl ?_)
  have hS₂ := Heap.get?_update_self (Obj.mapSeq (·.push Value.none)) hL2 rfl
  refine wpAny_updateSeq (hz := by seq_fits) hS₂ rfl ?_
  have hS₃ := Heap.get?_update_self (Obj.mapSeq (·.pop)) hS₂ rfl
  have oth : ∀ b o, b ≠ L → s2.heap.get? b = some o → ((s2.heap.update L (Obj.mapSeq (·.push Value.none))).update L (Obj.mapSeq (·.pop))).get? b = some o := fun b o hb e => (Heap.get?_update_other _ _ (Ne.symm hb)).trans ((Heap.get?_update_other _ _ (Ne.symm hb)).trans e)
  refine wpAny_pure ⟨plainId_quiet PySem.F.plain_extend_loop _, conv (key { s2 with heap := (s2.heap.update L (Obj.mapSeq (·.push Value.none))).update L (Obj.mapSeq (·.pop)) } _ ?_ ⟨rfl, rfl⟩ oth hS₃) out⟩
  exact (W A hh).frame 0 _ _ st fun b hb o e => oth b o (fun q => hLf (q ▸ hb)) e
end
end
section
open PySem PySem.W PyProof.Rows PySem.Calls
set_option maxRecDepth 100000
set_option linter.unusedVariables false
section
variable {prog : Program} {w : World} {A : Around} {E : Value → Shared → Prop} {s : Shared}
noncomputable def led (w : World) : Bool := !w.params.followText "set-order"
theorem set_loop {R : Result → Shared → Prop} {I : Addr} {fp : List Addr} {n : Nat} {P : Nat → Value → Prop} {St : Nat → Heap → Prop} (W : Walks prog w A.in1 I fp [I] n P St) (S : Addr) (hSf : S ∉ fp) (hSI : S ≠ I) (Inv : Nat → Heap → Prop)
    (hkeep : ∀ i h h', Inv i h → (∀ b o, b ≠ I → h.get? b = some o → h'.get? b = some o) → Inv i h')
    (hadd : ∀ i v (s : Shared), i < n → P i v → Inv i s.heap → ∀ {E : Value → Shared → Prop} {Q : Bool → Shared → Prop}, (∀ h' tk b, Heap.SameBut S s.heap h' → Inv (i + 1) h' → Q b { s with heap := h', toks := tk }) → wpAny (model prog w) A.in1 (setAdd S v) Q E s) :
    ∀ (k i : Nat) (s : Shared), n - i = k → i ≤ n → St i s.heap → Inv i s.heap → (∀ s', Like s s' → s'.drawn = s.drawn → (∀ b o, b ≠ S → b ≠ I → s.heap.get? b = some o → s'.heap.get? b = some o) → Inv n s'.heap → R (.ok (.ret .none)) s') →
      codeAny (model prog w) A (.builtin "set.update.loop" ⟨[.ref S, .ref I], []⟩) R s := by
  intro k
  induction k with
  | zero =>
    intro i s hk hi hst hS hR
    have hin : i = n := by walk_at "o"
    subst hin
    refine codeAny_builtin PyProof.Rows.F.entry_set_update_loop ?_
    rw [Around.under_plainId PyProof.Rows.F.plain_set_update_loop _]
    show wpAny _ A.in1 (pyNext (.ref I) >>= _) _ _ s
    refine wpAny_bind (W.done s _ _ hst fun h' tk hm => ?_)
    show wpAny _ A.in1 (ret Value.none) _ _ _
    exact wpAny_pure (hR { s with heap := h', toks := tk } ⟨rfl, rfl⟩ rfl (fun b o u0 hb e => hm b o (by simp [hb]) e) (hkeep _ _ _ hS fun b o hb e => hm b o (by simp [hb]) e))
  | succ k ih =>
    intro i s hk hi hst hS hR
    have hlt : i < n := by walk_at "o"
    refine codeAny_builtin PyProof.Rows.F.entry_set_update_loop ?_
    rw [Around.under_plainId PyProof.Rows.F.plain_set_update_loop _]
    show wpAny _ A.in1 (pyNext (.ref I) >>= _) _ _ s
    refine wpAny_bind (W.item i s _ _ hlt hst fun v h1 tk1 hP hst1 hm1 => ?_)
    have hk1 : ∀ b o, b ≠ I → s.heap.get? b = some o → h1.get? b = some o := fun b o hb e => hm1 b o (by simp [hb]) e
    show wpAny _ A.in1 (holding [v] (setAdd S v) >>= _) _ _ _
    refine wpAny_bind (wpAny_holding (hadd i v { s with heap := h1, toks := tk1 } hlt hP (hkeep _ _ _ hS hk1) fun h2 tk2 bb sb2 hS2 => ?_))
    have hst2 : St (i + 1) h2 := W.frame _ _ _ hst1 fun b hb o e => (sb2.2 b (fun q => hSf (q ▸ hb))).trans e
    refine wpAny_pure ⟨plainId_quiet PyProof.Rows.F.plain_set_update_loop _, ih (i + 1) { s with heap := h2, toks := tk2 } (by walk_at "o") hlt hst2 hS2 fun s' lk dr hk3 hI3 => ?_⟩
    exact hR s' ⟨lk.g, lk.o⟩ dr (fun b o h1' h2' e => hk3 b o h1' h2' ((sb2.2 b h1').trans (hk1 b o h2' e))) hI3
theorem code_set_new_2 (a : Value) {Q₁ : Value → Shared → Prop}
    (h : Q₁ (.ref s.heap.objs.size) { s with heap := s.heap.push (setO #[] 0 (.fresh 0 0 (led w))) }) :
    codeAny (model prog w) A (.call (.builtin "set.__new__") ⟨[.type "set", a], []⟩) (wants Q₁ E) s := by
  refine codeAny_of_tree ?_
  show wpAny _ A.in1 (do checkBuiltinCall "set.__new__" ⟨[.type "set", a], []⟩; again (.builtin "set.__new__" ⟨[.type "set", a], []⟩)) _ _ s
  refine wpAny_bind (wpAny_of_eq (F.newCall_set_1 a) (wpAny_pure ⟨plainId_quiet F.plain_set_new _, codeAny_builtin F.entry_set_new ?_⟩))
  rw [Around.under_plainId F.plain_set_new _]
  unfold Builtin.«set.__new__» Builtin.Frozenset.newClass
  have hsub := sub_set_self
  obtain ⟨hp, g, d, tk, os⟩ := s
  dsimp only
  wp_walk
  refine wpAny_askSetting (wpAny_pure ?_)
  dsimp only
  simp only [newObj]
  refine wpAny_bind (wpAny_alloc (wpAny_pure ?_))
  exact wpAny_pure h
set_option maxHeartbeats 3200000 in
theorem call_set_tuple {T : Addr} {vs : List Value} {m : Nat} {Q : Value → Shared → Prop} (hh : A.handled = none) (hT : s.heap.get? T = some (seqO "tuple" vs m)) (Inv : Nat → Heap → Prop)
    (hkeep : ∀ i h h', Inv i h → (∀ b o, b ≠ s.heap.objs.size + 1 → h.get? b = some o → h'.get? b = some o) → Inv i h')
    (hadd : ∀ {A' : Around}, A'.units < A.units + 8 → ∀ i v (s' : Shared), i < vs.length → vs[i]? = some v → Inv i s'.heap → ∀ {E : Value → Shared → Prop} {Q : Bool → Shared → Prop}, (∀ h' tk b, Heap.SameBut s.heap.objs.size s'.heap h' → Inv (i + 1) h' → Q b { s' with heap := h', toks := tk }) → wpAny (model prog w) A' (setAdd s.heap.objs.size v) Q E s')
    (h0 : Inv 0 (s.heap.push (setO #[] 0 (.fresh 0 0 (led w)))))
    (h : ∀ (h' : Heap) (tk : Nat), Inv vs.length h' → (∀ b o, s.heap.get? b = some o → h'.get? b = some o) → Q (.ref s.heap.objs.size) { s with heap := h', toks := tk }) :
    wpAny (model prog w) A (call (.type "set") [.ref T]) Q E s := by
  refine ex2_1 F.called_set.mro fun c tl hmro => ?_
  have hmade := F.called_set.made
  have hsub := F.called_set.sub
  refine wpAny_call (codeAny_of_tree ?_)
  show wpAny _ _ (callAny (.type "set") _) _ _ _
  refine wpAny_pure ⟨Code.quiet_builtin _ (by decide +kernel), codeAny_builtin F.entry_type_call ?_⟩
  rw [Around.under_plain (weight_type_call_type "set" [.ref T] []) rfl]
  have h1 := F.called_set.notType
  have h2 := F.called_set.canCreate
  have hct := F.typeCall_set_1 (.ref T)
  repeat (any_goals (first | assumption | wp_step))
  refine codeAny_mono (code_set_new_2 (.ref T) (E := E) (Q₁ := fun obj s₁ => obj = .ref s.heap.objs.size ∧ s₁ = { s with heap := s.heap.push (setO #[] 0 (.fresh 0 0 (led w))) }) ⟨rfl, rfl⟩) fun r s₁ hr => ?_
  cases r with
  | error e => exact hr
  | ok fl =>
    cases fl with
    | ret obj =>
      refine ex0_2 hr fun hr1 hr2 => ?_; subst hr1; subst hr2
      have hS : (s.heap.push (setO #[] 0 (.fresh 0 0 (led w)))).get? s.heap.objs.size = some (setO #[] 0 (.fresh 0 0 (led w))) := Heap.get?_push_size _ rfl
      have hTs : Shared.TypeIs { s with heap := s.heap.push (setO #[] 0 (.fresh 0 0 (led w))) } (.ref s.heap.objs.size) "set" := ⟨_, hS, rfl⟩
      have hli := F.called_set.init.lookup
      have hbi := F.called_set.init.bind (.ref s.heap.objs.size)
      repeat (any_goals (first | assumption | wp_step))
      refine codeAny_mono (codeAny_call_builtin (R := wants (fun r s₂ => r = .none ∧ ∃ h' tk, s₂ = { s with heap := h', toks := tk } ∧ Inv vs.length h' ∧ (∀ b o, s.heap.get? b = some o → h'.get? b = some o)) E) F.called_set.init.plain F.entry_set_init (check_set_init_1 hTs ?_)) fun r₂ s₂ hr₂ => ?_
      · have hol' : (s.heap.push (setO #[] 0 (.fresh 0 0 (led w)))).get? T = some { cls := .type "tuple", dict := none, data := .seq vs.toArray m, slots := #[] } := Heap.get?_push_of_some _ hT
        have hsls := sub_tuple_set
        have hslf := sub_tuple_frozenset
        have hne : (Value.type "tuple" == Value.type "dict") = false := by decide
        have hl1 : (s.heap.push (setO #[] 0 (.fresh 0 0 (led w)))).IsTuple T vs.toArray := ⟨_, hol', rfl, m, rfl⟩
        unfold Builtin.«set.__init__» noKeywords Builtin.Frozenset.updateFrom
        generalize hPI : pyIter = PI
        wp_walk
        subst hPI
        refine wpAny_pyIter_tuple hl1 ?_
        refine wpAny_bind (wpAny_runValue ?_)
        have hz : (s.heap.push (setO #[] 0 (.fresh 0 0 (led w)))).objs.size = s.heap.objs.size + 1 := size_push' _ _
        have hlS : T < s.heap.objs.size := Heap.lt_size hT
        have hgI : ((s.heap.push (setO #[] 0 (.fresh 0 0 (led w)))).push { cls := .type "tuple_iterator", data := .fields #[.ref T, .int 0 0] }).get? (s.heap.objs.size + 1) = some { cls := .type "tuple_iterator", data := .fields #[.ref T, .int 0 0] } := by
          rw [← hz]; exact Heap.get?_push_size _ rfl
        have hsI : s.heap.objs.size ≠ s.heap.objs.size + 1 := Nat.ne_of_lt (Nat.lt_succ_self _)
        dsimp only
        rw [hz]
        refine set_loop (Walks.tuple (A := A.in1.in1.in1) (by simp [hh]) (s.heap.objs.size + 1) T (Nat.ne_of_lt (Nat.lt_succ_of_lt hlS)) vs.toArray) s.heap.objs.size ?_ hsI Inv hkeep (fun i v s' hi hv hI {E Q} hq => hadd ?_ i v s' (by simpa using hi) (by simpa using hv) hI hq) _ 0 _ rfl (Nat.zero_le _) ?_ ?_ ?_
        · simp only [List.mem_cons, List.not_mem_nil, or_false, not_or]
          exact ⟨hsI, Nat.ne_of_gt hlS⟩
        · simp only [Around.in1_units]; walk_at "o"
        · exact ⟨⟨_, hgI, rfl, rfl⟩, ⟨_, Heap.get?_push_of_some _ hol', rfl, m, rfl⟩⟩
        · exact hkeep _ _ _ h0 fun b o hb e => Heap.get?_push_of_some _ e
        · intro s' lk dr hk hI
          obtain ⟨h', g', d', tk', os'⟩ := s'
          have eg : g' = s.gens := lk.g
          have ed : d' = s.drawn := dr
          have eo : os' = s.os := lk.o
          subst eg; subst ed; subst eo
          show wpAny _ _ _ _ _ _
          refine wpAny_pure ?_
          show wpAny _ _ (ret Value.none) _ _ _
          refine wpAny_pure ⟨rfl, h', tk', rfl, by simpa using hI, fun b o e => ?_⟩
          have hb := Heap.lt_size e
          exact hk b o (Nat.ne_of_lt hb) (Nat.ne_of_lt (Nat.lt_succ_of_lt hb)) (Heap.get?_push_of_some _ (Heap.get?_push_of_some _ e))
      · cases r₂ with
        | error e => exact hr₂
        | ok fl₂ =>
          cases fl₂ with
          | ret r =>
            obtain ⟨rfl, h', tk, rfl, hS', hk'⟩ := hr₂
            repeat (any_goals (first | assumption | wp_step))
            exact h _ _ hS' hk'
          | _ => exact hr₂.elim
    | _ => exact hr.elim
end
end
section
open PySem PySem.W PyProof.Rows PySem.Calls
set_option maxRecDepth 100000
set_option linter.unusedVariables false
section
variable {prog : Program} {w : World} {A : Around} {E : Value → Shared → Prop} {s : Shared}
theorem hash_small : ∀ k < 100, hashInt ((k : Nat) : Int) = k := by decide +kernel
structure SetIAt (h : Heap) (S : Addr) (led : Bool) (xs : List (Nat × Value)) : Prop where
  ex : ∃ es ep t, h.get? S = some (setO es ep t) ∧ es.toList.Perm (xs.map fun x => ((x.1 : Int), x.2)) ∧ TabI t es.size ∧ t.led = led ∧ Rise t
  ks : ∀ x ∈ xs, ∃ tk, x.2 = .int x.1 tk
theorem put_fits {t : SetTable} {n j : Nat} (T : TabI t n) : (t.put j).1.fits (n + 1) = true := by
  refine ex0_4 (put_shape t T j) fun q1 q2 q3 u0 => ?_
  simp only [SetTable.fits, SetTable.fill, q1, q2, q3, Bool.and_eq_true, beq_iff_eq, decide_eq_true_eq, List.size_toArray, List.length_nil]
  have := T.l; exact ⟨trivial, by walk_at "o"⟩
theorem scan_absent {S : Addr} {x : Value} {h : Int} : ∀ (l : List (Int × Value)) (i : Nat) {Q : ScanMet → Shared → Prop}, (∀ e ∈ l, e.1 ≠ h) → Q .absent s → wpAny (model prog w) A (setScanFrom S x h true l i) Q E s
  | [], i, Q, _, hq => by unfold setScanFrom; exact wpAny_pure hq
  | (h', y) :: r, i, Q, hl, hq => by
    unfold setScanFrom
    rw [if_neg (by have := hl _ (.head _); simpa using this)]
    exact scan_absent r (i + 1) (fun e he => hl e (.tail _ he)) hq
theorem add_int {S : Addr} {led : Bool} {xs : List (Nat × Value)} {k : Nat} {tok : Tok} {Q : Bool → Shared → Prop} (hS : SetIAt s.heap S led xs) (hk : k < 100) (hks : ∀ y ∈ xs, y.1 < 100) (hne : ∀ y ∈ xs, y.1 ≠ k) (hn : xs.length + 1 ≤ 50)
    (h : ∀ h' tk, Heap.SameBut S s.heap h' → SetIAt h' S led (xs ++ [(k, .int k tok)]) → Q true { s with heap := h', toks := tk }) : wpAny (model prog w) A (setAdd S (.int k tok)) Q E s := by
  obtain ⟨⟨es, ep, t, ho, hp, T, hled, R⟩, hval⟩ := hS
  have hsz : es.size = xs.length := by have := hp.length_eq; rwa [Array.length_toList, List.length_map] at this
  have hbs : byScan (.int k tok) es = true := by
    simp only [byScan, Value.scannable, Bool.true_and, Bool.and_eq_true, decide_eq_true_eq]
    refine ⟨by unfold scanBound; walk_at "o", ?_⟩
    rw [← Array.all_toList, List.all_eq_true]
    intro e he
    refine ex1_2 (List.mem_map.mp (hp.mem_iff.mp he)) fun y hy hr1 => ?_; subst hr1
    refine ex1_1 (hval y hy) fun tk e2 => ?_
    dsimp only; rw [e2]
  have hdiff : ∀ e ∈ es.toList, e.1 ≠ (k : Int) := fun e he => by
    refine ex1_2 (List.mem_map.mp (hp.mem_iff.mp he)) fun y hy hr1 => ?_; subst hr1
    have := hne y hy
    dsimp only; walk_at "o"
  refine ex1_2 (start_hits T.tab (k : Int)) fun K hK hsl => ?_
  have hfree : ∃ j, t.freeSlot (k : Int) = some (j, false) ∧ t.slot j = .empty := by
    unfold SetTable.freeSlot SetTable.probe
    rcases go_ok T.d (fun u0 => (k : Int) + 1) (k : Int) K (t.probeStart k) (10 * SetTable.turns t.mask) rfl hK hsl with ⟨j, e, hj⟩ | ⟨j, i, nx, K2, e, _, hc, _⟩
    · exact ⟨j, by rw [e]; rfl, hj⟩
    · walk_at "o"
  refine ex1_2 hfree fun j hj hje => ?_
  have hpf := put_fits (j := j) T
  have hR1 := put_rise R hje
  refine ex0_7 (put_shape t T j) fun q1 q2 q3 q4 q5 q6 q7 => ?_
  have hlay : layNew t es (k : Int) (.int k tok) = (SetTable.insertAt es (t.put j).2 ((k : Int), .int k tok), (t.put j).1, false, false) := by
    unfold layNew
    rw [hj]
    dsimp only
    have hs1 : (SetTable.insertAt es (t.put j).2 ((k : Int), Value.int k tok)).size = es.size + 1 := by
      rw [← Array.length_toList, (SetTable.insertAt_perm es _ _).length_eq, Array.length_toList, Array.size_push]
    rw [hs1]
    unfold SetTable.orStandIn
    rw [if_pos hpf, hpf]; rfl
  generalize hput : t.put j = pt at q1 q2 q3 q4 q5 q6 q7 hpf hR1 hlay
  obtain ⟨t1, p⟩ := pt
  dsimp only at q1 q2 q3 q4 q5 q6 q7 hpf hR1 hlay
  have hes1 : (SetTable.insertAt es p ((k : Int), Value.int k tok)).toList.Perm ((xs ++ [(k, Value.int k tok)]).map fun x => ((x.1 : Int), x.2)) := by
    refine (SetTable.insertAt_perm es p _).trans ?_
    rw [Array.toList_push, List.map_append]
    exact hp.append (.refl _)
  have hsz1 : (SetTable.insertAt es p ((k : Int), Value.int k tok)).size = es.size + 1 := by
    rw [← Array.length_toList, (SetTable.insertAt_perm es p _).length_eq, Array.length_toList, Array.size_push]
  generalize hE1 : SetTable.insertAt es p ((k : Int), Value.int k tok) = es1 at hes1 hsz1 hlay
  have hG := grow_ok T (t1 := t1) (by walk_at "o") q1 q2 q3 (fun u0 => hR1) (es1.map (·.1)) (by rw [Array.size_map, hsz1])
  have kk : ∀ x ∈ xs ++ [(k, Value.int k tok)], ∃ tk, x.2 = .int x.1 tk := fun x hx => by
    rcases List.mem_append.mp hx with hx | hx
    · exact hval x hx
    · rw [List.mem_singleton] at hx; subst hx; exact ⟨tok, rfl⟩
  unfold setAdd
  refine wpAny_holding (wpAny_bind (wpAny_pyHash_int ?_))
  rw [hash_small k hk]
  have ho' : ({ s with toks := s.toks + 1 } : Shared).heap.get? S = some (setO es ep t) := ho
  generalize hs0 : ({ s with toks := s.toks + 1 } : Shared) = s0 at ho'
  have hh0 : s0.heap = s.heap := by rw [← hs0]
  unfold setAddHashed setAddHashedIn
  refine wpAny_holding (wpAny_bind (wpAny_setState_of ho' rfl T.fits ?_))
  dsimp only
  rw [hbs]
  simp only [if_true]
  unfold setAddByScan
  refine wpAny_bind ?_
  refine wpAny_bind (wpAny_rule ?_)
  refine wpAny_bind ?_
  unfold setScan
  dsimp only
  refine scan_absent es.toList 0 hdiff ?_
  dsimp only
  rw [hlay]
  dsimp only
  have out : ∀ {h' : Heap} {es' : Array (Int × Value)} {ep' : Nat} {t' : SetTable}, Heap.SameBut S s0.heap h' → h'.get? S = some (setO es' ep' t') → es'.toList.Perm es1.toList → TabI t' es'.size → t'.led = t.led → Rise t' → Q true { s0 with heap := h' } := fun {h' es' ep' t'} sb hg hpp hT hl hr => by
    have := h h' (s.toks + 1) (by rw [← hh0]; exact sb) ⟨⟨es', ep', t', hg, hpp.trans hes1, hT, hl.trans hled, hr⟩, kk⟩
    rw [← hs0]; exact this
  have fin : wpAny (model prog w) A (do
      storeSet S es1 t1
      if !false && t1.tooFull then
        let (es, t, gave) := relayAll t1 es1 (SetTable.grown es1.size)
        (match gave with | true => rule "set.scan.the-table-gave-way" | false => pure ())
        storeSet S es t
      return (some true)) (fun r s' => wpAny (model prog w) A (match r with | some added => pure added | none => setAddHashedIn S (.int k tok) k 99999) Q E s') E s0 := by
    refine wpAny_bind (wpAny_storeSet_of ho' rfl ?_ (by rw [hsz1, sizeLine_eq]; walk_at "o"))
    have ho1 := stored_set ho' es1 t1
    have sb1 := Heap.SameBut.update s0.heap S (Obj.putSet es1 t1)
    generalize s0.heap.update S (Obj.putSet es1 t1) = h1 at ho1 sb1
    cases htf : t1.tooFull with
    | false =>
      simp only [Bool.not_false, Bool.and_false, Bool.false_eq_true, if_false]
      exact wpAny_pure (wpAny_pure (out sb1 ho1 (.refl _) (by rw [hsz1]; exact hG.1 htf) q4 hR1))
    | true =>
      obtain ⟨hsa, t3, order, hre, T3, R3, l3, p3, ord⟩ := hG.2 htf
      have hpo : (order.filterMap (es1[·]?)).toList.Perm es1.toList := order_all (by rw [hsz1]; exact ord)
      have hszo : (order.filterMap (es1[·]?)).size = es1.size := by rw [← Array.length_toList, hpo.length_eq, Array.length_toList]
      have hra : relayAll t1 es1 (SetTable.grown es1.size) = (order.filterMap (es1[·]?), t3, false) := by
        unfold relayAll
        rw [hsz1, hre]
        dsimp only
        rw [if_pos]
        rw [Bool.and_eq_true]
        refine ⟨?_, by rw [hszo, hsz1]; exact T3.fits⟩
        unfold coversAll
        exact List.isPerm_iff.mpr ord
      rw [hra]
      simp only [Bool.not_false, Bool.and_true, if_true]
      refine wpAny_bind (wpAny_pure ?_)
      refine wpAny_bind (wpAny_storeSet_of (s := { s0 with heap := h1 }) ho1 rfl ?_ (by rw [hszo, hsz1, sizeLine_eq]; walk_at "o"))
      have ho2 := stored_set ho1 (order.filterMap (es1[·]?)) t3
      have sb2 := Heap.SameBut.update h1 S (Obj.putSet (order.filterMap (es1[·]?)) t3)
      exact wpAny_pure (wpAny_pure (out (sb1.trans sb2) ho2 hpo (by rw [hszo, hsz1]; exact T3) (l3.trans q4) R3))
  refine wpAny_bind (wpAny_pure ?_)
  by_cases hpt : t1.plain = true
  · rw [if_pos hpt]
    refine wpAny_bind ?_
    have e1 : hashByValue 8 (.int k tok) = pure true := by unfold hashByValue; rfl
    rw [e1]
    refine wpAny_pure ?_
    simp only [if_true]
    exact fin
  · rw [if_neg hpt]
    refine wpAny_bind (wpAny_pure ?_)
    simp only [if_true]
    exact fin
end
end
section
open PySem PySem.W PyProof.Rows PySem.Calls
set_option maxRecDepth 100000
set_option linter.unusedVariables false
noncomputable def Ext (s s' : Shared) : Prop := ∀ b o, s.heap.get? b = some o → s'.heap.get? b = some o
section
variable {prog : Program} {w : World} {A : Around} {E : Value → Shared → Prop} {s : Shared} {G : Gh}
theorem LK.ext {h h' : Heap} {l : Lit} {v : Value} (x : LK prog w h l v) (k : ∀ b o, h.get? b = some o → h'.get? b = some o) : LK prog w h' l v := by
  obtain ⟨a, rfl, o, items, n, ho, hc, hd, hi⟩ := x
  exact ⟨a, rfl, o, items, n, k a o ho, hc, hd, hi⟩
theorem take_next {α : Type} {xs : List α} {i : Nat} {x : α} (h : xs[i]? = some x) : xs.take (i + 1) = xs.take i ++ [x] := by
  rw [List.take_add_one, h]; rfl
theorem nodup_take {α β : Type} {f : α → β} {xs : List α} (nd : (xs.map f).Nodup) {i : Nat} {x : α} (h : xs[i]? = some x) : ∀ y ∈ xs.take i, f y ≠ f x := fun y hy e => by
  obtain ⟨j, hj, rfl⟩ := List.getElem_of_mem hy
  rw [List.length_take] at hj
  refine ex1_1 (List.getElem?_eq_some_iff.mp h) fun hi hx => ?_
  have hj' : j < xs.length := by walk_at "o"
  have : (xs.map f)[j]'(by simpa using hj') = (xs.map f)[i]'(by simpa using hi) := by
    rw [List.getElem_map, List.getElem_map, hx, ← e, List.getElem_take]
  have := (List.getElem_inj nd).mp this
  walk_at "o"
theorem set_lits {T : Addr} {ps : List (Lit × Value)} {m : Nat} (hh : A.handled = none) (hu : A.units + 20 < cLine) (hT : s.heap.get? T = some (seqO "tuple" (ps.map (·.2)) m)) (hps : ∀ x ∈ ps, LK prog w s.heap x.1 x.2) (nd : (ps.map (·.1)).Nodup) (hl : ps.length ≤ 48) {Q : Value → Shared → Prop}
    (h : ∀ s1 S es ep t, Like s s1 → Ext s s1 → SetF w s1.heap S es ep t → (es.toList.map (·.2)).Perm (ps.map (·.2)) → Q (.ref S) s1) : wpAny (model prog w) A (call (.type "set") [.ref T]) Q E s := by
  have hnew : (.fresh 0 0 (led w) : SetTable).led = led w := rfl
  have tab0 : TabI (.fresh 0 0 (led w)) 0 := ⟨rfl, rfl, .inl ⟨rfl, by decide⟩⟩
  refine call_set_tuple hh hT (fun i hp => (∀ b o, s.heap.get? b = some o → hp.get? b = some o) ∧ SetLAt prog w hp s.heap.objs.size (led w) (ps.take i)) ?_ ?_ ?_ ?_
  · rintro i h1 h2 ⟨k1, ⟨es, ep, t, ho, r⟩, ks⟩ hk
    have k2 : ∀ b o, s.heap.get? b = some o → h2.get? b = some o := fun b o e => hk b o (Nat.ne_of_lt (Nat.lt_succ_of_lt (Heap.lt_size e))) (k1 b o e)
    exact ⟨k2, ⟨es, ep, t, hk _ _ (Nat.ne_of_lt (Nat.lt_succ_self _)) ho, r⟩, fun x hx => (hps x (List.mem_of_mem_take hx)).ext k2⟩
  · intro A' hA' i v s' hi hv I E Q hq
    refine ex0_2 I fun k1 hS => ?_
    rw [List.length_map] at hi
    have hg : ps[i]? = some ps[i] := List.getElem?_eq_getElem hi
    rw [List.getElem?_map, hg] at hv
    cases hv
    have hx := hps _ (List.getElem_mem hi)
    refine add_lit hS (by walk_at "o") (hx.ext k1) (fun y hy => nodup_take nd hg y hy) (by rw [List.length_take]; walk_at "o") fun h' tk sb hS' => hq h' tk true sb ⟨fun b o e => ?_, ?_⟩
    · exact (sb.2 b (Nat.ne_of_lt (Heap.lt_size e))).trans (k1 b o e)
    · rw [take_next hg]; exact hS'
  · refine ⟨fun b o e => Heap.get?_push_of_some _ e, ⟨#[], 0, _, Heap.get?_push_size _ rfl, by simp, tab0, rfl, fun q => absurd (by simp) q⟩, fun x hx => by simp at hx⟩
  · intro h' tk ⟨k1, ⟨es, ep, t, ho, hp, T', hl', hpl⟩, ks⟩ hk
    rw [List.length_map, List.take_length] at hp hpl
    refine h { s with heap := h', toks := tk } s.heap.objs.size es ep t ⟨rfl, rfl⟩ hk ⟨ho, T'.fits, ?_, hl', fun q => ?_⟩ ?_
    · have := hp.length_eq; rw [Array.length_toList, List.length_map] at this; walk_at "o"
    · by_cases hz : ps = []
      · subst hz
        have h0 : es.size = 0 := by have := hp.length_eq; simpa using this
        have h1 : t.place.toList.length = 0 := by rw [Array.length_toList, T'.p, h0]
        unfold Rise; rw [List.length_eq_zero_iff.mp h1]; exact .nil
      · rw [hpl hz] at q; cases q
    · have := hp.map (·.2)
      rw [List.map_map] at this
      exact this
theorem set_ints {T : Addr} {ps : List (Nat × Value)} {m : Nat} (hh : A.handled = none) (hT : s.heap.get? T = some (seqO "tuple" (ps.map (·.2)) m)) (hps : ∀ x ∈ ps, ∃ tk, x.2 = .int x.1 tk) (nd : (ps.map (·.1)).Nodup) (hl : ps.length ≤ 48) (hb : ∀ x ∈ ps, x.1 < 100) {Q : Value → Shared → Prop}
    (h : ∀ s1 S es ep t, Like s s1 → Ext s s1 → SetF w s1.heap S es ep t → (es.toList.map (·.2)).Perm (ps.map (·.2)) → Q (.ref S) s1) : wpAny (model prog w) A (call (.type "set") [.ref T]) Q E s := by
  have tab0 : TabI (.fresh 0 0 (led w)) 0 := ⟨rfl, rfl, .inl ⟨rfl, by decide⟩⟩
  refine call_set_tuple hh hT (fun i hp => (∀ b o, s.heap.get? b = some o → hp.get? b = some o) ∧ SetIAt hp s.heap.objs.size (led w) (ps.take i)) ?_ ?_ ?_ ?_
  · rintro i h1 h2 ⟨k1, ⟨es, ep, t, ho, r⟩, ks⟩ hk
    have k2 : ∀ b o, s.heap.get? b = some o → h2.get? b = some o := fun b o e => hk b o (Nat.ne_of_lt (Nat.lt_succ_of_lt (Heap.lt_size e))) (k1 b o e)
    exact ⟨k2, ⟨es, ep, t, hk _ _ (Nat.ne_of_lt (Nat.lt_succ_self _)) ho, r⟩, ks⟩
  · intro A' hA' i v s' hi hv I E Q hq
    refine ex0_2 I fun k1 hS => ?_
    rw [List.length_map] at hi
    have hg : ps[i]? = some ps[i] := List.getElem?_eq_getElem hi
    rw [List.getElem?_map, hg] at hv
    cases hv
    refine ex1_1 (hps _ (List.getElem_mem hi)) fun tk0 hx => ?_
    have hbx := hb _ (List.getElem_mem hi)
    have hnd := nodup_take nd hg
    generalize ps[i] = x at hg hx hbx hnd
    obtain ⟨k, v⟩ := x
    dsimp only at hx hbx hnd ⊢
    subst hx
    refine add_int hS hbx (fun y hy => hb y (List.mem_of_mem_take hy)) (fun y hy => hnd y hy) (by rw [List.length_take]; walk_at "o") fun h' tk sb hS' => hq h' tk true sb ⟨fun b o e => ?_, ?_⟩
    · exact (sb.2 b (Nat.ne_of_lt (Heap.lt_size e))).trans (k1 b o e)
    · rw [take_next hg]; exact hS'
  · refine ⟨fun b o e => Heap.get?_push_of_some _ e, ⟨#[], 0, _, Heap.get?_push_size _ rfl, by simp, tab0, rfl, by unfold Rise SetTable.fresh; exact .nil⟩, fun x hx => by simp at hx⟩
  · intro h' tk ⟨k1, ⟨es, ep, t, ho, hp, T', hl', hr⟩, ks⟩ hk
    rw [List.length_map, List.take_length] at hp
    refine h { s with heap := h', toks := tk } s.heap.objs.size es ep t ⟨rfl, rfl⟩ hk ⟨ho, T'.fits, ?_, hl', fun u0 => hr⟩ ?_
    · have := hp.length_eq; rw [Array.length_toList, List.length_map] at this; walk_at "o"
    · have := hp.map (·.2)
      rw [List.map_map] at this
      exact this
theorem repDs_perm {α : Type} {enc : α → D} {vs0 vs : List Value} (p : vs0.Perm vs) : ∀ {xs : List α}, RepDs G vs0 (xs.map enc) → ∃ ys : List α, ys.Perm xs ∧ RepDs G vs (ys.map enc) := by
  induction p with
  | nil => intro xs q; exact ⟨xs, .refl _, q⟩
  | @cons v l1 l2 _ ih =>
    intro xs q
    cases xs with
    | nil => cases q
    | cons x xs =>
      cases q with | cons a q =>
      refine ex1_2 (ih q) fun ys p' r => ?_
      exact ⟨x :: ys, .cons x p', .cons a r⟩
  | swap v u l =>
    intro xs q
    cases xs with
    | nil => cases q
    | cons x xs =>
      cases xs with
      | nil => cases q with | cons a q => cases q
      | cons y xs => cases q with | cons a q => cases q with | cons b q => exact ⟨y :: x :: xs, .swap x y xs, .cons b (.cons a q)⟩
  | trans _ _ ih1 ih2 =>
    intro xs q
    refine ex1_2 (ih1 q) fun ys p1 r1 => ?_
    refine ex1_2 (ih2 r1) fun zs p2 r2 => ?_
    exact ⟨zs, p2.trans p1, r2⟩
theorem sorted_set {α : Type} {enc : α → D} {lt : α → α → Bool} {κ : SortKind} (SK : SortK prog w α enc lt κ) {S : Addr} {es : Array (Int × Value)} {ep : Nat} {t : SetTable} {xs : List α} {vs0 : List Value} {Q : Value → Shared → Prop} (hh : A.handled = none) (F : SetF w s.heap S es ep t) (hp : (es.toList.map (·.2)).Perm vs0)
    (q0 : RepDs G vs0 (xs.map enc)) (nd : xs.Nodup) (hl : xs.length < 64) (hG : ∀ t o, G t = some (true, o) → s.heap.get? t = some o)
    (h : ∀ s' D e vs (ys : List α), Like s s' → Ext s s' → s.heap.get? D = none → s'.heap.get? D = some (seqO "list" vs e) → ys.Perm xs → ys.Pairwise (fun a b => lt a b = true) → RepDs G vs (ys.map enc) → Q (.ref D) s') :
    wpAny (model prog w) A (call (.builtin "sorted") [.ref S]) Q E s := by
  refine call_function_entry kind_sorted plain_sorted entry_sorted (args_sorted1 _) ?_
  unfold Builtin.«sorted»
  refine wpAny_bind (m := checkCount "sorted" 1 1 _) (wpAny_pure ?_)
  refine wpAny_bind (collect_set (A := A.in1) hh F fun vs s1 lk1 k1 hp1 => ?_)
  refine ex1_2 (repDs_perm (hp1.trans hp).symm q0) fun ys p1 q1 => ?_
  have hvl : vs.length = ys.length := by rw [q1.length, List.length_map]
  have hyl : ys.length = xs.length := p1.length_eq
  refine wpAny_bind (wpAny_newList ?_ (by rw [sizeLine_eq]; walk_at "o"))
  show wpAny _ _ _ _ _ { s1 with heap := s1.heap.push (seqObj "list" vs.toArray 0) }
  have hoL : (s1.heap.push (seqObj "list" vs.toArray 0)).get? s1.heap.objs.size = some (seqObj "list" vs.toArray 0) := Heap.get?_push_size _ rfl
  have hne : ∀ b o, s.heap.get? b = some o → b ≠ s1.heap.objs.size := fun b o e => Nat.ne_of_lt (Heap.lt_size (k1 b o e))
  have hn1 : ys.Nodup := p1.nodup_iff.mpr nd
  refine wpAny_bind (wpAny_holding (wpAny_call_entry slot_list_sort ⟨_, hoL, rfl⟩ entry_list_sort (list_sort_wp (lt := ltAt lt ys) hoL (by walk_at "o") (by rw [hvl]; exact SK.strict hn1) (fun h2 h' hk2 => ?_) fun p g as => ⟨_, rfl, ?_⟩) (args_list_sort _)))
  · have hG' : ∀ t o, G t = some (true, o) → h'.get? t = some o := fun t o e => hk2 t o (hne t o (hG t o e)) (Heap.get?_push_of_some _ (k1 t o (hG t o e)))
    refine ⟨κ, fun Q hQ => SK.kind q1 hG' (by walk_at "o") hQ, ?_⟩
    rw [hvl]
    exact SK.sound q1 hG'
  · refine ex1_1 (sortedHeap_at (n := 0) (out := List.toArray (p.toList.map fun i => vs.getD i Value.none)) (vs := vs) hoL) fun e he => ?_
    rw [hvl] at g as
    refine ex1_3 (SortK.out q1 g as) fun zs z1 z2 z3 => ?_
    have hkk : ∀ b o, s.heap.get? b = some o → (sortedHeap (s1.heap.push (seqObj "list" vs.toArray 0)) s1.heap.objs.size vs (List.toArray (p.toList.map fun i => vs.getD i Value.none))).get? b = some o := fun b o eb => by
      rw [sortedHeap_old (hne b o eb) (Heap.lt_size (Heap.get?_push_of_some _ (k1 b o eb)))]
      exact Heap.get?_push_of_some _ (k1 b o eb)
    have hnone : s.heap.get? s1.heap.objs.size = none := by
      cases q : s.heap.get? s1.heap.objs.size with
      | none => rfl
      | some o => exact absurd rfl (hne _ o q)
    have key := h { s1 with heap := sortedHeap (s1.heap.push (seqObj "list" vs.toArray 0)) s1.heap.objs.size vs (List.toArray (p.toList.map fun i => vs.getD i Value.none)) } s1.heap.objs.size e _ zs ⟨lk1.g, lk1.o⟩ hkk hnone he (z1.trans p1) z2 z3
    exact wpAny_pure ⟨_, rfl, key⟩
end
end
section
open PySem PySem.W PyProof.Rows PySem.Calls
set_option maxRecDepth 100000
set_option linter.unusedVariables false
section
variable {c : Ctx} {n : Nat} {env : Env} {ρ : Loc} {st : St} {names : List (Str × NameKind)} {G : Gh} {s s' : Shared}
theorem Conc.like (C : Conc c G st s) (lk : Like s s') (k : Ext s s') : Conc c G st s' := by
  have C' := C.ext (h' := s'.heap) k s'.toks
  exact ⟨C'.base, C'.fz, C'.own, C'.free, C'.apart, lk.g.trans C.gens, lk.o.trans C.os⟩
structure MkSet (c : Ctx) (xs : List D) : Prop where
  run : ∀ {n : Nat} {A : Around} {E : Value → Shared → Prop} {G : Gh} {st : St} {s : Shared} {T : Addr} {vs : List Value} {m : Nat} {Q : Value → Shared → Prop}, Room n A → Conc c G st s → G T = some (true, seqO "tuple" vs m) → RepDs G vs xs →
    (∀ s1 S es ep t, Like s s1 → Ext s s1 → SetF c.w s1.heap S es ep t → (es.toList.map (·.2)).Perm vs → Q (.ref S) s1) → wpAny (model c.prog c.w) A (call (.type "set") [.ref T]) Q E s
theorem zip_fst {α β : Type} : ∀ {xs : List α} {ys : List β}, xs.length = ys.length → (xs.zip ys).map (·.1) = xs
  | [], _, _ => rfl
  | x :: xs, [], h => by simp at h
  | x :: xs, y :: ys, h => by rw [List.zip_cons_cons, List.map_cons, zip_fst (by simpa using h)]
theorem zip_snd {α β : Type} : ∀ {xs : List α} {ys : List β}, xs.length = ys.length → (xs.zip ys).map (·.2) = ys
  | [], [], _ => rfl
  | [], y :: ys, h => by simp at h
  | x :: xs, [], h => by simp at h
  | x :: xs, y :: ys, h => by rw [List.zip_cons_cons, List.map_cons, zip_snd (by simpa using h)]
theorem rep_zip {α : Type} {enc : α → D} : ∀ {xs : List α} {vs : List Value}, RepDs G vs (xs.map enc) → ∀ x ∈ xs.zip vs, RepD G x.2 (enc x.1)
  | [], _, _, x, h => by simp at h
  | a :: xs, v :: vs, .cons r q, x, h => by
    rw [List.zip_cons_cons] at h
    rcases List.mem_cons.mp h with rfl | h
    · exact r
    · exact rep_zip q x h
theorem MkSet.lits {ls : List Lit} (nd : ls.Nodup) (hl : ls.length ≤ 48) : MkSet c (ls.map litD) := ⟨fun {n A E G st s T vs m Q} R C hT q h => by
  have hlen : ls.length = vs.length := by have := q.length; rw [List.length_map] at this; exact this.symm
  refine set_lits (ps := ls.zip vs) (m := m) R.handled (by have := R.units; walk_at "o") (by rw [zip_snd hlen]; exact C.fz _ _ hT) (fun x hx => ?_) (by rw [zip_fst hlen]; exact nd) (by walk_at "m") fun s1 S es ep t a b d e => h s1 S es ep t a b d (by rw [zip_snd hlen] at e; exact e)
  have r := rep_zip q x hx
  refine ex5_2 (repLit r) fun t u0 u1 u2 u3 hv u4 => ?_
  rw [hv] at r ⊢
  exact ⟨t, rfl, isKey C (k := litK x.1) r⟩⟩
theorem MkSet.nats {us : List Nat} (nd : us.Nodup) (hl : us.length ≤ 48) (hb : ∀ k ∈ us, k < 100) : MkSet c (us.map natD) := ⟨fun {n A E G st s T vs m Q} R C hT q h => by
  have hlen : us.length = vs.length := by have := q.length; rw [List.length_map] at this; exact this.symm
  refine set_ints (ps := us.zip vs) (m := m) R.handled (by rw [zip_snd hlen]; exact C.fz _ _ hT) (fun x hx => ?_) (by rw [zip_fst hlen]; exact nd) (by walk_at "m") (fun x hx => hb _ (List.of_mem_zip (a := x.1) (b := x.2) hx).1) fun s1 S es ep t a b d e => h s1 S es ep t a b d (by rw [zip_snd hlen] at e; exact e)
  have r := rep_zip q x hx
  unfold natD at r
  generalize x.2 = v at r ⊢
  cases r with | int _ tk => exact ⟨tk, rfl⟩⟩
theorem AWE_SortedSet {α : Type} {enc : α → D} {lt : α → α → Bool} {κ : SortKind} {e : Expr} {xs : List α} {p p' pos pos' : Pos} {K : V → St → Prop} (SK : SortK c.prog c.w α enc lt κ) (P : Prg c) (EK : EnvK env names) (hk1 : names.lookup ("sorted" : Str) = some .globalImplicit) (hk2 : names.lookup ("set" : Str) = some .globalImplicit)
    (hn1 : nsIn (KF c.w.params) mainGlobals ("sorted" : Str) = some none) (hn2 : nsIn (KF c.w.params) mainGlobals ("set" : Str) = some none) (mk : MkSet c (xs.map enc)) (nd : xs.Nodup) (hl : xs.length < 64)
    (h : EV c n env ρ st e (.d (.tup (xs.map enc)))) (k : ∀ ys : List α, ys.Perm xs → ys.Pairwise (fun a b => lt a b = true) → K (.d (.lst (ys.map enc))) st)
    (hs1 : starEach [e] env = (false, eval e env) :: starEach [] env := by rfl) (hs2 : starEach [.Call (.Name "set" p') [e] [] pos'] env = (false, eval (.Call (.Name "set" p') [e] [] pos') env) :: starEach [] env := by rfl) :
    AWE c n env ρ st (.Call (.Name "sorted" p) [.Call (.Name "set" p') [e] [] pos'] [] pos) K := fun A G s R C F => by
  refine Call_ (eval_builtin P.ok C F (EK.g hk1) (P.glob hn1) boot_sorted (by decide) (PyProof.Rows.callWith_builtin1 (args_cons ?_ hs2) hs2 (by rfl)))
  refine Call_ (eval_builtin P.ok C F (EK.g hk2) (P.glob hn2) boot_set (by decide) (PyProof.Rows.callWith_type1 (args_cons ?_ hs1) hs1 (by rfl)))
  refine AWE.then h.run R C F fun v s1 G1 st1 x l1 C1 F1 r1 ⟨ex, es⟩ => args_nil ?_
  subst ex es
  cases r1 with | d r1 =>
  cases r1 with
  | @tup T vs m _ hT q =>
  refine mk.run R C1 hT q fun s2 S es ep t lk2 k2 F2 hp => args_nil ?_
  have C2 := C1.like lk2 k2
  have Fr2 := F1.grow C1 (h' := s2.heap) fun b o u0 e => k2 b o e
  refine wpAny_mono (lift C2 Fr2 fun G2 l2 C3 => sorted_set SK R.handled F2 hp (q.mono l2.seq) nd hl (fun t o e => C3.fz _ _ e) fun s3 D e vs3 ys lk3 k3 hD hD3 p3 pw3 q3 => ?_) (fun u0 u1 q => q.le l1) fun u0 u1 q => q
  have C4 := C3.like lk3 k3
  refine ex1_4 (C4.settle (C3.ownOf hD) hD3) fun G5 l5 C5 e5 u0 => ?_
  exact ⟨G5, st1, _, l5, C5, .d (.lst e5 (q3.mono l5.seq)), k ys p3 pw3⟩
end
end
section
open PySem PySem.W PyProof.Rows PySem.Calls
set_option maxRecDepth 100000
set_option linter.unusedVariables false
set_option maxHeartbeats 2000000

section
variable {c : Ctx} {n : Nat} {env : Env} {ρ : Loc} {st : St} {names : List (Str × NameKind)}
theorem EV.sortedSetN {e : Expr} {us : List Nat} {p p' pos pos' : Pos} (P : Prg c) (EK : EnvK env names) (hk1 : names.lookup ("sorted" : Str) = some .globalImplicit) (hk2 : names.lookup ("set" : Str) = some .globalImplicit) (hs : us.Pairwise (· < ·)) (hl : us.length ≤ 48) (hb : ∀ k ∈ us, k < 100)
    (h : EV c n env ρ st e (.d (.tup (us.map natD)))) (hs1 : starEach [e] env = (false, eval e env) :: starEach [] env := by rfl) : EV c n env ρ st (.Call (.Name "sorted" p) [.Call (.Name "set" p') [e] [] pos'] [] pos) (.d (.lst (us.map natD))) := by
  have nd : us.Nodup := List.Pairwise.imp (fun {a b} hab (e : a = b) => by walk_at "o") hs
  exact ⟨AWE_SortedSet sortK_nat P EK hk1 hk2 (by rfl) (by rfl) (MkSet.nats nd hl hb) nd (by walk_at "o") h (fun ys py oy => ⟨by rw [sortN_of py (oy.imp fun h => of_decide_eq_true h), ← sortN_of (.refl us) hs], rfl⟩) hs1⟩
theorem EV.sortedSetL {e : Expr} {ls : List Lit} {p p' pos pos' : Pos} (P : Prg c) (EK : EnvK env names) (hk1 : names.lookup ("sorted" : Str) = some .globalImplicit) (hk2 : names.lookup ("set" : Str) = some .globalImplicit) (hs : ls.Pairwise litLt) (hl : ls.length ≤ 48)
    (h : EV c n env ρ st e (.d (.tup (ls.map litD)))) (hs1 : starEach [e] env = (false, eval e env) :: starEach [] env := by rfl) : EV c n env ρ st (.Call (.Name "sorted" p) [.Call (.Name "set" p') [e] [] pos'] [] pos) (.d (.lst (ls.map litD))) := by
  have nd := sorted_nodup hs
  exact ⟨AWE_SortedSet sortK_lit P EK hk1 hk2 (by rfl) (by rfl) (MkSet.lits nd hl) nd (by walk_at "o") h (fun ys py oy => ⟨by rw [sortL_of py (oy.imp fun h => of_decide_eq_true h), ← sortL_of (.refl ls) hs], rfl⟩) hs1⟩
theorem FV.listT {xs : List D} (hl : xs.length ≤ 1000) : FV c n st (.type "list") [.d (.tup xs)] (.d (.lst xs)) := ⟨OpF_list hl ⟨rfl, rfl⟩⟩
theorem w_Analyst (P : Prg c) {L : SLoc} {t : Sto} {K : V → St → Prop} (s : SAt st L t) (hn : 2 ≤ n) (h : ∀ a st', AAt st' L t a [] [] → Sub st st' → (∀ x ∈ a.all, st x = none) → K (.o a.A) st') : AWC c n (.ref 249) [.o L.S] st K := by
  refine ex1_1 (show ∃ k, n = k + 1 from ⟨n - 1, by walk_at "o"⟩) fun k hr1 => ?_; subst hr1
  refine AWC_cls P.ok (mk_an P) fun x dx hx => ?_
  rw [attrs_nil]
  refine AWC_fn (L := 0) (pn := ["self", "store"]) (P.fn (st := meth 22 0) rfl rfl (by rfl)) rfl (by walk_at "o") fun m env hm E EK => ?_
  have I0 : InitAt st 249 x dx 0 [] [] (st.set x (.inst 249 dx 0 (attrsOf []))) := ⟨St.set_same _ _ _, fun p hp => by simp at hp, Sub.set hx, fun p hp => by simp at hp, by simp, hx⟩
  refine AWX_cons (AWS_InitV (p := .o L.S) P I0 (by walk_at "v") (fun u0 => by walk_at "v") (cls_an P) (by rfl) (by decide) (k' := 1) rfl fun s1 I1 => ?_)
  refine AWX_cons (AWS_InitDT P I1 (fun u0 => by walk_at "v") (cls_an P) (by rfl) (Nat.le_of_ble_eq_true rfl) (k' := 2) rfl fun f ep s2 I2 => ?_)
  refine AWX_cons (AWS_InitDI P I2 (fun u0 => by walk_at "v") (cls_an P) (by rfl) (Nat.le_of_ble_eq_true rfl) (k' := 3) rfl fun u ep2 s3 I3 => ?_)
  have hfr : ∀ y ∈ (⟨x, dx, f, u⟩ : ALoc).all, st y = none := fun y hy => by
    simp only [ALoc.all, List.mem_cons, List.not_mem_nil, or_false] at hy
    rcases hy with rfl | rfl | rfl
    · exact hx
    · exact I3.fr (_, .dT ep []) (.tail _ (.head _))
    · exact I3.fr (_, .dI ep2 []) (.head _)
  refine ex2_2 s.N fun e0 es0 hN hNl => ?_
  refine AWX_nil ⟨rfl, h ⟨x, dx, f, u⟩ s3 ⟨⟨I3.sub _ _ s.S, I3.sub _ _ s.D, I3.sub _ _ s.F, I3.sub _ _ s.T, I3.sub _ _ s.M, ⟨e0, es0, I3.sub _ _ hN, hNl⟩, s.nd⟩, I3.I, ⟨ep, I3.O (f, .dT ep []) (.tail _ (.head _))⟩, ⟨ep2, I3.O (u, .dI ep2 []) (.head _)⟩, ?_, fun y hy hy2 => ?_⟩ I3.sub hfr⟩
  · exact (((List.reverse_perm [f, u]).symm).cons x).nodup_iff.mpr I3.nd
  · exact s.some y hy (hfr y hy2)
theorem w_right (P : Prg c) {L : SLoc} {t : Sto} {us : List Nat} (s : SAt st L t) (htl : t.tr.length ≤ 9) (hs : us.Pairwise (· < ·)) (hu : ∀ k ∈ us, ∃ e, t.tr[k]? = some e ∧ e.rs ≠ none) (hn : 1 ≤ n) : CV c n st (.ref 441) [.o L.S, .d (.tup (us.map natD))] (.d (.bool true)) := by
  refine ⟨AWC_fn (L := 0) (pn := ["store_now", "used"]) (P.fn (st := top 31) rfl rfl (by rfl)) rfl hn fun m env hm E EK => ?_⟩
  have hlt : ∀ k ∈ us, k < t.tr.length := fun k hk => by obtain ⟨e, he, _⟩ := hu k hk; exact (List.getElem?_eq_some_iff.mp he).1
  have nd : us.Nodup := List.Pairwise.imp (fun {a b} hab (e : a = b) => by walk_at "o") hs
  have hul : us.length ≤ 9 := by
    have := nodup_sub_len (ys := List.range t.tr.length) nd fun k hk => List.mem_range.mpr (hlt k hk)
    rw [List.length_range] at this; walk_at "o"
  refine AWX_cons (AWS_IfV (q := false) ?_ (fun hq => nomatch hq) fun u0 => AWX_nil ?_)
  · refine EVT.cmp (x := .d (.lst (us.map natD))) (y := .d (.lst (us.map natD))) ?_ (EV.sortedSetN P EK (by rfl) (by rfl) hs (by walk_at "o") (fun k hk => by have := hlt k hk; walk_at "o") (by walk_at "v")) ?_
    · refine EV.callT (by assumption) (by assumption) (by rfl) (by rfl) (by walk_at "bt") (EVL.cons (x := .d (.tup (us.map natD))) (by walk_at "v") EVL.nil) (FV.listT (by walk_at "m"))
    · exact CmpV.neb (k := 1) (m := 1) (.lst fun x hx => by obtain ⟨k, _, rfl⟩ := List.mem_map.mp hx; exact .int _) (.lst fun x hx => by obtain ⟨k, _, rfl⟩ := List.mem_map.mp hx; exact .int _) (by decide) (by decide) ⟨(fun e => nomatch e), fun e => absurd rfl e⟩
  refine AWX_cons (AWS_Ret (x := .d (.bool true)) ?_ ⟨rfl, rfl⟩)
  have hf : (us.filter fun u0 => false).isEmpty = true := by simp
  rw [← hf]
  refine EV.cmp (EV.comp1 (xs := us) (enc := natD) (p := fun u0 => false) (g := natD) E (by rfl) rfl (v := .d (.tup (us.map natD))) (by walk_at "v") IV.tup (by walk_at "o") fun k hk => ⟨fun env' ρ' EK' A => ?_⟩) (EV.lst EVL.nil rfl rfl) (CmpV.emptyL (k := 0) (fun x u0 => .int _) (by decide))
  refine ex1_2 (hu k hk) fun e he hrs => ?_
  have hself : upd ρ' "k" (.d (natD k)) "store_now" = some (.o L.S) := by
    apply nm_ne; focus decide
    exact (A _ (by rfl)).trans (by rfl)
  refine AWA_Name (EK'.keeps (by rfl)) ⟨rfl, A.upd (by rfl), ?_, fun q => nomatch q⟩
  refine EVT.or (a := false) (b := false) (EVT.not (b := true) ⟨AWT_Chain2 (EV.use EV.int (EV.use (x := .d (.int k)) (by walk_at "v") (OpC_le ⟨_, rfl, ?_⟩)))⟩) fun u0 => EVT.or (a := false) (b := false) ?_ fun u0 => EVT.orNil
  · rw [if_pos (decide_eq_true (by walk_at "o"))]
    refine EV.use (x := .d (.int t.tr.length)) ?_ (OpC_lt ⟨_, rfl, ?_⟩)
    · refine EV.callB (by assumption) (by assumption) (by rfl) (by rfl) (by walk_at "bt") (EVL.cons (x := .o L.aT) (EV.attr P (EV.nm (by assumption) (by rfl) hself) s.S (cls_store P) (by rfl) rfl) EVL.nil) ?_
      have := FV.lenL (c := c) (n := m) (IsL.obj s.T) (by walk_at "m")
      rw [List.length_map] at this; exact this
    · exact ⟨decide_eq_true (by have := hlt k hk; walk_at "o"), rfl⟩
  · have : (match rsD e.rs with | .none => true | _ => false) = false := by cases q : e.rs with | none => exact absurd q hrs | some r => rfl
    rw [← this]
    refine EVT.cmp (EV.sub (x := .d (entD e)) (EV.sub (EV.attr P (EV.nm (by assumption) (by rfl) hself) s.S (cls_store P) (by rfl) rfl) (by walk_at "v") (GV.mlst s.T (by rw [List.getElem?_map, he]; rfl) (by have := hlt k hk; walk_at "o"))) EV.int GV.lit3) EV.none CmpV.isNone

end
end
section
open PySem PySem.W PyProof.Rows PySem.Calls
set_option maxRecDepth 100000
set_option linter.unusedVariables false
set_option maxHeartbeats 2000000

section
variable {c : Ctx} {n : Nat} {env : Env} {ρ : Loc} {st : St} {names : List (Str × NameKind)}
noncomputable def stepR (tr : List Ent) (k : Nat) : Rule := match tr[k]? with
  | some e => (e.rs.getD [], e.lit)
  | none => ([], ⟨0, .ne, 0⟩)
noncomputable def holdsAt (p : Int × Int × Int) (r : Rule) : Bool := !((r.1.all fun l => isMet l (ptF p l.x)) && !isMet r.2 (ptF p r.2.x))
theorem holdsAt_ok {p : Int × Int × Int} {r : Rule} (h : holdsAt p r = true) : ruleOK (ptF p) r := fun hs => by
  unfold holdsAt at h
  have : (r.1.all fun l => isMet l (ptF p l.x)) = true := List.all_eq_true.mpr hs
  rw [this] at h
  simpa [sat] using h
theorem pts_pt : ∀ p ∈ pts, Pt (ptF p) := by
  have h : pts.all (fun p => decide (0 ≤ p.1) && decide (p.1 ≤ 3) && decide (0 ≤ p.2.1) && decide (p.2.1 ≤ 3) && decide (0 ≤ p.2.2) && decide (p.2.2 ≤ 3)) = true := by decide +kernel
  intro p hp x
  have := List.all_eq_true.mp h p hp
  simp at this
  match x with
  | 0 => exact ⟨this.1.1.1.1.1, this.1.1.1.1.2⟩
  | 1 => exact ⟨this.1.1.1.2, this.1.1.2⟩
  | _ + 2 => exact ⟨this.1.2, this.2⟩
theorem clash_at {rules : List Rule} {t : Sto} (T : RT rules t) (F : Failed rules t.tr t.clash) : ∀ l ∈ t.clash, U4 l ∧ l.x < 3 ∧ ∃ i, spotOf t.tr l = some i := fun l hl => by
  refine ex0_3 (F.at' l hl) fun u x3 h => ?_
  refine ex1_2 (spot_of_holds T.R.S u.u6 (Nat.le_refl _) h) fun i hi u0 => ?_
  exact ⟨u, x3, i, hi⟩
section
variable {rules : List Rule} {t : Sto} {fr : Front} {us : List Nat}
theorem point_law (T : RT rules t) (F : Failed rules t.tr t.clash) (I : LI t.tr t.clash fr us) {p : Int × Int × Int} (hp : p ∈ pts) (hcl : ((clauseOf fr).filter fun l => isMet l (ptF p l.x)).isEmpty = true) :
    (rules.filter fun r => !holdsAt p r).isEmpty = false ∧ ((t.clash.all fun l => isMet l (ptF p l.x)) = false → (((sortN us).map (stepR t.tr)).filter fun r => !holdsAt p r).isEmpty = false) := by
  have hP := pts_pt p hp
  have hfr : ∀ e ∈ fr, sat e.1 (ptF p) := clause_says I.F fun c hc hs => by
    have := List.filter_eq_nil_iff.mp (List.isEmpty_iff.mp hcl) c hc
    exact this hs
  constructor
  · cases q : (rules.filter fun r => !holdsAt p r).isEmpty with
    | false => rfl
    | true =>
      exfalso
      rw [filter_none, List.all_eq_true] at q
      have hall : ∀ r ∈ rules, ruleOK (ptF p) r := fun r hr => holdsAt_ok (q r hr)
      refine F.no hall (I.sem _ hP hfr fun k hk e he hs => ?_)
      refine ex1_2 (I.uat k hk) fun e' he' hrs => ?_
      rw [he] at he'; cases he'
      refine ex1_1 (Option.ne_none_iff_exists'.mp hrs) fun rs hrs' => ?_
      have hm := T.R.R e (List.mem_of_getElem? he) rs hrs'
      exact hall _ hm (by rw [hrs'] at hs; exact hs)
  · intro hb
    cases q : (((sortN us).map (stepR t.tr)).filter fun r => !holdsAt p r).isEmpty with
    | false => rfl
    | true =>
      exfalso
      rw [filter_none, List.all_eq_true] at q
      have := I.sem _ hP hfr fun k hk e he hs => by
        have hk' : stepR t.tr k ∈ (sortN us).map (stepR t.tr) := List.mem_map_of_mem ((sortN_perm us).mem_iff.mpr hk)
        have h1 := holdsAt_ok (q _ hk')
        unfold stepR at h1
        rw [he] at h1
        exact h1 hs
      have h2 : (t.clash.all fun l => isMet l (ptF p l.x)) = true := List.all_eq_true.mpr this
      rw [h2] at hb; cases hb
end

end
end
section
open PySem PySem.W PyProof.Rows PySem.Calls
set_option maxRecDepth 100000
set_option linter.unusedVariables false
set_option maxHeartbeats 2000000

section
variable {c : Ctx} {n : Nat} {env : Env} {ρ : Loc} {st : St} {names : List (Str × NameKind)}
theorem OK_ints {k : Nat} (x : D) (hx : x ∈ List.replicate k (D.int (-1)) ++ [D.int 0]) : OK 0 x := by
  rcases List.mem_append.mp hx with h | h
  · rw [List.eq_of_mem_replicate h]; exact .int _
  · rw [List.mem_singleton] at h; rw [h]; exact .int _
theorem OK_up {k : Nat} {x : D} (h : OK k x) : OK (k + 1) x := by
  induction h with
  | none => exact .none
  | int i => exact .int i
  | str h => exact .str h
  | tup _ ih => exact .tup ih
  | lst _ ih => exact .lst ih
theorem OK_rule (r : Rule) : OK 4 (ruleD r) := .tup fun x hx => by
  simp only [List.mem_cons, List.not_mem_nil, or_false] at hx
  rcases hx with rfl | rfl
  · exact .tup fun y hy => by obtain ⟨l, _, rfl⟩ := List.mem_map.mp hy; exact OK_up (OK_lit l)
  · exact OK_up (OK_up (OK_lit r.2))
noncomputable def ilG (S r : Addr) (cl : List Lit) (lev : Nat) (us : List Nat) : List (Str × V) := [("store_now", .o S), ("rules", .o r), ("clause", .d (.tup (cl.map litD))), ("level", .d (natD lev)), ("used", .d (.tup (us.map natD)))]
noncomputable def ilI (S r : Addr) (cl : List Lit) (lev : Nat) (steps : List Rule) (clash : List Lit) : List (Str × V) := [("store_now", .o S), ("rules", .o r), ("clause", .d (.tup (cl.map litD))), ("level", .d (natD lev)), ("steps", .d (.lst (steps.map ruleD))), ("barred", .d (.tup (clash.map litD)))]
noncomputable def ilJ (S : Addr) (cl : List Lit) (lev : Nat) : List (Str × V) := [("store_now", .o S), ("clause", .d (.tup (cl.map litD))), ("level", .d (natD lev))]
theorem w_isLearnt (P : Prg c) {L : SLoc} {t : Sto} {r : Addr} {rules : List Rule} {K : V → St → Prop} (s : SAt st L t) (T : RT rules t) (OK' : RulesOK rules) (F : Failed rules t.tr t.clash) (hcl48 : t.clash.length ≤ 20) (hr : st r = some (.lst (rules.map ruleD))) (hrL : r ∉ L.all) (hn : 10 ≤ n)
    (h : ∀ st', K (.d (.bool true)) st') : AWC c n (.ref 446) [.o L.S, .o r] st K := by
  refine AWC_fn (L := 9) (pn := ["store_now", "rules"]) (P.fn (st := top 32) rfl rfl (by rfl)) rfl hn fun m env hm E EK => ?_
  have hl9 := T.R.len
  have hm9 := T.R.mlen
  refine AWX_cons (AWS_AssignTup (AWE_CallM0 P.ok (AWE_CallC P.ok (EK.g (by rfl)) (P.glob (by rfl)) (by rw [P.K]; rfl) (EVL.use (x := [.o L.S]) (by walk_at "v") (w_Analyst P s (by walk_at "o") fun a st1 W1 hsub hfr => ⟨a.A, 249, a.dx, 3, attrsOf (aList L a), 246, rfl, W1.A, rfl, cls_an P, by rw [P.K]; rfl, by rw [P.K]; rfl, P.isFn (by rfl), w_learn P W1 T.sb (start_ok T.R F) (clash_at T F) (by walk_at "o") fun x st2 hx s2 hk2 => ?_⟩)))) (by rfl) (by rfl))
  obtain ⟨fr, us, lvs, I, Dn, hp, hpw, rfl⟩ := hx
  have hr2 : st2 r = some (.lst (rules.map ruleD)) := hk2 r (fun q => by
    rw [List.mem_singleton] at q
    have := hfr r (by rw [q]; simp [ALoc.all])
    rw [hr] at this; cases this) _ (hsub _ _ hr)
  refine ex0_4 (learnt_ok Dn hp hpw) fun A1 A2 A3 A4 => ?_
  have hlaw := fun (p : Int × Int × Int) (hp : p ∈ pts) hc => point_law T F I hp hc
  have hcl : (clauseOf fr).length ≤ 48 := by
    have h1 : (kept fr).length ≤ (sortL (keys fr)).length := List.length_filter_le _ _
    rw [(sortL_perm _).length_eq] at h1
    unfold clauseOf; rw [(sortL_perm _).length_eq, List.length_map]
    have := I.F.len; unfold keys at h1; rw [List.length_map] at h1; walk_at "o"
  have hus : (sortN us).Pairwise (· < ·) := sortN_sorted I.und
  have huat : ∀ k ∈ sortN us, ∃ e, t.tr[k]? = some e ∧ e.rs ≠ none := fun k hk => I.uat k ((sortN_perm us).mem_iff.mp hk)
  have hul : (sortN us).length ≤ 9 := by rw [(sortN_perm us).length_eq]; have := I.ulen; walk_at "o"
  generalize clauseOf fr = cl at A1 A2 A3 A4 hlaw hcl
  generalize sortN us = us' at hus huat hul hlaw
  generalize backTo lvs = lev at A3 A4
  refine AWA_T3 EK (by rfl) (by rfl) (by rfl) ?_
  refine AWX_gen (l := ilG L.S r cl lev us') (by walk_at "has") fun ρ H => ?_
  have hlst : EV c m env ρ st2 (.Call (.Name "list" ⟨0,0,0,0⟩) [.Name "clause" ⟨0,0,0,0⟩] [] ⟨0,0,0,0⟩) (.d (.lst (cl.map litD))) := by
    refine EV.callT (by assumption) (by assumption) (by rfl) (by rfl) (by walk_at "bt") (EVL.cons (x := .d (.tup (cl.map litD))) (by walk_at "v") EVL.nil) (FV.listT (by walk_at "m"))
  clear hlst
  refine AWX_cons (AWS_IfV (q := false) ?_ (fun hq => nomatch hq) fun u0 => AWX_nil ?_)
  · refine EVT.or (a := false) (b := false) (EVT.not (b := true) (EVT.val (EV.callG (by assumption) (by assumption) (by rfl) (by rfl) (by rfl) (EVL.cons (x := .o L.S) (by walk_at "v") (EVL.cons (x := .d (.tup (us'.map natD))) (by walk_at "v") EVL.nil)) (w_right P s2 hl9 hus huat (by walk_at "o"))))) fun u0 => EVT.or (a := false) (b := false) ?_ fun u0 => EVT.orNil
    refine EVT.cmp (x := .d (.lst (cl.map litD))) (y := .d (.lst (cl.map litD))) ?_ (EV.sortedSetL P EK (by rfl) (by rfl) A2 hcl (by walk_at "v")) ?_
    · refine EV.callT (by assumption) (by assumption) (by rfl) (by rfl) (by walk_at "bt") (EVL.cons (x := .d (.tup (cl.map litD))) (by walk_at "v") EVL.nil) (FV.listT (by walk_at "m"))
    · exact CmpV.neb (k := 2) (m := 2) (.lst fun x hx => by obtain ⟨k, _, rfl⟩ := List.mem_map.mp hx; exact OK_lit _) (.lst fun x hx => by obtain ⟨k, _, rfl⟩ := List.mem_map.mp hx; exact OK_lit _) (by decide) (by decide) ⟨(fun e => nomatch e), fun e => absurd rfl e⟩
  refine AWX_cons (AWS_IfV (q := !(cl.filter fun u0 => false).isEmpty) ?_ (fun hq => by simp at hq) fun u0 => AWX_nil ?_)
  · refine EVT.cmp (EV.comp1 (xs := cl) (enc := litD) (p := fun u0 => false) (g := litD) E (by rfl) rfl (v := .d (.tup (cl.map litD))) (by walk_at "v") IV.tup (by walk_at "o") fun q hq => ⟨fun env' ρ' EK' A => ?_⟩) (EV.lst EVL.nil rfl rfl) (CmpV.nemptyL (k := 1) (fun x u0 => OK_lit x) (by decide))
    refine ex0_3 (A1 q hq) fun u0 hx hs => ?_
    refine ex0_2 (T.dat hx) fun d1 d2 => ?_
    have hself : upd ρ' "one" (.d (litD q)) "store_now" = some (.o L.S) := by
      apply nm_ne; focus decide
      exact (A _ (by rfl)).trans (by walk_at "nm")
    refine AWA_Name (EK'.keeps (by rfl)) ⟨rfl, A.upd (by rfl), ?_, fun q => nomatch q⟩
    have e : decide (saidOf q (domAt t.tr q.x t.tr.length) ≠ -1) = false := by rw [hs]; decide
    rw [← e]
    exact EVT.cmp (EV.callM P (EV.nm (by assumption) (by rfl) hself) s2.S (cls_store P) rfl (by rfl) (by rfl) (by walk_at "v") ⟨w_holds P s2.h d1 d2 (by walk_at "o") (by walk_at "o") ⟨rfl, rfl⟩⟩) (EV.un EV.int UV.neg) CmpV.nei
  refine AWX_cons (AWS_comp0 (xs := us') (enc := natD) (g := fun k => ruleD (stepR t.tr k)) E EK (by rfl) (by rfl) rfl (v := .d (.tup (us'.map natD))) (by walk_at "v") IV.tup (by walk_at "o") (fun k hk => ⟨fun env' ρ' EK' A => ?_⟩) ?_ (by rfl))
  · refine ex1_2 (huat k hk) fun e he hrs => ?_
    refine ex1_1 (Option.ne_none_iff_exists'.mp hrs) fun rs hrs' => ?_
    have hself : upd ρ' "k" (.d (natD k)) "store_now" = some (.o L.S) := by
      apply nm_ne; focus decide
      exact (A _ (by rfl)).trans (by walk_at "nm")
    have hlt := (List.getElem?_eq_some_iff.mp he).1
    have hen : EV c m env' (upd ρ' "k" (.d (natD k))) st2 (.Subscript (.Attribute (.Name "store_now" ⟨0,0,0,0⟩) "trail" ⟨0,0,0,0⟩) (.Name "k" ⟨0,0,0,0⟩) ⟨0,0,0,0⟩) (.d (entD e)) := EV.sub (EV.attr P (EV.nm (by assumption) (by rfl) hself) s2.S (cls_store P) (by rfl) rfl) (by walk_at "v") (GV.mlst s2.T (by rw [List.getElem?_map, he]; rfl) (by walk_at "o"))
    clear hen
    have es : ruleD (stepR t.tr k) = .tup [rsD e.rs, litD e.lit] := by unfold stepR; rw [he]; dsimp only; rw [hrs']; rfl
    rw [es]
    refine AWA_Name (EK'.keeps (by rfl)) ⟨rfl, A.upd (by rfl), EV.tup (ps := [.d (rsD e.rs), .d (litD e.lit)]) (EVL.cons (EV.sub (x := .d (entD e)) ?_ EV.int GV.lit3) (EVL.cons (EV.sub (x := .d (entD e)) ?_ EV.int GV.lit2) EVL.nil)) rfl rfl⟩
    all_goals exact EV.sub (EV.attr P (EV.nm (by assumption) (by rfl) hself) s2.S (cls_store P) (by rfl) rfl) (by walk_at "v") (GV.mlst s2.T (by rw [List.getElem?_map, he]; rfl) (by walk_at "o"))
  refine AWX_cons (AWS_Set (v := .d (.tup (t.clash.map litD))) EK (by rfl) (EV.attr P (by walk_at "v") s2.S (cls_store P) (by rfl) rfl) ?_)
  have est : (us'.map fun k => ruleD (stepR t.tr k)) = (us'.map (stepR t.tr)).map ruleD := by rw [List.map_map]; rfl
  rw [est]
  generalize hsteps : us'.map (stepR t.tr) = steps at hlaw
  refine AWX_cut (fun ρ3 s3 => s3 = st2 ∧ Has (ilJ L.S cl lev) ρ3) (fun K2 k2 => AWS_ForV (v := .d (.lst (pts.map ptD))) (EV.callG0 (by assumption) (by assumption) (by rfl) (by rfl) (by rfl) (w_lawPoints P (by walk_at "o"))) (OpI_lst ?_)) ?_
  · refine AWF_ind (fun rest ρ3 s3 => s3 = st2 ∧ Has (ilI L.S r cl lev steps t.clash) ρ3 ∧ ∀ q ∈ rest, q ∈ pts) ?_ ?_ _ _ _ ⟨rfl, by walk_at "has", fun q h => h⟩
    · intro ρ3 _ hq1; refine ex0_3 hq1 fun hr1 H3 _ => ?_; clear hq1; subst hr1
      exact AWX_nil (k2 ⟨rfl, by walk_at "has"⟩)
    · intro p rest ρ3 s3 hq1 K3 k3; refine ex0_3 hq1 fun e3 H3 hrest => ?_; clear hq1
      have hnext : ∀ q ∈ rest, q ∈ pts := fun q hq => hrest q (.tail _ hq)
      have hpp := hlaw p (hrest p (.head _))
      have hst : ∀ r' ∈ steps, r' ∈ rules := fun r' hr' => by
        rw [← hsteps] at hr'
        refine ex1_2 (List.mem_map.mp hr') fun k hk hr1 => ?_; subst hr1
        refine ex1_2 (huat k hk) fun e he hrs => ?_
        refine ex1_1 (Option.ne_none_iff_exists'.mp hrs) fun rs hrs' => ?_
        have := T.R.R e (List.mem_of_getElem? he) rs hrs'
        unfold stepR; rw [he]; dsimp only; rw [hrs']; exact this
      have hstl : steps.length ≤ 9 := by rw [← hsteps, List.length_map]; exact hul
      refine AWA_Name (EK.keeps (by rfl)) ?_
      rw [e3]
      have done : ∀ {ρ4 : Loc}, Has (ilI L.S r cl lev steps t.clash) ρ4 → K3 .next ρ4 st2 := fun H4 => k3 ⟨(fun a ha => nomatch ha), rfl, H4, hnext⟩
      refine AWX_cons (AWS_IfV (q := (cl.filter fun l => isMet l (ptF p l.x)).isEmpty) ?_ (fun hq => ?_) fun u0 => AWX_nil (AWX_nil ?_))
      · refine EVT.cmp (EV.comp1 (xs := cl) (enc := litD) (p := fun l => isMet l (ptF p l.x)) (g := litD) E (by rfl) rfl (v := .d (.tup (cl.map litD))) (by walk_at "v") IV.tup (by walk_at "o") fun q hq => ⟨fun env' ρ' EK' A => ?_⟩) (EV.lst EVL.nil rfl rfl) (CmpV.emptyL (k := 1) (fun x u0 => OK_lit x) (by decide))
        have hpt : upd ρ' "one" (.d (litD q)) "point" = some (.d (ptD p)) := by
          apply nm_ne; focus decide
          exact (A _ (by rfl)).trans (by walk_at "nm")
        refine AWA_Name (EK'.keeps (by rfl)) ⟨rfl, A.upd (by rfl), EVT.val (EV.callG (by assumption) (by assumption) (by rfl) (by rfl) (by rfl) (EVL.cons (x := .d (litD q)) (by walk_at "v") (EVL.cons (EV.nm (by assumption) (by rfl) hpt) EVL.nil)) (w_lawSays P (A1 q hq).2.1 (by walk_at "o"))), fun u0 => by walk_at "v"⟩
      · refine ex0_2 (hpp hq) fun f1 f2 => ?_
        refine AWX_cons (AWS_IfV (q := (rules.filter fun r => !holdsAt p r).isEmpty) ?_ (fun hq2 => by rw [f1] at hq2; cases hq2) fun u0 => AWX_nil ?_)
        · refine EVT.cmp (EV.comp1 (xs := rules) (enc := ruleD) (p := fun r => !holdsAt p r) (g := ruleD) E (by rfl) rfl (v := .o r) (by walk_at "v") (IV.mlst hr2) (by have := OK'.len; walk_at "o") fun q hq => ⟨fun env' ρ' EK' A => ?_⟩) (EV.lst EVL.nil rfl rfl) (CmpV.emptyL (k := 4) (fun x u0 => OK_rule x) (by decide))
          have hpt : upd ρ' "one" (.d (ruleD q)) "point" = some (.d (ptD p)) := by
            apply nm_ne; focus decide
            exact (A _ (by rfl)).trans (by walk_at "nm")
          refine ex0_4 (OK'.at' q hq) fun u0 o1 o2 o3 => ?_
          refine AWA_Name (EK'.keeps (by rfl)) ⟨rfl, A.upd (by rfl), ?_, fun u0 => by walk_at "v"⟩
          rw [show (!holdsAt p q) = ((q.1.all fun l => isMet l (ptF p l.x)) && (!isMet q.2 (ptF p q.2.x) && true)) by simp [holdsAt]]
          exact EVT.and (EVT.val (EV.callG (by assumption) (by assumption) (by rfl) (by rfl) (by rfl) (EVL.cons (x := .d (.tup (q.1.map litD))) (EV.sub (x := .d (ruleD q)) (by walk_at "v") EV.int GV.lit0) (EVL.cons (EV.nm (by assumption) (by rfl) hpt) EVL.nil)) (w_lawHasAll P (fun l hl => (o3 l hl).2) (by walk_at "o") (by walk_at "o")))) fun u0 => EVT.and (EVT.not (EVT.val (EV.callG (by assumption) (by assumption) (by rfl) (by rfl) (by rfl) (EVL.cons (x := .d (litD q.2)) (EV.sub (x := .d (ruleD q)) (by walk_at "v") EV.int GV.lit1) (EVL.cons (EV.nm (by assumption) (by rfl) hpt) EVL.nil)) (w_lawSays P o1 (by walk_at "o"))))) fun u0 => EVT.andNil
        refine AWX_cons (AWS_IfV (q := !(t.clash.all fun l => isMet l (ptF p l.x))) ?_ (fun hq3 => ?_) fun u0 => AWX_nil (AWX_nil (AWX_nil ?_)))
        · exact EVT.not (EVT.val (EV.callG (by assumption) (by assumption) (by rfl) (by rfl) (by rfl) (by walk_at "v") (w_lawHasAll P (fun l hl => (F.at' l hl).2.1) (by walk_at "o") (by walk_at "o"))))
        · have f3 := f2 (by simpa using hq3)
          refine AWX_cons (AWS_IfV (q := (steps.filter fun r => !holdsAt p r).isEmpty) ?_ (fun hq2 => by rw [f3] at hq2; cases hq2) fun u0 => AWX_nil (AWX_nil (AWX_nil (AWX_nil ?_))))
          · refine EVT.cmp (EV.comp1 (xs := steps) (enc := ruleD) (p := fun r => !holdsAt p r) (g := ruleD) E (by rfl) rfl (v := .d (.lst (steps.map ruleD))) (by walk_at "v") IV.lst (by walk_at "o") fun q hq => ⟨fun env' ρ' EK' A => ?_⟩) (EV.lst EVL.nil rfl rfl) (CmpV.emptyL (k := 4) (fun x u0 => OK_rule x) (by decide))
            have hpt : upd ρ' "one" (.d (ruleD q)) "point" = some (.d (ptD p)) := by
              apply nm_ne; focus decide
              exact (A _ (by rfl)).trans (by walk_at "nm")
            refine ex0_4 (OK'.at' q (hst q hq)) fun u0 o1 o2 o3 => ?_
            refine AWA_Name (EK'.keeps (by rfl)) ⟨rfl, A.upd (by rfl), ?_, fun u0 => by walk_at "v"⟩
            rw [show (!holdsAt p q) = ((q.1.all fun l => isMet l (ptF p l.x)) && (!isMet q.2 (ptF p q.2.x) && true)) by simp [holdsAt]]
            exact EVT.and (EVT.val (EV.callG (by assumption) (by assumption) (by rfl) (by rfl) (by rfl) (EVL.cons (x := .d (.tup (q.1.map litD))) (EV.sub (x := .d (ruleD q)) (by walk_at "v") EV.int GV.lit0) (EVL.cons (EV.nm (by assumption) (by rfl) hpt) EVL.nil)) (w_lawHasAll P (fun l hl => (o3 l hl).2) (by walk_at "o") (by walk_at "o")))) fun u0 => EVT.and (EVT.not (EVT.val (EV.callG (by assumption) (by assumption) (by rfl) (by rfl) (by rfl) (EVL.cons (x := .d (litD q.2)) (EV.sub (x := .d (ruleD q)) (by walk_at "v") EV.int GV.lit1) (EVL.cons (EV.nm (by assumption) (by rfl) hpt) EVL.nil)) (w_lawSays P o1 (by walk_at "o"))))) fun u0 => EVT.andNil
          · exact done (H3.upd rfl)
        · exact done (H3.upd rfl)
      · exact done (H3.upd rfl)
  intro ρ3 s3' hq1; refine ex0_2 hq1 fun e3 H3 => ?_; clear hq1
  rw [e3]
  have hdep : FV c m st2 (.builtin "len") [.o L.aM] (.d (.int t.marks.length)) := by
    have := FV.lenL (c := c) (n := m) (IsL.obj s2.M) (by walk_at "m")
    rw [List.length_map] at this; exact this
  by_cases hz : cl = []
  · refine AWX_cons (AWS_IfV (q := true) ?_ (fun u0 => ?_) fun hq => nomatch hq)
    · rw [hz] at H3
      exact EVT.cmp (x := .d (.tup [])) (y := .d (.tup [])) (by walk_at "v") (by walk_at "v") (CmpV.eqb (k := 1) (m := 1) (.tup fun x hx => nomatch hx) (.tup fun x hx => nomatch hx) (by decide) (by decide) ⟨fun u0 => rfl, fun u0 => rfl⟩)
    · refine AWX_cons (AWS_Ret (x := .d (.bool true)) ?_ (h _))
      have e : decide ((lev : Int) = 0) = true := by rw [A3 hz]; decide
      rw [← e]
      exact EV.cmp (x := .d (.int lev)) (by walk_at "v") EV.int CmpV.eqi
  refine AWX_cons (AWS_IfV (q := false) ?_ (fun hq => nomatch hq) fun u0 => AWX_nil ?_)
  · exact EVT.cmp (x := .d (.tup (cl.map litD))) (y := .d (.tup [])) (by walk_at "v") (by walk_at "v") (CmpV.eqb (k := 2) (m := 1) (.tup fun x hx => by obtain ⟨k, _, rfl⟩ := List.mem_map.mp hx; exact OK_lit _) (.tup fun x hx => nomatch hx) (by decide) (by decide) ⟨(fun e => nomatch e), fun e => by injection e with e; exact absurd (List.map_eq_nil_iff.mp e) hz⟩)
  refine ex1_3 (A4 hz) fun mark hmk hmt hperm => ?_
  have hlv : lev < t.marks.length := (List.getElem?_eq_some_iff.mp hmk).1
  have hdepth : ∀ {nn : Nat}, 1 ≤ nn → CV c nn st2 (.ref 393) [.o L.S] (.d (.int t.marks.length)) := fun hnn => ⟨w_depth P s2 (by walk_at "o") hnn ⟨rfl, rfl⟩⟩
  refine AWX_cons (AWS_IfV (q := false) ?_ (fun hq => nomatch hq) fun u0 => AWX_nil ?_)
  · refine EVT.not (b := true) ⟨AWT_Chain2 (EV.use EV.int (EV.use (x := .d (.int lev)) (by walk_at "v") (OpC_le ⟨_, rfl, ?_⟩)))⟩
    rw [if_pos (decide_eq_true (by walk_at "o"))]
    refine EV.use (x := .d (.int t.marks.length)) (EV.callM0 P (by walk_at "v") s2.S (cls_store P) rfl (by rfl) (by rfl) (hdepth (by walk_at "o"))) (OpC_lt ⟨_, rfl, decide_eq_true (by walk_at "o"), rfl⟩)
  refine AWX_cons (AWS_Expr (AWE_M (ps := [.d (.int ((t.marks.length - lev : Nat) : Int))]) P (by walk_at "v") s2.S (cls_store P) rfl (by rfl) (by rfl) (EVL.cons (EV.bin (x := .d (.int t.marks.length)) (y := .d (.int lev)) (EV.callM0 P (by walk_at "v") s2.S (cls_store P) rfl (by rfl) (by rfl) (hdepth (by walk_at "o"))) (by walk_at "v") (BV.subE (by walk_at "o"))) EVL.nil)
    (w_pop P s2 hlv rfl hmk hmt (by walk_at "o") (by walk_at "o") (by have := T.dl; walk_at "o") (by rw [T.f]; decide) (fun e he => by
      obtain ⟨i, hi, rfl⟩ := List.getElem_of_mem he
      have := (T.R.S.ent i _ (List.getElem?_eq_getElem hi)).x3
      have := T.dl; walk_at "o") (by walk_at "o") fun st3 hH hK3 => ?_)) (E.inter rfl))
  have hdoms : undo t.doms (t.tr.drop mark) = [domAt t.tr 0 mark, domAt t.tr 1 mark, domAt t.tr 2 mark] := by
    unfold undo
    have := undo_domAt T.R.S (t.tr.length - mark) mark (by walk_at "o")
    rw [← T.R.D] at this
    exact this
  rw [hdoms] at hH
  have hat : ∀ x, x < 3 → [domAt t.tr 0 mark, domAt t.tr 1 mark, domAt t.tr 2 mark][x]? = some (domAt t.tr x mark) ∧ (domAt t.tr x mark).length ≤ 400 := fun x hx => by
    refine ⟨?_, by have := (Ld_at (T.R.S.dom x mark)).1; walk_at "o"⟩
    have : x = 0 ∨ x = 1 ∨ x = 2 := lt3 _ (by walk_at "o")
    rcases this with rfl | rfl | rfl <;> rfl
  refine AWX_cons (AWS_Assign (EK.keeps (by rfl)) (AWE_CallB P.ok (EK.g (by rfl)) (P.glob (by rfl)) (by walk_at "bt") (by decide) (AWL_cons (EV.use (x := .d (.lst (cl.map fun q => D.int (saidOf q (domAt t.tr q.x mark))))) ?_ (AWL_nil ?_)))))
  · refine EV.comp0 (xs := cl) (enc := litD) (g := fun q => D.int (saidOf q (domAt t.tr q.x mark))) E (by rfl) rfl (v := .d (.tup (cl.map litD))) (by walk_at "v") IV.tup (by walk_at "o") fun q hq => ⟨fun env' ρ' EK' A => ?_⟩
    refine ex0_3 (A1 q hq) fun u0 hx u1 => ?_
    refine ex0_2 (hat q.x hx) fun d1 d2 => ?_
    obtain ⟨⟨dx, kk, lst, hS, hl1, hl2⟩, hD⟩ := id hH
    have hself : upd ρ' "one" (.d (litD q)) "store_now" = some (.o L.S) := by
      apply nm_ne; focus decide
      exact (A _ (by rfl)).trans (by walk_at "nm")
    refine AWA_Name (EK'.keeps (by rfl)) ⟨rfl, A.upd (by rfl), ?_⟩
    exact EV.callM P (EV.nm (by assumption) (by rfl) hself) hS (cls_store P) hl2 (by rfl) (by rfl) (by walk_at "v") ⟨w_holds P hH d1 d2 (by walk_at "o") (by walk_at "o") ⟨rfl, rfl⟩⟩
  refine OpF_sortedI (ns := cl.map fun q => saidOf q (domAt t.tr q.x mark)) (by rw [List.map_map]; exact .val _) (by walk_at "m") fun ns' hp' hpw' => ?_
  have hns : ns' = List.replicate (cl.length - 1) (-1) ++ [0] := by
    refine List.Perm.eq_of_pairwise (le := (· ≤ ·)) (fun a b u0 u1 h1 h2 => by walk_at "o") hpw' ?_ (hp'.trans hperm)
    refine List.pairwise_append.mpr ⟨List.pairwise_replicate.mpr (.inr (by walk_at "o")), List.pairwise_singleton .., fun a ha b hb => ?_⟩
    have := List.eq_of_mem_replicate ha
    simp at hb; walk_at "o"
  have hc1 : 1 ≤ cl.length := by cases cl with | nil => exact absurd rfl hz | cons => simp
  refine AWX_cons (AWS_Ret (x := .d (.bool true)) ?_ (h _))
  refine EV.cmp (x := .d (.lst (ns'.map D.int))) (y := .d (.lst (List.replicate (cl.length - 1) (D.int (-1)) ++ [D.int 0]))) (by walk_at "v") (EV.bin (x := .d (.lst (List.replicate (cl.length - 1) (D.int (-1))))) (y := .d (.lst [.int 0])) (EV.bin (x := .d (.lst [.int (-1)])) (y := .d (.int ((cl.length - 1 : Nat) : Int))) (EV.lst (EVL.cons (EV.un EV.int UV.neg) EVL.nil) rfl rfl) ?_ ?_) (EV.lst (by walk_at "v") rfl rfl) (BV.lst (.val _) (.val _) (by rw [List.length_replicate]; simp; walk_at "o"))) ?_
  · refine EV.bin (x := .d (.int cl.length)) (y := .d (.int 1)) (EV.callB (by assumption) (by assumption) (by rfl) (by rfl) (by walk_at "bt") (EVL.cons (x := .d (.tup (cl.map litD))) (by walk_at "v") EVL.nil) ⟨OpF_lenT (by walk_at "m") ?_⟩) EV.int (BV.subE (by walk_at "o"))
    rw [List.length_map]; exact ⟨rfl, rfl⟩
  · refine ⟨OpB_mulL (xs := [.int (-1)]) (.val _) (by simp) (by decide) (by walk_at "o") ?_⟩
    have : (List.replicate ((cl.length - 1 : Nat) : Int).toNat [D.int (-1)]).flatten = List.replicate (cl.length - 1) (D.int (-1)) := by
      rw [Int.toNat_natCast]
      generalize cl.length - 1 = k
      induction k with
      | zero => rfl
      | succ k ih => rw [List.replicate_succ, List.replicate_succ, List.flatten_cons, ih]; rfl
    rw [this]; exact ⟨rfl, rfl⟩
  · rw [hns, List.map_append, List.map_replicate]
    exact CmpV.eqb (k := 1) (m := 1) (.lst fun x hx => OK_ints x hx) (.lst fun x hx => OK_ints x hx) (by decide) (by decide) ⟨fun u0 => rfl, fun u0 => rfl⟩

end
end
section
open PySem PySem.W PyProof.Rows PySem.Calls
set_option maxRecDepth 100000
set_option linter.unusedVariables false
set_option maxHeartbeats 2000000

section
variable {c : Ctx} {n : Nat} {env : Env} {ρ : Loc} {st : St} {names : List (Str × NameKind)}
theorem FV.abs {i : Int} : FV c n st (.builtin "abs") [.d (.int i)] (.d (.int i.natAbs)) := ⟨OpF_abs ⟨rfl, rfl⟩⟩
noncomputable def handR : List Rule := [([⟨0, .ge, 1⟩, ⟨1, .ge, 1⟩], ⟨2, .le, 0⟩), ([⟨0, .ge, 1⟩, ⟨1, .ge, 2⟩], ⟨2, .ge, 1⟩)]
noncomputable def lawR (k : Nat) : Rule := ([lawLit (k % 48), lawLit (k / 48 % 48)], lawLit (k / 2304 % 48))
theorem rules_ok {cs : List Nat} (h : cs.length ≤ 6) : RulesOK (cs.map lawR ++ handR) := by
  refine ⟨by simp [handR]; walk_at "o", fun r hr => ?_⟩
  rcases List.mem_append.mp hr with hr | hr
  · refine ex1_2 (List.mem_map.mp hr) fun k u0 hr1 => ?_; subst hr1
    refine ⟨(lawLit_ok _).1, (lawLit_ok _).2, by simp [lawR], fun m hm => ?_⟩
    simp only [lawR, List.mem_cons, List.not_mem_nil, or_false] at hm
    rcases hm with rfl | rfl
    · exact lawLit_ok _
    · exact lawLit_ok _
  · simp only [handR, List.mem_cons, List.not_mem_nil, or_false] at hr
    rcases hr with rfl | rfl
    · exact ⟨by unfold U4; decide, by decide, by decide, fun m hm => by simp only [List.mem_cons, List.not_mem_nil, or_false] at hm; rcases hm with rfl | rfl <;> exact ⟨by unfold U4; decide, by decide⟩⟩
    · exact ⟨by unfold U4; decide, by decide, by decide, fun m hm => by simp only [List.mem_cons, List.not_mem_nil, or_false] at hm; rcases hm with rfl | rfl <;> exact ⟨by unfold U4; decide, by decide⟩⟩
theorem decide_ok {rules : List Rule} {t : Sto} (T : RT rules t) {l : Lit} (hu : U4 l) (hx : l.x < 3) (h : saidOf l (domAt t.tr l.x t.tr.length) = 0) :
    RT rules (enterS { t with marks := t.marks ++ [t.tr.length] } l none).1 := by
  have hold : (t.doms[l.x]?).getD [] = domAt t.tr l.x t.tr.length := by rw [(T.dat hx).1]; rfl
  unfold saidOf at h
  have h1 : struck l (domAt t.tr l.x t.tr.length) ≠ domAt t.tr l.x t.tr.length := fun e => by rw [if_pos e] at h; cases h
  rw [if_neg h1] at h
  have h2 : struck l (domAt t.tr l.x t.tr.length) ≠ [] := fun e => by rw [if_pos e] at h; cases h
  unfold enterS
  simp only [hold]
  rw [if_neg h2, if_neg h1]
  exact ⟨T.R.add hu hx h2 h1 (fun r hr => nomatch hr) rfl, T.f⟩
noncomputable def lwA (cs : List Nat) (r : Addr) : List (Str × V) := [("cells", .d (.lst (cs.map natD))), ("rules", .o r)]
noncomputable def lwB (cs : List Nat) (r S : Addr) : List (Str × V) := [("cells", .d (.lst (cs.map natD))), ("rules", .o r), ("store_now", .o S)]
noncomputable def lwC (r S : Addr) (b : Bool) : List (Str × V) := [("rules", .o r), ("store_now", .o S), ("stands", .d (.bool b))]
theorem w_law (P : Prg c) {ns : List Int} {K : V → St → Prop} (hl : ns.length ≤ 63) (hn : 13 ≤ n) (h : ∀ st', K (.d (.bool true)) st') : AWC c n (.ref 451) [.d (.lst (ns.map .int))] st K := by
  refine AWC_fn (L := 12) (pn := ["script"]) (P.fn (st := top 33) rfl rfl (by rfl)) rfl hn fun m env hm E EK => ?_
  refine ex1_2 (show ∃ cs : List Nat, cs = (((ns.map D.int).take (clipAt (ns.map D.int).length 11)).map fun x => match x with | .int i => i.natAbs | _ => 0) ∧ cs.length ≤ 63 from ⟨_, rfl, by simp; walk_at "o"⟩) fun cs hcs hlen => ?_
  refine AWX_cons (AWS_comp0 (xs := ns.take (clipAt (ns.map D.int).length 11)) (enc := D.int) (g := fun i => D.int i.natAbs) E EK (by rfl) (by rfl) rfl (v := .d (.lst ((ns.map D.int).take (clipAt (ns.map D.int).length 11)))) ⟨AWE_UpTo (EV.use (x := .d (.lst (ns.map .int))) (by walk_at "v") (EV.use EV.int ⟨_, _, rfl, .val _, by rw [List.length_map]; walk_at "o", rfl, rfl⟩))⟩ (by rw [← List.map_take]; exact IV.lst) (by rw [List.length_take]; walk_at "o") (fun i hi => ⟨fun env' ρ' EK' A => ?_⟩) ?_ (by rfl))
  · refine AWA_Name (EK'.keeps (by rfl)) ⟨rfl, A.upd (by rfl), ?_⟩
    exact EV.callB (by assumption) (by assumption) (by rfl) (by rfl) (by walk_at "bt") (EVL.cons (x := .d (.int i)) (by walk_at "v") EVL.nil) FV.abs
  clear hcs hlen cs
  refine ex1_2 (show ∃ cs : List Nat, ((ns.take (clipAt (ns.map D.int).length 11)).map fun i : Int => D.int i.natAbs) = cs.map natD ∧ cs.length ≤ 63 from ⟨(ns.take (clipAt (ns.map D.int).length 11)).map Int.natAbs, by rw [List.map_map]; rfl, by simp; walk_at "o"⟩) fun cs hcs hlen => ?_
  rw [hcs]
  refine AWX_cons (AWS_Assign (EK.keeps (by rfl)) (AWE_LstM (EVL.nil.use ⟨[], rfl, Nat.zero_le _, fun r hr => ?_⟩)))
  refine AWX_gen (l := (lwA cs r)) (by walk_at "has") fun ρ H => ?_
  refine AWX_cut (fun ρ1 s1 => ∃ ks : List Nat, ks.length ≤ 6 ∧ s1 = st.set r (.lst ((ks.map lawR).map ruleD)) ∧ Has (lwA cs r) ρ1) (fun K2 k2 => AWS_For (AWE_UpTo (EV.use (x := .d (.lst (cs.map natD))) (by walk_at "v") (EV.use EV.int ⟨_, _, rfl, .val _, by rw [List.length_map]; walk_at "o", OpI_lst ?_⟩)))) ?_
  · rw [← List.map_take]
    have h6 : (cs.take (clipAt (cs.map natD).length 6)).length ≤ 6 := by
      rw [List.length_take]
      have : clipAt (cs.map natD).length 6 ≤ 6 := by unfold clipAt; simp; walk_at "o"
      walk_at "o"
    generalize cs.take (clipAt (cs.map natD).length 6) = c6 at h6
    refine AWF_ind (fun rest ρ1 s1 => ∃ ks : List Nat, ks.length + rest.length ≤ 6 ∧ s1 = st.set r (.lst ((ks.map lawR).map ruleD)) ∧ Has (lwA cs r) ρ1) ?_ ?_ _ _ _ ⟨[], by simpa using h6, rfl, by walk_at "has"⟩
    · intro ρ1 s1 hq1; refine ex1_3 hq1 fun ks hk e H1 => ?_; clear hq1
      exact AWX_nil (k2 ⟨ks, by simpa using hk, e, H1⟩)
    · intro k rest ρ1 _ hq1 K3 k3; refine ex1_3 hq1 fun ks hk hr1 H1 => ?_; clear hq1; subst hr1
      rw [List.length_cons] at hk
      refine AWA_Name (EK.keeps (by rfl)) ?_
      have e1 : ((k % 48 : Nat) : Int) = (k : Int) % 48 := rfl
      have e2 : ((k / 48 % 48 : Nat) : Int) = (k : Int) / 48 % 48 := rfl
      have e3 : ((k / 2304 % 48 : Nat) : Int) = (k : Int) / 2304 % 48 := rfl
      refine AWX_cons (AWS_AppV (a := r) (xs := (ks.map lawR).map ruleD) (x := ruleD (lawR k)) E rfl (by walk_at "v") (St.set_same _ _ _) ?_ (by walk_at "m") ?_)
      · refine EV.tup (ps := [.d (.tup [litD (lawLit (k % 48)), litD (lawLit (k / 48 % 48))]), .d (litD (lawLit (k / 2304 % 48)))]) (EVL.cons (EV.tup (ps := [.d (litD (lawLit (k % 48))), .d (litD (lawLit (k / 48 % 48)))]) (EVL.cons ?_ (EVL.cons ?_ EVL.nil)) rfl rfl) (EVL.cons ?_ EVL.nil)) rfl rfl
        · exact EV.callG (by assumption) (by assumption) (by rfl) (by rfl) (by rfl) (EVL.cons (x := .d (.int (k % 48 : Nat))) (by rw [e1]; exact EV.bin (by walk_at "v") EV.int (BV.mod (by decide))) EVL.nil) (w_lawLiteral P (by walk_at "o"))
        · exact EV.callG (by assumption) (by assumption) (by rfl) (by rfl) (by rfl) (EVL.cons (x := .d (.int (k / 48 % 48 : Nat))) (by rw [e2]; exact EV.bin (EV.bin (by walk_at "v") EV.int (BV.div (by decide) (by decide))) EV.int (BV.mod (by decide))) EVL.nil) (w_lawLiteral P (by walk_at "o"))
        · exact EV.callG (by assumption) (by assumption) (by rfl) (by rfl) (by rfl) (EVL.cons (x := .d (.int (k / 2304 % 48 : Nat))) (by rw [e3]; exact EV.bin (EV.bin (by walk_at "v") EV.int (BV.div (by decide) (by decide))) EV.int (BV.mod (by decide))) EVL.nil) (w_lawLiteral P (by walk_at "o"))
      · refine AWX_nil (k3 ⟨(fun a ha => nomatch ha), ks ++ [k], by simp; walk_at "o", ?_, by walk_at "has"⟩)
        rw [St.set_set, List.map_append, List.map_append]; rfl
  intro ρ1 _ hq1; refine ex1_3 hq1 fun ks hk6 hr1 H1 => ?_; clear hq1; subst hr1
  refine AWX_cons (AWS_AppV (a := r) (xs := (ks.map lawR).map ruleD) (x := ruleD ([⟨0, .ge, 1⟩, ⟨1, .ge, 1⟩], ⟨2, .le, 0⟩)) E rfl (by walk_at "v") (St.set_same _ _ _) (by walk_at "v") (by walk_at "m") ?_)
  refine AWX_cons (AWS_AppV (a := r) (xs := (ks.map lawR).map ruleD ++ [ruleD ([⟨0, .ge, 1⟩, ⟨1, .ge, 1⟩], ⟨2, .le, 0⟩)]) (x := ruleD ([⟨0, .ge, 1⟩, ⟨1, .ge, 2⟩], ⟨2, .ge, 1⟩)) E rfl (by walk_at "v") (St.set_same _ _ _) (by walk_at "v") (by walk_at "m") ?_)
  rw [St.set_set, St.set_set]
  have hrl : (ks.map lawR).map ruleD ++ [ruleD ([⟨0, .ge, 1⟩, ⟨1, .ge, 1⟩], ⟨2, .le, 0⟩)] ++ [ruleD ([⟨0, .ge, 1⟩, ⟨1, .ge, 2⟩], ⟨2, .ge, 1⟩)] = (ks.map lawR ++ handR).map ruleD := by
    rw [List.map_append, List.append_assoc]; rfl
  rw [hrl]
  have OK' := rules_ok hk6
  generalize ks.map lawR ++ handR = rules at OK'
  have hr1 : (st.set r (.lst (rules.map ruleD))) r = some (.lst (rules.map ruleD)) := St.set_same _ _ _
  generalize st.set r (.lst (rules.map ruleD)) = st1 at hr1
  refine AWX_cons (AWS_Assign (EK.keeps (by rfl)) (AWE_CallC0 P.ok (EK.g (by rfl)) (P.glob (by rfl)) (by rw [P.K]; rfl) (w_Store P (by walk_at "o") fun L st2 s2 sub2 fr2 => ?_)))
  have hrL : r ∉ L.all := fun q => by have := fr2 r q; rw [hr1] at this; cases this
  have hr2 := sub2 _ _ hr1
  refine AWX_gen (l := (lwB cs r L.S)) (by walk_at "has") fun ρ2 H2 => ?_
  refine AWX_cut (fun ρ3 s3 => SAt s3 L ⟨[full, full, full], [full, full, full], [], [], false, []⟩ ∧ s3 r = some (.lst (rules.map ruleD)) ∧ Has (lwB cs r L.S) ρ3) (fun K2 k2 => AWS_ForV (v := .d (.rng 0 3)) (by walk_at "v") (OpI_rng (by rfl) ?_)) ?_
  · rw [rangeI_eq]
    refine AWF_ind (fun rest ρ3 s3 => ∃ j : Nat, j + rest.length = 3 ∧ SAt s3 L ⟨List.replicate j full, List.replicate j full, [], [], false, []⟩ ∧ s3 r = some (.lst (rules.map ruleD)) ∧ Has (lwB cs r L.S) ρ3) ?_ ?_ _ _ _ ⟨0, rfl, s2, hr2, by walk_at "has"⟩
    · intro ρ3 s3 hq1; refine ex1_4 hq1 fun j hj s4 hr4 H4 => ?_; clear hq1
      have : j = 3 := by simpa using hj
      subst this
      exact AWX_nil (k2 ⟨s4, hr4, H4⟩)
    · intro k rest ρ3 s3 hq1 K3 k3; refine ex1_4 hq1 fun j hj s4 hr4 H4 => ?_; clear hq1
      rw [List.length_cons] at hj
      refine AWA_Name (EK.keeps (by rfl)) ?_
      refine AWX_cons (AWS_Expr (AWE_M (ps := [.d (domD full)]) P (by walk_at "v") s4.S (cls_store P) rfl (by rfl) (by rfl) (by walk_at "v") (w_newVar P s4 (by decide) (by walk_at "m") (by walk_at "m") (by walk_at "o") fun s5 h5 hO5 v => ?_)) (E.inter rfl))
      refine AWX_nil (k3 ⟨(fun a ha => nomatch ha), j + 1, by walk_at "o", ?_, (hO5 r hrL).trans hr4, by walk_at "has"⟩)
      rw [List.replicate_succ']; exact h5
  intro ρ3 st3 hq1; refine ex0_3 hq1 fun s3 hr3 H3 => ?_; clear hq1
  have T0 : RT rules ⟨[full, full, full], [full, full, full], [], [], false, []⟩ := ⟨RSI.nil, rfl⟩
  refine AWX_cons (AWS_Assign (EK.keeps (by rfl)) (AWE_CallG P.ok (EK.g (by rfl)) (P.glob (by rfl)) (P.isFn (by rfl)) (EVL.use (x := [.o L.S, .o r]) (by walk_at "v") (w_lawRun P s3 T0 OK' hr3 hrL (by walk_at "o") fun st4 t4 b4 s4 T4 hO4 hF4 => ?_))))
  have hr4 := (hO4 r hrL).trans hr3
  have hcd : (cs.map natD).drop (clipAt (cs.map natD).length 6) = (cs.drop (clipAt (cs.map natD).length 6)).map natD := by rw [List.map_drop]
  refine AWX_cut (fun ρ5 s5 => ∃ t5 b5, SAt s5 L t5 ∧ RT rules t5 ∧ s5 r = some (.lst (rules.map ruleD)) ∧ (b5 = false → Failed rules t5.tr t5.clash) ∧ Has (lwC r L.S b5) ρ5)
    (fun K2 k2 => AWS_ForV (v := .d (.lst (((cs.drop (clipAt (cs.map natD).length 6)).map lawLit ++ [(⟨0, .ge, 1⟩ : Lit), ⟨1, .ge, 2⟩]).map litD))) ?_ (OpI_lst ?_)) ?_
  · rw [List.map_append, List.map_map]
    refine EV.bin (x := .d (.lst ((cs.drop (clipAt (cs.map natD).length 6)).map fun k => litD (lawLit k)))) (y := .d (.lst [litD ⟨0, .ge, 1⟩, litD ⟨1, .ge, 2⟩])) (EV.comp0 (xs := cs.drop (clipAt (cs.map natD).length 6)) (enc := natD) (g := fun k => litD (lawLit k)) E (by rfl) rfl (v := .d (.lst ((cs.drop (clipAt (cs.map natD).length 6)).map natD))) ?_ IV.lst (by walk_at "m") fun k hk => ⟨fun env' ρ' EK' A => ?_⟩) (EV.lst (by walk_at "v") rfl rfl) (BV.lst (.val _) (.val _) (by walk_at "m"))
    · rw [← hcd]
      exact ⟨AWE_From (EV.use (x := .d (.lst (cs.map natD))) (by walk_at "v") (EV.use EV.int ⟨_, _, rfl, .val _, by rw [List.length_map]; walk_at "o", rfl, rfl⟩))⟩
    · refine AWA_Name (EK'.keeps (by rfl)) ⟨rfl, A.upd (by rfl), EV.callG (by assumption) (by assumption) (by rfl) (by rfl) (by rfl) (EVL.cons (x := .d (.int k)) (by walk_at "v") EVL.nil) (w_lawLiteral P (by walk_at "o"))⟩
  · have hls : ∀ l ∈ (cs.drop (clipAt (cs.map natD).length 6)).map lawLit ++ [(⟨0, .ge, 1⟩ : Lit), ⟨1, .ge, 2⟩], U4 l ∧ l.x < 3 := fun l hl => by
      rcases List.mem_append.mp hl with hl | hl
      · refine ex1_2 (List.mem_map.mp hl) fun k u0 hr1 => ?_; subst hr1; exact lawLit_ok k
      · simp only [List.mem_cons, List.not_mem_nil, or_false] at hl
        rcases hl with rfl | rfl <;> exact ⟨by unfold U4; decide, by decide⟩
    refine AWF_ind (fun rest ρ5 s5 => ∃ t5 b5, SAt s5 L t5 ∧ RT rules t5 ∧ s5 r = some (.lst (rules.map ruleD)) ∧ (b5 = false → Failed rules t5.tr t5.clash) ∧ Has (lwC r L.S b5) ρ5 ∧ ∀ l ∈ rest, U4 l ∧ l.x < 3) ?_ ?_ _ _ _ ⟨t4, b4, s4, T4, hr4, hF4, by walk_at "has", hls⟩
    · intro ρ5 s5 hq1; refine ex2_6 hq1 fun t5 b5 a1 a2 a3 a4 a5 _ => ?_; clear hq1
      exact AWX_nil (k2 ⟨t5, b5, a1, a2, a3, a4, a5⟩)
    · intro l rest ρ5 s5 hq1 K3 k3; refine ex2_6 hq1 fun t5 b5 a1 a2 a3 a4 a5 a6 => ?_; clear hq1
      refine ex0_2 (a6 l (.head _)) fun hu hx => ?_
      refine ex0_2 (a2.dat hx) fun d1 d2 => ?_
      have hnext : ∀ l ∈ rest, U4 l ∧ l.x < 3 := fun q hq => a6 q (.tail _ hq)
      have ht9 := a2.R.len
      have hm9 := a2.R.mlen
      have hdl := a2.dl
      refine AWA_Name (EK.keeps (by rfl)) ?_
      refine AWX_cons (AWS_IfV (q := b5 && (decide (saidOf l (domAt t5.tr l.x t5.tr.length) = 0) && true)) ?_ (fun hq => ?_) fun u0 => AWX_nil (AWX_nil (k3 ⟨(fun a ha => nomatch ha), t5, b5, a1, a2, a3, a4, a5.upd rfl, hnext⟩)))
      · exact EVT.and (EVT.val (by walk_at "v")) fun u0 => EVT.and (EVT.cmp (EV.callM P (by walk_at "v") a1.S (cls_store P) rfl (by rfl) (by rfl) (by walk_at "v") ⟨w_holds P a1.h d1 d2 (by walk_at "o") (by walk_at "o") ⟨rfl, rfl⟩⟩) EV.int CmpV.eqi) fun u0 => EVT.andNil
      · have hq' : saidOf l (domAt t5.tr l.x t5.tr.length) = 0 := by simp at hq; exact hq.2
        have Td := decide_ok a2 hu hx hq'
        refine AWX_cons (AWS_Expr (AWE_M0 P (by walk_at "v") a1.S (cls_store P) rfl (by rfl) (by rfl) (w_push P a1 (by walk_at "o") (by walk_at "o") (by walk_at "o") fun s6 h6 hO6 => ?_)) (E.inter rfl))
        refine AWX_cons (AWS_Expr (AWE_M (ps := [.d (litD l)]) P (by walk_at "v") h6.S (cls_store P) rfl (by rfl) (by rfl) (by walk_at "v") (w_decide P h6 d1 d2 (by walk_at "o") (by show t5.doms.length ≤ 50; walk_at "o") (by show t5.tr.length ≤ 50; walk_at "o") (by walk_at "o") fun s7 h7 hO7 => ?_)) (E.inter rfl))
        have hr7 : s7 r = some (.lst (rules.map ruleD)) := (hO7 r hrL).trans ((hO6 r hrL).trans a3)
        refine AWX_cons (AWS_Assign (EK.keeps (by rfl)) (AWE_CallG P.ok (EK.g (by rfl)) (P.glob (by rfl)) (P.isFn (by rfl)) (EVL.use (x := [.o L.S, .o r]) (by walk_at "v") (w_lawRun P h7 Td OK' hr7 hrL (by walk_at "o") fun s8 t8 b8 h8 T8 hO8 hF8 => ?_))))
        exact AWX_nil (AWX_nil (k3 ⟨(fun a ha => nomatch ha), t8, b8, h8, T8, (hO8 r hrL).trans hr7, hF8, by walk_at "has", hnext⟩))
  intro ρ6 s6 hq1; refine ex2_5 hq1 fun t6 b6 a1 a2 a3 a4 a5 => ?_; clear hq1
  refine AWX_cons (AWS_Return (AWE_Or (EV.use (x := .d (.bool b6)) (by walk_at "v") (OpT_bool ?_))))
  cases b6 with
  | true => rw [if_pos rfl]; exact h s6
  | false =>
    rw [if_neg (by decide)]
    have F6 := a4 rfl
    have hcl : t6.clash.length ≤ 20 := by
      refine ex2_2 F6.ex fun r' l' hm' e' => ?_
      have := (OK'.at' _ hm').2.2.1
      rw [e', List.length_append]; simp at this ⊢; walk_at "o"
    exact AWE_CallG P.ok (EK.g (by rfl)) (P.glob (by rfl)) (P.isFn (by rfl)) (EVL.use (x := [.o L.S, .o r]) (by walk_at "v") (w_isLearnt P a1 a2 OK' F6 hcl a3 hrL (by walk_at "o") fun st' => h st'))

end
end
section
open PySem PySem.W PyProof.Rows PySem.Calls
set_option maxRecDepth 100000
set_option linter.unusedVariables false
theorem head0 : PySem.Challenge.rw_no0318_01.Holds := headH fun hd => walkJ (fun P _ _ hl hn h => w_law P hl hn h) hd
end
end Lrn

theorem PySem.Challenge.cw_no0318_01_holds : PySem.Challenge.rw_no0318_01.Holds := by
  exact Lrn.head0

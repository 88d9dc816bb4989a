/- Closed evaluation: a loop with a count of rounds, that the kernel can run, and that it answers as the loop does. -/
import Derived.Test.YtjndecalogklhaaSpL
namespace Go.Proofs.Ytjndecalogklhaa
open Go.RowKit
set_option linter.unusedVariables false

def Le {α : Type} (a b : Option α) : Prop := ∀ r, a = some r → b = some r
theorem Le.rfl {α : Type} (a : Option α) : Le a a := fun _ h => h
theorem Le.bind {α β : Type} {a b : Option α} {f g : α → Option β} (h : Le a b) (hf : ∀ x, Le (f x) (g x)) : Le (Option.bind a f) (Option.bind b g) := by
  intro r hr
  cases ha : a with
  | none => rw [ha] at hr; cases hr
  | some x =>
    rw [ha] at hr
    rw [h x ha]
    exact hf x r hr
theorem Le.ite {α : Type} {c : Prop} [Decidable c] {a b a' b' : Option α} (h : Le a b) (h' : Le a' b') : Le (if c then a else a') (if c then b else b') := by
  by_cases hc : c
  · rw [if_pos hc, if_pos hc]; exact h
  · rw [if_neg hc, if_neg hc]; exact h'
theorem Le.sum {α β γ : Type} {f g : α ⊕ β → Option γ} (h : ∀ a, Le (f (.inl a)) (g (.inl a))) (h' : ∀ b, Le (f (.inr b)) (g (.inr b))) : ∀ z, Le (f z) (g z)
  | .inl a => h a
  | .inr b => h' b
theorem Le.prod {α β γ : Type} {f g : α × β → Option γ} (h : ∀ a b, Le (f (a, b)) (g (a, b))) : ∀ z, Le (f z) (g z)
  | (a, b) => h a b
theorem iterO_Le {σ τ : Type} {B B' : σ → Option (σ ⊕ τ)} (h : ∀ s, Le (B s) (B' s)) : ∀ (n : Nat) (s : σ), Le (iterO B n s) (iterO B' n s) := by
  intro n
  induction n with
  | zero => intro s r hr; cases hr
  | succ n ih =>
    intro s r hr
    unfold iterO at hr ⊢
    cases hB : B s with
    | none => rw [hB] at hr; cases hr
    | some x =>
      rw [hB] at hr
      rw [h s x hB]
      cases x with
      | inl s' => exact ih s' r hr
      | inr t => exact hr
def whileK {σ τ : Type} (B : σ → Option (σ ⊕ τ)) (s : σ) : Option τ := iterO B 1000000 s
theorem Le.loop {σ τ : Type} {B B' : σ → Option (σ ⊕ τ)} (s : σ) (h : ∀ s, Le (B s) (B' s)) : Le (whileK B s) (whileO B' s) :=
  fun r hr => whileO_of (iterO_Le h 1000000 s r hr)

end Go.Proofs.Ytjndecalogklhaa

/-
  What a row asks of the program's head, from the head's words.
-/
import Derived.WalkKit
import Derived.ProofKit
import Derived.OpenShut
namespace Go.AE
open Go

theorem strip_none (w : List Char) (ws : List (List Char)) : ∀ os : List String, (os.map String.toList).all (fun o => !(w == o)) = true → stripLifts os (w :: ws) = ([], w :: ws)
  | [], _ => rfl
  | o :: os, h => by
    rw [List.map_cons, List.all_cons, Bool.and_eq_true] at h
    unfold stripLifts
    rw [if_neg (by simpa using h.1)]
    exact strip_none w ws os h.2

theorem headLifts_of {P : Program} {c : List Char} {rest : List (List Char)} (h : behindMainWord (wordsSigns P.initOrder.toList) = c :: rest) (hs : stripLifts liftWords (c :: rest) = ([], c :: rest)) : P.headLifts = [] := by
  unfold Program.headLifts
  rw [h, hs]
  dsimp only
  split <;> rfl

theorem make_of {P : Program} {c : List Char} {rest : List (List Char)} (h : behindMainWord (wordsSigns P.initOrder.toList) = c :: rest) (h1 : (c == "gc".toList || c == "spec".toList) = false) (h2 : (c == "cut".toList) = true) : P.make = some .cut := by
  unfold Program.make
  rw [h]
  simp only [h1, h2, Bool.true_or, if_true, Bool.false_eq_true, if_false]

theorem liftsFinal_of {P : Program} {c : List Char} {rest : List (List Char)} (h : behindMainWord (wordsSigns P.initOrder.toList) = c :: rest) (hs : P.headLifts = []) (h1 : (c == "carried".toList) = false) : P.liftsFinal = false := by
  unfold Program.liftsFinal
  rw [h, hs]
  have h2 : ((c :: rest).head? == some "carried".toList) = false := by rw [List.head?_cons, Option.some_beq_some]; exact h1
  simp only [h2, Bool.false_and, Bool.false_or, List.contains_nil]

theorem mayEnter_of {P : Program} {c : List Char} {rest : List (List Char)} (h : behindMainWord (wordsSigns P.initOrder.toList) = c :: rest) (hs : stripLifts liftWords (c :: rest) = ([], c :: rest)) (h2 : (c == "cut".toList) = true)
    (h3 : P.laysLater = false) (h4 : P.bearsReflect = false) (h5 : P.doorFits [] = true) : P.mayEnter = true := by
  unfold Program.mayEnter
  rw [h]
  simp only [hs, h3, h4, h5]
  have h2 : c = "cut".toList := by simpa using h2
  rw [h2]
  simp

end Go.AE

import Derived.Test.YtpnpkigicnmopaaGreatDoorL9D
/- The law DenialVariants holds: for every input that its row lets in, the call returns true and each argument reads as before. The row lists three package-level tables, which the card ties to the program's text. -/
set_option linter.unusedVariables false
set_option linter.unusedSimpArgs false
set_option linter.unnecessarySimpa false
set_option linter.all false
/- The words of the program's head, and the closed facts that a row of a law rests on: those of the program alone stand here, once. -/
namespace Go.Proofs.YtpnpkigicnmopaaGreatDoor
set_option maxRecDepth 100000
open Go Go.ChangeShapes Go.WideShapes Go.ChangeAt Go.WideMaps Go.WideElems Go.RowKit Go.Vc Go.Proofs.T1
theorem words_cons : ∀ {w : List Char} (r : List Char), (w.all fun c => c != Char.ofNat 32) = true → wordsSigns (w ++ Char.ofNat 32 :: r) = w :: wordsSigns r
  | [], r, _ => rfl
  | c :: w, r, h => by
    simp only [List.all_cons, Bool.and_eq_true, bne_iff_ne, ne_eq] at h
    simp only [List.cons_append]
    conv => lhs; unfold wordsSigns
    split
    · rename_i h1; cases h1
    · rename_i h1; cases h1; exact absurd rfl h.1
    · rename_i c' r' _ h1
      obtain ⟨rfl, rfl⟩ := List.cons.inj h1
      exact (congrArg (fun l => match l with | w :: ws => (c :: w) :: ws | [] => [[c]]) (words_cons r h.2))
theorem words_last : ∀ {w : List Char}, w ≠ [] → (w.all fun c => c != Char.ofNat 32) = true → wordsSigns w = [w]
  | [], h, _ => absurd rfl h
  | [c], _, h => by
    simp only [List.all_cons, Bool.and_eq_true, bne_iff_ne, ne_eq] at h
    unfold wordsSigns
    split
    · rename_i h1; cases h1
    · rename_i h1; cases h1; exact absurd rfl h.1
    · rename_i c' r' _ h1
      obtain ⟨rfl, rfl⟩ := List.cons.inj h1
      rfl
  | c :: d :: w, _, h => by
    have h' := h
    simp only [List.all_cons, Bool.and_eq_true, bne_iff_ne, ne_eq] at h
    have ih := words_last (w := d :: w) (by simp) (by simpa using h.2)
    unfold wordsSigns
    split
    · rename_i h1; cases h1
    · rename_i h1; cases h1; exact absurd rfl h.1
    · rename_i c' r' _ h1
      obtain ⟨rfl, rfl⟩ := List.cons.inj h1
      rw [ih]
def word0 : List Char := [Char.ofNat 104, Char.ofNat 97, Char.ofNat 114, Char.ofNat 110, Char.ofNat 101, Char.ofNat 115, Char.ofNat 115]
def word1 : List Char := [Char.ofNat 52, Char.ofNat 57, Char.ofNat 99, Char.ofNat 50, Char.ofNat 50, Char.ofNat 99, Char.ofNat 100, Char.ofNat 52, Char.ofNat 48, Char.ofNat 53, Char.ofNat 51, Char.ofNat 49, Char.ofNat 101, Char.ofNat 48, Char.ofNat 97, Char.ofNat 53, Char.ofNat 57, Char.ofNat 51, Char.ofNat 53, Char.ofNat 101, Char.ofNat 97, Char.ofNat 53, Char.ofNat 57, Char.ofNat 101, Char.ofNat 98, Char.ofNat 49, Char.ofNat 55, Char.ofNat 56, Char.ofNat 53, Char.ofNat 102, Char.ofNat 50, Char.ofNat 102, Char.ofNat 100, Char.ofNat 48, Char.ofNat 101, Char.ofNat 98, Char.ofNat 55, Char.ofNat 48, Char.ofNat 50, Char.ofNat 100, Char.ofNat 98, Char.ofNat 52, Char.ofNat 97, Char.ofNat 101, Char.ofNat 100, Char.ofNat 54, Char.ofNat 49, Char.ofNat 98, Char.ofNat 57, Char.ofNat 55, Char.ofNat 54, Char.ofNat 52, Char.ofNat 54, Char.ofNat 57, Char.ofNat 56, Char.ofNat 52, Char.ofNat 101, Char.ofNat 100, Char.ofNat 97, Char.ofNat 53, Char.ofNat 99, Char.ofNat 99, Char.ofNat 101, Char.ofNat 48]
def word2 : List Char := [Char.ofNat 99, Char.ofNat 117, Char.ofNat 116]
def word3 : List Char := [Char.ofNat 97, Char.ofNat 116]
def word4 : List Char := [Char.ofNat 99, Char.ofNat 108, Char.ofNat 101, Char.ofNat 97, Char.ofNat 110, Char.ofNat 115, Char.ofNat 101, Char.ofNat 47, Char.ofNat 99, Char.ofNat 108, Char.ofNat 101, Char.ofNat 97, Char.ofNat 110, Char.ofNat 115, Char.ofNat 101, Char.ofNat 108, Char.ofNat 97, Char.ofNat 119, Char.ofNat 50, Char.ofNat 53, Char.ofNat 46, Char.ofNat 68, Char.ofNat 101, Char.ofNat 110, Char.ofNat 105, Char.ofNat 97, Char.ofNat 108, Char.ofNat 77, Char.ofNat 97, Char.ofNat 116, Char.ofNat 99, Char.ofNat 104, Char.ofNat 101, Char.ofNat 115, Char.ofNat 82, Char.ofNat 101, Char.ofNat 102, Char.ofNat 101, Char.ofNat 114, Char.ofNat 101, Char.ofNat 110, Char.ofNat 99, Char.ofNat 101]
def word5 : List Char := [Char.ofNat 99, Char.ofNat 108, Char.ofNat 101, Char.ofNat 97, Char.ofNat 110, Char.ofNat 115, Char.ofNat 101, Char.ofNat 47, Char.ofNat 99, Char.ofNat 108, Char.ofNat 101, Char.ofNat 97, Char.ofNat 110, Char.ofNat 115, Char.ofNat 101, Char.ofNat 108, Char.ofNat 97, Char.ofNat 119, Char.ofNat 50, Char.ofNat 53, Char.ofNat 46, Char.ofNat 68, Char.ofNat 101, Char.ofNat 110, Char.ofNat 105, Char.ofNat 97, Char.ofNat 108, Char.ofNat 77, Char.ofNat 105, Char.ofNat 110, Char.ofNat 105, Char.ofNat 109, Char.ofNat 97, Char.ofNat 108]
def word6 : List Char := [Char.ofNat 99, Char.ofNat 108, Char.ofNat 101, Char.ofNat 97, Char.ofNat 110, Char.ofNat 115, Char.ofNat 101, Char.ofNat 47, Char.ofNat 99, Char.ofNat 108, Char.ofNat 101, Char.ofNat 97, Char.ofNat 110, Char.ofNat 115, Char.ofNat 101, Char.ofNat 108, Char.ofNat 97, Char.ofNat 119, Char.ofNat 50, Char.ofNat 53, Char.ofNat 46, Char.ofNat 68, Char.ofNat 101, Char.ofNat 110, Char.ofNat 105, Char.ofNat 97, Char.ofNat 108, Char.ofNat 67, Char.ofNat 111, Char.ofNat 109, Char.ofNat 112, Char.ofNat 108, Char.ofNat 101, Char.ofNat 116, Char.ofNat 101]
def word7 : List Char := [Char.ofNat 99, Char.ofNat 108, Char.ofNat 101, Char.ofNat 97, Char.ofNat 110, Char.ofNat 115, Char.ofNat 101, Char.ofNat 47, Char.ofNat 99, Char.ofNat 108, Char.ofNat 101, Char.ofNat 97, Char.ofNat 110, Char.ofNat 115, Char.ofNat 101, Char.ofNat 108, Char.ofNat 97, Char.ofNat 119, Char.ofNat 50, Char.ofNat 53, Char.ofNat 46, Char.ofNat 68, Char.ofNat 101, Char.ofNat 110, Char.ofNat 105, Char.ofNat 97, Char.ofNat 108, Char.ofNat 79, Char.ofNat 114, Char.ofNat 100, Char.ofNat 101, Char.ofNat 114]
def word8 : List Char := [Char.ofNat 99, Char.ofNat 108, Char.ofNat 101, Char.ofNat 97, Char.ofNat 110, Char.ofNat 115, Char.ofNat 101, Char.ofNat 47, Char.ofNat 99, Char.ofNat 108, Char.ofNat 101, Char.ofNat 97, Char.ofNat 110, Char.ofNat 115, Char.ofNat 101, Char.ofNat 108, Char.ofNat 97, Char.ofNat 119, Char.ofNat 50, Char.ofNat 53, Char.ofNat 46, Char.ofNat 68, Char.ofNat 101, Char.ofNat 110, Char.ofNat 105, Char.ofNat 97, Char.ofNat 108, Char.ofNat 76, Char.ofNat 111, Char.ofNat 119, Char.ofNat 101, Char.ofNat 114, Char.ofNat 115]
def word9 : List Char := [Char.ofNat 99, Char.ofNat 108, Char.ofNat 101, Char.ofNat 97, Char.ofNat 110, Char.ofNat 115, Char.ofNat 101, Char.ofNat 47, Char.ofNat 99, Char.ofNat 108, Char.ofNat 101, Char.ofNat 97, Char.ofNat 110, Char.ofNat 115, Char.ofNat 101, Char.ofNat 108, Char.ofNat 97, Char.ofNat 119, Char.ofNat 50, Char.ofNat 53, Char.ofNat 46, Char.ofNat 68, Char.ofNat 101, Char.ofNat 110, Char.ofNat 105, Char.ofNat 97, Char.ofNat 108, Char.ofNat 83, Char.ofNat 117, Char.ofNat 112, Char.ofNat 112, Char.ofNat 111, Char.ofNat 114, Char.ofNat 116]
def word10 : List Char := [Char.ofNat 99, Char.ofNat 108, Char.ofNat 101, Char.ofNat 97, Char.ofNat 110, Char.ofNat 115, Char.ofNat 101, Char.ofNat 47, Char.ofNat 99, Char.ofNat 108, Char.ofNat 101, Char.ofNat 97, Char.ofNat 110, Char.ofNat 115, Char.ofNat 101, Char.ofNat 108, Char.ofNat 97, Char.ofNat 119, Char.ofNat 50, Char.ofNat 53, Char.ofNat 46, Char.ofNat 68, Char.ofNat 101, Char.ofNat 110, Char.ofNat 105, Char.ofNat 97, Char.ofNat 108, Char.ofNat 86, Char.ofNat 97, Char.ofNat 114, Char.ofNat 105, Char.ofNat 97, Char.ofNat 110, Char.ofNat 116, Char.ofNat 115]
def word11 : List Char := [Char.ofNat 99, Char.ofNat 108, Char.ofNat 101, Char.ofNat 97, Char.ofNat 110, Char.ofNat 115, Char.ofNat 101, Char.ofNat 47, Char.ofNat 99, Char.ofNat 108, Char.ofNat 101, Char.ofNat 97, Char.ofNat 110, Char.ofNat 115, Char.ofNat 101, Char.ofNat 108, Char.ofNat 97, Char.ofNat 119, Char.ofNat 49, Char.ofNat 57, Char.ofNat 46, Char.ofNat 66, Char.ofNat 108, Char.ofNat 111, Char.ofNat 99, Char.ofNat 107, Char.ofNat 77, Char.ofNat 97, Char.ofNat 116, Char.ofNat 99, Char.ofNat 104, Char.ofNat 101, Char.ofNat 115, Char.ofNat 82, Char.ofNat 101, Char.ofNat 102, Char.ofNat 101, Char.ofNat 114, Char.ofNat 101, Char.ofNat 110, Char.ofNat 99, Char.ofNat 101]
def word12 : List Char := [Char.ofNat 99, Char.ofNat 108, Char.ofNat 101, Char.ofNat 97, Char.ofNat 110, Char.ofNat 115, Char.ofNat 101, Char.ofNat 47, Char.ofNat 99, Char.ofNat 108, Char.ofNat 101, Char.ofNat 97, Char.ofNat 110, Char.ofNat 115, Char.ofNat 101, Char.ofNat 108, Char.ofNat 97, Char.ofNat 119, Char.ofNat 49, Char.ofNat 57, Char.ofNat 46, Char.ofNat 66, Char.ofNat 108, Char.ofNat 111, Char.ofNat 99, Char.ofNat 107, Char.ofNat 75, Char.ofNat 101, Char.ofNat 121, Char.ofNat 115]
def word13 : List Char := [Char.ofNat 99, Char.ofNat 108, Char.ofNat 101, Char.ofNat 97, Char.ofNat 110, Char.ofNat 115, Char.ofNat 101, Char.ofNat 47, Char.ofNat 99, Char.ofNat 108, Char.ofNat 101, Char.ofNat 97, Char.ofNat 110, Char.ofNat 115, Char.ofNat 101, Char.ofNat 108, Char.ofNat 97, Char.ofNat 119, Char.ofNat 49, Char.ofNat 57, Char.ofNat 46, Char.ofNat 66, Char.ofNat 108, Char.ofNat 111, Char.ofNat 99, Char.ofNat 107, Char.ofNat 80, Char.ofNat 97, Char.ofNat 105, Char.ofNat 114, Char.ofNat 115]
def word14 : List Char := [Char.ofNat 99, Char.ofNat 108, Char.ofNat 101, Char.ofNat 97, Char.ofNat 110, Char.ofNat 115, Char.ofNat 101, Char.ofNat 47, Char.ofNat 99, Char.ofNat 108, Char.ofNat 101, Char.ofNat 97, Char.ofNat 110, Char.ofNat 115, Char.ofNat 101, Char.ofNat 108, Char.ofNat 97, Char.ofNat 119, Char.ofNat 49, Char.ofNat 57, Char.ofNat 46, Char.ofNat 66, Char.ofNat 108, Char.ofNat 111, Char.ofNat 99, Char.ofNat 107, Char.ofNat 79, Char.ofNat 114, Char.ofNat 100, Char.ofNat 101, Char.ofNat 114]
def word15 : List Char := [Char.ofNat 99, Char.ofNat 108, Char.ofNat 101, Char.ofNat 97, Char.ofNat 110, Char.ofNat 115, Char.ofNat 101, Char.ofNat 47, Char.ofNat 99, Char.ofNat 108, Char.ofNat 101, Char.ofNat 97, Char.ofNat 110, Char.ofNat 115, Char.ofNat 101, Char.ofNat 108, Char.ofNat 97, Char.ofNat 119, Char.ofNat 49, Char.ofNat 57, Char.ofNat 46, Char.ofNat 66, Char.ofNat 108, Char.ofNat 111, Char.ofNat 99, Char.ofNat 107, Char.ofNat 77, Char.ofNat 111, Char.ofNat 114, Char.ofNat 101]
def word16 : List Char := [Char.ofNat 99, Char.ofNat 108, Char.ofNat 101, Char.ofNat 97, Char.ofNat 110, Char.ofNat 115, Char.ofNat 101, Char.ofNat 47, Char.ofNat 99, Char.ofNat 108, Char.ofNat 101, Char.ofNat 97, Char.ofNat 110, Char.ofNat 115, Char.ofNat 101, Char.ofNat 108, Char.ofNat 97, Char.ofNat 119, Char.ofNat 49, Char.ofNat 57, Char.ofNat 46, Char.ofNat 66, Char.ofNat 108, Char.ofNat 111, Char.ofNat 99, Char.ofNat 107, Char.ofNat 70, Char.ofNat 111, Char.ofNat 108, Char.ofNat 100, Char.ofNat 115]
def word17 : List Char := [Char.ofNat 99, Char.ofNat 108, Char.ofNat 101, Char.ofNat 97, Char.ofNat 110, Char.ofNat 115, Char.ofNat 101, Char.ofNat 47, Char.ofNat 99, Char.ofNat 108, Char.ofNat 101, Char.ofNat 97, Char.ofNat 110, Char.ofNat 115, Char.ofNat 101, Char.ofNat 108, Char.ofNat 97, Char.ofNat 119, Char.ofNat 49, Char.ofNat 57, Char.ofNat 46, Char.ofNat 66, Char.ofNat 108, Char.ofNat 111, Char.ofNat 99, Char.ofNat 107, Char.ofNat 84, Char.ofNat 111, Char.ofNat 107, Char.ofNat 101, Char.ofNat 110, Char.ofNat 115]
def word18 : List Char := [Char.ofNat 99, Char.ofNat 108, Char.ofNat 101, Char.ofNat 97, Char.ofNat 110, Char.ofNat 115, Char.ofNat 101, Char.ofNat 47, Char.ofNat 99, Char.ofNat 108, Char.ofNat 101, Char.ofNat 97, Char.ofNat 110, Char.ofNat 115, Char.ofNat 101, Char.ofNat 108, Char.ofNat 97, Char.ofNat 119, Char.ofNat 50, Char.ofNat 54, Char.ofNat 46, Char.ofNat 86, Char.ofNat 105, Char.ofNat 103, Char.ofNat 105, Char.ofNat 108, Char.ofNat 77, Char.ofNat 97, Char.ofNat 116, Char.ofNat 99, Char.ofNat 104, Char.ofNat 101, Char.ofNat 115, Char.ofNat 82, Char.ofNat 101, Char.ofNat 102, Char.ofNat 101, Char.ofNat 114, Char.ofNat 101, Char.ofNat 110, Char.ofNat 99, Char.ofNat 101]
def word19 : List Char := [Char.ofNat 99, Char.ofNat 108, Char.ofNat 101, Char.ofNat 97, Char.ofNat 110, Char.ofNat 115, Char.ofNat 101, Char.ofNat 47, Char.ofNat 99, Char.ofNat 108, Char.ofNat 101, Char.ofNat 97, Char.ofNat 110, Char.ofNat 115, Char.ofNat 101, Char.ofNat 108, Char.ofNat 97, Char.ofNat 119, Char.ofNat 50, Char.ofNat 54, Char.ofNat 46, Char.ofNat 86, Char.ofNat 105, Char.ofNat 103, Char.ofNat 105, Char.ofNat 108, Char.ofNat 79, Char.ofNat 114, Char.ofNat 100, Char.ofNat 101, Char.ofNat 114]
def word20 : List Char := [Char.ofNat 99, Char.ofNat 108, Char.ofNat 101, Char.ofNat 97, Char.ofNat 110, Char.ofNat 115, Char.ofNat 101, Char.ofNat 47, Char.ofNat 99, Char.ofNat 108, Char.ofNat 101, Char.ofNat 97, Char.ofNat 110, Char.ofNat 115, Char.ofNat 101, Char.ofNat 108, Char.ofNat 97, Char.ofNat 119, Char.ofNat 50, Char.ofNat 54, Char.ofNat 46, Char.ofNat 86, Char.ofNat 105, Char.ofNat 103, Char.ofNat 105, Char.ofNat 108, Char.ofNat 80, Char.ofNat 117, Char.ofNat 116]
def word21 : List Char := [Char.ofNat 99, Char.ofNat 108, Char.ofNat 101, Char.ofNat 97, Char.ofNat 110, Char.ofNat 115, Char.ofNat 101, Char.ofNat 47, Char.ofNat 99, Char.ofNat 108, Char.ofNat 101, Char.ofNat 97, Char.ofNat 110, Char.ofNat 115, Char.ofNat 101, Char.ofNat 108, Char.ofNat 97, Char.ofNat 119, Char.ofNat 50, Char.ofNat 54, Char.ofNat 46, Char.ofNat 86, Char.ofNat 105, Char.ofNat 103, Char.ofNat 105, Char.ofNat 108, Char.ofNat 68, Char.ofNat 114, Char.ofNat 111, Char.ofNat 112]
def word22 : List Char := [Char.ofNat 99, Char.ofNat 108, Char.ofNat 101, Char.ofNat 97, Char.ofNat 110, Char.ofNat 115, Char.ofNat 101, Char.ofNat 47, Char.ofNat 99, Char.ofNat 108, Char.ofNat 101, Char.ofNat 97, Char.ofNat 110, Char.ofNat 115, Char.ofNat 101, Char.ofNat 108, Char.ofNat 97, Char.ofNat 119, Char.ofNat 50, Char.ofNat 54, Char.ofNat 46, Char.ofNat 86, Char.ofNat 105, Char.ofNat 103, Char.ofNat 105, Char.ofNat 108, Char.ofNat 82, Char.ofNat 101, Char.ofNat 102, Char.ofNat 117, Char.ofNat 115, Char.ofNat 101, Char.ofNat 115]
def word23 : List Char := [Char.ofNat 99, Char.ofNat 108, Char.ofNat 101, Char.ofNat 97, Char.ofNat 110, Char.ofNat 115, Char.ofNat 101, Char.ofNat 47, Char.ofNat 99, Char.ofNat 108, Char.ofNat 101, Char.ofNat 97, Char.ofNat 110, Char.ofNat 115, Char.ofNat 101, Char.ofNat 108, Char.ofNat 97, Char.ofNat 119, Char.ofNat 50, Char.ofNat 54, Char.ofNat 46, Char.ofNat 86, Char.ofNat 105, Char.ofNat 103, Char.ofNat 105, Char.ofNat 108, Char.ofNat 83, Char.ofNat 99, Char.ofNat 114, Char.ofNat 97, Char.ofNat 116, Char.ofNat 99, Char.ofNat 104]
def signs23 : List Char := word23
def signs22 : List Char := word22 ++ Char.ofNat 32 :: signs23
def signs21 : List Char := word21 ++ Char.ofNat 32 :: signs22
def signs20 : List Char := word20 ++ Char.ofNat 32 :: signs21
def signs19 : List Char := word19 ++ Char.ofNat 32 :: signs20
def signs18 : List Char := word18 ++ Char.ofNat 32 :: signs19
def signs17 : List Char := word17 ++ Char.ofNat 32 :: signs18
def signs16 : List Char := word16 ++ Char.ofNat 32 :: signs17
def signs15 : List Char := word15 ++ Char.ofNat 32 :: signs16
def signs14 : List Char := word14 ++ Char.ofNat 32 :: signs15
def signs13 : List Char := word13 ++ Char.ofNat 32 :: signs14
def signs12 : List Char := word12 ++ Char.ofNat 32 :: signs13
def signs11 : List Char := word11 ++ Char.ofNat 32 :: signs12
def signs10 : List Char := word10 ++ Char.ofNat 32 :: signs11
def signs9 : List Char := word9 ++ Char.ofNat 32 :: signs10
def signs8 : List Char := word8 ++ Char.ofNat 32 :: signs9
def signs7 : List Char := word7 ++ Char.ofNat 32 :: signs8
def signs6 : List Char := word6 ++ Char.ofNat 32 :: signs7
def signs5 : List Char := word5 ++ Char.ofNat 32 :: signs6
def signs4 : List Char := word4 ++ Char.ofNat 32 :: signs5
def signs3 : List Char := word3 ++ Char.ofNat 32 :: signs4
def signs2 : List Char := word2 ++ Char.ofNat 32 :: signs3
def signs1 : List Char := word1 ++ Char.ofNat 32 :: signs2
def signs0 : List Char := word0 ++ Char.ofNat 32 :: signs1
theorem signs_eq : Tryz.prog.initOrder.toList = signs0 := by
  have h : Tryz.prog.initOrder = String.ofList signs0 := by kernel_rfl
  rw [h]; exact String.toList_ofList
theorem said23 : wordsSigns signs23 = [word23] := words_last (by decide) (by decide +kernel)
theorem said22 : wordsSigns signs22 = [word22, word23] := (words_cons signs23 (by decide +kernel)).trans (congrArg (List.cons word22) said23)
theorem said21 : wordsSigns signs21 = [word21, word22, word23] := (words_cons signs22 (by decide +kernel)).trans (congrArg (List.cons word21) said22)
theorem said20 : wordsSigns signs20 = [word20, word21, word22, word23] := (words_cons signs21 (by decide +kernel)).trans (congrArg (List.cons word20) said21)
theorem said19 : wordsSigns signs19 = [word19, word20, word21, word22, word23] := (words_cons signs20 (by decide +kernel)).trans (congrArg (List.cons word19) said20)
theorem said18 : wordsSigns signs18 = [word18, word19, word20, word21, word22, word23] := (words_cons signs19 (by decide +kernel)).trans (congrArg (List.cons word18) said19)
theorem said17 : wordsSigns signs17 = [word17, word18, word19, word20, word21, word22, word23] := (words_cons signs18 (by decide +kernel)).trans (congrArg (List.cons word17) said18)
theorem said16 : wordsSigns signs16 = [word16, word17, word18, word19, word20, word21, word22, word23] := (words_cons signs17 (by decide +kernel)).trans (congrArg (List.cons word16) said17)
theorem said15 : wordsSigns signs15 = [word15, word16, word17, word18, word19, word20, word21, word22, word23] := (words_cons signs16 (by decide +kernel)).trans (congrArg (List.cons word15) said16)
theorem said14 : wordsSigns signs14 = [word14, word15, word16, word17, word18, word19, word20, word21, word22, word23] := (words_cons signs15 (by decide +kernel)).trans (congrArg (List.cons word14) said15)
theorem said13 : wordsSigns signs13 = [word13, word14, word15, word16, word17, word18, word19, word20, word21, word22, word23] := (words_cons signs14 (by decide +kernel)).trans (congrArg (List.cons word13) said14)
theorem said12 : wordsSigns signs12 = [word12, word13, word14, word15, word16, word17, word18, word19, word20, word21, word22, word23] := (words_cons signs13 (by decide +kernel)).trans (congrArg (List.cons word12) said13)
theorem said11 : wordsSigns signs11 = [word11, word12, word13, word14, word15, word16, word17, word18, word19, word20, word21, word22, word23] := (words_cons signs12 (by decide +kernel)).trans (congrArg (List.cons word11) said12)
theorem said10 : wordsSigns signs10 = [word10, word11, word12, word13, word14, word15, word16, word17, word18, word19, word20, word21, word22, word23] := (words_cons signs11 (by decide +kernel)).trans (congrArg (List.cons word10) said11)
theorem said9 : wordsSigns signs9 = [word9, word10, word11, word12, word13, word14, word15, word16, word17, word18, word19, word20, word21, word22, word23] := (words_cons signs10 (by decide +kernel)).trans (congrArg (List.cons word9) said10)
theorem said8 : wordsSigns signs8 = [word8, word9, word10, word11, word12, word13, word14, word15, word16, word17, word18, word19, word20, word21, word22, word23] := (words_cons signs9 (by decide +kernel)).trans (congrArg (List.cons word8) said9)
theorem said7 : wordsSigns signs7 = [word7, word8, word9, word10, word11, word12, word13, word14, word15, word16, word17, word18, word19, word20, word21, word22, word23] := (words_cons signs8 (by decide +kernel)).trans (congrArg (List.cons word7) said8)
theorem said6 : wordsSigns signs6 = [word6, word7, word8, word9, word10, word11, word12, word13, word14, word15, word16, word17, word18, word19, word20, word21, word22, word23] := (words_cons signs7 (by decide +kernel)).trans (congrArg (List.cons word6) said7)
theorem said5 : wordsSigns signs5 = [word5, word6, word7, word8, word9, word10, word11, word12, word13, word14, word15, word16, word17, word18, word19, word20, word21, word22, word23] := (words_cons signs6 (by decide +kernel)).trans (congrArg (List.cons word5) said6)
theorem said4 : wordsSigns signs4 = [word4, word5, word6, word7, word8, word9, word10, word11, word12, word13, word14, word15, word16, word17, word18, word19, word20, word21, word22, word23] := (words_cons signs5 (by decide +kernel)).trans (congrArg (List.cons word4) said5)
theorem said3 : wordsSigns signs3 = [word3, word4, word5, word6, word7, word8, word9, word10, word11, word12, word13, word14, word15, word16, word17, word18, word19, word20, word21, word22, word23] := (words_cons signs4 (by decide +kernel)).trans (congrArg (List.cons word3) said4)
theorem said2 : wordsSigns signs2 = [word2, word3, word4, word5, word6, word7, word8, word9, word10, word11, word12, word13, word14, word15, word16, word17, word18, word19, word20, word21, word22, word23] := (words_cons signs3 (by decide +kernel)).trans (congrArg (List.cons word2) said3)
theorem said1 : wordsSigns signs1 = [word1, word2, word3, word4, word5, word6, word7, word8, word9, word10, word11, word12, word13, word14, word15, word16, word17, word18, word19, word20, word21, word22, word23] := (words_cons signs2 (by decide +kernel)).trans (congrArg (List.cons word1) said2)
theorem said0 : wordsSigns signs0 = [word0, word1, word2, word3, word4, word5, word6, word7, word8, word9, word10, word11, word12, word13, word14, word15, word16, word17, word18, word19, word20, word21, word22, word23] := (words_cons signs1 (by decide +kernel)).trans (congrArg (List.cons word0) said1)
theorem words_eq : wordsSigns Tryz.prog.initOrder.toList = [word0, word1, word2, word3, word4, word5, word6, word7, word8, word9, word10, word11, word12, word13, word14, word15, word16, word17, word18, word19, word20, word21, word22, word23] := (congrArg wordsSigns signs_eq).trans said0
theorem behind_eq : behindMainWord (wordsSigns Tryz.prog.initOrder.toList) = [word2, word3, word4, word5, word6, word7, word8, word9, word10, word11, word12, word13, word14, word15, word16, word17, word18, word19, word20, word21, word22, word23] := by
  rw [words_eq]; kernel_rfl
theorem lifts_none : Tryz.prog.headLifts = [] := by
  unfold Program.headLifts; rw [behind_eq]; kernel_rfl
theorem make_cut {P : Program} {r : List (List Char)} (h : behindMainWord (wordsSigns P.initOrder.toList) = [Char.ofNat 99, Char.ofNat 117, Char.ofNat 116] :: r) : P.make = some .cut := by
  unfold Program.make; rw [h]; rfl
theorem enter_cut {P : Program} {r : List (List Char)} (h : behindMainWord (wordsSigns P.initOrder.toList) = [Char.ofNat 99, Char.ofNat 117, Char.ofNat 116] :: r) (hl : P.laysLater = false) (hb : P.bearsReflect = false) (hd : P.doorFits [] = true) : P.mayEnter = true := by
  have hs : stripLifts liftWords ([Char.ofNat 99, Char.ofNat 117, Char.ofNat 116] :: r) = ([], [Char.ofNat 99, Char.ofNat 117, Char.ofNat 116] :: r) := rfl
  have e1 : ([Char.ofNat 99, Char.ofNat 117, Char.ofNat 116] == "gc".toList) = false := rfl
  have e2 : ([Char.ofNat 99, Char.ofNat 117, Char.ofNat 116] == "spec".toList) = false := rfl
  have e3 : ([Char.ofNat 99, Char.ofNat 117, Char.ofNat 116] == "carried".toList) = false := rfl
  unfold Program.mayEnter; rw [h]
  show (_ || _ || _) = true
  rw [hs, hl, hb, hd, e1, e2, e3]; rfl
theorem tryz_make : Tryz.prog.make = some .cut := make_cut behind_eq
theorem tryz_lays : Tryz.prog.laysLater = false := by kernel_rfl
theorem tryz_bears : Tryz.prog.bearsReflect = false := by kernel_rfl
theorem tryz_door : Tryz.prog.doorFits [] = true := by kernel_rfl
theorem tryz_enter : Tryz.prog.mayEnter = true := enter_cut behind_eq tryz_lays tryz_bears tryz_door
theorem tryz_lifts : Tryz.prog.liftsFinal = false := by
  unfold Program.liftsFinal; rw [lifts_none, behind_eq]; kernel_rfl
theorem main_of {P : Program} {s : List Char} {r : List (List Char)} (h : wordsSigns P.initOrder.toList = [Char.ofNat 104, Char.ofNat 97, Char.ofNat 114, Char.ofNat 110, Char.ofNat 101, Char.ofNat 115, Char.ofNat 115] :: s :: r) (hs : isSumSigns s = true) : P.mainIs = some (true, s) := by
  unfold Program.mainIs
  rw [h]
  show (if (!isSumSigns s) = true then none else _) = _
  rw [hs]; rfl
theorem tryz_main : Tryz.prog.mainIs = some (true, "49c22cd40531e0a5935ea59eb1785f2fd0eb702db4aed61b97646984eda5cce0".toList) := by
  have h : "49c22cd40531e0a5935ea59eb1785f2fd0eb702db4aed61b97646984eda5cce0" = String.ofList word1 := by kernel_rfl
  rw [h, String.toList_ofList]
  exact main_of words_eq (by kernel_rfl)
theorem tryz_mapped : mapsRowed Tryz.prog = true := by kernel_rfl
theorem tryz_stops : (Tryz.prog.stops == []) = true := by kernel_rfl
theorem tryz_knobs : (Tryz.prog.stopKnobs == []) = true := by kernel_rfl
theorem tryz_heard : Tryz.prog.stopsHeard = true := by kernel_rfl
theorem tryz_looks : true = Tryz.prog.looks [] := by kernel_rfl
theorem and_true2 {a b : Bool} (ha : a = true) (hb : b = true) : (a && b) = true := by rw [ha, hb]; rfl
theorem joined {f : FuncId} {fn : Func} {s : ChangeSpec} {c : OpenClaim}
    (h0 : c.wf (OpenSpec.ofChange s) = true)
    (h3 : fn.params.all (Tryz.prog.readableRec ·) = true)
    (h4 : namedTie Tryz.prog c.named s.vars = true)
    (h5 : (c.stops == []) = true)
    (h7 : (c.knobs == []) = true)
    (h9 : (c.inPlace == Tryz.prog.inPlace f) = true)
    (h10 : (c.unfollowed == Tryz.prog.unfollowed f) = true)
    (h11 : (c.recurses == Tryz.prog.recurses f) = true)
    (h12 : (c.named == Tryz.prog.varsNamed f) = true)
    (h13 : (c.maps == (fn.params.toList ++ s.plain.varTypes Tryz.prog).any (Tryz.prog.mapsRec ·)) = true)
    (h14 : (c.ifaces == (fn.params.toList ++ s.plain.varTypes Tryz.prog).any (Tryz.prog.ifacesRec ·)) = true)
    (h15 : (c.mapsOut == Tryz.prog.mapsAmong fn.resultTypes.toList) = true)
    (h16 : (c.loops == (fn.params.toList ++ s.plain.varTypes Tryz.prog).any (Tryz.prog.loopsFrom ·)) = true)
    (h17 : (c.wideKeys == (fn.params.toList ++ s.plain.varTypes Tryz.prog ++ fn.resultTypes.toList).any (Tryz.prog.wideKeysFrom ·)) = true)
    (h18 : s.vars.all (Tryz.prog.varReadable ·) = true)
    (h19 : fn.resultTypes.all (fun t => Tryz.prog.readableRec t && decide (t < Tryz.prog.types.size)) = true)
    (h20 : (c.ifacesOut == fn.resultTypes.toList.any (Tryz.prog.ifacesRec ·)) = true)
    (h21 : (c.loopsOut == fn.resultTypes.toList.any (Tryz.prog.loopsFrom ·)) = true)
    (h22 : (c.plainKeys == Tryz.prog.plainKeys) = true)
    (h23 : c.shortTexts.isNone = true)
    (h26 : c.lifted = false)
    (h27 : c.make = .cut)
    (h28 : (c.kinds == (if c.domain.isEmpty then [] else fn.params.toList.map fun t => match Tryz.prog.underlying t with | some (.int k) => some k | _ => none)) = true)
    (h29 : (c.pinned == c.pinnedBy) = true)
    (h30 : (c.veiled == (fn.params.toList ++ s.plain.varTypes Tryz.prog ++ fn.resultTypes.toList).any (Tryz.prog.veiledRec ·)) = true)
    (h31 : c.veiledFits Tryz.prog fn.params.toList (fn.params.toList ++ s.plain.varTypes Tryz.prog ++ fn.resultTypes.toList) = true) : joinedFacts Tryz.prog f fn s c = true :=
  and_true2 (and_true2 (and_true2 (and_true2 (and_true2 (and_true2 (and_true2 (and_true2 (and_true2 (and_true2 (and_true2 (and_true2 (and_true2 (and_true2 (and_true2 (and_true2 (and_true2 (and_true2 (and_true2 (and_true2 (and_true2 (and_true2 (and_true2 (and_true2 (and_true2 (and_true2 (and_true2 (and_true2 (and_true2 (and_true2 (and_true2 h0 lay) tryz_mapped) h3) h4) h5) tryz_stops) h7) tryz_knobs) h9) h10) h11) h12) h13) h14) h15) h16) h17) h18) h19) h20) h21) h22) h23) tryz_heard) tryz_enter) (by rw [tryz_lifts, h26]; rfl)) (by rw [tryz_make, h27]; decide)) h28) h29) h30) h31
end Go.Proofs.YtpnpkigicnmopaaGreatDoor
/- The law DenialVariants holds: for every input that the row lets in, the call returns true and each argument reads as before. Its row lists three package-level tables; the card ties them to the program's text. -/
set_option maxRecDepth 100000
namespace Go.Proofs.YtpnpkigicnmopaaGreatDoor
open Go Go.ChangeShapes Go.WideShapes Go.ChangeAt Go.WideMaps Go.WideElems Go.RowKit Go.Vc Go.Proofs.T1
theorem law9_lifted (os : Os) (started : os.Started) (H : Type) (enc : TypeId × Value → H) :
    ReturnsInHanded {} Tryz.checked os 9 .any (fun w args => (Rows.denialVariantsSpec.pre enc Tryz.prog Tryz.f9 [] false w args ∧ laidMetH Tryz.prog laid3 w) ∧ sizedMet enc Tryz.prog Tryz.f9 (OpenSpec.ofChange Rows.denialVariantsSpec) false w args)
      (Rows.denialVariantsSpec.post enc Tryz.prog Tryz.f9 false true false false) := by
  refine returnsInHanded_of_change_and (C := Tryz.checked) (X := fun w _ => laidMetH Tryz.prog laid3 w) (fun _ _ _ hh h => h.of_heap hh) own started (by kernel_rfl) Tryz.func9
    (ChangeSpec.witness_shaped (enc := enc) (C := Tryz.checked) (os := os) (X := fun w _ => laidMetH Tryz.prog laid3 w) false (World.doorLaid Tryz.prog 400 os) #[.slice none 0 0, .slice none 0 0, .slice none 0 0] 8 rfl (World.shaped_of_RefB (by kernel_rfl) (by kernel_rfl)) (by kernel_rfl) (by kernel_rfl) (by kernel_rfl) (door_met os _)) ?_
  intro W base args ds gs before hval0 hW _ _ _ _
  have hval : ∀ (j : Nat) t v, Tryz.f9.params[j]? = some t → args[j]? = some v → Value.okWide Tryz.prog W .any base t v := hval0
  have hW' := hW
  obtain ⟨p, q, hA0, _, _, _, _⟩ := hW
  have hA : DataW.TrodAll enc Tryz.prog W 0 (fun _ => true) true Tryz.f9.params.toList args.toList ds p := hA0
  rw [Tryz.params9] at hA hval
  obtain ⟨v0, vs0, d0, ds0, p0, q0, e0, rfl, rfl, h0, hA0⟩ := trodAll_cons hA
  obtain ⟨v1, vs1, d1, ds1, p1, q1, e1, rfl, rfl, h1, hA1⟩ := trodAll_cons hA0
  subst e1
  obtain ⟨v2, vs2, d2, ds2, p2, q2, e2, rfl, rfl, h2, hA2⟩ := trodAll_cons hA1
  subst e2
  obtain ⟨e3, rfl, rfl⟩ := trodAll_nil hA2
  subst e3
  obtain rfl : args = #[v0, v1, v2] := by rw [← Array.toArray_toList (xs := args), e0]
  obtain ⟨R0, r0⟩ := arg_rules (hval 0 22 v0 rfl rfl) h0
  obtain ⟨F1, r1⟩ := arg_facts (hval 1 23 v1 rfl rfl) h1
  obtain ⟨b2, r2⟩ := arg_bools (hval 2 47 v2 rfl rfl) h2
  refine law_post (svs := [.pv (.sl 10 (prules R0)), .pv (.sl 6 (pfacts F1)), .pv (.sl 1 (pbools b2))]) (law9_ok R0 F1 b2) rfl (fun j sv u hj hu => ?_) hW' rfl rfl (by kernel_rfl) (by rw [Tryz.params9]; kernel_rfl)
  match j with
  | 0 => simp at hj hu; subst hj hu; exact .pv _ _ r0
  | 1 => simp at hj hu; subst hj hu; exact .pv _ _ r1
  | 2 => simp at hj hu; subst hj hu; exact .pv _ _ r2
  | j + 3 => simp at hj
theorem law9_fact9 : (Rows.denialVariantsRow.inPlace == Tryz.prog.inPlace 9) = true := by kernel_rfl
theorem law9_fact10 : (Rows.denialVariantsRow.unfollowed == Tryz.prog.unfollowed 9) = true := by kernel_rfl
theorem law9_fact11 : (Rows.denialVariantsRow.recurses == Tryz.prog.recurses 9) = true := by kernel_rfl
theorem law9_fact12 : (Rows.denialVariantsRow.named == Tryz.prog.varsNamed 9) = true := by kernel_rfl
theorem law9_fact16 : (Rows.denialVariantsRow.loops == (Tryz.f9.params.toList ++ Rows.denialVariantsSpec.plain.varTypes Tryz.prog).any (Tryz.prog.loopsFrom ·)) = true := by kernel_rfl
theorem law9_facts : joinedFacts Tryz.prog 9 Tryz.f9 Rows.denialVariantsSpec Rows.denialVariantsRow = true :=
  joined (by kernel_rfl) (by kernel_rfl) (by kernel_rfl) (by kernel_rfl) (by kernel_rfl) law9_fact9 law9_fact10 law9_fact11 law9_fact12 (by kernel_rfl) (by kernel_rfl) (by kernel_rfl) law9_fact16 (by kernel_rfl) (by kernel_rfl) (by kernel_rfl) (by kernel_rfl) (by kernel_rfl) (by kernel_rfl) (by kernel_rfl) rfl rfl (by kernel_rfl) (by kernel_rfl) (by kernel_rfl) (by kernel_rfl)
theorem law9_named : Tryz.prog.funcNamed "cleanse/cleanselaw25.DenialVariants" = some 9 := by kernel_rfl
theorem law9_plain : Tryz.f9.isInstance Tryz.prog Rows.denialVariantsRow.origin Rows.denialVariantsRow.targs := of_decide_eq_true (by kernel_rfl)
theorem law9_own : Tryz.f9.isWrapper Tryz.prog Rows.denialVariantsRow.wrapper Rows.denialVariantsRow.mainSum := by
  unfold Func.isWrapper; first | (rw [if_pos (by decide +kernel)]; kernel_rfl) | (rw [if_neg (by decide +kernel)]; exact ⟨rfl, rfl⟩)
theorem law9_goes : false = Rows.denialVariantsRow.goesBy Tryz.prog := by kernel_rfl
theorem law9_text : Rows.denialVariantsRow.wfByText (OpenSpec.ofChange Rows.denialVariantsSpec) = true := by kernel_rfl
theorem law9_said : Rows.DenialVariantsSaid :=
  OpenClaim.holds_of_wide 9 Tryz.f9 rfl rfl rfl rfl rfl rfl rfl ⟨rfl, rfl, rfl, rfl, rfl⟩ rfl rfl rfl rfl rfl law9_named Tryz.func9 law9_facts law9_plain law9_own
    (fun os started H enc _ => law9_lifted os started H enc)
theorem law9_holds : Rows.DenialVariantsCardSaid :=
  Claim7.holds_tied_plain_at .later [] [.data, .data, .data] true (true, "49c22cd40531e0a5935ea59eb1785f2fd0eb702db4aed61b97646984eda5cce0") true
    law9_said (fun _ h => by cases h) law9_text (fun _ h => by cases h) denialVariants_row_tie rfl ⟨rfl, rfl⟩ tryz_main rfl
    (fun f fn hf hfn => by
      obtain rfl : f = 9 := (Option.some.inj (law9_named.symm.trans hf)).symm
      obtain rfl : fn = Tryz.f9 := (Option.some.inj (Tryz.func9.symm.trans hfn)).symm
      exact ⟨tryz_looks, fun j t ht => by
        rw [Tryz.params9] at ht
        have hm : t ∈ [22, 23, 47] := by simpa using Array.mem_of_getElem? ht
        have hall : ([22, 23, 47].all fun u => !Tryz.prog.wantsStandIn u) = true := by kernel_rfl
        exact (show Tryz.prog.wantsStandIn t = false by simpa using List.all_eq_true.1 hall t hm)⟩)
    law9_goes
end Go.Proofs.YtpnpkigicnmopaaGreatDoor

/- The words of the translation's head row, one by one. No condition. -/
import Derived.Test.YtbgfkhliideegaaGreatRows
import Derived.JoinedOf
namespace Go.Proofs.YtbgfkhliideegaaGreat
theorem wordsSigns_word : ∀ (w r : List Char), (w.all (fun c => c.toNat != 32)) = true → wordsSigns (w ++ Char.ofNat 32 :: r) = w :: wordsSigns r
  | [], _, _ => by rfl
  | c :: w, r, h => by
    simp only [List.all_cons, Bool.and_eq_true] at h
    have ih := wordsSigns_word w r h.2
    have hc : c ≠ Char.ofNat 32 := fun e => by subst e; simp at h
    show wordsSigns (c :: (w ++ Char.ofNat 32 :: r)) = _
    rw [wordsSigns, ih]
    exact hc
theorem wordsSigns_last : ∀ (w : List Char), (w.all (fun c => c.toNat != 32)) = true → wordsSigns w = [w]
  | [], _ => rfl
  | c :: w, h => by
    simp only [List.all_cons, Bool.and_eq_true] at h
    have ih := wordsSigns_last w h.2
    have hc : c ≠ Char.ofNat 32 := fun e => by subst e; simp at h
    rw [wordsSigns, ih]
    exact hc
def hw0 : List Char := (List.map Char.ofNat [104, 97, 114, 110, 101, 115, 115])
theorem hw0_ok : (hw0.all (fun c => c.toNat != 32)) = true := by kernel_rfl
def hw1 : List Char := (List.map Char.ofNat [52, 101, 99, 100, 51, 52, 49, 98, 56, 99, 48, 55, 52, 98, 53, 102, 55, 100, 97, 50, 48, 101, 55, 102, 97, 54, 99, 52, 55, 102, 101, 56, 98, 49, 97, 49, 52, 57, 55, 100, 100, 54, 99, 102, 54, 52, 100, 97, 48, 100, 48, 48, 101, 50, 98, 55, 49, 54, 101, 49, 57, 98, 53, 53])
theorem hw1_ok : (hw1.all (fun c => c.toNat != 32)) = true := by kernel_rfl
def hw2 : List Char := (List.map Char.ofNat [99, 117, 116])
theorem hw2_ok : (hw2.all (fun c => c.toNat != 32)) = true := by kernel_rfl
def hw3 : List Char := (List.map Char.ofNat [97, 116])
theorem hw3_ok : (hw3.all (fun c => c.toNat != 32)) = true := by kernel_rfl
def hw4 : List Char := (List.map Char.ofNat [108, 111, 111, 112, 46, 101, 120, 97, 109, 112, 108, 101, 47, 112, 114, 111, 109, 111, 116, 105, 111, 110, 101, 110, 103, 105, 110, 101, 47, 108, 97, 119, 115, 46, 70, 110, 85, 115, 101, 102, 117, 108, 67, 111, 117, 112, 111, 110, 115])
theorem hw4_ok : (hw4.all (fun c => c.toNat != 32)) = true := by kernel_rfl
def hw5 : List Char := (List.map Char.ofNat [108, 111, 111, 112, 46, 101, 120, 97, 109, 112, 108, 101, 47, 112, 114, 111, 109, 111, 116, 105, 111, 110, 101, 110, 103, 105, 110, 101, 47, 108, 97, 119, 115, 46, 70, 110, 69, 120, 97, 99, 116, 85, 115, 101, 102, 117, 108, 67, 111, 117, 112, 111, 110, 115])
theorem hw5_ok : (hw5.all (fun c => c.toNat != 32)) = true := by kernel_rfl
def hw6 : List Char := (List.map Char.ofNat [108, 111, 111, 112, 46, 101, 120, 97, 109, 112, 108, 101, 47, 112, 114, 111, 109, 111, 116, 105, 111, 110, 101, 110, 103, 105, 110, 101, 47, 108, 97, 119, 115, 46, 70, 110, 69, 120, 97, 99, 116, 82, 101, 99, 101, 105, 112, 116, 79, 102])
theorem hw6_ok : (hw6.all (fun c => c.toNat != 32)) = true := by kernel_rfl
def hw7 : List Char := (List.map Char.ofNat [108, 111, 111, 112, 46, 101, 120, 97, 109, 112, 108, 101, 47, 112, 114, 111, 109, 111, 116, 105, 111, 110, 101, 110, 103, 105, 110, 101, 47, 108, 97, 119, 115, 46, 70, 110, 80, 97, 121, 79, 102, 79, 110, 101])
theorem hw7_ok : (hw7.all (fun c => c.toNat != 32)) = true := by kernel_rfl
def hw8 : List Char := (List.map Char.ofNat [108, 111, 111, 112, 46, 101, 120, 97, 109, 112, 108, 101, 47, 112, 114, 111, 109, 111, 116, 105, 111, 110, 101, 110, 103, 105, 110, 101, 47, 108, 97, 119, 115, 46, 70, 110, 80, 97, 121, 79, 102, 70, 105, 114, 115, 116])
theorem hw8_ok : (hw8.all (fun c => c.toNat != 32)) = true := by kernel_rfl
def hw9 : List Char := (List.map Char.ofNat [108, 111, 111, 112, 46, 101, 120, 97, 109, 112, 108, 101, 47, 112, 114, 111, 109, 111, 116, 105, 111, 110, 101, 110, 103, 105, 110, 101, 47, 108, 97, 119, 115, 46, 70, 110, 82, 101, 99, 101, 105, 112, 116, 79, 102])
theorem hw9_ok : (hw9.all (fun c => c.toNat != 32)) = true := by kernel_rfl
def hw10 : List Char := (List.map Char.ofNat [108, 111, 111, 112, 46, 101, 120, 97, 109, 112, 108, 101, 47, 112, 114, 111, 109, 111, 116, 105, 111, 110, 101, 110, 103, 105, 110, 101, 47, 108, 97, 119, 115, 46, 70, 110, 82, 101, 99, 101, 105, 112, 116, 79, 102, 67, 97, 114, 116])
theorem hw10_ok : (hw10.all (fun c => c.toNat != 32)) = true := by kernel_rfl
def hw11 : List Char := (List.map Char.ofNat [108, 111, 111, 112, 46, 101, 120, 97, 109, 112, 108, 101, 47, 112, 114, 111, 109, 111, 116, 105, 111, 110, 101, 110, 103, 105, 110, 101, 47, 108, 97, 119, 115, 46, 70, 110, 82, 101, 99, 101, 105, 112, 116, 79, 102, 71, 117, 97, 114, 100, 115])
theorem hw11_ok : (hw11.all (fun c => c.toNat != 32)) = true := by kernel_rfl
def hw12 : List Char := (List.map Char.ofNat [108, 111, 111, 112, 46, 101, 120, 97, 109, 112, 108, 101, 47, 112, 114, 111, 109, 111, 116, 105, 111, 110, 101, 110, 103, 105, 110, 101, 47, 108, 97, 119, 115, 46, 70, 110, 82, 101, 99, 101, 105, 112, 116, 79, 102, 78, 111, 110, 101])
theorem hw12_ok : (hw12.all (fun c => c.toNat != 32)) = true := by kernel_rfl
def hw13 : List Char := (List.map Char.ofNat [108, 111, 111, 112, 46, 101, 120, 97, 109, 112, 108, 101, 47, 112, 114, 111, 109, 111, 116, 105, 111, 110, 101, 110, 103, 105, 110, 101, 47, 108, 97, 119, 115, 46, 70, 110, 82, 101, 99, 101, 105, 112, 116, 79, 102, 79, 114, 100, 101, 114])
theorem hw13_ok : (hw13.all (fun c => c.toNat != 32)) = true := by kernel_rfl
def hw14 : List Char := (List.map Char.ofNat [108, 111, 111, 112, 46, 101, 120, 97, 109, 112, 108, 101, 47, 112, 114, 111, 109, 111, 116, 105, 111, 110, 101, 110, 103, 105, 110, 101, 47, 108, 97, 119, 115, 46, 70, 110, 80, 97, 121, 79, 102])
theorem hw14_ok : (hw14.all (fun c => c.toNat != 32)) = true := by kernel_rfl
def hw15 : List Char := (List.map Char.ofNat [108, 111, 111, 112, 46, 101, 120, 97, 109, 112, 108, 101, 47, 112, 114, 111, 109, 111, 116, 105, 111, 110, 101, 110, 103, 105, 110, 101, 47, 108, 97, 119, 115, 46, 70, 110, 83, 97, 118, 101, 100, 66, 121])
theorem hw15_ok : (hw15.all (fun c => c.toNat != 32)) = true := by kernel_rfl
def hw16 : List Char := (List.map Char.ofNat [108, 111, 111, 112, 46, 101, 120, 97, 109, 112, 108, 101, 47, 112, 114, 111, 109, 111, 116, 105, 111, 110, 101, 110, 103, 105, 110, 101, 47, 108, 97, 119, 115, 46, 70, 110, 83, 97, 118, 101, 100, 66, 121, 71, 117, 97, 114, 100])
theorem hw16_ok : (hw16.all (fun c => c.toNat != 32)) = true := by kernel_rfl
def hw17 : List Char := (List.map Char.ofNat [108, 111, 111, 112, 46, 101, 120, 97, 109, 112, 108, 101, 47, 112, 114, 111, 109, 111, 116, 105, 111, 110, 101, 110, 103, 105, 110, 101, 47, 108, 97, 119, 115, 46, 70, 110, 82, 101, 99, 101, 105, 112, 116, 79, 102, 70, 105, 114, 115, 116])
theorem hw17_ok : (hw17.all (fun c => c.toNat != 32)) = true := by kernel_rfl
def hw18 : List Char := (List.map Char.ofNat [108, 111, 111, 112, 46, 101, 120, 97, 109, 112, 108, 101, 47, 112, 114, 111, 109, 111, 116, 105, 111, 110, 101, 110, 103, 105, 110, 101, 47, 108, 97, 119, 115, 46, 70, 110, 82, 101, 99, 101, 105, 112, 116, 79, 102, 78, 111, 116, 101, 115])
theorem hw18_ok : (hw18.all (fun c => c.toNat != 32)) = true := by kernel_rfl
def hw19 : List Char := (List.map Char.ofNat [108, 111, 111, 112, 46, 101, 120, 97, 109, 112, 108, 101, 47, 112, 114, 111, 109, 111, 116, 105, 111, 110, 101, 110, 103, 105, 110, 101, 47, 108, 97, 119, 115, 46, 70, 110, 69, 120, 97, 99, 116, 80, 97, 121, 79, 102])
theorem hw19_ok : (hw19.all (fun c => c.toNat != 32)) = true := by kernel_rfl
def hw20 : List Char := (List.map Char.ofNat [108, 111, 111, 112, 46, 101, 120, 97, 109, 112, 108, 101, 47, 112, 114, 111, 109, 111, 116, 105, 111, 110, 101, 110, 103, 105, 110, 101, 47, 108, 97, 119, 115, 46, 70, 110, 69, 120, 97, 99, 116, 83, 97, 118, 101, 100, 66, 121])
theorem hw20_ok : (hw20.all (fun c => c.toNat != 32)) = true := by kernel_rfl
def hw21 : List Char := (List.map Char.ofNat [108, 111, 111, 112, 46, 101, 120, 97, 109, 112, 108, 101, 47, 112, 114, 111, 109, 111, 116, 105, 111, 110, 101, 110, 103, 105, 110, 101, 47, 108, 97, 119, 115, 46, 70, 110, 85, 115, 101, 102, 117, 108, 67, 111, 117, 112, 111, 110, 115, 82, 117, 108, 101])
theorem hw21_ok : (hw21.all (fun c => c.toNat != 32)) = true := by kernel_rfl
theorem head_lit : Tryz.prog.initOrder = String.ofList (hw0 ++ Char.ofNat 32 :: (hw1 ++ Char.ofNat 32 :: (hw2 ++ Char.ofNat 32 :: (hw3 ++ Char.ofNat 32 :: (hw4 ++ Char.ofNat 32 :: (hw5 ++ Char.ofNat 32 :: (hw6 ++ Char.ofNat 32 :: (hw7 ++ Char.ofNat 32 :: (hw8 ++ Char.ofNat 32 :: (hw9 ++ Char.ofNat 32 :: (hw10 ++ Char.ofNat 32 :: (hw11 ++ Char.ofNat 32 :: (hw12 ++ Char.ofNat 32 :: (hw13 ++ Char.ofNat 32 :: (hw14 ++ Char.ofNat 32 :: (hw15 ++ Char.ofNat 32 :: (hw16 ++ Char.ofNat 32 :: (hw17 ++ Char.ofNat 32 :: (hw18 ++ Char.ofNat 32 :: (hw19 ++ Char.ofNat 32 :: (hw20 ++ Char.ofNat 32 :: hw21))))))))))))))))))))) := by kernel_rfl
theorem head_words : wordsSigns Tryz.prog.initOrder.toList = [hw0, hw1, hw2, hw3, hw4, hw5, hw6, hw7, hw8, hw9, hw10, hw11, hw12, hw13, hw14, hw15, hw16, hw17, hw18, hw19, hw20, hw21] := by
  rw [head_lit, String.toList_ofList, wordsSigns_word _ _ hw0_ok, wordsSigns_word _ _ hw1_ok, wordsSigns_word _ _ hw2_ok, wordsSigns_word _ _ hw3_ok, wordsSigns_word _ _ hw4_ok, wordsSigns_word _ _ hw5_ok, wordsSigns_word _ _ hw6_ok, wordsSigns_word _ _ hw7_ok, wordsSigns_word _ _ hw8_ok, wordsSigns_word _ _ hw9_ok, wordsSigns_word _ _ hw10_ok, wordsSigns_word _ _ hw11_ok, wordsSigns_word _ _ hw12_ok, wordsSigns_word _ _ hw13_ok, wordsSigns_word _ _ hw14_ok, wordsSigns_word _ _ hw15_ok, wordsSigns_word _ _ hw16_ok, wordsSigns_word _ _ hw17_ok, wordsSigns_word _ _ hw18_ok, wordsSigns_word _ _ hw19_ok, wordsSigns_word _ _ hw20_ok, wordsSigns_last _ hw21_ok]
theorem head_behind : behindMainWord (wordsSigns Tryz.prog.initOrder.toList) = [hw2, hw3, hw4, hw5, hw6, hw7, hw8, hw9, hw10, hw11, hw12, hw13, hw14, hw15, hw16, hw17, hw18, hw19, hw20, hw21] := by
  rw [head_words]
  kernel_rfl
theorem head_gc : (hw2 == "gc".toList) = false := by kernel_rfl
theorem head_spec : (hw2 == "spec".toList) = false := by kernel_rfl
theorem head_carried : (hw2 == "carried".toList) = false := by kernel_rfl
theorem head_cut : (hw2 == "cut".toList) = true := by kernel_rfl
theorem head_strip (l : List (List Char)) : stripLifts liftWords (hw2 :: l) = ([], hw2 :: l) := by kernel_rfl
theorem head_cut' : (some hw2 == some "cut".toList) = true := by kernel_rfl
theorem head_lays : Tryz.prog.laysLater = false := by kernel_rfl
theorem head_reflect : Tryz.prog.bearsReflect = false := by kernel_rfl
theorem head_doors : Tryz.prog.doorRows = [] := by kernel_rfl
theorem enter_of {P : Program} {c : List Char} {r : List (List Char)} (h : behindMainWord (wordsSigns P.initOrder.toList) = c :: r) (h1 : stripLifts liftWords (c :: r) = ([], c :: r)) (h2 : (some c == some "cut".toList) = true)
    (h3 : P.laysLater = false) (h4 : P.bearsReflect = false) (h5 : P.doorRows = []) : P.mayEnter = true := by
  unfold Program.mayEnter
  rw [h]
  simp only [h1, List.head?_cons, h2, h3, h4, h5, Program.doorFits]
  simp
theorem head_enter : Tryz.prog.mayEnter = true := enter_of head_behind (head_strip _) head_cut' head_lays head_reflect head_doors
theorem head_lifts : Tryz.prog.headLifts = [] := by
  unfold Program.headLifts
  rw [head_behind]
  simp only [head_strip, List.head?_cons, head_cut', if_true]
theorem head_final : Tryz.prog.liftsFinal = false := by
  have h : (some hw2 == some "carried".toList) = false := by kernel_rfl
  unfold Program.liftsFinal
  rw [head_behind, head_lifts]
  simp only [List.head?_cons, h]
  simp
theorem make_of {P : Program} {c : List Char} {r : List (List Char)} (h : behindMainWord (wordsSigns P.initOrder.toList) = c :: r) (h1 : (c == "gc".toList) = false) (h2 : (c == "spec".toList) = false) (h3 : (c == "cut".toList) = true) : P.make = some .cut := by
  unfold Program.make
  rw [h]
  simp only [h1, h2, h3]
  simp
theorem head_make : Tryz.prog.make = some .cut := make_of head_behind head_gc head_spec head_cut
end Go.Proofs.YtbgfkhliideegaaGreat

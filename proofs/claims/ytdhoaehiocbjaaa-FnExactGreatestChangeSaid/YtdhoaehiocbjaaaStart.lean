/- The words of the program's head, opened once. -/
import Derived.Test.YtdhoaehiocbjaaaRows
import Derived.JoinedOf
import Derived.KernelRfl
namespace Go.Proofs.Ytdhoaehiocbjaaa
open Go
set_option linter.all false
set_option maxRecDepth 100000

def headNums : List Nat := [104, 97, 114, 110, 101, 115, 115, 32, 55, 102, 51, 50, 51, 102, 102, 52, 100, 100, 101, 48, 57, 99, 53, 100, 56, 49, 56, 51, 100, 51, 97, 57, 55, 57, 56, 56, 57, 99, 57, 57,
    49, 56, 56, 101, 52, 101, 49, 54, 54, 57, 49, 52, 54, 52, 55, 48, 48, 57, 99, 56, 99, 51, 49, 54, 100, 48, 52, 99, 56, 52, 57, 98, 32, 99, 117, 116, 32, 97, 116, 32,
    108, 111, 111, 112, 46, 101, 120, 97, 109, 112, 108, 101, 47, 103, 48, 49, 50, 56, 56, 47, 108, 97, 119, 115, 46, 70, 110, 69, 120, 97, 99, 116, 67, 104, 97, 110, 103, 101, 115, 66,
    101, 116, 119, 101, 101, 110, 32, 108, 111, 111, 112, 46, 101, 120, 97, 109, 112, 108, 101, 47, 103, 48, 49, 50, 56, 56, 47, 108, 97, 119, 115, 46, 70, 110, 69, 120, 97, 99, 116, 71,
    114, 101, 97, 116, 101, 115, 116, 67, 104, 97, 110, 103, 101]

def headWords : List (List Nat) := [[104, 97, 114, 110, 101, 115, 115],
    [55, 102, 51, 50, 51, 102, 102, 52, 100, 100, 101, 48, 57, 99, 53, 100, 56, 49, 56, 51, 100, 51, 97, 57, 55, 57, 56, 56, 57, 99, 57, 57, 49, 56, 56, 101, 52, 101, 49, 54, 54, 57, 49, 52, 54, 52, 55, 48, 48, 57, 99, 56, 99, 51, 49, 54, 100, 48, 52, 99, 56, 52, 57, 98],
    [99, 117, 116],
    [97, 116],
    [108, 111, 111, 112, 46, 101, 120, 97, 109, 112, 108, 101, 47, 103, 48, 49, 50, 56, 56, 47, 108, 97, 119, 115, 46, 70, 110, 69, 120, 97, 99, 116, 67, 104, 97, 110, 103, 101, 115, 66, 101, 116, 119, 101, 101, 110],
    [108, 111, 111, 112, 46, 101, 120, 97, 109, 112, 108, 101, 47, 103, 48, 49, 50, 56, 56, 47, 108, 97, 119, 115, 46, 70, 110, 69, 120, 97, 99, 116, 71, 114, 101, 97, 116, 101, 115, 116, 67, 104, 97, 110, 103, 101]]

theorem head_chars : Try.prog.initOrder.toList = headNums.map Char.ofNat := by
  have e : Try.prog.initOrder = String.ofList (headNums.map Char.ofNat) := by kernel_rfl
  rw [e, String.toList_ofList]

theorem head_words : wordsSigns Try.prog.initOrder.toList = headWords.map (·.map Char.ofNat) := by
  rw [head_chars]; kernel_rfl

def cutW : List Char := [99, 117, 116].map Char.ofNat

theorem head_behind : behindMainWord (wordsSigns Try.prog.initOrder.toList) = cutW :: (headWords.drop 3).map (·.map Char.ofNat) := by
  rw [head_words]; kernel_rfl

theorem head_lifts : Try.prog.headLifts = [] := by
  unfold Program.headLifts
  rw [head_behind]
  kernel_rfl

theorem head_final : Try.prog.liftsFinal = false := by
  unfold Program.liftsFinal
  rw [head_behind, head_lifts]
  kernel_rfl

theorem head_strip : (stripLifts liftWords (cutW :: (headWords.drop 3).map (·.map Char.ofNat))).1 = [] := by kernel_rfl

theorem head_strip2 : (stripLifts liftWords (cutW :: (headWords.drop 3).map (·.map Char.ofNat))).2.head? = some "cut".toList := by kernel_rfl

theorem cut_gc : (cutW == "gc".toList) = false := by kernel_rfl
theorem cut_spec : (cutW == "spec".toList) = false := by kernel_rfl
theorem cut_carried : (cutW == "carried".toList) = false := by kernel_rfl
theorem cut_cut : (cutW == "cut".toList) = true := by kernel_rfl
theorem head_later : Try.prog.laysLater = false := by kernel_rfl
theorem head_reflect : Try.prog.bearsReflect = false := by kernel_rfl
theorem head_door : Try.prog.doorFits [] = true := by kernel_rfl
theorem make_of {P : Program} {c : List Char} {rest : List (List Char)} (h : behindMainWord (wordsSigns P.initOrder.toList) = c :: rest) (h1 : (c == "gc".toList) = false) (h2 : (c == "spec".toList) = false) (h3 : (c == "cut".toList) = true) : P.make = some .cut := by
  unfold Program.make
  rw [h]
  simp only [h1, h2, h3, Bool.or_self, Bool.false_eq_true, if_false, Bool.true_or, if_true]

theorem mayEnter_of {P : Program} {c : List Char} {rest : List (List Char)} (h : behindMainWord (wordsSigns P.initOrder.toList) = c :: rest) (h1 : (c == "gc".toList) = false) (h2 : (c == "spec".toList) = false) (h3 : (c == "carried".toList) = false)
    (h4 : (stripLifts liftWords (c :: rest)).1 = []) (h5 : (stripLifts liftWords (c :: rest)).2.head? = some "cut".toList) (h6 : P.laysLater = false) (h7 : P.bearsReflect = false) (h8 : P.doorFits [] = true) : P.mayEnter = true := by
  unfold Program.mayEnter
  rw [h]
  simp [h1, h2, h3, h4, h5, h6, h7, h8]

theorem head_make : Try.prog.make = some .cut := make_of head_behind cut_gc cut_spec cut_cut

theorem head_mayEnter : Try.prog.mayEnter = true := mayEnter_of head_behind cut_gc cut_spec cut_carried head_strip head_strip2 head_later head_reflect head_door

end Go.Proofs.Ytdhoaehiocbjaaa

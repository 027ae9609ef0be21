/- The code of the Go functions in the generator's own form, printed by a program of mine (gen.py) out of the loaded program; each with the check that it is so. -/
import Derived.Test.YtbhipkiiondgnaaVcFn
import Derived.Test.YtbhipkiiondgnaaGeo
import Derived.Test.YtbhipkiiondgnaaRows
import Derived.KernelRfl
namespace Go.Proofs.Ytbhipkiiondgnaa
open Go Go.Fl Go.Vc
set_option linter.all false
set_option maxRecDepth 100000

/- laws.FnExactSameBrine -/
def c_laws_FnExactSameBrine : FV := ⟨20, [.tmp 4],
  .seq (.ops [⟨.box 29 (.tmp 0), some 2, none⟩,
    ⟨.box 29 (.tmp 1), some 3, none⟩,
    ⟨.mov (.const (.bool false)), some 4, none⟩])
  (.seq (.bops [⟨.load (some 324) (.tmp 2), some 7, none⟩,
    ⟨.call 22 [.tmp 7], some 8, none⟩,
    ⟨.load (some 324) (.tmp 3), some 9, none⟩,
    ⟨.call 22 [.tmp 9], some 10, none⟩,
    ⟨.call 21 [.tmp 8, .tmp 10], some 11, none⟩,
    ⟨.mov (.tmp 11), some 5, none⟩])
  (.seq (.bops [⟨.load (some 324) (.tmp 2), some 12, none⟩,
    ⟨.call 22 [.tmp 12], some 13, none⟩,
    ⟨.load (some 324) (.tmp 3), some 14, none⟩,
    ⟨.call 22 [.tmp 14], some 15, none⟩,
    ⟨.call 23 [.tmp 13, .tmp 15], some 16, none⟩,
    ⟨.mov (.tmp 16), some 6, none⟩])
  (.seq (.seq (.ops [⟨.mov (.tmp 6), some 17, none⟩,
    ⟨.mov (.tmp 5), some 18, none⟩,
    ⟨.beq true (.tmp 17) (.tmp 18), some 19, none⟩])
  (.cond (.tmp 19) (.seq (.ops [⟨.mov (.const (.bool false)), some 4, none⟩])
  (.ret)) (.skip)))
  (.seq (.ops [⟨.mov (.const (.bool true)), some 4, none⟩])
  (.ret)))))⟩
theorem ok_laws_FnExactSameBrine : cmpF Try.prog Try.f3 = some c_laws_FnExactSameBrine := by kernel_rfl

/- laws.FnExactEvenGround -/
def c_laws_FnExactEvenGround : FV := ⟨38, [.tmp 8],
  .seq (.ops [⟨.mov (.const (.bool false)), some 8, none⟩])
  (.seq (.ops [⟨.mov (.tmp 0), some 14, none⟩,
    ⟨.mov (.tmp 1), some 15, none⟩,
    ⟨.mov (.tmp 2), some 16, none⟩,
    ⟨.mov (.tmp 3), some 17, none⟩,
    ⟨.call 24 [.tmp 14, .tmp 15, .tmp 16, .tmp 17], some 18, none⟩,
    ⟨.mov (.tmp 18), some 13, none⟩,
    ⟨.ext (.tmp 13) 0, some 19, none⟩,
    ⟨.ext (.tmp 13) 1, some 20, none⟩,
    ⟨.alloc 33 (.agg (gcells gz)), some 9, none⟩,
    ⟨.store 195 (.tmp 9) (.tmp 19), none, none⟩,
    ⟨.mov (.tmp 20), some 10, none⟩])
  (.seq (.ops [⟨.mov (.tmp 0), some 22, none⟩,
    ⟨.mov (.tmp 1), some 23, none⟩,
    ⟨.mov (.tmp 2), some 24, none⟩,
    ⟨.mov (.tmp 3), some 25, none⟩,
    ⟨.call 25 [.tmp 22, .tmp 23, .tmp 24, .tmp 25], some 26, none⟩,
    ⟨.mov (.tmp 26), some 21, none⟩,
    ⟨.ext (.tmp 21) 0, some 27, none⟩,
    ⟨.ext (.tmp 21) 1, some 28, none⟩,
    ⟨.alloc 33 (.agg (gcells gz)), some 11, none⟩,
    ⟨.store 195 (.tmp 11) (.tmp 27), none, none⟩,
    ⟨.mov (.tmp 28), some 12, none⟩])
  (.seq (.seq (.ops [⟨.load (some 195) (.tmp 11), some 29, none⟩,
    ⟨.load (some 195) (.tmp 9), some 30, none⟩,
    ⟨.call 26 [.tmp 29, .tmp 30], some 31, none⟩,
    ⟨.un .not (.tmp 31), some 32, none⟩,
    ⟨.mov (.tmp 32), some 33, none⟩,
    ⟨.mov (.tmp 12), some 34, some (33, false)⟩,
    ⟨.mov (.tmp 10), some 35, some (33, false)⟩,
    ⟨.bin .neq (.tmp 34) (.tmp 35), some 36, some (33, false)⟩,
    ⟨.pick (.tmp 33) (.const (.bool true)) (.tmp 36), some 37, none⟩])
  (.cond (.tmp 37) (.seq (.ops [⟨.mov (.const (.bool false)), some 8, none⟩])
  (.ret)) (.skip)))
  (.seq (.ops [⟨.mov (.const (.bool true)), some 8, none⟩])
  (.ret)))))⟩
theorem ok_laws_FnExactEvenGround : cmpF Try.prog Try.f4 = some c_laws_FnExactEvenGround := by kernel_rfl

/- laws.FnExactHeadsBetween -/
def c_laws_FnExactHeadsBetween : FV := ⟨42, [.tmp 2],
  .seq (.ops [⟨.box 27 (.tmp 0), some 1, none⟩,
    ⟨.mov (.const (.bool false)), some 2, none⟩])
  (.seq (.ops [⟨.load (some 195) (.tmp 1), some 10, none⟩,
    ⟨.call 28 [.tmp 10], some 11, none⟩,
    ⟨.call 27 [.tmp 11], some 12, none⟩,
    ⟨.mov (.tmp 12), some 9, none⟩,
    ⟨.ext (.tmp 9) 0, some 13, none⟩,
    ⟨.ext (.tmp 9) 1, some 14, none⟩,
    ⟨.ext (.tmp 9) 2, some 15, none⟩,
    ⟨.mov (.tmp 13), some 3, none⟩,
    ⟨.mov (.tmp 14), some 4, none⟩,
    ⟨.mov (.tmp 15), some 5, none⟩])
  (.seq (.ops [⟨.load (some 195) (.tmp 1), some 17, none⟩,
    ⟨.call 28 [.tmp 17], some 18, none⟩,
    ⟨.call 29 [.tmp 18], some 19, none⟩,
    ⟨.mov (.tmp 19), some 16, none⟩,
    ⟨.ext (.tmp 16) 0, some 20, none⟩,
    ⟨.ext (.tmp 16) 1, some 21, none⟩,
    ⟨.ext (.tmp 16) 2, some 22, none⟩,
    ⟨.mov (.tmp 20), some 6, none⟩,
    ⟨.mov (.tmp 21), some 7, none⟩,
    ⟨.mov (.tmp 22), some 8, none⟩])
  (.seq (.seq (.ops [⟨.mov (.tmp 6), some 23, none⟩,
    ⟨.convF .f64 (.tmp 23), some 24, none⟩,
    ⟨.mov (.tmp 3), some 25, none⟩,
    ⟨.convF .f64 (.tmp 25), some 26, none⟩,
    ⟨.call 30 [.tmp 24, .tmp 26], some 27, none⟩,
    ⟨.un .not (.tmp 27), some 28, none⟩,
    ⟨.mov (.tmp 28), some 29, none⟩,
    ⟨.mov (.tmp 7), some 30, some (29, false)⟩,
    ⟨.convF .f64 (.tmp 30), some 31, some (29, false)⟩,
    ⟨.mov (.tmp 4), some 32, some (29, false)⟩,
    ⟨.convF .f64 (.tmp 32), some 33, some (29, false)⟩,
    ⟨.call 30 [.tmp 31, .tmp 33], some 34, some (29, false)⟩,
    ⟨.un .not (.tmp 34), some 35, some (29, false)⟩,
    ⟨.pick (.tmp 29) (.const (.bool true)) (.tmp 35), some 36, none⟩,
    ⟨.mov (.tmp 36), some 37, none⟩,
    ⟨.mov (.tmp 8), some 38, some (37, false)⟩,
    ⟨.mov (.tmp 5), some 39, some (37, false)⟩,
    ⟨.bin .neq (.tmp 38) (.tmp 39), some 40, some (37, false)⟩,
    ⟨.pick (.tmp 37) (.const (.bool true)) (.tmp 40), some 41, none⟩])
  (.cond (.tmp 41) (.seq (.ops [⟨.mov (.const (.bool false)), some 2, none⟩])
  (.ret)) (.skip)))
  (.seq (.ops [⟨.mov (.const (.bool true)), some 2, none⟩])
  (.ret)))))⟩
theorem ok_laws_FnExactHeadsBetween : cmpF Try.prog Try.f5 = some c_laws_FnExactHeadsBetween := by kernel_rfl

/- laws.FnExactSumOver -/
def c_laws_FnExactSumOver : FV := ⟨36, [.tmp 4],
  .seq (.ops [⟨.box 27 (.tmp 0), some 2, none⟩,
    ⟨.box 24 (.tmp 1), some 3, none⟩,
    ⟨.mov (.const (.bool false)), some 4, none⟩])
  (.seq (.bops [⟨.load (some 195) (.tmp 2), some 10, none⟩,
    ⟨.call 28 [.tmp 10], some 11, none⟩,
    ⟨.load (some 64) (.tmp 3), some 12, none⟩,
    ⟨.call 35 [.tmp 12], some 13, none⟩,
    ⟨.call 34 [.tmp 11, .tmp 13], some 14, none⟩,
    ⟨.mov (.tmp 14), some 9, none⟩,
    ⟨.ext (.tmp 9) 0, some 15, none⟩,
    ⟨.ext (.tmp 9) 1, some 16, none⟩,
    ⟨.mov (.tmp 15), some 5, none⟩,
    ⟨.mov (.tmp 16), some 6, none⟩])
  (.seq (.bops [⟨.load (some 195) (.tmp 2), some 18, none⟩,
    ⟨.call 28 [.tmp 18], some 19, none⟩,
    ⟨.load (some 64) (.tmp 3), some 20, none⟩,
    ⟨.call 35 [.tmp 20], some 21, none⟩,
    ⟨.call 36 [.tmp 19, .tmp 21], some 22, none⟩,
    ⟨.mov (.tmp 22), some 17, none⟩,
    ⟨.ext (.tmp 17) 0, some 23, none⟩,
    ⟨.ext (.tmp 17) 1, some 24, none⟩,
    ⟨.mov (.tmp 23), some 7, none⟩,
    ⟨.mov (.tmp 24), some 8, none⟩])
  (.seq (.seq (.ops [⟨.mov (.tmp 7), some 25, none⟩,
    ⟨.convF .f64 (.tmp 25), some 26, none⟩,
    ⟨.mov (.tmp 5), some 27, none⟩,
    ⟨.convF .f64 (.tmp 27), some 28, none⟩,
    ⟨.call 30 [.tmp 26, .tmp 28], some 29, none⟩,
    ⟨.un .not (.tmp 29), some 30, none⟩,
    ⟨.mov (.tmp 30), some 31, none⟩,
    ⟨.mov (.tmp 8), some 32, some (31, false)⟩,
    ⟨.mov (.tmp 6), some 33, some (31, false)⟩,
    ⟨.bin .neq (.tmp 32) (.tmp 33), some 34, some (31, false)⟩,
    ⟨.pick (.tmp 31) (.const (.bool true)) (.tmp 34), some 35, none⟩])
  (.cond (.tmp 35) (.seq (.ops [⟨.mov (.const (.bool false)), some 4, none⟩])
  (.ret)) (.skip)))
  (.seq (.ops [⟨.mov (.const (.bool true)), some 4, none⟩])
  (.ret)))))⟩
theorem ok_laws_FnExactSumOver : cmpF Try.prog Try.f7 = some c_laws_FnExactSumOver := by kernel_rfl

/- laws.FnExactWarmUp -/
def c_laws_FnExactWarmUp : FV := ⟨32, [.tmp 4],
  .seq (.ops [⟨.box 27 (.tmp 0), some 2, none⟩,
    ⟨.mov (.const (.bool false)), some 4, none⟩])
  (.seq (.ops [⟨.load (some 195) (.tmp 2), some 10, none⟩,
    ⟨.call 28 [.tmp 10], some 11, none⟩,
    ⟨.mov (.tmp 1), some 12, none⟩,
    ⟨.call 37 [.tmp 11, .tmp 12], some 13, none⟩,
    ⟨.mov (.tmp 13), some 9, none⟩,
    ⟨.ext (.tmp 9) 0, some 14, none⟩,
    ⟨.ext (.tmp 9) 1, some 15, none⟩,
    ⟨.alloc 33 (.agg (gcells gz)), some 5, none⟩,
    ⟨.store 195 (.tmp 5) (.tmp 14), none, none⟩,
    ⟨.mov (.tmp 15), some 6, none⟩])
  (.seq (.ops [⟨.load (some 195) (.tmp 2), some 17, none⟩,
    ⟨.call 28 [.tmp 17], some 18, none⟩,
    ⟨.mov (.tmp 1), some 19, none⟩,
    ⟨.call 38 [.tmp 18, .tmp 19], some 20, none⟩,
    ⟨.mov (.tmp 20), some 16, none⟩,
    ⟨.ext (.tmp 16) 0, some 21, none⟩,
    ⟨.ext (.tmp 16) 1, some 22, none⟩,
    ⟨.alloc 33 (.agg (gcells gz)), some 7, none⟩,
    ⟨.store 195 (.tmp 7) (.tmp 21), none, none⟩,
    ⟨.mov (.tmp 22), some 8, none⟩])
  (.seq (.seq (.ops [⟨.load (some 195) (.tmp 7), some 23, none⟩,
    ⟨.load (some 195) (.tmp 5), some 24, none⟩,
    ⟨.call 26 [.tmp 23, .tmp 24], some 25, none⟩,
    ⟨.un .not (.tmp 25), some 26, none⟩,
    ⟨.mov (.tmp 26), some 27, none⟩,
    ⟨.mov (.tmp 8), some 28, some (27, false)⟩,
    ⟨.mov (.tmp 6), some 29, some (27, false)⟩,
    ⟨.bin .neq (.tmp 28) (.tmp 29), some 30, some (27, false)⟩,
    ⟨.pick (.tmp 27) (.const (.bool true)) (.tmp 30), some 31, none⟩])
  (.cond (.tmp 31) (.seq (.ops [⟨.mov (.const (.bool false)), some 4, none⟩])
  (.ret)) (.skip)))
  (.seq (.ops [⟨.mov (.const (.bool true)), some 4, none⟩])
  (.ret)))))⟩
theorem ok_laws_FnExactWarmUp : cmpF Try.prog Try.f8 = some c_laws_FnExactWarmUp := by kernel_rfl

/- laws.FnExactMirrorGround -/
def c_laws_FnExactMirrorGround : FV := ⟨28, [.tmp 2],
  .seq (.ops [⟨.box 27 (.tmp 0), some 1, none⟩,
    ⟨.mov (.const (.bool false)), some 2, none⟩])
  (.seq (.ops [⟨.load (some 195) (.tmp 1), some 8, none⟩,
    ⟨.call 28 [.tmp 8], some 9, none⟩,
    ⟨.call 39 [.tmp 9], some 10, none⟩,
    ⟨.mov (.tmp 10), some 7, none⟩,
    ⟨.ext (.tmp 7) 0, some 11, none⟩,
    ⟨.ext (.tmp 7) 1, some 12, none⟩,
    ⟨.alloc 33 (.agg (gcells gz)), some 3, none⟩,
    ⟨.store 195 (.tmp 3) (.tmp 11), none, none⟩,
    ⟨.mov (.tmp 12), some 4, none⟩])
  (.seq (.ops [⟨.load (some 195) (.tmp 1), some 14, none⟩,
    ⟨.call 28 [.tmp 14], some 15, none⟩,
    ⟨.call 40 [.tmp 15], some 16, none⟩,
    ⟨.mov (.tmp 16), some 13, none⟩,
    ⟨.ext (.tmp 13) 0, some 17, none⟩,
    ⟨.ext (.tmp 13) 1, some 18, none⟩,
    ⟨.alloc 33 (.agg (gcells gz)), some 5, none⟩,
    ⟨.store 195 (.tmp 5) (.tmp 17), none, none⟩,
    ⟨.mov (.tmp 18), some 6, none⟩])
  (.seq (.seq (.ops [⟨.load (some 195) (.tmp 5), some 19, none⟩,
    ⟨.load (some 195) (.tmp 3), some 20, none⟩,
    ⟨.call 26 [.tmp 19, .tmp 20], some 21, none⟩,
    ⟨.un .not (.tmp 21), some 22, none⟩,
    ⟨.mov (.tmp 22), some 23, none⟩,
    ⟨.mov (.tmp 6), some 24, some (23, false)⟩,
    ⟨.mov (.tmp 4), some 25, some (23, false)⟩,
    ⟨.bin .neq (.tmp 24) (.tmp 25), some 26, some (23, false)⟩,
    ⟨.pick (.tmp 23) (.const (.bool true)) (.tmp 26), some 27, none⟩])
  (.cond (.tmp 27) (.seq (.ops [⟨.mov (.const (.bool false)), some 2, none⟩])
  (.ret)) (.skip)))
  (.seq (.ops [⟨.mov (.const (.bool true)), some 2, none⟩])
  (.ret)))))⟩
theorem ok_laws_FnExactMirrorGround : cmpF Try.prog Try.f9 = some c_laws_FnExactMirrorGround := by kernel_rfl

/- laws.FnExactWithConduct -/
def c_laws_FnExactWithConduct : FV := ⟨36, [.tmp 6],
  .seq (.ops [⟨.box 27 (.tmp 0), some 3, none⟩,
    ⟨.mov (.const (.bool false)), some 6, none⟩])
  (.seq (.ops [⟨.load (some 195) (.tmp 3), some 12, none⟩,
    ⟨.call 28 [.tmp 12], some 13, none⟩,
    ⟨.mov (.tmp 1), some 14, none⟩,
    ⟨.mov (.tmp 2), some 15, none⟩,
    ⟨.call 41 [.tmp 13, .tmp 14, .tmp 15], some 16, none⟩,
    ⟨.mov (.tmp 16), some 11, none⟩,
    ⟨.ext (.tmp 11) 0, some 17, none⟩,
    ⟨.ext (.tmp 11) 1, some 18, none⟩,
    ⟨.alloc 33 (.agg (gcells gz)), some 7, none⟩,
    ⟨.store 195 (.tmp 7) (.tmp 17), none, none⟩,
    ⟨.mov (.tmp 18), some 8, none⟩])
  (.seq (.ops [⟨.load (some 195) (.tmp 3), some 20, none⟩,
    ⟨.call 28 [.tmp 20], some 21, none⟩,
    ⟨.mov (.tmp 1), some 22, none⟩,
    ⟨.mov (.tmp 2), some 23, none⟩,
    ⟨.call 42 [.tmp 21, .tmp 22, .tmp 23], some 24, none⟩,
    ⟨.mov (.tmp 24), some 19, none⟩,
    ⟨.ext (.tmp 19) 0, some 25, none⟩,
    ⟨.ext (.tmp 19) 1, some 26, none⟩,
    ⟨.alloc 33 (.agg (gcells gz)), some 9, none⟩,
    ⟨.store 195 (.tmp 9) (.tmp 25), none, none⟩,
    ⟨.mov (.tmp 26), some 10, none⟩])
  (.seq (.seq (.ops [⟨.load (some 195) (.tmp 9), some 27, none⟩,
    ⟨.load (some 195) (.tmp 7), some 28, none⟩,
    ⟨.call 26 [.tmp 27, .tmp 28], some 29, none⟩,
    ⟨.un .not (.tmp 29), some 30, none⟩,
    ⟨.mov (.tmp 30), some 31, none⟩,
    ⟨.mov (.tmp 10), some 32, some (31, false)⟩,
    ⟨.mov (.tmp 8), some 33, some (31, false)⟩,
    ⟨.bin .neq (.tmp 32) (.tmp 33), some 34, some (31, false)⟩,
    ⟨.pick (.tmp 31) (.const (.bool true)) (.tmp 34), some 35, none⟩])
  (.cond (.tmp 35) (.seq (.ops [⟨.mov (.const (.bool false)), some 6, none⟩])
  (.ret)) (.skip)))
  (.seq (.ops [⟨.mov (.const (.bool true)), some 6, none⟩])
  (.ret)))))⟩
theorem ok_laws_FnExactWithConduct : cmpF Try.prog Try.f10 = some c_laws_FnExactWithConduct := by kernel_rfl

/- laws.FnExactWithGain -/
def c_laws_FnExactWithGain : FV := ⟨36, [.tmp 6],
  .seq (.ops [⟨.box 27 (.tmp 0), some 3, none⟩,
    ⟨.mov (.const (.bool false)), some 6, none⟩])
  (.seq (.ops [⟨.load (some 195) (.tmp 3), some 12, none⟩,
    ⟨.call 28 [.tmp 12], some 13, none⟩,
    ⟨.mov (.tmp 1), some 14, none⟩,
    ⟨.mov (.tmp 2), some 15, none⟩,
    ⟨.call 43 [.tmp 13, .tmp 14, .tmp 15], some 16, none⟩,
    ⟨.mov (.tmp 16), some 11, none⟩,
    ⟨.ext (.tmp 11) 0, some 17, none⟩,
    ⟨.ext (.tmp 11) 1, some 18, none⟩,
    ⟨.alloc 33 (.agg (gcells gz)), some 7, none⟩,
    ⟨.store 195 (.tmp 7) (.tmp 17), none, none⟩,
    ⟨.mov (.tmp 18), some 8, none⟩])
  (.seq (.ops [⟨.load (some 195) (.tmp 3), some 20, none⟩,
    ⟨.call 28 [.tmp 20], some 21, none⟩,
    ⟨.mov (.tmp 1), some 22, none⟩,
    ⟨.mov (.tmp 2), some 23, none⟩,
    ⟨.call 44 [.tmp 21, .tmp 22, .tmp 23], some 24, none⟩,
    ⟨.mov (.tmp 24), some 19, none⟩,
    ⟨.ext (.tmp 19) 0, some 25, none⟩,
    ⟨.ext (.tmp 19) 1, some 26, none⟩,
    ⟨.alloc 33 (.agg (gcells gz)), some 9, none⟩,
    ⟨.store 195 (.tmp 9) (.tmp 25), none, none⟩,
    ⟨.mov (.tmp 26), some 10, none⟩])
  (.seq (.seq (.ops [⟨.load (some 195) (.tmp 9), some 27, none⟩,
    ⟨.load (some 195) (.tmp 7), some 28, none⟩,
    ⟨.call 26 [.tmp 27, .tmp 28], some 29, none⟩,
    ⟨.un .not (.tmp 29), some 30, none⟩,
    ⟨.mov (.tmp 30), some 31, none⟩,
    ⟨.mov (.tmp 10), some 32, some (31, false)⟩,
    ⟨.mov (.tmp 8), some 33, some (31, false)⟩,
    ⟨.bin .neq (.tmp 32) (.tmp 33), some 34, some (31, false)⟩,
    ⟨.pick (.tmp 31) (.const (.bool true)) (.tmp 34), some 35, none⟩])
  (.cond (.tmp 35) (.seq (.ops [⟨.mov (.const (.bool false)), some 6, none⟩])
  (.ret)) (.skip)))
  (.seq (.ops [⟨.mov (.const (.bool true)), some 6, none⟩])
  (.ret)))))⟩
theorem ok_laws_FnExactWithGain : cmpF Try.prog Try.f11 = some c_laws_FnExactWithGain := by kernel_rfl

/- laws.FnExactWithHead -/
def c_laws_FnExactWithHead : FV := ⟨36, [.tmp 6],
  .seq (.ops [⟨.box 27 (.tmp 0), some 3, none⟩,
    ⟨.mov (.const (.bool false)), some 6, none⟩])
  (.seq (.ops [⟨.load (some 195) (.tmp 3), some 12, none⟩,
    ⟨.call 28 [.tmp 12], some 13, none⟩,
    ⟨.mov (.tmp 1), some 14, none⟩,
    ⟨.mov (.tmp 2), some 15, none⟩,
    ⟨.call 45 [.tmp 13, .tmp 14, .tmp 15], some 16, none⟩,
    ⟨.mov (.tmp 16), some 11, none⟩,
    ⟨.ext (.tmp 11) 0, some 17, none⟩,
    ⟨.ext (.tmp 11) 1, some 18, none⟩,
    ⟨.alloc 33 (.agg (gcells gz)), some 7, none⟩,
    ⟨.store 195 (.tmp 7) (.tmp 17), none, none⟩,
    ⟨.mov (.tmp 18), some 8, none⟩])
  (.seq (.ops [⟨.load (some 195) (.tmp 3), some 20, none⟩,
    ⟨.call 28 [.tmp 20], some 21, none⟩,
    ⟨.mov (.tmp 1), some 22, none⟩,
    ⟨.mov (.tmp 2), some 23, none⟩,
    ⟨.call 46 [.tmp 21, .tmp 22, .tmp 23], some 24, none⟩,
    ⟨.mov (.tmp 24), some 19, none⟩,
    ⟨.ext (.tmp 19) 0, some 25, none⟩,
    ⟨.ext (.tmp 19) 1, some 26, none⟩,
    ⟨.alloc 33 (.agg (gcells gz)), some 9, none⟩,
    ⟨.store 195 (.tmp 9) (.tmp 25), none, none⟩,
    ⟨.mov (.tmp 26), some 10, none⟩])
  (.seq (.seq (.ops [⟨.load (some 195) (.tmp 9), some 27, none⟩,
    ⟨.load (some 195) (.tmp 7), some 28, none⟩,
    ⟨.call 26 [.tmp 27, .tmp 28], some 29, none⟩,
    ⟨.un .not (.tmp 29), some 30, none⟩,
    ⟨.mov (.tmp 30), some 31, none⟩,
    ⟨.mov (.tmp 10), some 32, some (31, false)⟩,
    ⟨.mov (.tmp 8), some 33, some (31, false)⟩,
    ⟨.bin .neq (.tmp 32) (.tmp 33), some 34, some (31, false)⟩,
    ⟨.pick (.tmp 31) (.const (.bool true)) (.tmp 34), some 35, none⟩])
  (.cond (.tmp 35) (.seq (.ops [⟨.mov (.const (.bool false)), some 6, none⟩])
  (.ret)) (.skip)))
  (.seq (.ops [⟨.mov (.const (.bool true)), some 6, none⟩])
  (.ret)))))⟩
theorem ok_laws_FnExactWithHead : cmpF Try.prog Try.f12 = some c_laws_FnExactWithHead := by kernel_rfl

/- laws.FnExactGreatestChange -/
def c_laws_FnExactGreatestChange : FV := ⟨45, [.tmp 4],
  .seq (.ops [⟨.box 27 (.tmp 0), some 2, none⟩,
    ⟨.box 27 (.tmp 1), some 3, none⟩,
    ⟨.mov (.const (.bool false)), some 4, none⟩])
  (.seq (.bops [⟨.load (some 195) (.tmp 2), some 12, none⟩,
    ⟨.call 28 [.tmp 12], some 13, none⟩,
    ⟨.load (some 195) (.tmp 3), some 14, none⟩,
    ⟨.call 28 [.tmp 14], some 15, none⟩,
    ⟨.call 47 [.tmp 13, .tmp 15], some 16, none⟩,
    ⟨.mov (.tmp 16), some 11, none⟩,
    ⟨.ext (.tmp 11) 0, some 17, none⟩,
    ⟨.ext (.tmp 11) 1, some 18, none⟩,
    ⟨.ext (.tmp 11) 2, some 19, none⟩,
    ⟨.mov (.tmp 17), some 5, none⟩,
    ⟨.mov (.tmp 18), some 6, none⟩,
    ⟨.mov (.tmp 19), some 7, none⟩])
  (.seq (.bops [⟨.load (some 195) (.tmp 2), some 21, none⟩,
    ⟨.call 28 [.tmp 21], some 22, none⟩,
    ⟨.load (some 195) (.tmp 3), some 23, none⟩,
    ⟨.call 28 [.tmp 23], some 24, none⟩,
    ⟨.call 48 [.tmp 22, .tmp 24], some 25, none⟩,
    ⟨.mov (.tmp 25), some 20, none⟩,
    ⟨.ext (.tmp 20) 0, some 26, none⟩,
    ⟨.ext (.tmp 20) 1, some 27, none⟩,
    ⟨.ext (.tmp 20) 2, some 28, none⟩,
    ⟨.mov (.tmp 26), some 8, none⟩,
    ⟨.mov (.tmp 27), some 9, none⟩,
    ⟨.mov (.tmp 28), some 10, none⟩])
  (.seq (.seq (.ops [⟨.mov (.tmp 8), some 29, none⟩,
    ⟨.mov (.tmp 5), some 30, none⟩,
    ⟨.bin .neq (.tmp 29) (.tmp 30), some 31, none⟩,
    ⟨.mov (.tmp 31), some 32, none⟩,
    ⟨.mov (.tmp 9), some 33, some (32, false)⟩,
    ⟨.convF .f64 (.tmp 33), some 34, some (32, false)⟩,
    ⟨.mov (.tmp 6), some 35, some (32, false)⟩,
    ⟨.convF .f64 (.tmp 35), some 36, some (32, false)⟩,
    ⟨.call 30 [.tmp 34, .tmp 36], some 37, some (32, false)⟩,
    ⟨.un .not (.tmp 37), some 38, some (32, false)⟩,
    ⟨.pick (.tmp 32) (.const (.bool true)) (.tmp 38), some 39, none⟩,
    ⟨.mov (.tmp 39), some 40, none⟩,
    ⟨.mov (.tmp 10), some 41, some (40, false)⟩,
    ⟨.mov (.tmp 7), some 42, some (40, false)⟩,
    ⟨.bin .neq (.tmp 41) (.tmp 42), some 43, some (40, false)⟩,
    ⟨.pick (.tmp 40) (.const (.bool true)) (.tmp 43), some 44, none⟩])
  (.cond (.tmp 44) (.seq (.ops [⟨.mov (.const (.bool false)), some 4, none⟩])
  (.ret)) (.skip)))
  (.seq (.ops [⟨.mov (.const (.bool true)), some 4, none⟩])
  (.ret)))))⟩
theorem ok_laws_FnExactGreatestChange : cmpF Try.prog Try.f13 = some c_laws_FnExactGreatestChange := by kernel_rfl

/- laws.FnExactWithFixed -/
def c_laws_FnExactWithFixed : FV := ⟨36, [.tmp 6],
  .seq (.ops [⟨.box 27 (.tmp 0), some 3, none⟩,
    ⟨.mov (.const (.bool false)), some 6, none⟩])
  (.seq (.ops [⟨.load (some 195) (.tmp 3), some 12, none⟩,
    ⟨.call 28 [.tmp 12], some 13, none⟩,
    ⟨.mov (.tmp 1), some 14, none⟩,
    ⟨.mov (.tmp 2), some 15, none⟩,
    ⟨.call 49 [.tmp 13, .tmp 14, .tmp 15], some 16, none⟩,
    ⟨.mov (.tmp 16), some 11, none⟩,
    ⟨.ext (.tmp 11) 0, some 17, none⟩,
    ⟨.ext (.tmp 11) 1, some 18, none⟩,
    ⟨.alloc 33 (.agg (gcells gz)), some 7, none⟩,
    ⟨.store 195 (.tmp 7) (.tmp 17), none, none⟩,
    ⟨.mov (.tmp 18), some 8, none⟩])
  (.seq (.ops [⟨.load (some 195) (.tmp 3), some 20, none⟩,
    ⟨.call 28 [.tmp 20], some 21, none⟩,
    ⟨.mov (.tmp 1), some 22, none⟩,
    ⟨.mov (.tmp 2), some 23, none⟩,
    ⟨.call 50 [.tmp 21, .tmp 22, .tmp 23], some 24, none⟩,
    ⟨.mov (.tmp 24), some 19, none⟩,
    ⟨.ext (.tmp 19) 0, some 25, none⟩,
    ⟨.ext (.tmp 19) 1, some 26, none⟩,
    ⟨.alloc 33 (.agg (gcells gz)), some 9, none⟩,
    ⟨.store 195 (.tmp 9) (.tmp 25), none, none⟩,
    ⟨.mov (.tmp 26), some 10, none⟩])
  (.seq (.seq (.ops [⟨.load (some 195) (.tmp 9), some 27, none⟩,
    ⟨.load (some 195) (.tmp 7), some 28, none⟩,
    ⟨.call 26 [.tmp 27, .tmp 28], some 29, none⟩,
    ⟨.un .not (.tmp 29), some 30, none⟩,
    ⟨.mov (.tmp 30), some 31, none⟩,
    ⟨.mov (.tmp 10), some 32, some (31, false)⟩,
    ⟨.mov (.tmp 8), some 33, some (31, false)⟩,
    ⟨.bin .neq (.tmp 32) (.tmp 33), some 34, some (31, false)⟩,
    ⟨.pick (.tmp 31) (.const (.bool true)) (.tmp 34), some 35, none⟩])
  (.cond (.tmp 35) (.seq (.ops [⟨.mov (.const (.bool false)), some 6, none⟩])
  (.ret)) (.skip)))
  (.seq (.ops [⟨.mov (.const (.bool true)), some 6, none⟩])
  (.ret)))))⟩
theorem ok_laws_FnExactWithFixed : cmpF Try.prog Try.f14 = some c_laws_FnExactWithFixed := by kernel_rfl

/- laws.FnExactFedCells -/
def c_laws_FnExactFedCells : FV := ⟨27, [.tmp 2],
  .seq (.ops [⟨.box 27 (.tmp 0), some 1, none⟩,
    ⟨.mov (.const (.bool false)), some 2, none⟩])
  (.seq (.ops [⟨.load (some 195) (.tmp 1), some 8, none⟩,
    ⟨.call 28 [.tmp 8], some 9, none⟩,
    ⟨.call 51 [.tmp 9], some 10, none⟩,
    ⟨.mov (.tmp 10), some 7, none⟩,
    ⟨.ext (.tmp 7) 0, some 11, none⟩,
    ⟨.ext (.tmp 7) 1, some 12, none⟩,
    ⟨.mov (.tmp 11), some 3, none⟩,
    ⟨.mov (.tmp 12), some 4, none⟩])
  (.seq (.ops [⟨.load (some 195) (.tmp 1), some 14, none⟩,
    ⟨.call 28 [.tmp 14], some 15, none⟩,
    ⟨.call 52 [.tmp 15], some 16, none⟩,
    ⟨.mov (.tmp 16), some 13, none⟩,
    ⟨.ext (.tmp 13) 0, some 17, none⟩,
    ⟨.ext (.tmp 13) 1, some 18, none⟩,
    ⟨.mov (.tmp 17), some 5, none⟩,
    ⟨.mov (.tmp 18), some 6, none⟩])
  (.seq (.seq (.ops [⟨.mov (.tmp 5), some 19, none⟩,
    ⟨.mov (.tmp 3), some 20, none⟩,
    ⟨.bin .neq (.tmp 19) (.tmp 20), some 21, none⟩,
    ⟨.mov (.tmp 21), some 22, none⟩,
    ⟨.mov (.tmp 6), some 23, some (22, false)⟩,
    ⟨.mov (.tmp 4), some 24, some (22, false)⟩,
    ⟨.bin .neq (.tmp 23) (.tmp 24), some 25, some (22, false)⟩,
    ⟨.pick (.tmp 22) (.const (.bool true)) (.tmp 25), some 26, none⟩])
  (.cond (.tmp 26) (.seq (.ops [⟨.mov (.const (.bool false)), some 2, none⟩])
  (.ret)) (.skip)))
  (.seq (.ops [⟨.mov (.const (.bool true)), some 2, none⟩])
  (.ret)))))⟩
theorem ok_laws_FnExactFedCells : cmpF Try.prog Try.f15 = some c_laws_FnExactFedCells := by kernel_rfl

/- laws.FnExactValidBrine -/
def c_laws_FnExactValidBrine : FV := ⟨14, [.tmp 2],
  .seq (.ops [⟨.box 29 (.tmp 0), some 1, none⟩,
    ⟨.mov (.const (.bool false)), some 2, none⟩])
  (.seq (.ops [⟨.load (some 324) (.tmp 1), some 5, none⟩,
    ⟨.call 22 [.tmp 5], some 6, none⟩,
    ⟨.call 53 [.tmp 6], some 7, none⟩,
    ⟨.mov (.tmp 7), some 3, none⟩])
  (.seq (.ops [⟨.load (some 324) (.tmp 1), some 8, none⟩,
    ⟨.call 22 [.tmp 8], some 9, none⟩,
    ⟨.call 54 [.tmp 9], some 10, none⟩,
    ⟨.mov (.tmp 10), some 4, none⟩])
  (.seq (.seq (.ops [⟨.mov (.tmp 4), some 11, none⟩,
    ⟨.mov (.tmp 3), some 12, none⟩,
    ⟨.beq true (.tmp 11) (.tmp 12), some 13, none⟩])
  (.cond (.tmp 13) (.seq (.ops [⟨.mov (.const (.bool false)), some 2, none⟩])
  (.ret)) (.skip)))
  (.seq (.ops [⟨.mov (.const (.bool true)), some 2, none⟩])
  (.ret)))))⟩
theorem ok_laws_FnExactValidBrine : cmpF Try.prog Try.f16 = some c_laws_FnExactValidBrine := by kernel_rfl

/- laws.FnExactFlowFrom -/
def c_laws_FnExactFlowFrom : FV := ⟨38, [.tmp 6],
  .seq (.ops [⟨.box 27 (.tmp 0), some 3, none⟩,
    ⟨.mov (.const (.bool false)), some 6, none⟩])
  (.seq (.ops [⟨.load (some 195) (.tmp 3), some 12, none⟩,
    ⟨.call 28 [.tmp 12], some 13, none⟩,
    ⟨.mov (.tmp 1), some 14, none⟩,
    ⟨.mov (.tmp 2), some 15, none⟩,
    ⟨.call 55 [.tmp 13, .tmp 14, .tmp 15], some 16, none⟩,
    ⟨.mov (.tmp 16), some 11, none⟩,
    ⟨.ext (.tmp 11) 0, some 17, none⟩,
    ⟨.ext (.tmp 11) 1, some 18, none⟩,
    ⟨.mov (.tmp 17), some 7, none⟩,
    ⟨.mov (.tmp 18), some 8, none⟩])
  (.seq (.ops [⟨.load (some 195) (.tmp 3), some 20, none⟩,
    ⟨.call 28 [.tmp 20], some 21, none⟩,
    ⟨.mov (.tmp 1), some 22, none⟩,
    ⟨.mov (.tmp 2), some 23, none⟩,
    ⟨.call 56 [.tmp 21, .tmp 22, .tmp 23], some 24, none⟩,
    ⟨.mov (.tmp 24), some 19, none⟩,
    ⟨.ext (.tmp 19) 0, some 25, none⟩,
    ⟨.ext (.tmp 19) 1, some 26, none⟩,
    ⟨.mov (.tmp 25), some 9, none⟩,
    ⟨.mov (.tmp 26), some 10, none⟩])
  (.seq (.seq (.ops [⟨.mov (.tmp 9), some 27, none⟩,
    ⟨.convF .f64 (.tmp 27), some 28, none⟩,
    ⟨.mov (.tmp 7), some 29, none⟩,
    ⟨.convF .f64 (.tmp 29), some 30, none⟩,
    ⟨.call 30 [.tmp 28, .tmp 30], some 31, none⟩,
    ⟨.un .not (.tmp 31), some 32, none⟩,
    ⟨.mov (.tmp 32), some 33, none⟩,
    ⟨.mov (.tmp 10), some 34, some (33, false)⟩,
    ⟨.mov (.tmp 8), some 35, some (33, false)⟩,
    ⟨.bin .neq (.tmp 34) (.tmp 35), some 36, some (33, false)⟩,
    ⟨.pick (.tmp 33) (.const (.bool true)) (.tmp 36), some 37, none⟩])
  (.cond (.tmp 37) (.seq (.ops [⟨.mov (.const (.bool false)), some 6, none⟩])
  (.ret)) (.skip)))
  (.seq (.ops [⟨.mov (.const (.bool true)), some 6, none⟩])
  (.ret)))))⟩
theorem ok_laws_FnExactFlowFrom : cmpF Try.prog Try.f17 = some c_laws_FnExactFlowFrom := by kernel_rfl

/- laws.FnExactBalanceAt -/
def c_laws_FnExactBalanceAt : FV := ⟨34, [.tmp 4],
  .seq (.ops [⟨.box 27 (.tmp 0), some 2, none⟩,
    ⟨.mov (.const (.bool false)), some 4, none⟩])
  (.seq (.ops [⟨.load (some 195) (.tmp 2), some 10, none⟩,
    ⟨.call 28 [.tmp 10], some 11, none⟩,
    ⟨.mov (.tmp 1), some 12, none⟩,
    ⟨.call 57 [.tmp 11, .tmp 12], some 13, none⟩,
    ⟨.mov (.tmp 13), some 9, none⟩,
    ⟨.ext (.tmp 9) 0, some 14, none⟩,
    ⟨.ext (.tmp 9) 1, some 15, none⟩,
    ⟨.mov (.tmp 14), some 5, none⟩,
    ⟨.mov (.tmp 15), some 6, none⟩])
  (.seq (.ops [⟨.load (some 195) (.tmp 2), some 17, none⟩,
    ⟨.call 28 [.tmp 17], some 18, none⟩,
    ⟨.mov (.tmp 1), some 19, none⟩,
    ⟨.call 58 [.tmp 18, .tmp 19], some 20, none⟩,
    ⟨.mov (.tmp 20), some 16, none⟩,
    ⟨.ext (.tmp 16) 0, some 21, none⟩,
    ⟨.ext (.tmp 16) 1, some 22, none⟩,
    ⟨.mov (.tmp 21), some 7, none⟩,
    ⟨.mov (.tmp 22), some 8, none⟩])
  (.seq (.seq (.ops [⟨.mov (.tmp 7), some 23, none⟩,
    ⟨.convF .f64 (.tmp 23), some 24, none⟩,
    ⟨.mov (.tmp 5), some 25, none⟩,
    ⟨.convF .f64 (.tmp 25), some 26, none⟩,
    ⟨.call 30 [.tmp 24, .tmp 26], some 27, none⟩,
    ⟨.un .not (.tmp 27), some 28, none⟩,
    ⟨.mov (.tmp 28), some 29, none⟩,
    ⟨.mov (.tmp 8), some 30, some (29, false)⟩,
    ⟨.mov (.tmp 6), some 31, some (29, false)⟩,
    ⟨.bin .neq (.tmp 30) (.tmp 31), some 32, some (29, false)⟩,
    ⟨.pick (.tmp 29) (.const (.bool true)) (.tmp 32), some 33, none⟩])
  (.cond (.tmp 33) (.seq (.ops [⟨.mov (.const (.bool false)), some 4, none⟩])
  (.ret)) (.skip)))
  (.seq (.ops [⟨.mov (.const (.bool true)), some 4, none⟩])
  (.ret)))))⟩
theorem ok_laws_FnExactBalanceAt : cmpF Try.prog Try.f18 = some c_laws_FnExactBalanceAt := by kernel_rfl

/- laws.FnExactFrontOf -/
def c_laws_FnExactFrontOf : FV := ⟨31, [.tmp 4],
  .seq (.ops [⟨.box 29 (.tmp 0), some 2, none⟩,
    ⟨.mov (.const (.bool false)), some 4, none⟩])
  (.seq (.ops [⟨.load (some 324) (.tmp 2), some 10, none⟩,
    ⟨.call 22 [.tmp 10], some 11, none⟩,
    ⟨.mov (.tmp 1), some 12, none⟩,
    ⟨.call 59 [.tmp 11, .tmp 12], some 13, none⟩,
    ⟨.mov (.tmp 13), some 9, none⟩,
    ⟨.ext (.tmp 9) 0, some 14, none⟩,
    ⟨.ext (.tmp 9) 1, some 15, none⟩,
    ⟨.mov (.tmp 14), some 5, none⟩,
    ⟨.mov (.tmp 15), some 6, none⟩])
  (.seq (.ops [⟨.load (some 324) (.tmp 2), some 17, none⟩,
    ⟨.call 22 [.tmp 17], some 18, none⟩,
    ⟨.mov (.tmp 1), some 19, none⟩,
    ⟨.call 60 [.tmp 18, .tmp 19], some 20, none⟩,
    ⟨.mov (.tmp 20), some 16, none⟩,
    ⟨.ext (.tmp 16) 0, some 21, none⟩,
    ⟨.ext (.tmp 16) 1, some 22, none⟩,
    ⟨.mov (.tmp 21), some 7, none⟩,
    ⟨.mov (.tmp 22), some 8, none⟩])
  (.seq (.seq (.ops [⟨.mov (.tmp 7), some 23, none⟩,
    ⟨.mov (.tmp 5), some 24, none⟩,
    ⟨.bin .neq (.tmp 23) (.tmp 24), some 25, none⟩,
    ⟨.mov (.tmp 25), some 26, none⟩,
    ⟨.mov (.tmp 8), some 27, some (26, false)⟩,
    ⟨.mov (.tmp 6), some 28, some (26, false)⟩,
    ⟨.bin .neq (.tmp 27) (.tmp 28), some 29, some (26, false)⟩,
    ⟨.pick (.tmp 26) (.const (.bool true)) (.tmp 29), some 30, none⟩])
  (.cond (.tmp 30) (.seq (.ops [⟨.mov (.const (.bool false)), some 4, none⟩])
  (.ret)) (.skip)))
  (.seq (.ops [⟨.mov (.const (.bool true)), some 4, none⟩])
  (.ret)))))⟩
theorem ok_laws_FnExactFrontOf : cmpF Try.prog Try.f19 = some c_laws_FnExactFrontOf := by kernel_rfl

/- laws.FnExactSettledHead -/
def c_laws_FnExactSettledHead : FV := ⟨34, [.tmp 4],
  .seq (.ops [⟨.box 27 (.tmp 0), some 2, none⟩,
    ⟨.mov (.const (.bool false)), some 4, none⟩])
  (.seq (.ops [⟨.load (some 195) (.tmp 2), some 10, none⟩,
    ⟨.call 28 [.tmp 10], some 11, none⟩,
    ⟨.mov (.tmp 1), some 12, none⟩,
    ⟨.call 61 [.tmp 11, .tmp 12], some 13, none⟩,
    ⟨.mov (.tmp 13), some 9, none⟩,
    ⟨.ext (.tmp 9) 0, some 14, none⟩,
    ⟨.ext (.tmp 9) 1, some 15, none⟩,
    ⟨.mov (.tmp 14), some 5, none⟩,
    ⟨.mov (.tmp 15), some 6, none⟩])
  (.seq (.ops [⟨.load (some 195) (.tmp 2), some 17, none⟩,
    ⟨.call 28 [.tmp 17], some 18, none⟩,
    ⟨.mov (.tmp 1), some 19, none⟩,
    ⟨.call 62 [.tmp 18, .tmp 19], some 20, none⟩,
    ⟨.mov (.tmp 20), some 16, none⟩,
    ⟨.ext (.tmp 16) 0, some 21, none⟩,
    ⟨.ext (.tmp 16) 1, some 22, none⟩,
    ⟨.mov (.tmp 21), some 7, none⟩,
    ⟨.mov (.tmp 22), some 8, none⟩])
  (.seq (.seq (.ops [⟨.mov (.tmp 7), some 23, none⟩,
    ⟨.convF .f64 (.tmp 23), some 24, none⟩,
    ⟨.mov (.tmp 5), some 25, none⟩,
    ⟨.convF .f64 (.tmp 25), some 26, none⟩,
    ⟨.call 30 [.tmp 24, .tmp 26], some 27, none⟩,
    ⟨.un .not (.tmp 27), some 28, none⟩,
    ⟨.mov (.tmp 28), some 29, none⟩,
    ⟨.mov (.tmp 8), some 30, some (29, false)⟩,
    ⟨.mov (.tmp 6), some 31, some (29, false)⟩,
    ⟨.bin .neq (.tmp 30) (.tmp 31), some 32, some (29, false)⟩,
    ⟨.pick (.tmp 29) (.const (.bool true)) (.tmp 32), some 33, none⟩])
  (.cond (.tmp 33) (.seq (.ops [⟨.mov (.const (.bool false)), some 4, none⟩])
  (.ret)) (.skip)))
  (.seq (.ops [⟨.mov (.const (.bool true)), some 4, none⟩])
  (.ret)))))⟩
theorem ok_laws_FnExactSettledHead : cmpF Try.prog Try.f20 = some c_laws_FnExactSettledHead := by kernel_rfl

/- spec.SameBrine -/
def c_spec_SameBrine : FV := ⟨25, [.tmp 4],
  .seq (.ops [⟨.box 35 (.tmp 0), some 2, none⟩,
    ⟨.box 35 (.tmp 1), some 3, none⟩,
    ⟨.mov (.const (.bool false)), some 4, none⟩])
  (.seq (.ops [⟨.addr (.tmp 2) 0, some 5, none⟩,
    ⟨.addr (.tmp 3) 0, some 6, none⟩,
    ⟨.call 63 [.tmp 5, .tmp 6], some 7, none⟩,
    ⟨.mov (.tmp 7), some 8, none⟩,
    ⟨.addr (.tmp 2) 195, some 9, some (8, true)⟩,
    ⟨.addr (.tmp 3) 195, some 10, some (8, true)⟩,
    ⟨.call 64 [.tmp 9, .tmp 10], some 11, some (8, true)⟩,
    ⟨.pick (.tmp 8) (.tmp 11) (.const (.bool false)), some 12, none⟩,
    ⟨.mov (.tmp 12), some 13, none⟩,
    ⟨.addr (.tmp 2) 259, some 14, some (13, true)⟩,
    ⟨.addr (.tmp 3) 259, some 15, some (13, true)⟩,
    ⟨.call 64 [.tmp 14, .tmp 15], some 16, some (13, true)⟩,
    ⟨.pick (.tmp 13) (.tmp 16) (.const (.bool false)), some 17, none⟩,
    ⟨.mov (.tmp 17), some 18, none⟩,
    ⟨.addr (.tmp 2) 323, some 19, some (18, true)⟩,
    ⟨.load none (.tmp 19), some 20, some (18, true)⟩,
    ⟨.addr (.tmp 3) 323, some 21, some (18, true)⟩,
    ⟨.load none (.tmp 21), some 22, some (18, true)⟩,
    ⟨.call 65 [.tmp 20, .tmp 22], some 23, some (18, true)⟩,
    ⟨.pick (.tmp 18) (.tmp 23) (.const (.bool false)), some 24, none⟩,
    ⟨.mov (.tmp 24), some 4, none⟩])
  (.ret))⟩
theorem ok_spec_SameBrine : cmpF Try.prog Try.f21 = some c_spec_SameBrine := by kernel_rfl

/- laws.toBrine -/
def c_laws_toBrine : FV := ⟨20, [.cell 2 (some 324)],
  .seq (.ops [⟨.box 29 (.tmp 0), some 1, none⟩,
    ⟨.alloc 35 (.agg (brcells brz)), some 2, none⟩])
  (.seq (.ops [⟨.alloc 35 (.agg (brcells brz)), some 3, none⟩])
  (.seq (.ops [⟨.addr (.tmp 1) 0, some 4, none⟩,
    ⟨.load (some 195) (.tmp 4), some 5, none⟩,
    ⟨.call 28 [.tmp 5], some 6, none⟩,
    ⟨.addr (.tmp 3) 0, some 7, none⟩,
    ⟨.store 195 (.tmp 7) (.tmp 6), none, none⟩])
  (.seq (.ops [⟨.addr (.tmp 1) 195, some 8, none⟩,
    ⟨.load (some 64) (.tmp 8), some 9, none⟩,
    ⟨.call 35 [.tmp 9], some 10, none⟩,
    ⟨.addr (.tmp 3) 195, some 11, none⟩,
    ⟨.store 64 (.tmp 11) (.tmp 10), none, none⟩])
  (.seq (.ops [⟨.addr (.tmp 1) 259, some 12, none⟩,
    ⟨.load (some 64) (.tmp 12), some 13, none⟩,
    ⟨.call 35 [.tmp 13], some 14, none⟩,
    ⟨.addr (.tmp 3) 259, some 15, none⟩,
    ⟨.store 64 (.tmp 15) (.tmp 14), none, none⟩])
  (.seq (.ops [⟨.addr (.tmp 1) 323, some 16, none⟩,
    ⟨.load none (.tmp 16), some 17, none⟩,
    ⟨.addr (.tmp 3) 323, some 18, none⟩,
    ⟨.store 1 (.tmp 18) (.tmp 17), none, none⟩])
  (.seq (.ops [⟨.load (some 324) (.tmp 3), some 19, none⟩,
    ⟨.store 324 (.tmp 2) (.tmp 19), none, none⟩])
  (.ret)))))))⟩
theorem ok_laws_toBrine : cmpF Try.prog Try.f22 = some c_laws_toBrine := by kernel_rfl

/- impl.SameBrine -/
def c_impl_SameBrine : FV := ⟨31, [.tmp 4],
  .seq (.ops [⟨.box 35 (.tmp 0), some 2, none⟩,
    ⟨.box 35 (.tmp 1), some 3, none⟩,
    ⟨.mov (.const (.bool false)), some 4, none⟩])
  (.seq (.ops [⟨.addr (.tmp 2) 0, some 5, none⟩,
    ⟨.load (some 195) (.tmp 5), some 6, none⟩,
    ⟨.addr (.tmp 3) 0, some 7, none⟩,
    ⟨.load (some 195) (.tmp 7), some 8, none⟩,
    ⟨.call 66 [.tmp 6, .tmp 8], some 9, none⟩,
    ⟨.mov (.tmp 9), some 10, none⟩,
    ⟨.addr (.tmp 2) 195, some 11, some (10, true)⟩,
    ⟨.load (some 64) (.tmp 11), some 12, some (10, true)⟩,
    ⟨.addr (.tmp 3) 195, some 13, some (10, true)⟩,
    ⟨.load (some 64) (.tmp 13), some 14, some (10, true)⟩,
    ⟨.call 67 [.tmp 12, .tmp 14], some 15, some (10, true)⟩,
    ⟨.pick (.tmp 10) (.tmp 15) (.const (.bool false)), some 16, none⟩,
    ⟨.mov (.tmp 16), some 17, none⟩,
    ⟨.addr (.tmp 2) 259, some 18, some (17, true)⟩,
    ⟨.load (some 64) (.tmp 18), some 19, some (17, true)⟩,
    ⟨.addr (.tmp 3) 259, some 20, some (17, true)⟩,
    ⟨.load (some 64) (.tmp 20), some 21, some (17, true)⟩,
    ⟨.call 67 [.tmp 19, .tmp 21], some 22, some (17, true)⟩,
    ⟨.pick (.tmp 17) (.tmp 22) (.const (.bool false)), some 23, none⟩,
    ⟨.mov (.tmp 23), some 24, none⟩,
    ⟨.addr (.tmp 2) 323, some 25, some (24, true)⟩,
    ⟨.load none (.tmp 25), some 26, some (24, true)⟩,
    ⟨.addr (.tmp 3) 323, some 27, some (24, true)⟩,
    ⟨.load none (.tmp 27), some 28, some (24, true)⟩,
    ⟨.call 68 [.tmp 26, .tmp 28], some 29, some (24, true)⟩,
    ⟨.pick (.tmp 24) (.tmp 29) (.const (.bool false)), some 30, none⟩,
    ⟨.mov (.tmp 30), some 4, none⟩])
  (.ret))⟩
theorem ok_impl_SameBrine : cmpF Try.prog Try.f23 = some c_impl_SameBrine := by kernel_rfl

end Go.Proofs.Ytbhipkiiondgnaa

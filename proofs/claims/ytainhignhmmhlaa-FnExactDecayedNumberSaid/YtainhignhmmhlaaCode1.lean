/- The code of the Go functions in the generator's own form, printed by a program of mine (gen.py) out of the loaded program; each with the check that it is so. -/
import Derived.Test.YtainhignhmmhlaaVcFn
import Derived.Test.YtainhignhmmhlaaGeo
import Derived.Test.YtainhignhmmhlaaRows
import Derived.KernelRfl
namespace Go.Proofs.Ytainhignhmmhlaa
open Go Go.Fl Go.Vc
set_option linter.all false
set_option maxRecDepth 100000

/- laws.FnExactSameWells -/
def c_laws_FnExactSameWells : FV := ⟨45, [.tmp 4],
  .seq (.ops [⟨.mov (.const (.bool false)), some 4, none⟩])
  (.seq (.ops [⟨.mov (.const (.int .i64 1048576)), some 5, none⟩])
  (.seq (.ops [⟨.mov (.tmp 0), some 10, none⟩,
    ⟨.mov (.tmp 5), some 11, none⟩,
    ⟨.call 74 [.tmp 10, .tmp 11], some 12, none⟩,
    ⟨.mov (.tmp 12), some 5, none⟩])
  (.seq (.seq (.ops [⟨.mov (.tmp 5), some 13, none⟩,
    ⟨.bin .lss (.tmp 13) (.const (.int .i64 0)), some 14, none⟩])
  (.cond (.tmp 14) (.seq (.ops [⟨.mov (.const (.bool true)), some 4, none⟩])
  (.ret)) (.skip)))
  (.seq (.ops [⟨.mov (.tmp 1), some 15, none⟩,
    ⟨.mov (.tmp 5), some 16, none⟩,
    ⟨.call 74 [.tmp 15, .tmp 16], some 17, none⟩,
    ⟨.mov (.tmp 17), some 5, none⟩])
  (.seq (.seq (.ops [⟨.mov (.tmp 5), some 18, none⟩,
    ⟨.bin .lss (.tmp 18) (.const (.int .i64 0)), some 19, none⟩])
  (.cond (.tmp 19) (.seq (.ops [⟨.mov (.const (.bool true)), some 4, none⟩])
  (.ret)) (.skip)))
  (.seq (.ops [⟨.mov (.tmp 0), some 20, none⟩,
    ⟨.call 76 [.tmp 20], some 21, none⟩,
    ⟨.mov (.tmp 1), some 22, none⟩,
    ⟨.call 76 [.tmp 22], some 23, none⟩,
    ⟨.call 75 [.tmp 21, .tmp 23], some 24, none⟩,
    ⟨.mov (.tmp 24), some 6, none⟩])
  (.seq (.ops [⟨.mov (.tmp 0), some 25, none⟩,
    ⟨.call 76 [.tmp 25], some 26, none⟩,
    ⟨.mov (.tmp 26), some 7, none⟩])
  (.seq (.ops [⟨.mov (.tmp 1), some 27, none⟩,
    ⟨.call 76 [.tmp 27], some 28, none⟩,
    ⟨.mov (.tmp 28), some 8, none⟩])
  (.seq (.ops [⟨.mov (.tmp 7), some 29, none⟩,
    ⟨.mov (.tmp 8), some 30, none⟩,
    ⟨.call 77 [.tmp 29, .tmp 30], some 31, none⟩,
    ⟨.mov (.tmp 31), some 9, none⟩])
  (.seq (.seq (.ops [⟨.mov (.tmp 9), some 32, none⟩,
    ⟨.mov (.tmp 6), some 33, none⟩,
    ⟨.beq true (.tmp 32) (.tmp 33), some 34, none⟩])
  (.cond (.tmp 34) (.seq (.ops [⟨.mov (.const (.bool false)), some 4, none⟩])
  (.ret)) (.skip)))
  (.seq (.seq (.ops [⟨.mov (.tmp 7), some 35, none⟩,
    ⟨.mov (.tmp 0), some 36, none⟩,
    ⟨.call 76 [.tmp 36], some 37, none⟩,
    ⟨.call 78 [.tmp 35, .tmp 37], some 38, none⟩,
    ⟨.un .not (.tmp 38), some 39, none⟩])
  (.cond (.tmp 39) (.seq (.ops [⟨.mov (.const (.bool false)), some 4, none⟩])
  (.ret)) (.skip)))
  (.seq (.seq (.ops [⟨.mov (.tmp 8), some 40, none⟩,
    ⟨.mov (.tmp 1), some 41, none⟩,
    ⟨.call 76 [.tmp 41], some 42, none⟩,
    ⟨.call 78 [.tmp 40, .tmp 42], some 43, none⟩,
    ⟨.un .not (.tmp 43), some 44, none⟩])
  (.cond (.tmp 44) (.seq (.ops [⟨.mov (.const (.bool false)), some 4, none⟩])
  (.ret)) (.skip)))
  (.seq (.ops [⟨.mov (.const (.bool true)), some 4, none⟩])
  (.ret))))))))))))))⟩
theorem ok_laws_FnExactSameWells : cmpF Try.prog Try.f21 = some c_laws_FnExactSameWells := by kernel_rfl

/- laws.FnExactTiesIn -/
def c_laws_FnExactTiesIn : FV := ⟨40, [.tmp 2],
  .seq (.ops [⟨.mov (.const (.bool false)), some 2, none⟩])
  (.seq (.ops [⟨.mov (.const (.int .i64 1048576)), some 3, none⟩])
  (.seq (.ops [⟨.mov (.tmp 0), some 9, none⟩,
    ⟨.mov (.tmp 3), some 10, none⟩,
    ⟨.call 64 [.tmp 9, .tmp 10], some 11, none⟩,
    ⟨.mov (.tmp 11), some 3, none⟩])
  (.seq (.seq (.ops [⟨.mov (.tmp 3), some 12, none⟩,
    ⟨.bin .lss (.tmp 12) (.const (.int .i64 0)), some 13, none⟩])
  (.cond (.tmp 13) (.seq (.ops [⟨.mov (.const (.bool true)), some 2, none⟩])
  (.ret)) (.skip)))
  (.seq (.ops [⟨.mov (.tmp 0), some 15, none⟩,
    ⟨.call 66 [.tmp 15], some 16, none⟩,
    ⟨.call 79 [.tmp 16], some 17, none⟩,
    ⟨.mov (.tmp 17), some 14, none⟩,
    ⟨.ext (.tmp 14) 0, some 18, none⟩,
    ⟨.ext (.tmp 14) 1, some 19, none⟩,
    ⟨.mov (.tmp 18), some 4, none⟩,
    ⟨.mov (.tmp 19), some 5, none⟩])
  (.seq (.ops [⟨.mov (.tmp 0), some 20, none⟩,
    ⟨.call 66 [.tmp 20], some 21, none⟩,
    ⟨.mov (.tmp 21), some 6, none⟩])
  (.seq (.ops [⟨.mov (.tmp 6), some 23, none⟩,
    ⟨.call 80 [.tmp 23], some 24, none⟩,
    ⟨.mov (.tmp 24), some 22, none⟩,
    ⟨.ext (.tmp 22) 0, some 25, none⟩,
    ⟨.ext (.tmp 22) 1, some 26, none⟩,
    ⟨.mov (.tmp 25), some 7, none⟩,
    ⟨.mov (.tmp 26), some 8, none⟩])
  (.seq (.seq (.ops [⟨.mov (.tmp 7), some 27, none⟩,
    ⟨.mov (.tmp 4), some 28, none⟩,
    ⟨.bin .neq (.tmp 27) (.tmp 28), some 29, none⟩,
    ⟨.mov (.tmp 29), some 30, none⟩,
    ⟨.mov (.tmp 8), some 31, some (30, false)⟩,
    ⟨.mov (.tmp 5), some 32, some (30, false)⟩,
    ⟨.bin .neq (.tmp 31) (.tmp 32), some 33, some (30, false)⟩,
    ⟨.pick (.tmp 30) (.const (.bool true)) (.tmp 33), some 34, none⟩])
  (.cond (.tmp 34) (.seq (.ops [⟨.mov (.const (.bool false)), some 2, none⟩])
  (.ret)) (.skip)))
  (.seq (.seq (.ops [⟨.mov (.tmp 6), some 35, none⟩,
    ⟨.mov (.tmp 0), some 36, none⟩,
    ⟨.call 66 [.tmp 36], some 37, none⟩,
    ⟨.call 68 [.tmp 35, .tmp 37], some 38, none⟩,
    ⟨.un .not (.tmp 38), some 39, none⟩])
  (.cond (.tmp 39) (.seq (.ops [⟨.mov (.const (.bool false)), some 2, none⟩])
  (.ret)) (.skip)))
  (.seq (.ops [⟨.mov (.const (.bool true)), some 2, none⟩])
  (.ret))))))))))⟩
theorem ok_laws_FnExactTiesIn : cmpF Try.prog Try.f22 = some c_laws_FnExactTiesIn := by kernel_rfl

/- laws.FnExactWellFunction -/
def c_laws_FnExactWellFunction : FV := ⟨28, [.tmp 2],
  .seq (.ops [⟨.mov (.const (.bool false)), some 2, none⟩])
  (.seq (.ops [⟨.mov (.tmp 0), some 8, none⟩,
    ⟨.call 49 [.tmp 8], some 9, none⟩,
    ⟨.mov (.tmp 9), some 7, none⟩,
    ⟨.ext (.tmp 7) 0, some 10, none⟩,
    ⟨.ext (.tmp 7) 1, some 11, none⟩,
    ⟨.mov (.tmp 10), some 3, none⟩,
    ⟨.mov (.tmp 11), some 4, none⟩])
  (.seq (.ops [⟨.mov (.tmp 0), some 13, none⟩,
    ⟨.call 48 [.tmp 13], some 14, none⟩,
    ⟨.mov (.tmp 14), some 12, none⟩,
    ⟨.ext (.tmp 12) 0, some 15, none⟩,
    ⟨.ext (.tmp 12) 1, some 16, none⟩,
    ⟨.mov (.tmp 15), some 5, none⟩,
    ⟨.mov (.tmp 16), some 6, none⟩])
  (.seq (.seq (.ops [⟨.mov (.tmp 5), some 17, none⟩,
    ⟨.convF .f64 (.tmp 17), some 18, none⟩,
    ⟨.mov (.tmp 3), some 19, none⟩,
    ⟨.convF .f64 (.tmp 19), some 20, none⟩,
    ⟨.call 41 [.tmp 18, .tmp 20], some 21, none⟩,
    ⟨.un .not (.tmp 21), some 22, none⟩,
    ⟨.mov (.tmp 22), some 23, none⟩,
    ⟨.mov (.tmp 6), some 24, some (23, false)⟩,
    ⟨.mov (.tmp 4), some 25, some (23, false)⟩,
    ⟨.bin .neq (.tmp 24) (.tmp 25), some 26, some (23, false)⟩,
    ⟨.pick (.tmp 23) (.const (.bool true)) (.tmp 26), some 27, none⟩])
  (.cond (.tmp 27) (.seq (.ops [⟨.mov (.const (.bool false)), some 2, none⟩])
  (.ret)) (.skip)))
  (.seq (.ops [⟨.mov (.const (.bool true)), some 2, none⟩])
  (.ret)))))⟩
theorem ok_laws_FnExactWellFunction : cmpF Try.prog Try.f23 = some c_laws_FnExactWellFunction := by kernel_rfl

/- laws.FnExactLoggerOf -/
def c_laws_FnExactLoggerOf : FV := ⟨12, [.tmp 2],
  .seq (.ops [⟨.mov (.const (.bool false)), some 2, none⟩])
  (.seq (.ops [⟨.mov (.tmp 0), some 5, none⟩,
    ⟨.call 81 [.tmp 5], some 6, none⟩,
    ⟨.mov (.tmp 6), some 3, none⟩])
  (.seq (.ops [⟨.mov (.tmp 0), some 7, none⟩,
    ⟨.call 82 [.tmp 7], some 8, none⟩,
    ⟨.mov (.tmp 8), some 4, none⟩])
  (.seq (.seq (.ops [⟨.mov (.tmp 4), some 9, none⟩,
    ⟨.mov (.tmp 3), some 10, none⟩,
    ⟨.bin .neq (.tmp 9) (.tmp 10), some 11, none⟩])
  (.cond (.tmp 11) (.seq (.ops [⟨.mov (.const (.bool false)), some 2, none⟩])
  (.ret)) (.skip)))
  (.seq (.ops [⟨.mov (.const (.bool true)), some 2, none⟩])
  (.ret)))))⟩
theorem ok_laws_FnExactLoggerOf : cmpF Try.prog Try.f24 = some c_laws_FnExactLoggerOf := by kernel_rfl

/- laws.FnExactArgumentAt -/
def c_laws_FnExactArgumentAt : FV := ⟨48, [.tmp 10],
  .seq (.ops [⟨.box 26 (.tmp 0), some 5, none⟩,
    ⟨.box 51 (.tmp 1), some 6, none⟩,
    ⟨.mov (.const (.bool false)), some 10, none⟩])
  (.seq (.bops [⟨.load (some 2) (.tmp 5), some 16, none⟩,
    ⟨.call 32 [.tmp 16], some 17, none⟩,
    ⟨.load (some 3) (.tmp 6), some 18, none⟩,
    ⟨.call 51 [.tmp 18], some 19, none⟩,
    ⟨.mov (.tmp 2), some 20, none⟩,
    ⟨.mov (.tmp 3), some 21, none⟩,
    ⟨.mov (.tmp 4), some 22, none⟩,
    ⟨.call 83 [.tmp 17, .tmp 19, .tmp 20, .tmp 21, .tmp 22], some 23, none⟩,
    ⟨.mov (.tmp 23), some 15, none⟩,
    ⟨.ext (.tmp 15) 0, some 24, none⟩,
    ⟨.ext (.tmp 15) 1, some 25, none⟩,
    ⟨.mov (.tmp 24), some 11, none⟩,
    ⟨.mov (.tmp 25), some 12, none⟩])
  (.seq (.bops [⟨.load (some 2) (.tmp 5), some 27, none⟩,
    ⟨.call 32 [.tmp 27], some 28, none⟩,
    ⟨.load (some 3) (.tmp 6), some 29, none⟩,
    ⟨.call 51 [.tmp 29], some 30, none⟩,
    ⟨.mov (.tmp 2), some 31, none⟩,
    ⟨.mov (.tmp 3), some 32, none⟩,
    ⟨.mov (.tmp 4), some 33, none⟩,
    ⟨.call 84 [.tmp 28, .tmp 30, .tmp 31, .tmp 32, .tmp 33], some 34, none⟩,
    ⟨.mov (.tmp 34), some 26, none⟩,
    ⟨.ext (.tmp 26) 0, some 35, none⟩,
    ⟨.ext (.tmp 26) 1, some 36, none⟩,
    ⟨.mov (.tmp 35), some 13, none⟩,
    ⟨.mov (.tmp 36), some 14, none⟩])
  (.seq (.seq (.ops [⟨.mov (.tmp 13), some 37, none⟩,
    ⟨.convF .f64 (.tmp 37), some 38, none⟩,
    ⟨.mov (.tmp 11), some 39, none⟩,
    ⟨.convF .f64 (.tmp 39), some 40, none⟩,
    ⟨.call 41 [.tmp 38, .tmp 40], some 41, none⟩,
    ⟨.un .not (.tmp 41), some 42, none⟩,
    ⟨.mov (.tmp 42), some 43, none⟩,
    ⟨.mov (.tmp 14), some 44, some (43, false)⟩,
    ⟨.mov (.tmp 12), some 45, some (43, false)⟩,
    ⟨.bin .neq (.tmp 44) (.tmp 45), some 46, some (43, false)⟩,
    ⟨.pick (.tmp 43) (.const (.bool true)) (.tmp 46), some 47, none⟩])
  (.cond (.tmp 47) (.seq (.ops [⟨.mov (.const (.bool false)), some 10, none⟩])
  (.ret)) (.skip)))
  (.seq (.ops [⟨.mov (.const (.bool true)), some 10, none⟩])
  (.ret)))))⟩
theorem ok_laws_FnExactArgumentAt : cmpF Try.prog Try.f25 = some c_laws_FnExactArgumentAt := by kernel_rfl

/- laws.FnExactWithImages -/
def c_laws_FnExactWithImages : FV := ⟨106, [.tmp 6],
  .seq (.ops [⟨.mov (.const (.bool false)), some 6, none⟩])
  (.seq (.ops [⟨.mov (.const (.int .i64 1048576)), some 7, none⟩])
  (.seq (.ops [⟨.mov (.tmp 0), some 18, none⟩,
    ⟨.mov (.tmp 7), some 19, none⟩,
    ⟨.call 74 [.tmp 18, .tmp 19], some 20, none⟩,
    ⟨.mov (.tmp 20), some 7, none⟩])
  (.seq (.seq (.ops [⟨.mov (.tmp 7), some 21, none⟩,
    ⟨.bin .lss (.tmp 21) (.const (.int .i64 0)), some 22, none⟩])
  (.cond (.tmp 22) (.seq (.ops [⟨.mov (.const (.bool true)), some 6, none⟩])
  (.ret)) (.skip)))
  (.seq (.ops [⟨.mov (.tmp 0), some 24, none⟩,
    ⟨.call 76 [.tmp 24], some 25, none⟩,
    ⟨.mov (.tmp 1), some 26, none⟩,
    ⟨.mov (.tmp 2), some 27, none⟩,
    ⟨.call 85 [.tmp 25, .tmp 26, .tmp 27], some 28, none⟩,
    ⟨.mov (.tmp 28), some 23, none⟩,
    ⟨.ext (.tmp 23) 0, some 29, none⟩,
    ⟨.ext (.tmp 23) 1, some 30, none⟩,
    ⟨.mov (.tmp 29), some 8, none⟩,
    ⟨.mov (.tmp 30), some 9, none⟩])
  (.seq (.ops [⟨.mov (.tmp 0), some 31, none⟩,
    ⟨.call 76 [.tmp 31], some 32, none⟩,
    ⟨.mov (.tmp 32), some 10, none⟩])
  (.seq (.ops [⟨.mov (.tmp 10), some 34, none⟩,
    ⟨.mov (.tmp 1), some 35, none⟩,
    ⟨.mov (.tmp 2), some 36, none⟩,
    ⟨.call 86 [.tmp 34, .tmp 35, .tmp 36], some 37, none⟩,
    ⟨.mov (.tmp 37), some 33, none⟩,
    ⟨.ext (.tmp 33) 0, some 38, none⟩,
    ⟨.ext (.tmp 33) 1, some 39, none⟩,
    ⟨.mov (.tmp 38), some 11, none⟩,
    ⟨.mov (.tmp 39), some 12, none⟩])
  (.seq (.seq (.ops [⟨.mov (.tmp 11), some 40, none⟩,
    ⟨.mov (.tmp 8), some 41, none⟩,
    ⟨.call 78 [.tmp 40, .tmp 41], some 42, none⟩,
    ⟨.un .not (.tmp 42), some 43, none⟩,
    ⟨.mov (.tmp 43), some 44, none⟩,
    ⟨.mov (.tmp 12), some 45, some (44, false)⟩,
    ⟨.mov (.tmp 9), some 46, some (44, false)⟩,
    ⟨.bin .neq (.tmp 45) (.tmp 46), some 47, some (44, false)⟩,
    ⟨.pick (.tmp 44) (.const (.bool true)) (.tmp 47), some 48, none⟩])
  (.cond (.tmp 48) (.seq (.ops [⟨.mov (.const (.bool false)), some 6, none⟩])
  (.ret)) (.skip)))
  (.seq (.seq (.ops [⟨.mov (.tmp 10), some 49, none⟩,
    ⟨.mov (.tmp 0), some 50, none⟩,
    ⟨.call 76 [.tmp 50], some 51, none⟩,
    ⟨.call 78 [.tmp 49, .tmp 51], some 52, none⟩,
    ⟨.un .not (.tmp 52), some 53, none⟩])
  (.cond (.tmp 53) (.seq (.ops [⟨.mov (.const (.bool false)), some 6, none⟩])
  (.ret)) (.skip)))
  (.seq (.ops [⟨.mov (.const (.int .i64 1)), some 13, none⟩])
  (.seq (.ops [⟨.mov (.tmp 10), some 54, none⟩,
    ⟨.mov (.tmp 13), some 55, none⟩,
    ⟨.call 87 [.tmp 54, .tmp 55], some 56, none⟩,
    ⟨.mov (.tmp 56), some 13, none⟩])
  (.seq (.seq (.ops [⟨.mov (.tmp 13), some 57, none⟩,
    ⟨.bin .lss (.tmp 57) (.const (.int .i64 0)), some 58, none⟩,
    ⟨.mov (.tmp 58), some 59, none⟩,
    ⟨.mov (.tmp 11), some 60, some (59, false)⟩,
    ⟨.mov (.tmp 8), some 61, some (59, false)⟩,
    ⟨.call 78 [.tmp 60, .tmp 61], some 62, some (59, false)⟩,
    ⟨.un .not (.tmp 62), some 63, some (59, false)⟩,
    ⟨.pick (.tmp 59) (.const (.bool true)) (.tmp 63), some 64, none⟩,
    ⟨.mov (.tmp 64), some 65, none⟩,
    ⟨.mov (.tmp 12), some 66, some (65, false)⟩,
    ⟨.mov (.tmp 9), some 67, some (65, false)⟩,
    ⟨.bin .neq (.tmp 66) (.tmp 67), some 68, some (65, false)⟩,
    ⟨.pick (.tmp 65) (.const (.bool true)) (.tmp 68), some 69, none⟩])
  (.cond (.tmp 69) (.seq (.ops [⟨.mov (.const (.bool false)), some 6, none⟩])
  (.ret)) (.skip)))
  (.seq (.ops [⟨.mov (.const (.int .i64 1)), some 14, none⟩])
  (.seq (.ops [⟨.mov (.tmp 11), some 70, none⟩,
    ⟨.mov (.tmp 14), some 71, none⟩,
    ⟨.call 87 [.tmp 70, .tmp 71], some 72, none⟩,
    ⟨.mov (.tmp 72), some 14, none⟩])
  (.seq (.ops [⟨.mov (.const (.int .i64 1)), some 15, none⟩])
  (.seq (.ops [⟨.mov (.tmp 11), some 73, none⟩,
    ⟨.mov (.tmp 15), some 74, none⟩,
    ⟨.call 88 [.tmp 73, .tmp 74], some 75, none⟩,
    ⟨.mov (.tmp 75), some 15, none⟩])
  (.seq (.seq (.ops [⟨.mov (.tmp 15), some 76, none⟩,
    ⟨.bin .lss (.tmp 76) (.const (.int .i64 0)), some 77, none⟩])
  (.cond (.tmp 77) (.seq (.ops [⟨.mov (.const (.bool false)), some 6, none⟩])
  (.ret)) (.skip)))
  (.seq (.seq (.ops [⟨.mov (.tmp 15), some 78, none⟩,
    ⟨.mov (.tmp 14), some 79, none⟩,
    ⟨.bin .neq (.tmp 78) (.tmp 79), some 80, none⟩])
  (.cond (.tmp 80) (.seq (.ops [⟨.mov (.const (.bool false)), some 6, none⟩])
  (.ret)) (.skip)))
  (.seq (.ops [⟨.mov (.tmp 0), some 82, none⟩,
    ⟨.call 76 [.tmp 82], some 83, none⟩,
    ⟨.mov (.tmp 1), some 84, none⟩,
    ⟨.mov (.tmp 2), some 85, none⟩,
    ⟨.call 86 [.tmp 83, .tmp 84, .tmp 85], some 86, none⟩,
    ⟨.mov (.tmp 86), some 81, none⟩,
    ⟨.ext (.tmp 81) 0, some 87, none⟩,
    ⟨.ext (.tmp 81) 1, some 88, none⟩,
    ⟨.mov (.tmp 87), some 16, none⟩,
    ⟨.mov (.tmp 88), some 17, none⟩])
  (.seq (.seq (.ops [⟨.mov (.tmp 16), some 89, none⟩,
    ⟨.mov (.tmp 8), some 90, none⟩,
    ⟨.call 78 [.tmp 89, .tmp 90], some 91, none⟩,
    ⟨.un .not (.tmp 91), some 92, none⟩,
    ⟨.mov (.tmp 92), some 93, none⟩,
    ⟨.mov (.tmp 17), some 94, some (93, false)⟩,
    ⟨.mov (.tmp 9), some 95, some (93, false)⟩,
    ⟨.bin .neq (.tmp 94) (.tmp 95), some 96, some (93, false)⟩,
    ⟨.pick (.tmp 93) (.const (.bool true)) (.tmp 96), some 97, none⟩])
  (.cond (.tmp 97) (.seq (.ops [⟨.mov (.const (.bool false)), some 6, none⟩])
  (.ret)) (.skip)))
  (.seq (.ops [⟨.mov (.const (.int .i64 1)), some 15, none⟩])
  (.seq (.ops [⟨.mov (.tmp 11), some 98, none⟩,
    ⟨.mov (.tmp 15), some 99, none⟩,
    ⟨.call 88 [.tmp 98, .tmp 99], some 100, none⟩,
    ⟨.mov (.tmp 100), some 15, none⟩])
  (.seq (.seq (.ops [⟨.mov (.tmp 15), some 101, none⟩,
    ⟨.bin .lss (.tmp 101) (.const (.int .i64 0)), some 102, none⟩])
  (.cond (.tmp 102) (.seq (.ops [⟨.mov (.const (.bool false)), some 6, none⟩])
  (.ret)) (.skip)))
  (.seq (.seq (.ops [⟨.mov (.tmp 15), some 103, none⟩,
    ⟨.mov (.tmp 14), some 104, none⟩,
    ⟨.bin .neq (.tmp 103) (.tmp 104), some 105, none⟩])
  (.cond (.tmp 105) (.seq (.ops [⟨.mov (.const (.bool false)), some 6, none⟩])
  (.ret)) (.skip)))
  (.seq (.ops [⟨.mov (.const (.bool true)), some 6, none⟩])
  (.ret)))))))))))))))))))))))))⟩
theorem ok_laws_FnExactWithImages : cmpF Try.prog Try.f26 = some c_laws_FnExactWithImages := by kernel_rfl

/- laws.FnExactLineThrough -/
def c_laws_FnExactLineThrough : FV := ⟨55, [.tmp 2],
  .seq (.ops [⟨.mov (.const (.bool false)), some 2, none⟩])
  (.seq (.ops [⟨.mov (.const (.int .i64 1048576)), some 3, none⟩])
  (.seq (.ops [⟨.mov (.tmp 0), some 11, none⟩,
    ⟨.mov (.tmp 3), some 12, none⟩,
    ⟨.call 64 [.tmp 11, .tmp 12], some 13, none⟩,
    ⟨.mov (.tmp 13), some 3, none⟩])
  (.seq (.seq (.ops [⟨.mov (.tmp 3), some 14, none⟩,
    ⟨.bin .lss (.tmp 14) (.const (.int .i64 0)), some 15, none⟩])
  (.cond (.tmp 15) (.seq (.ops [⟨.mov (.const (.bool true)), some 2, none⟩])
  (.ret)) (.skip)))
  (.seq (.ops [⟨.mov (.tmp 0), some 17, none⟩,
    ⟨.call 66 [.tmp 17], some 18, none⟩,
    ⟨.call 89 [.tmp 18], some 19, none⟩,
    ⟨.mov (.tmp 19), some 16, none⟩,
    ⟨.ext (.tmp 16) 0, some 20, none⟩,
    ⟨.ext (.tmp 16) 1, some 21, none⟩,
    ⟨.ext (.tmp 16) 2, some 22, none⟩,
    ⟨.mov (.tmp 20), some 4, none⟩,
    ⟨.mov (.tmp 21), some 5, none⟩,
    ⟨.mov (.tmp 22), some 6, none⟩])
  (.seq (.ops [⟨.mov (.tmp 0), some 23, none⟩,
    ⟨.call 66 [.tmp 23], some 24, none⟩,
    ⟨.mov (.tmp 24), some 7, none⟩])
  (.seq (.ops [⟨.mov (.tmp 7), some 26, none⟩,
    ⟨.call 90 [.tmp 26], some 27, none⟩,
    ⟨.mov (.tmp 27), some 25, none⟩,
    ⟨.ext (.tmp 25) 0, some 28, none⟩,
    ⟨.ext (.tmp 25) 1, some 29, none⟩,
    ⟨.ext (.tmp 25) 2, some 30, none⟩,
    ⟨.mov (.tmp 28), some 8, none⟩,
    ⟨.mov (.tmp 29), some 9, none⟩,
    ⟨.mov (.tmp 30), some 10, none⟩])
  (.seq (.seq (.ops [⟨.mov (.tmp 8), some 31, none⟩,
    ⟨.convF .f64 (.tmp 31), some 32, none⟩,
    ⟨.mov (.tmp 4), some 33, none⟩,
    ⟨.convF .f64 (.tmp 33), some 34, none⟩,
    ⟨.call 41 [.tmp 32, .tmp 34], some 35, none⟩,
    ⟨.un .not (.tmp 35), some 36, none⟩,
    ⟨.mov (.tmp 36), some 37, none⟩,
    ⟨.mov (.tmp 9), some 38, some (37, false)⟩,
    ⟨.convF .f64 (.tmp 38), some 39, some (37, false)⟩,
    ⟨.mov (.tmp 5), some 40, some (37, false)⟩,
    ⟨.convF .f64 (.tmp 40), some 41, some (37, false)⟩,
    ⟨.call 41 [.tmp 39, .tmp 41], some 42, some (37, false)⟩,
    ⟨.un .not (.tmp 42), some 43, some (37, false)⟩,
    ⟨.pick (.tmp 37) (.const (.bool true)) (.tmp 43), some 44, none⟩,
    ⟨.mov (.tmp 44), some 45, none⟩,
    ⟨.mov (.tmp 10), some 46, some (45, false)⟩,
    ⟨.mov (.tmp 6), some 47, some (45, false)⟩,
    ⟨.bin .neq (.tmp 46) (.tmp 47), some 48, some (45, false)⟩,
    ⟨.pick (.tmp 45) (.const (.bool true)) (.tmp 48), some 49, none⟩])
  (.cond (.tmp 49) (.seq (.ops [⟨.mov (.const (.bool false)), some 2, none⟩])
  (.ret)) (.skip)))
  (.seq (.seq (.ops [⟨.mov (.tmp 7), some 50, none⟩,
    ⟨.mov (.tmp 0), some 51, none⟩,
    ⟨.call 66 [.tmp 51], some 52, none⟩,
    ⟨.call 68 [.tmp 50, .tmp 52], some 53, none⟩,
    ⟨.un .not (.tmp 53), some 54, none⟩])
  (.cond (.tmp 54) (.seq (.ops [⟨.mov (.const (.bool false)), some 2, none⟩])
  (.ret)) (.skip)))
  (.seq (.ops [⟨.mov (.const (.bool true)), some 2, none⟩])
  (.ret))))))))))⟩
theorem ok_laws_FnExactLineThrough : cmpF Try.prog Try.f27 = some c_laws_FnExactLineThrough := by kernel_rfl

/- laws.FnExactDrawdownAt -/
def c_laws_FnExactDrawdownAt : FV := ⟨48, [.tmp 10],
  .seq (.ops [⟨.box 26 (.tmp 0), some 5, none⟩,
    ⟨.box 51 (.tmp 1), some 6, none⟩,
    ⟨.mov (.const (.bool false)), some 10, none⟩])
  (.seq (.bops [⟨.load (some 2) (.tmp 5), some 16, none⟩,
    ⟨.call 32 [.tmp 16], some 17, none⟩,
    ⟨.load (some 3) (.tmp 6), some 18, none⟩,
    ⟨.call 51 [.tmp 18], some 19, none⟩,
    ⟨.mov (.tmp 2), some 20, none⟩,
    ⟨.mov (.tmp 3), some 21, none⟩,
    ⟨.mov (.tmp 4), some 22, none⟩,
    ⟨.call 91 [.tmp 17, .tmp 19, .tmp 20, .tmp 21, .tmp 22], some 23, none⟩,
    ⟨.mov (.tmp 23), some 15, none⟩,
    ⟨.ext (.tmp 15) 0, some 24, none⟩,
    ⟨.ext (.tmp 15) 1, some 25, none⟩,
    ⟨.mov (.tmp 24), some 11, none⟩,
    ⟨.mov (.tmp 25), some 12, none⟩])
  (.seq (.bops [⟨.load (some 2) (.tmp 5), some 27, none⟩,
    ⟨.call 32 [.tmp 27], some 28, none⟩,
    ⟨.load (some 3) (.tmp 6), some 29, none⟩,
    ⟨.call 51 [.tmp 29], some 30, none⟩,
    ⟨.mov (.tmp 2), some 31, none⟩,
    ⟨.mov (.tmp 3), some 32, none⟩,
    ⟨.mov (.tmp 4), some 33, none⟩,
    ⟨.call 92 [.tmp 28, .tmp 30, .tmp 31, .tmp 32, .tmp 33], some 34, none⟩,
    ⟨.mov (.tmp 34), some 26, none⟩,
    ⟨.ext (.tmp 26) 0, some 35, none⟩,
    ⟨.ext (.tmp 26) 1, some 36, none⟩,
    ⟨.mov (.tmp 35), some 13, none⟩,
    ⟨.mov (.tmp 36), some 14, none⟩])
  (.seq (.seq (.ops [⟨.mov (.tmp 13), some 37, none⟩,
    ⟨.convF .f64 (.tmp 37), some 38, none⟩,
    ⟨.mov (.tmp 11), some 39, none⟩,
    ⟨.convF .f64 (.tmp 39), some 40, none⟩,
    ⟨.call 41 [.tmp 38, .tmp 40], some 41, none⟩,
    ⟨.un .not (.tmp 41), some 42, none⟩,
    ⟨.mov (.tmp 42), some 43, none⟩,
    ⟨.mov (.tmp 14), some 44, some (43, false)⟩,
    ⟨.mov (.tmp 12), some 45, some (43, false)⟩,
    ⟨.bin .neq (.tmp 44) (.tmp 45), some 46, some (43, false)⟩,
    ⟨.pick (.tmp 43) (.const (.bool true)) (.tmp 46), some 47, none⟩])
  (.cond (.tmp 47) (.seq (.ops [⟨.mov (.const (.bool false)), some 10, none⟩])
  (.ret)) (.skip)))
  (.seq (.ops [⟨.mov (.const (.bool true)), some 10, none⟩])
  (.ret)))))⟩
theorem ok_laws_FnExactDrawdownAt : cmpF Try.prog Try.f28 = some c_laws_FnExactDrawdownAt := by kernel_rfl

/- spec.IsPlain -/
def c_spec_IsPlain : FV := ⟨5, [.tmp 2],
  .seq (.ops [⟨.mov (.const (.bool false)), some 2, none⟩])
  (.seq (.ops [⟨.mov (.tmp 0), some 3, none⟩,
    ⟨.call 93 [.tmp 3], some 4, none⟩,
    ⟨.mov (.tmp 4), some 2, none⟩])
  (.ret))⟩
theorem ok_spec_IsPlain : cmpF Try.prog Try.f29 = some c_spec_IsPlain := by kernel_rfl

/- impl.IsPlain -/
def c_impl_IsPlain : FV := ⟨9, [.tmp 2],
  .seq (.ops [⟨.mov (.const (.bool false)), some 2, none⟩])
  (.seq (.ops [⟨.mov (.tmp 0), some 3, none⟩,
    ⟨.fbin .geq (.tmp 3) (.const (.float .f32 3380609024)), some 4, none⟩,
    ⟨.mov (.tmp 4), some 5, none⟩,
    ⟨.mov (.tmp 0), some 6, some (5, true)⟩,
    ⟨.fbin .leq (.tmp 6) (.const (.float .f32 1233125376)), some 7, some (5, true)⟩,
    ⟨.pick (.tmp 5) (.tmp 7) (.const (.bool false)), some 8, none⟩,
    ⟨.mov (.tmp 8), some 2, none⟩])
  (.ret))⟩
theorem ok_impl_IsPlain : cmpF Try.prog Try.f30 = some c_impl_IsPlain := by kernel_rfl

/- spec.ValidAquifer -/
def c_spec_ValidAquifer : FV := ⟨5, [.tmp 2],
  .seq (.ops [⟨.box 28 (.tmp 0), some 1, none⟩,
    ⟨.mov (.const (.bool false)), some 2, none⟩])
  (.seq (.ops [⟨.load (some 2) (.tmp 1), some 3, none⟩,
    ⟨.call 94 [.tmp 3], some 4, none⟩,
    ⟨.mov (.tmp 4), some 2, none⟩])
  (.ret))⟩
theorem ok_spec_ValidAquifer : cmpF Try.prog Try.f31 = some c_spec_ValidAquifer := by kernel_rfl

/- laws.toAquifer -/
def c_laws_toAquifer : FV := ⟨11, [.cell 2 (some 2)],
  .seq (.ops [⟨.box 26 (.tmp 0), some 1, none⟩,
    ⟨.alloc 28 (.agg (#[.float .f32 0, .float .f32 0])), some 2, none⟩])
  (.seq (.ops [⟨.alloc 28 (.agg (#[.float .f32 0, .float .f32 0])), some 3, none⟩])
  (.seq (.ops [⟨.addr (.tmp 1) 0, some 4, none⟩,
    ⟨.load none (.tmp 4), some 5, none⟩,
    ⟨.addr (.tmp 3) 0, some 6, none⟩,
    ⟨.store 1 (.tmp 6) (.tmp 5), none, none⟩])
  (.seq (.ops [⟨.addr (.tmp 1) 1, some 7, none⟩,
    ⟨.load none (.tmp 7), some 8, none⟩,
    ⟨.addr (.tmp 3) 1, some 9, none⟩,
    ⟨.store 1 (.tmp 9) (.tmp 8), none, none⟩])
  (.seq (.ops [⟨.load (some 2) (.tmp 3), some 10, none⟩,
    ⟨.store 2 (.tmp 2) (.tmp 10), none, none⟩])
  (.ret)))))⟩
theorem ok_laws_toAquifer : cmpF Try.prog Try.f32 = some c_laws_toAquifer := by kernel_rfl

/- impl.ValidAquifer -/
def c_impl_ValidAquifer : FV := ⟨21, [.tmp 2],
  .seq (.ops [⟨.box 28 (.tmp 0), some 1, none⟩,
    ⟨.mov (.const (.bool false)), some 2, none⟩])
  (.seq (.ops [⟨.addr (.tmp 1) 0, some 3, none⟩,
    ⟨.load none (.tmp 3), some 4, none⟩,
    ⟨.fbin .geq (.tmp 4) (.const (.float .f32 981467136)), some 5, none⟩,
    ⟨.mov (.tmp 5), some 6, none⟩,
    ⟨.addr (.tmp 1) 0, some 7, some (6, true)⟩,
    ⟨.load none (.tmp 7), some 8, some (6, true)⟩,
    ⟨.fbin .leq (.tmp 8) (.const (.float .f32 1233125376)), some 9, some (6, true)⟩,
    ⟨.pick (.tmp 6) (.tmp 9) (.const (.bool false)), some 10, none⟩,
    ⟨.mov (.tmp 10), some 11, none⟩,
    ⟨.addr (.tmp 1) 1, some 12, some (11, true)⟩,
    ⟨.load none (.tmp 12), some 13, some (11, true)⟩,
    ⟨.fbin .geq (.tmp 13) (.const (.float .f32 897581056)), some 14, some (11, true)⟩,
    ⟨.pick (.tmp 11) (.tmp 14) (.const (.bool false)), some 15, none⟩,
    ⟨.mov (.tmp 15), some 16, none⟩,
    ⟨.addr (.tmp 1) 1, some 17, some (16, true)⟩,
    ⟨.load none (.tmp 17), some 18, some (16, true)⟩,
    ⟨.fbin .leq (.tmp 18) (.const (.float .f32 1065353216)), some 19, some (16, true)⟩,
    ⟨.pick (.tmp 16) (.tmp 19) (.const (.bool false)), some 20, none⟩,
    ⟨.mov (.tmp 20), some 2, none⟩])
  (.ret))⟩
theorem ok_impl_ValidAquifer : cmpF Try.prog Try.f33 = some c_impl_ValidAquifer := by kernel_rfl

/- spec.CodeName -/
def c_spec_CodeName : FV := ⟨12, [.tmp 2],
  .seq (.ops [⟨.mov (.const (.string ⟨#[]⟩)), some 2, none⟩])
  (.seq (.ops [⟨.bslice 9 1 9 (#[.string ⟨#[]⟩]) [(0, .const (.string ⟨#[111, 107]⟩)), (1, .const (.string ⟨#[105, 110, 118, 97, 108, 105, 100]⟩)), (2, .const (.string ⟨#[114, 97, 110, 103, 101]⟩)), (3, .const (.string ⟨#[108, 105, 109, 105, 116]⟩)), (4, .const (.string ⟨#[115, 116, 97, 116, 101]⟩)), (5, .const (.string ⟨#[115, 121, 110, 116, 97, 120]⟩)), (6, .const (.string ⟨#[110, 111, 116, 102, 111, 117, 110, 100]⟩)), (7, .const (.string ⟨#[98, 117, 100, 103, 101, 116]⟩)), (8, .const (.string ⟨#[112, 114, 111, 111, 102]⟩))], some 4, none⟩,
    ⟨.mov (.tmp 4), some 3, none⟩])
  (.seq (.seq (.ops [⟨.mov (.tmp 0), some 5, none⟩,
    ⟨.call 95 [.tmp 5, .const (.int .i64 0), .const (.int .i64 8)], some 6, none⟩,
    ⟨.un .not (.tmp 6), some 7, none⟩])
  (.cond (.tmp 7) (.seq (.ops [⟨.mov (.const (.string ⟨#[]⟩)), some 2, none⟩])
  (.ret)) (.skip)))
  (.seq (.ops [⟨.mov (.tmp 3), some 8, none⟩,
    ⟨.mov (.tmp 0), some 9, none⟩,
    ⟨.idxS 1 (.tmp 8) (.tmp 9), some 10, none⟩,
    ⟨.load none (.tmp 10), some 11, none⟩,
    ⟨.mov (.tmp 11), some 2, none⟩])
  (.ret))))⟩
theorem ok_spec_CodeName : cmpF Try.prog Try.f34 = some c_spec_CodeName := by kernel_rfl

/- impl.CodeName -/
def c_impl_CodeName : FV := ⟨10, [.tmp 2],
  .seq (.ops [⟨.mov (.const (.string ⟨#[]⟩)), some 2, none⟩])
  (.seq (.seq (.ops [⟨.mov (.tmp 0), some 3, none⟩,
    ⟨.call 96 [.tmp 3, .const (.int .i64 0), .const (.int .i64 8)], some 4, none⟩,
    ⟨.un .not (.tmp 4), some 5, none⟩])
  (.cond (.tmp 5) (.seq (.ops [⟨.mov (.const (.string ⟨#[]⟩)), some 2, none⟩])
  (.ret)) (.skip)))
  (.seq (.ops [⟨.bslice 9 1 9 (#[.string ⟨#[]⟩]) [(0, .const (.string ⟨#[111, 107]⟩)), (1, .const (.string ⟨#[105, 110, 118, 97, 108, 105, 100]⟩)), (2, .const (.string ⟨#[114, 97, 110, 103, 101]⟩)), (3, .const (.string ⟨#[108, 105, 109, 105, 116]⟩)), (4, .const (.string ⟨#[115, 116, 97, 116, 101]⟩)), (5, .const (.string ⟨#[115, 121, 110, 116, 97, 120]⟩)), (6, .const (.string ⟨#[110, 111, 116, 102, 111, 117, 110, 100]⟩)), (7, .const (.string ⟨#[98, 117, 100, 103, 101, 116]⟩)), (8, .const (.string ⟨#[112, 114, 111, 111, 102]⟩))], some 6, none⟩,
    ⟨.mov (.tmp 0), some 7, none⟩,
    ⟨.idxS 1 (.tmp 6) (.tmp 7), some 8, none⟩,
    ⟨.load none (.tmp 8), some 9, none⟩,
    ⟨.mov (.tmp 9), some 2, none⟩])
  (.ret)))⟩
theorem ok_impl_CodeName : cmpF Try.prog Try.f35 = some c_impl_CodeName := by kernel_rfl

/- spec.SameNumber -/
def c_spec_SameNumber : FV := ⟨8, [.tmp 4],
  .seq (.ops [⟨.mov (.const (.bool false)), some 4, none⟩])
  (.seq (.ops [⟨.mov (.tmp 0), some 5, none⟩,
    ⟨.mov (.tmp 1), some 6, none⟩,
    ⟨.call 97 [.tmp 5, .tmp 6], some 7, none⟩,
    ⟨.mov (.tmp 7), some 4, none⟩])
  (.ret))⟩
theorem ok_spec_SameNumber : cmpF Try.prog Try.f36 = some c_spec_SameNumber := by kernel_rfl

/- impl.SameNumber -/
def c_impl_SameNumber : FV := ⟨22, [.tmp 4],
  .seq (.ops [⟨.mov (.const (.bool false)), some 4, none⟩])
  (.seq (.seq (.ops [⟨.mov (.tmp 0), some 5, none⟩,
    ⟨.call 98 [.tmp 5], some 6, none⟩,
    ⟨.mov (.tmp 6), some 7, none⟩,
    ⟨.mov (.tmp 1), some 8, some (7, false)⟩,
    ⟨.call 98 [.tmp 8], some 9, some (7, false)⟩,
    ⟨.pick (.tmp 7) (.const (.bool true)) (.tmp 9), some 10, none⟩])
  (.cond (.tmp 10) (.seq (.ops [⟨.mov (.tmp 0), some 11, none⟩,
    ⟨.call 98 [.tmp 11], some 12, none⟩,
    ⟨.mov (.tmp 12), some 13, none⟩,
    ⟨.mov (.tmp 1), some 14, some (13, true)⟩,
    ⟨.call 98 [.tmp 14], some 15, some (13, true)⟩,
    ⟨.pick (.tmp 13) (.tmp 15) (.const (.bool false)), some 16, none⟩,
    ⟨.mov (.tmp 16), some 4, none⟩])
  (.ret)) (.skip)))
  (.seq (.ops [⟨.mov (.tmp 0), some 17, none⟩,
    ⟨.f32bits (.tmp 17), some 18, none⟩,
    ⟨.mov (.tmp 1), some 19, none⟩,
    ⟨.f32bits (.tmp 19), some 20, none⟩,
    ⟨.bin .eql (.tmp 18) (.tmp 20), some 21, none⟩,
    ⟨.mov (.tmp 21), some 4, none⟩])
  (.ret)))⟩
theorem ok_impl_SameNumber : cmpF Try.prog Try.f37 = some c_impl_SameNumber := by kernel_rfl

/- spec.LevelOf -/
def c_spec_LevelOf : FV := ⟨5, [.tmp 2],
  .seq (.ops [⟨.box 38 (.tmp 0), some 1, none⟩,
    ⟨.mov (.const (.float .f32 0)), some 2, none⟩])
  (.seq (.ops [⟨.load (some 2) (.tmp 1), some 3, none⟩,
    ⟨.call 100 [.tmp 3], some 4, none⟩,
    ⟨.mov (.tmp 4), some 2, none⟩])
  (.ret))⟩
theorem ok_spec_LevelOf : cmpF Try.prog Try.f38 = some c_spec_LevelOf := by kernel_rfl

/- laws.toReading -/
def c_laws_toReading : FV := ⟨11, [.cell 2 (some 2)],
  .seq (.ops [⟨.box 36 (.tmp 0), some 1, none⟩,
    ⟨.alloc 38 (.agg (#[.int .i64 0, .int .i16 0])), some 2, none⟩])
  (.seq (.ops [⟨.alloc 38 (.agg (#[.int .i64 0, .int .i16 0])), some 3, none⟩])
  (.seq (.ops [⟨.addr (.tmp 1) 0, some 4, none⟩,
    ⟨.load none (.tmp 4), some 5, none⟩,
    ⟨.addr (.tmp 3) 0, some 6, none⟩,
    ⟨.store 1 (.tmp 6) (.tmp 5), none, none⟩])
  (.seq (.ops [⟨.addr (.tmp 1) 1, some 7, none⟩,
    ⟨.load none (.tmp 7), some 8, none⟩,
    ⟨.addr (.tmp 3) 1, some 9, none⟩,
    ⟨.store 1 (.tmp 9) (.tmp 8), none, none⟩])
  (.seq (.ops [⟨.load (some 2) (.tmp 3), some 10, none⟩,
    ⟨.store 2 (.tmp 2) (.tmp 10), none, none⟩])
  (.ret)))))⟩
theorem ok_laws_toReading : cmpF Try.prog Try.f39 = some c_laws_toReading := by kernel_rfl

/- impl.LevelOf -/
def c_impl_LevelOf : FV := ⟨7, [.tmp 2],
  .seq (.ops [⟨.box 38 (.tmp 0), some 1, none⟩,
    ⟨.mov (.const (.float .f32 0)), some 2, none⟩])
  (.seq (.ops [⟨.addr (.tmp 1) 1, some 3, none⟩,
    ⟨.load none (.tmp 3), some 4, none⟩,
    ⟨.convF .f32 (.tmp 4), some 5, none⟩,
    ⟨.fbin .quo (.tmp 5) (.const (.float .f32 1098907648)), some 6, none⟩,
    ⟨.mov (.tmp 6), some 2, none⟩])
  (.ret))⟩
theorem ok_impl_LevelOf : cmpF Try.prog Try.f40 = some c_impl_LevelOf := by kernel_rfl

/- laws.sameFloat -/
def c_laws_sameFloat : FV := ⟨37, [.tmp 4],
  .seq (.ops [⟨.mov (.const (.bool false)), some 4, none⟩])
  (.seq (.seq (.ops [⟨.mov (.tmp 0), some 5, none⟩,
    ⟨.mov (.tmp 0), some 6, none⟩,
    ⟨.fbin .neq (.tmp 5) (.tmp 6), some 7, none⟩,
    ⟨.mov (.tmp 7), some 8, none⟩,
    ⟨.mov (.tmp 1), some 9, some (8, false)⟩,
    ⟨.mov (.tmp 1), some 10, some (8, false)⟩,
    ⟨.fbin .neq (.tmp 9) (.tmp 10), some 11, some (8, false)⟩,
    ⟨.pick (.tmp 8) (.const (.bool true)) (.tmp 11), some 12, none⟩])
  (.cond (.tmp 12) (.seq (.ops [⟨.mov (.tmp 0), some 13, none⟩,
    ⟨.mov (.tmp 0), some 14, none⟩,
    ⟨.fbin .neq (.tmp 13) (.tmp 14), some 15, none⟩,
    ⟨.mov (.tmp 15), some 16, none⟩,
    ⟨.mov (.tmp 1), some 17, some (16, true)⟩,
    ⟨.mov (.tmp 1), some 18, some (16, true)⟩,
    ⟨.fbin .neq (.tmp 17) (.tmp 18), some 19, some (16, true)⟩,
    ⟨.pick (.tmp 16) (.tmp 19) (.const (.bool false)), some 20, none⟩,
    ⟨.mov (.tmp 20), some 4, none⟩])
  (.ret)) (.skip)))
  (.seq (.seq (.ops [⟨.mov (.tmp 0), some 21, none⟩,
    ⟨.fbin .eql (.tmp 21) (.const (.float .f64 0)), some 22, none⟩,
    ⟨.mov (.tmp 22), some 23, none⟩,
    ⟨.mov (.tmp 1), some 24, some (23, true)⟩,
    ⟨.fbin .eql (.tmp 24) (.const (.float .f64 0)), some 25, some (23, true)⟩,
    ⟨.pick (.tmp 23) (.tmp 25) (.const (.bool false)), some 26, none⟩])
  (.cond (.tmp 26) (.seq (.ops [⟨.mov (.tmp 0), some 27, none⟩,
    ⟨.fbin .quo (.const (.float .f64 4607182418800017408)) (.tmp 27), some 28, none⟩,
    ⟨.fbin .gtr (.tmp 28) (.const (.float .f64 0)), some 29, none⟩,
    ⟨.mov (.tmp 1), some 30, none⟩,
    ⟨.fbin .quo (.const (.float .f64 4607182418800017408)) (.tmp 30), some 31, none⟩,
    ⟨.fbin .gtr (.tmp 31) (.const (.float .f64 0)), some 32, none⟩,
    ⟨.beq false (.tmp 29) (.tmp 32), some 33, none⟩,
    ⟨.mov (.tmp 33), some 4, none⟩])
  (.ret)) (.skip)))
  (.seq (.ops [⟨.mov (.tmp 0), some 34, none⟩,
    ⟨.mov (.tmp 1), some 35, none⟩,
    ⟨.fbin .eql (.tmp 34) (.tmp 35), some 36, none⟩,
    ⟨.mov (.tmp 36), some 4, none⟩])
  (.ret))))⟩
theorem ok_laws_sameFloat : cmpF Try.prog Try.f41 = some c_laws_sameFloat := by kernel_rfl

/- laws.f6big -/
def c_laws_f6big : FV := ⟨6, [.tmp 2],
  .seq (.ops [⟨.mov (.const (.bool false)), some 2, none⟩])
  (.seq (.ops [⟨.mov (.tmp 0), some 3, none⟩,
    ⟨.lenL (.tmp 3), some 4, none⟩,
    ⟨.bin .gtr (.tmp 4) (.const (.int .i64 4096)), some 5, none⟩,
    ⟨.mov (.tmp 5), some 2, none⟩])
  (.ret))⟩
theorem ok_laws_f6big : cmpF Try.prog Try.f42 = some c_laws_f6big := by kernel_rfl

/- spec.P6Pick -/
def c_spec_P6Pick : FV := ⟨9, [.tmp 4],
  .seq (.ops [⟨.mov (.const (.int .i64 0)), some 4, none⟩])
  (.seq (.ops [⟨.mov (.tmp 0), some 5, none⟩,
    ⟨.call 101 [.tmp 5], some 6, none⟩,
    ⟨.mov (.tmp 1), some 7, none⟩,
    ⟨.call 102 [.tmp 6, .tmp 7], some 8, none⟩,
    ⟨.mov (.tmp 8), some 4, none⟩])
  (.ret))⟩
theorem ok_spec_P6Pick : cmpF Try.prog Try.f43 = some c_spec_P6Pick := by kernel_rfl

/- impl.LnOf -/
def c_impl_LnOf : FV := ⟨55, [.tmp 2, .tmp 3],
  .seq (.ops [⟨.mov (.const (.float .f32 0)), some 2, none⟩,
    ⟨.mov (.const (.int .i64 0)), some 3, none⟩])
  (.seq (.seq (.ops [⟨.mov (.tmp 0), some 9, none⟩,
    ⟨.fbin .geq (.tmp 9) (.const (.float .f32 562036736)), some 10, none⟩,
    ⟨.un .not (.tmp 10), some 11, none⟩,
    ⟨.mov (.tmp 11), some 12, none⟩,
    ⟨.mov (.tmp 0), some 13, some (12, false)⟩,
    ⟨.fbin .gtr (.tmp 13) (.const (.float .f32 1568669696)), some 14, some (12, false)⟩,
    ⟨.pick (.tmp 12) (.const (.bool true)) (.tmp 14), some 15, none⟩])
  (.cond (.tmp 15) (.seq (.ops [⟨.mov (.const (.float .f32 0)), some 2, none⟩,
    ⟨.mov (.const (.int .i64 2)), some 3, none⟩])
  (.ret)) (.skip)))
  (.seq (.ops [⟨.mov (.tmp 0), some 16, none⟩,
    ⟨.mov (.tmp 16), some 4, none⟩,
    ⟨.mov (.const (.float .f32 0)), some 5, none⟩])
  (.seq (.block 0 (.loop (.seq (.seq (.ops [⟨.mov (.tmp 4), some 17, none⟩,
    ⟨.fbin .geq (.tmp 17) (.const (.float .f32 1069547520)), some 18, none⟩])
  (.cond (.tmp 18) (.skip) (.exit 0)))
  (.block 1 (.ops [⟨.mov (.tmp 4), some 19, none⟩,
    ⟨.fbin .quo (.tmp 19) (.const (.float .f32 1073741824)), some 20, none⟩,
    ⟨.mov (.tmp 5), some 21, none⟩,
    ⟨.fbin .add (.tmp 21) (.const (.float .f32 1065353216)), some 22, none⟩,
    ⟨.mov (.tmp 20), some 4, none⟩,
    ⟨.mov (.tmp 22), some 5, none⟩])))))
  (.seq (.block 2 (.loop (.seq (.seq (.ops [⟨.mov (.tmp 4), some 23, none⟩,
    ⟨.fbin .lss (.tmp 23) (.const (.float .f32 1061158912)), some 24, none⟩])
  (.cond (.tmp 24) (.skip) (.exit 2)))
  (.block 3 (.ops [⟨.mov (.tmp 4), some 25, none⟩,
    ⟨.fbin .mul (.tmp 25) (.const (.float .f32 1073741824)), some 26, none⟩,
    ⟨.mov (.tmp 5), some 27, none⟩,
    ⟨.fbin .sub (.tmp 27) (.const (.float .f32 1065353216)), some 28, none⟩,
    ⟨.mov (.tmp 26), some 4, none⟩,
    ⟨.mov (.tmp 28), some 5, none⟩])))))
  (.seq (.ops [⟨.mov (.tmp 4), some 29, none⟩,
    ⟨.fbin .sub (.tmp 29) (.const (.float .f32 1065353216)), some 30, none⟩,
    ⟨.mov (.tmp 4), some 31, none⟩,
    ⟨.fbin .add (.tmp 31) (.const (.float .f32 1065353216)), some 32, none⟩,
    ⟨.fbin .quo (.tmp 30) (.tmp 32), some 33, none⟩,
    ⟨.mov (.tmp 33), some 6, none⟩])
  (.seq (.ops [⟨.mov (.tmp 6), some 34, none⟩,
    ⟨.mov (.tmp 6), some 35, none⟩,
    ⟨.fbin .mul (.tmp 34) (.tmp 35), some 36, none⟩,
    ⟨.mov (.tmp 36), some 7, none⟩])
  (.seq (.ops [⟨.mov (.tmp 7), some 37, none⟩,
    ⟨.fbin .mul (.tmp 37) (.const (.float .f32 1041385765)), some 38, none⟩,
    ⟨.fbin .add (.tmp 38) (.const (.float .f32 1045220557)), some 39, none⟩,
    ⟨.mov (.tmp 39), some 8, none⟩])
  (.seq (.ops [⟨.mov (.tmp 8), some 40, none⟩,
    ⟨.mov (.tmp 7), some 41, none⟩,
    ⟨.fbin .mul (.tmp 40) (.tmp 41), some 42, none⟩,
    ⟨.fbin .add (.tmp 42) (.const (.float .f32 1051372203)), some 43, none⟩,
    ⟨.mov (.tmp 43), some 8, none⟩])
  (.seq (.ops [⟨.mov (.tmp 8), some 44, none⟩,
    ⟨.mov (.tmp 7), some 45, none⟩,
    ⟨.fbin .mul (.tmp 44) (.tmp 45), some 46, none⟩,
    ⟨.fbin .add (.tmp 46) (.const (.float .f32 1065353216)), some 47, none⟩,
    ⟨.mov (.tmp 47), some 8, none⟩])
  (.seq (.ops [⟨.mov (.tmp 5), some 48, none⟩,
    ⟨.fbin .mul (.tmp 48) (.const (.float .f32 1060205080)), some 49, none⟩,
    ⟨.mov (.tmp 6), some 50, none⟩,
    ⟨.mov (.tmp 8), some 51, none⟩,
    ⟨.fbin .mul (.tmp 50) (.tmp 51), some 52, none⟩,
    ⟨.fbin .mul (.const (.float .f32 1073741824)) (.tmp 52), some 53, none⟩,
    ⟨.fbin .add (.tmp 49) (.tmp 53), some 54, none⟩,
    ⟨.mov (.tmp 54), some 2, none⟩,
    ⟨.mov (.const (.int .i64 0)), some 3, none⟩])
  (.ret)))))))))))⟩
theorem ok_impl_LnOf : cmpF Try.prog Try.f44 = some c_impl_LnOf := by kernel_rfl

end Go.Proofs.Ytainhignhmmhlaa

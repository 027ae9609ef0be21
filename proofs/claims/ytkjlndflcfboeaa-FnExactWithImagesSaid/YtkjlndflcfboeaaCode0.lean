/- The code of the Go functions in the generator's own form, printed by a program of mine (gen.py) out of the loaded program; each with the check that it is so. -/
import Derived.Test.YtkjlndflcfboeaaVcFn
import Derived.Test.YtkjlndflcfboeaaGeo
import Derived.Test.YtkjlndflcfboeaaRows
import Derived.KernelRfl
namespace Go.Proofs.Ytkjlndflcfboeaa
open Go Go.Fl Go.Vc
set_option linter.all false
set_option maxRecDepth 100000

/- laws.FnExactWithImages -/
def c_laws_FnExactWithImages : FV := ⟨106, [.tmp 6],
  .seq (.ops [⟨.mov (.const (.bool false)), some 6, none⟩])
  (.seq (.ops [⟨.mov (.const (.int .i64 1048576)), some 7, none⟩])
  (.seq (.ops [⟨.mov (.tmp 0), some 18, none⟩,
    ⟨.mov (.tmp 7), some 19, none⟩,
    ⟨.call 5 [.tmp 18, .tmp 19], some 20, none⟩,
    ⟨.mov (.tmp 20), some 7, none⟩])
  (.seq (.seq (.ops [⟨.mov (.tmp 7), some 21, none⟩,
    ⟨.bin .lss (.tmp 21) (.const (.int .i64 0)), some 22, none⟩])
  (.cond (.tmp 22) (.seq (.ops [⟨.mov (.const (.bool true)), some 6, none⟩])
  (.ret)) (.skip)))
  (.seq (.ops [⟨.mov (.tmp 0), some 24, none⟩,
    ⟨.call 7 [.tmp 24], some 25, none⟩,
    ⟨.mov (.tmp 1), some 26, none⟩,
    ⟨.mov (.tmp 2), some 27, none⟩,
    ⟨.call 6 [.tmp 25, .tmp 26, .tmp 27], some 28, none⟩,
    ⟨.mov (.tmp 28), some 23, none⟩,
    ⟨.ext (.tmp 23) 0, some 29, none⟩,
    ⟨.ext (.tmp 23) 1, some 30, none⟩,
    ⟨.mov (.tmp 29), some 8, none⟩,
    ⟨.mov (.tmp 30), some 9, none⟩])
  (.seq (.ops [⟨.mov (.tmp 0), some 31, none⟩,
    ⟨.call 7 [.tmp 31], some 32, none⟩,
    ⟨.mov (.tmp 32), some 10, none⟩])
  (.seq (.ops [⟨.mov (.tmp 10), some 34, none⟩,
    ⟨.mov (.tmp 1), some 35, none⟩,
    ⟨.mov (.tmp 2), some 36, none⟩,
    ⟨.call 8 [.tmp 34, .tmp 35, .tmp 36], some 37, none⟩,
    ⟨.mov (.tmp 37), some 33, none⟩,
    ⟨.ext (.tmp 33) 0, some 38, none⟩,
    ⟨.ext (.tmp 33) 1, some 39, none⟩,
    ⟨.mov (.tmp 38), some 11, none⟩,
    ⟨.mov (.tmp 39), some 12, none⟩])
  (.seq (.seq (.ops [⟨.mov (.tmp 11), some 40, none⟩,
    ⟨.mov (.tmp 8), some 41, none⟩,
    ⟨.call 9 [.tmp 40, .tmp 41], some 42, none⟩,
    ⟨.un .not (.tmp 42), some 43, none⟩,
    ⟨.mov (.tmp 43), some 44, none⟩,
    ⟨.mov (.tmp 12), some 45, some (44, false)⟩,
    ⟨.mov (.tmp 9), some 46, some (44, false)⟩,
    ⟨.bin .neq (.tmp 45) (.tmp 46), some 47, some (44, false)⟩,
    ⟨.pick (.tmp 44) (.const (.bool true)) (.tmp 47), some 48, none⟩])
  (.cond (.tmp 48) (.seq (.ops [⟨.mov (.const (.bool false)), some 6, none⟩])
  (.ret)) (.skip)))
  (.seq (.seq (.ops [⟨.mov (.tmp 10), some 49, none⟩,
    ⟨.mov (.tmp 0), some 50, none⟩,
    ⟨.call 7 [.tmp 50], some 51, none⟩,
    ⟨.call 9 [.tmp 49, .tmp 51], some 52, none⟩,
    ⟨.un .not (.tmp 52), some 53, none⟩])
  (.cond (.tmp 53) (.seq (.ops [⟨.mov (.const (.bool false)), some 6, none⟩])
  (.ret)) (.skip)))
  (.seq (.ops [⟨.mov (.const (.int .i64 1)), some 13, none⟩])
  (.seq (.ops [⟨.mov (.tmp 10), some 54, none⟩,
    ⟨.mov (.tmp 13), some 55, none⟩,
    ⟨.call 10 [.tmp 54, .tmp 55], some 56, none⟩,
    ⟨.mov (.tmp 56), some 13, none⟩])
  (.seq (.seq (.ops [⟨.mov (.tmp 13), some 57, none⟩,
    ⟨.bin .lss (.tmp 57) (.const (.int .i64 0)), some 58, none⟩,
    ⟨.mov (.tmp 58), some 59, none⟩,
    ⟨.mov (.tmp 11), some 60, some (59, false)⟩,
    ⟨.mov (.tmp 8), some 61, some (59, false)⟩,
    ⟨.call 9 [.tmp 60, .tmp 61], some 62, some (59, false)⟩,
    ⟨.un .not (.tmp 62), some 63, some (59, false)⟩,
    ⟨.pick (.tmp 59) (.const (.bool true)) (.tmp 63), some 64, none⟩,
    ⟨.mov (.tmp 64), some 65, none⟩,
    ⟨.mov (.tmp 12), some 66, some (65, false)⟩,
    ⟨.mov (.tmp 9), some 67, some (65, false)⟩,
    ⟨.bin .neq (.tmp 66) (.tmp 67), some 68, some (65, false)⟩,
    ⟨.pick (.tmp 65) (.const (.bool true)) (.tmp 68), some 69, none⟩])
  (.cond (.tmp 69) (.seq (.ops [⟨.mov (.const (.bool false)), some 6, none⟩])
  (.ret)) (.skip)))
  (.seq (.ops [⟨.mov (.const (.int .i64 1)), some 14, none⟩])
  (.seq (.ops [⟨.mov (.tmp 11), some 70, none⟩,
    ⟨.mov (.tmp 14), some 71, none⟩,
    ⟨.call 10 [.tmp 70, .tmp 71], some 72, none⟩,
    ⟨.mov (.tmp 72), some 14, none⟩])
  (.seq (.ops [⟨.mov (.const (.int .i64 1)), some 15, none⟩])
  (.seq (.ops [⟨.mov (.tmp 11), some 73, none⟩,
    ⟨.mov (.tmp 15), some 74, none⟩,
    ⟨.call 11 [.tmp 73, .tmp 74], some 75, none⟩,
    ⟨.mov (.tmp 75), some 15, none⟩])
  (.seq (.seq (.ops [⟨.mov (.tmp 15), some 76, none⟩,
    ⟨.bin .lss (.tmp 76) (.const (.int .i64 0)), some 77, none⟩])
  (.cond (.tmp 77) (.seq (.ops [⟨.mov (.const (.bool false)), some 6, none⟩])
  (.ret)) (.skip)))
  (.seq (.seq (.ops [⟨.mov (.tmp 15), some 78, none⟩,
    ⟨.mov (.tmp 14), some 79, none⟩,
    ⟨.bin .neq (.tmp 78) (.tmp 79), some 80, none⟩])
  (.cond (.tmp 80) (.seq (.ops [⟨.mov (.const (.bool false)), some 6, none⟩])
  (.ret)) (.skip)))
  (.seq (.ops [⟨.mov (.tmp 0), some 82, none⟩,
    ⟨.call 7 [.tmp 82], some 83, none⟩,
    ⟨.mov (.tmp 1), some 84, none⟩,
    ⟨.mov (.tmp 2), some 85, none⟩,
    ⟨.call 8 [.tmp 83, .tmp 84, .tmp 85], some 86, none⟩,
    ⟨.mov (.tmp 86), some 81, none⟩,
    ⟨.ext (.tmp 81) 0, some 87, none⟩,
    ⟨.ext (.tmp 81) 1, some 88, none⟩,
    ⟨.mov (.tmp 87), some 16, none⟩,
    ⟨.mov (.tmp 88), some 17, none⟩])
  (.seq (.seq (.ops [⟨.mov (.tmp 16), some 89, none⟩,
    ⟨.mov (.tmp 8), some 90, none⟩,
    ⟨.call 9 [.tmp 89, .tmp 90], some 91, none⟩,
    ⟨.un .not (.tmp 91), some 92, none⟩,
    ⟨.mov (.tmp 92), some 93, none⟩,
    ⟨.mov (.tmp 17), some 94, some (93, false)⟩,
    ⟨.mov (.tmp 9), some 95, some (93, false)⟩,
    ⟨.bin .neq (.tmp 94) (.tmp 95), some 96, some (93, false)⟩,
    ⟨.pick (.tmp 93) (.const (.bool true)) (.tmp 96), some 97, none⟩])
  (.cond (.tmp 97) (.seq (.ops [⟨.mov (.const (.bool false)), some 6, none⟩])
  (.ret)) (.skip)))
  (.seq (.ops [⟨.mov (.const (.int .i64 1)), some 15, none⟩])
  (.seq (.ops [⟨.mov (.tmp 11), some 98, none⟩,
    ⟨.mov (.tmp 15), some 99, none⟩,
    ⟨.call 11 [.tmp 98, .tmp 99], some 100, none⟩,
    ⟨.mov (.tmp 100), some 15, none⟩])
  (.seq (.seq (.ops [⟨.mov (.tmp 15), some 101, none⟩,
    ⟨.bin .lss (.tmp 101) (.const (.int .i64 0)), some 102, none⟩])
  (.cond (.tmp 102) (.seq (.ops [⟨.mov (.const (.bool false)), some 6, none⟩])
  (.ret)) (.skip)))
  (.seq (.seq (.ops [⟨.mov (.tmp 15), some 103, none⟩,
    ⟨.mov (.tmp 14), some 104, none⟩,
    ⟨.bin .neq (.tmp 103) (.tmp 104), some 105, none⟩])
  (.cond (.tmp 105) (.seq (.ops [⟨.mov (.const (.bool false)), some 6, none⟩])
  (.ret)) (.skip)))
  (.seq (.ops [⟨.mov (.const (.bool true)), some 6, none⟩])
  (.ret)))))))))))))))))))))))))⟩
theorem ok_laws_FnExactWithImages : cmpF Try.prog Try.f3 = some c_laws_FnExactWithImages := by kernel_rfl

/- laws.FnExactLineThrough -/
def c_laws_FnExactLineThrough : FV := ⟨55, [.tmp 2],
  .seq (.ops [⟨.mov (.const (.bool false)), some 2, none⟩])
  (.seq (.ops [⟨.mov (.const (.int .i64 1048576)), some 3, none⟩])
  (.seq (.ops [⟨.mov (.tmp 0), some 11, none⟩,
    ⟨.mov (.tmp 3), some 12, none⟩,
    ⟨.call 12 [.tmp 11, .tmp 12], some 13, none⟩,
    ⟨.mov (.tmp 13), some 3, none⟩])
  (.seq (.seq (.ops [⟨.mov (.tmp 3), some 14, none⟩,
    ⟨.bin .lss (.tmp 14) (.const (.int .i64 0)), some 15, none⟩])
  (.cond (.tmp 15) (.seq (.ops [⟨.mov (.const (.bool true)), some 2, none⟩])
  (.ret)) (.skip)))
  (.seq (.ops [⟨.mov (.tmp 0), some 17, none⟩,
    ⟨.call 14 [.tmp 17], some 18, none⟩,
    ⟨.call 13 [.tmp 18], some 19, none⟩,
    ⟨.mov (.tmp 19), some 16, none⟩,
    ⟨.ext (.tmp 16) 0, some 20, none⟩,
    ⟨.ext (.tmp 16) 1, some 21, none⟩,
    ⟨.ext (.tmp 16) 2, some 22, none⟩,
    ⟨.mov (.tmp 20), some 4, none⟩,
    ⟨.mov (.tmp 21), some 5, none⟩,
    ⟨.mov (.tmp 22), some 6, none⟩])
  (.seq (.ops [⟨.mov (.tmp 0), some 23, none⟩,
    ⟨.call 14 [.tmp 23], some 24, none⟩,
    ⟨.mov (.tmp 24), some 7, none⟩])
  (.seq (.ops [⟨.mov (.tmp 7), some 26, none⟩,
    ⟨.call 15 [.tmp 26], some 27, none⟩,
    ⟨.mov (.tmp 27), some 25, none⟩,
    ⟨.ext (.tmp 25) 0, some 28, none⟩,
    ⟨.ext (.tmp 25) 1, some 29, none⟩,
    ⟨.ext (.tmp 25) 2, some 30, none⟩,
    ⟨.mov (.tmp 28), some 8, none⟩,
    ⟨.mov (.tmp 29), some 9, none⟩,
    ⟨.mov (.tmp 30), some 10, none⟩])
  (.seq (.seq (.ops [⟨.mov (.tmp 8), some 31, none⟩,
    ⟨.convF .f64 (.tmp 31), some 32, none⟩,
    ⟨.mov (.tmp 4), some 33, none⟩,
    ⟨.convF .f64 (.tmp 33), some 34, none⟩,
    ⟨.call 16 [.tmp 32, .tmp 34], some 35, none⟩,
    ⟨.un .not (.tmp 35), some 36, none⟩,
    ⟨.mov (.tmp 36), some 37, none⟩,
    ⟨.mov (.tmp 9), some 38, some (37, false)⟩,
    ⟨.convF .f64 (.tmp 38), some 39, some (37, false)⟩,
    ⟨.mov (.tmp 5), some 40, some (37, false)⟩,
    ⟨.convF .f64 (.tmp 40), some 41, some (37, false)⟩,
    ⟨.call 16 [.tmp 39, .tmp 41], some 42, some (37, false)⟩,
    ⟨.un .not (.tmp 42), some 43, some (37, false)⟩,
    ⟨.pick (.tmp 37) (.const (.bool true)) (.tmp 43), some 44, none⟩,
    ⟨.mov (.tmp 44), some 45, none⟩,
    ⟨.mov (.tmp 10), some 46, some (45, false)⟩,
    ⟨.mov (.tmp 6), some 47, some (45, false)⟩,
    ⟨.bin .neq (.tmp 46) (.tmp 47), some 48, some (45, false)⟩,
    ⟨.pick (.tmp 45) (.const (.bool true)) (.tmp 48), some 49, none⟩])
  (.cond (.tmp 49) (.seq (.ops [⟨.mov (.const (.bool false)), some 2, none⟩])
  (.ret)) (.skip)))
  (.seq (.seq (.ops [⟨.mov (.tmp 7), some 50, none⟩,
    ⟨.mov (.tmp 0), some 51, none⟩,
    ⟨.call 14 [.tmp 51], some 52, none⟩,
    ⟨.call 17 [.tmp 50, .tmp 52], some 53, none⟩,
    ⟨.un .not (.tmp 53), some 54, none⟩])
  (.cond (.tmp 54) (.seq (.ops [⟨.mov (.const (.bool false)), some 2, none⟩])
  (.ret)) (.skip)))
  (.seq (.ops [⟨.mov (.const (.bool true)), some 2, none⟩])
  (.ret))))))))))⟩
theorem ok_laws_FnExactLineThrough : cmpF Try.prog Try.f4 = some c_laws_FnExactLineThrough := by kernel_rfl

/- laws.szWellS -/
def c_laws_szWellS : FV := ⟨12, [.tmp 4],
  .seq (.ops [⟨.mov (.const (.int .i64 0)), some 4, none⟩])
  (.seq (.ops [⟨.mov (.tmp 1), some 5, none⟩,
    ⟨.mov (.tmp 0), some 6, none⟩,
    ⟨.lenL (.tmp 6), some 7, none⟩,
    ⟨.bin .sub (.tmp 5) (.tmp 7), some 8, none⟩,
    ⟨.mov (.tmp 8), some 1, none⟩])
  (.seq (.seq (.ops [⟨.mov (.tmp 1), some 9, none⟩,
    ⟨.bin .lss (.tmp 9) (.const (.int .i64 0)), some 10, none⟩])
  (.cond (.tmp 10) (.seq (.ops [⟨.mov (.const (.int .i64 (-1))), some 4, none⟩])
  (.ret)) (.skip)))
  (.seq (.ops [⟨.mov (.tmp 1), some 11, none⟩,
    ⟨.mov (.tmp 11), some 4, none⟩])
  (.ret))))⟩
theorem ok_laws_szWellS : cmpF Try.prog Try.f5 = some c_laws_szWellS := by kernel_rfl

/- spec.WithImages -/
def c_spec_WithImages : FV := ⟨58, [.tmp 6, .tmp 7],
  .seq (.ops [⟨.mov (.const (.slice none 0 0)), some 6, none⟩,
    ⟨.mov (.const (.int .i64 0)), some 7, none⟩])
  (.seq (.seq (.ops [⟨.mov (.const (.int .i64 0)), some 8, none⟩])
  (.block 0 (.loop (.seq (.seq (.ops [⟨.mov (.tmp 8), some 13, none⟩,
    ⟨.mov (.tmp 0), some 14, none⟩,
    ⟨.lenL (.tmp 14), some 15, none⟩,
    ⟨.bin .lss (.tmp 13) (.tmp 15), some 16, none⟩])
  (.cond (.tmp 16) (.skip) (.exit 0)))
  (.seq (.block 1 (.seq (.ops [⟨.mov (.tmp 0), some 19, none⟩,
    ⟨.mov (.tmp 8), some 20, none⟩,
    ⟨.idxS 3 (.tmp 19) (.tmp 20), some 21, none⟩,
    ⟨.load (some 3) (.tmp 21), some 22, none⟩,
    ⟨.call 18 [.tmp 22], some 23, none⟩,
    ⟨.un .not (.tmp 23), some 24, none⟩])
  (.cond (.tmp 24) (.seq (.ops [⟨.bslice 45 3 0 (#[.int .i8 0, .int .i8 0, .float .f32 0]) [], some 25, none⟩,
    ⟨.mov (.tmp 25), some 6, none⟩,
    ⟨.mov (.const (.int .i64 1)), some 7, none⟩])
  (.ret)) (.skip))))
  (.ops [⟨.mov (.tmp 8), some 17, none⟩,
    ⟨.bin .add (.tmp 17) (.const (.int .i64 1)), some 18, none⟩,
    ⟨.mov (.tmp 18), some 8, none⟩]))))))
  (.seq (.seq (.ops [⟨.mov (.tmp 0), some 26, none⟩,
    ⟨.lenL (.tmp 26), some 27, none⟩,
    ⟨.bin .gtr (.tmp 27) (.const (.int .i64 6)), some 28, none⟩])
  (.cond (.tmp 28) (.seq (.ops [⟨.bslice 45 3 0 (#[.int .i8 0, .int .i8 0, .float .f32 0]) [], some 29, none⟩,
    ⟨.mov (.tmp 29), some 6, none⟩,
    ⟨.mov (.const (.int .i64 3)), some 7, none⟩])
  (.ret)) (.skip)))
  (.seq (.ops [⟨.bslice 45 3 0 (#[.int .i8 0, .int .i8 0, .float .f32 0]) [], some 30, none⟩,
    ⟨.mov (.tmp 0), some 31, none⟩,
    ⟨.app 45 3 (.tmp 30) (.tmp 31), some 32, none⟩,
    ⟨.mov (.tmp 32), some 9, none⟩])
  (.seq (.seq (.ops [⟨.mov (.const (.int .i64 0)), some 10, none⟩])
  (.block 2 (.loop (.seq (.seq (.ops [⟨.mov (.tmp 10), some 33, none⟩,
    ⟨.mov (.tmp 0), some 34, none⟩,
    ⟨.lenL (.tmp 34), some 35, none⟩,
    ⟨.bin .lss (.tmp 33) (.tmp 35), some 36, none⟩])
  (.cond (.tmp 36) (.skip) (.exit 2)))
  (.seq (.block 3 (.seq (.ops [⟨.mov (.tmp 0), some 40, none⟩,
    ⟨.mov (.tmp 10), some 41, none⟩,
    ⟨.idxS 3 (.tmp 40) (.tmp 41), some 42, none⟩,
    ⟨.load (some 3) (.tmp 42), some 43, none⟩,
    ⟨.mov (.tmp 1), some 44, none⟩,
    ⟨.mov (.tmp 2), some 45, none⟩,
    ⟨.call 19 [.tmp 43, .tmp 44, .tmp 45], some 46, none⟩,
    ⟨.mov (.tmp 46), some 39, none⟩,
    ⟨.ext (.tmp 39) 0, some 47, none⟩,
    ⟨.ext (.tmp 39) 1, some 48, none⟩,
    ⟨.alloc 45 (.agg (#[.int .i8 0, .int .i8 0, .float .f32 0])), some 11, none⟩,
    ⟨.store 3 (.tmp 11) (.tmp 47), none, none⟩,
    ⟨.mov (.tmp 48), some 12, none⟩])
  (.seq (.seq (.ops [⟨.mov (.tmp 12), some 49, none⟩,
    ⟨.bin .neq (.tmp 49) (.const (.int .i64 0)), some 50, none⟩])
  (.cond (.tmp 50) (.seq (.ops [⟨.bslice 45 3 0 (#[.int .i8 0, .int .i8 0, .float .f32 0]) [], some 51, none⟩,
    ⟨.mov (.tmp 12), some 52, none⟩,
    ⟨.mov (.tmp 51), some 6, none⟩,
    ⟨.mov (.tmp 52), some 7, none⟩])
  (.ret)) (.skip)))
  (.ops [⟨.mov (.tmp 9), some 53, none⟩,
    ⟨.load (some 3) (.tmp 11), some 54, none⟩,
    ⟨.bslice 45 3 1 (#[.int .i8 0, .int .i8 0, .float .f32 0]) [(0, .tmp 54)], some 55, none⟩,
    ⟨.app 45 3 (.tmp 53) (.tmp 55), some 56, none⟩,
    ⟨.mov (.tmp 56), some 9, none⟩]))))
  (.ops [⟨.mov (.tmp 10), some 37, none⟩,
    ⟨.bin .add (.tmp 37) (.const (.int .i64 1)), some 38, none⟩,
    ⟨.mov (.tmp 38), some 10, none⟩]))))))
  (.seq (.ops [⟨.mov (.tmp 9), some 57, none⟩,
    ⟨.mov (.tmp 57), some 6, none⟩,
    ⟨.mov (.const (.int .i64 0)), some 7, none⟩])
  (.ret))))))⟩
theorem ok_spec_WithImages : cmpF Try.prog Try.f6 = some c_spec_WithImages := by kernel_rfl

/- laws.toWellS -/
def c_laws_toWellS : FV := ⟨23, [.tmp 2],
  .seq (.ops [⟨.mov (.const (.slice none 0 0)), some 2, none⟩])
  (.seq (.ops [⟨.mov (.tmp 0), some 5, none⟩,
    ⟨.lenL (.tmp 5), some 6, none⟩,
    ⟨.mks 45 3 (#[.int .i8 0, .int .i8 0, .float .f32 0]) (.tmp 6) (.tmp 6), some 7, none⟩,
    ⟨.mov (.tmp 7), some 3, none⟩])
  (.seq (.seq (.ops [⟨.mov (.const (.int .i64 0)), some 4, none⟩])
  (.block 0 (.loop (.seq (.seq (.ops [⟨.mov (.tmp 4), some 8, none⟩,
    ⟨.mov (.tmp 0), some 9, none⟩,
    ⟨.lenL (.tmp 9), some 10, none⟩,
    ⟨.bin .lss (.tmp 8) (.tmp 10), some 11, none⟩])
  (.cond (.tmp 11) (.skip) (.exit 0)))
  (.seq (.block 1 (.ops [⟨.mov (.tmp 3), some 14, none⟩,
    ⟨.mov (.tmp 4), some 15, none⟩,
    ⟨.mov (.tmp 0), some 16, none⟩,
    ⟨.mov (.tmp 4), some 17, none⟩,
    ⟨.idxS 3 (.tmp 16) (.tmp 17), some 18, none⟩,
    ⟨.load (some 3) (.tmp 18), some 19, none⟩,
    ⟨.call 20 [.tmp 19], some 20, none⟩,
    ⟨.idxS 3 (.tmp 14) (.tmp 15), some 21, none⟩,
    ⟨.store 3 (.tmp 21) (.tmp 20), none, none⟩]))
  (.ops [⟨.mov (.tmp 4), some 12, none⟩,
    ⟨.bin .add (.tmp 12) (.const (.int .i64 1)), some 13, none⟩,
    ⟨.mov (.tmp 13), some 4, none⟩]))))))
  (.seq (.ops [⟨.mov (.tmp 3), some 22, none⟩,
    ⟨.mov (.tmp 22), some 2, none⟩])
  (.ret))))⟩
theorem ok_laws_toWellS : cmpF Try.prog Try.f7 = some c_laws_toWellS := by kernel_rfl

/- impl.WithImages -/
def c_impl_WithImages : FV := ⟨45, [.tmp 6, .tmp 7],
  .seq (.ops [⟨.mov (.const (.slice none 0 0)), some 6, none⟩,
    ⟨.mov (.const (.int .i64 0)), some 7, none⟩])
  (.seq (.block 0 (.seq (.ops [⟨.mov (.tmp 0), some 14, none⟩,
    ⟨.call 21 [.tmp 14, .func 22], some 15, none⟩,
    ⟨.mov (.tmp 15), some 13, none⟩])
  (.cond (.tmp 13) (.seq (.ops [⟨.mov (.const (.slice none 0 0)), some 6, none⟩,
    ⟨.mov (.const (.int .i64 1)), some 7, none⟩])
  (.ret)) (.seq (.ops [⟨.mov (.tmp 0), some 17, none⟩,
    ⟨.lenL (.tmp 17), some 18, none⟩,
    ⟨.bin .mul (.const (.int .i64 2)) (.tmp 18), some 19, none⟩,
    ⟨.bin .gtr (.tmp 19) (.const (.int .i64 12)), some 20, none⟩,
    ⟨.mov (.tmp 20), some 16, none⟩])
  (.cond (.tmp 16) (.seq (.ops [⟨.mov (.const (.slice none 0 0)), some 6, none⟩,
    ⟨.mov (.const (.int .i64 3)), some 7, none⟩])
  (.ret)) (.skip))))))
  (.seq (.ops [⟨.mov (.tmp 0), some 21, none⟩,
    ⟨.call 23 [.tmp 21], some 22, none⟩,
    ⟨.mov (.tmp 22), some 8, none⟩])
  (.seq (.seq (.ops [⟨.mov (.tmp 0), some 23, none⟩,
    ⟨.lenL (.tmp 23), some 24, none⟩,
    ⟨.mov (.const (.int .i64 0)), some 25, none⟩])
  (.block 1 (.loop (.seq (.ops [⟨.bin .lss (.tmp 25) (.tmp 24), some 26, none⟩])
  (.seq (.cond (.tmp 26) (.skip) (.exit 1))
  (.seq (.block 2 (.seq (.ops [⟨.idxS 3 (.tmp 23) (.tmp 25), some 27, none⟩,
    ⟨.load (some 3) (.tmp 27), some 28, none⟩,
    ⟨.alloc 45 (.agg (#[.int .i8 0, .int .i8 0, .float .f32 0])), some 10, none⟩,
    ⟨.store 3 (.tmp 10) (.tmp 28), none, none⟩])
  (.seq (.ops [⟨.load (some 3) (.tmp 10), some 30, none⟩,
    ⟨.mov (.tmp 1), some 31, none⟩,
    ⟨.mov (.tmp 2), some 32, none⟩,
    ⟨.call 24 [.tmp 30, .tmp 31, .tmp 32], some 33, none⟩,
    ⟨.mov (.tmp 33), some 29, none⟩,
    ⟨.ext (.tmp 29) 0, some 34, none⟩,
    ⟨.ext (.tmp 29) 1, some 35, none⟩,
    ⟨.alloc 45 (.agg (#[.int .i8 0, .int .i8 0, .float .f32 0])), some 11, none⟩,
    ⟨.store 3 (.tmp 11) (.tmp 34), none, none⟩,
    ⟨.mov (.tmp 35), some 12, none⟩])
  (.seq (.seq (.ops [⟨.mov (.tmp 12), some 36, none⟩,
    ⟨.bin .neq (.tmp 36) (.const (.int .i64 0)), some 37, none⟩])
  (.cond (.tmp 37) (.seq (.ops [⟨.mov (.tmp 12), some 38, none⟩,
    ⟨.mov (.const (.slice none 0 0)), some 6, none⟩,
    ⟨.mov (.tmp 38), some 7, none⟩])
  (.ret)) (.skip)))
  (.ops [⟨.mov (.tmp 8), some 39, none⟩,
    ⟨.load (some 3) (.tmp 11), some 40, none⟩,
    ⟨.bslice 45 3 1 (#[.int .i8 0, .int .i8 0, .float .f32 0]) [(0, .tmp 40)], some 41, none⟩,
    ⟨.app 45 3 (.tmp 39) (.tmp 41), some 42, none⟩,
    ⟨.mov (.tmp 42), some 8, none⟩])))))
  (.ops [⟨.bin .add (.tmp 25) (.const (.int .i64 1)), some 43, none⟩,
    ⟨.mov (.tmp 43), some 25, none⟩])))))))
  (.seq (.ops [⟨.mov (.tmp 8), some 44, none⟩,
    ⟨.mov (.tmp 44), some 6, none⟩,
    ⟨.mov (.const (.int .i64 0)), some 7, none⟩])
  (.ret)))))⟩
theorem ok_impl_WithImages : cmpF Try.prog Try.f8 = some c_impl_WithImages := by kernel_rfl

/- laws.eqWellS -/
def c_laws_eqWellS : FV := ⟨27, [.tmp 4],
  .seq (.ops [⟨.mov (.const (.bool false)), some 4, none⟩])
  (.seq (.seq (.ops [⟨.mov (.tmp 0), some 6, none⟩,
    ⟨.lenL (.tmp 6), some 7, none⟩,
    ⟨.mov (.tmp 1), some 8, none⟩,
    ⟨.lenL (.tmp 8), some 9, none⟩,
    ⟨.bin .neq (.tmp 7) (.tmp 9), some 10, none⟩])
  (.cond (.tmp 10) (.seq (.ops [⟨.mov (.const (.bool false)), some 4, none⟩])
  (.ret)) (.skip)))
  (.seq (.seq (.ops [⟨.mov (.const (.int .i64 0)), some 5, none⟩])
  (.block 0 (.loop (.seq (.seq (.ops [⟨.mov (.tmp 5), some 11, none⟩,
    ⟨.mov (.tmp 0), some 12, none⟩,
    ⟨.lenL (.tmp 12), some 13, none⟩,
    ⟨.bin .lss (.tmp 11) (.tmp 13), some 14, none⟩])
  (.cond (.tmp 14) (.skip) (.exit 0)))
  (.seq (.block 1 (.seq (.ops [⟨.mov (.tmp 0), some 17, none⟩,
    ⟨.mov (.tmp 5), some 18, none⟩,
    ⟨.idxS 3 (.tmp 17) (.tmp 18), some 19, none⟩,
    ⟨.load (some 3) (.tmp 19), some 20, none⟩,
    ⟨.mov (.tmp 1), some 21, none⟩,
    ⟨.mov (.tmp 5), some 22, none⟩,
    ⟨.idxS 3 (.tmp 21) (.tmp 22), some 23, none⟩,
    ⟨.load (some 3) (.tmp 23), some 24, none⟩,
    ⟨.call 25 [.tmp 20, .tmp 24], some 25, none⟩,
    ⟨.un .not (.tmp 25), some 26, none⟩])
  (.cond (.tmp 26) (.seq (.ops [⟨.mov (.const (.bool false)), some 4, none⟩])
  (.ret)) (.skip))))
  (.ops [⟨.mov (.tmp 5), some 15, none⟩,
    ⟨.bin .add (.tmp 15) (.const (.int .i64 1)), some 16, none⟩,
    ⟨.mov (.tmp 16), some 5, none⟩]))))))
  (.seq (.ops [⟨.mov (.const (.bool true)), some 4, none⟩])
  (.ret))))⟩
theorem ok_laws_eqWellS : cmpF Try.prog Try.f9 = some c_laws_eqWellS := by kernel_rfl

/- laws.markWellS -/
def c_laws_markWellS : FV := ⟨37, [.tmp 4],
  .seq (.ops [⟨.mov (.const (.int .i64 0)), some 4, none⟩])
  (.seq (.seq (.ops [⟨.mov (.const (.int .i64 0)), some 5, none⟩])
  (.block 0 (.loop (.seq (.seq (.ops [⟨.mov (.tmp 5), some 6, none⟩,
    ⟨.mov (.tmp 0), some 7, none⟩,
    ⟨.lenL (.tmp 7), some 8, none⟩,
    ⟨.bin .lss (.tmp 6) (.tmp 8), some 9, none⟩])
  (.cond (.tmp 9) (.skip) (.exit 0)))
  (.seq (.block 1 (.seq (.ops [⟨.mov (.tmp 0), some 12, none⟩,
    ⟨.mov (.tmp 5), some 13, none⟩,
    ⟨.mov (.tmp 1), some 14, none⟩,
    ⟨.convI .i8 (.tmp 14), some 15, none⟩,
    ⟨.idxS 3 (.tmp 12) (.tmp 13), some 16, none⟩,
    ⟨.addr (.tmp 16) 0, some 17, none⟩,
    ⟨.store 1 (.tmp 17) (.tmp 15), none, none⟩])
  (.seq (.ops [⟨.mov (.tmp 1), some 18, none⟩,
    ⟨.bin .add (.tmp 18) (.const (.int .i64 1)), some 19, none⟩,
    ⟨.mov (.tmp 19), some 1, none⟩])
  (.seq (.ops [⟨.mov (.tmp 0), some 20, none⟩,
    ⟨.mov (.tmp 5), some 21, none⟩,
    ⟨.mov (.tmp 1), some 22, none⟩,
    ⟨.convI .i8 (.tmp 22), some 23, none⟩,
    ⟨.idxS 3 (.tmp 20) (.tmp 21), some 24, none⟩,
    ⟨.addr (.tmp 24) 1, some 25, none⟩,
    ⟨.store 1 (.tmp 25) (.tmp 23), none, none⟩])
  (.seq (.ops [⟨.mov (.tmp 1), some 26, none⟩,
    ⟨.bin .add (.tmp 26) (.const (.int .i64 1)), some 27, none⟩,
    ⟨.mov (.tmp 27), some 1, none⟩])
  (.seq (.ops [⟨.mov (.tmp 0), some 28, none⟩,
    ⟨.mov (.tmp 5), some 29, none⟩,
    ⟨.mov (.tmp 1), some 30, none⟩,
    ⟨.convF .f32 (.tmp 30), some 31, none⟩,
    ⟨.idxS 3 (.tmp 28) (.tmp 29), some 32, none⟩,
    ⟨.addr (.tmp 32) 2, some 33, none⟩,
    ⟨.store 1 (.tmp 33) (.tmp 31), none, none⟩])
  (.ops [⟨.mov (.tmp 1), some 34, none⟩,
    ⟨.bin .add (.tmp 34) (.const (.int .i64 1)), some 35, none⟩,
    ⟨.mov (.tmp 35), some 1, none⟩])))))))
  (.ops [⟨.mov (.tmp 5), some 10, none⟩,
    ⟨.bin .add (.tmp 10) (.const (.int .i64 1)), some 11, none⟩,
    ⟨.mov (.tmp 11), some 5, none⟩]))))))
  (.seq (.ops [⟨.mov (.tmp 1), some 36, none⟩,
    ⟨.mov (.tmp 36), some 4, none⟩])
  (.ret)))⟩
theorem ok_laws_markWellS : cmpF Try.prog Try.f10 = some c_laws_markWellS := by kernel_rfl

/- laws.heldWellS -/
def c_laws_heldWellS : FV := ⟨43, [.tmp 4],
  .seq (.ops [⟨.mov (.const (.int .i64 0)), some 4, none⟩])
  (.seq (.seq (.ops [⟨.mov (.const (.int .i64 0)), some 5, none⟩])
  (.block 0 (.loop (.seq (.seq (.ops [⟨.mov (.tmp 5), some 6, none⟩,
    ⟨.mov (.tmp 0), some 7, none⟩,
    ⟨.lenL (.tmp 7), some 8, none⟩,
    ⟨.bin .lss (.tmp 6) (.tmp 8), some 9, none⟩])
  (.cond (.tmp 9) (.skip) (.exit 0)))
  (.seq (.block 1 (.seq (.seq (.ops [⟨.mov (.tmp 0), some 12, none⟩,
    ⟨.mov (.tmp 5), some 13, none⟩,
    ⟨.idxS 3 (.tmp 12) (.tmp 13), some 14, none⟩,
    ⟨.addr (.tmp 14) 0, some 15, none⟩,
    ⟨.load none (.tmp 15), some 16, none⟩,
    ⟨.mov (.tmp 1), some 17, none⟩,
    ⟨.convI .i8 (.tmp 17), some 18, none⟩,
    ⟨.bin .neq (.tmp 16) (.tmp 18), some 19, none⟩])
  (.cond (.tmp 19) (.seq (.ops [⟨.mov (.const (.int .i64 (-1))), some 4, none⟩])
  (.ret)) (.skip)))
  (.seq (.ops [⟨.mov (.tmp 1), some 20, none⟩,
    ⟨.bin .add (.tmp 20) (.const (.int .i64 1)), some 21, none⟩,
    ⟨.mov (.tmp 21), some 1, none⟩])
  (.seq (.seq (.ops [⟨.mov (.tmp 0), some 22, none⟩,
    ⟨.mov (.tmp 5), some 23, none⟩,
    ⟨.idxS 3 (.tmp 22) (.tmp 23), some 24, none⟩,
    ⟨.addr (.tmp 24) 1, some 25, none⟩,
    ⟨.load none (.tmp 25), some 26, none⟩,
    ⟨.mov (.tmp 1), some 27, none⟩,
    ⟨.convI .i8 (.tmp 27), some 28, none⟩,
    ⟨.bin .neq (.tmp 26) (.tmp 28), some 29, none⟩])
  (.cond (.tmp 29) (.seq (.ops [⟨.mov (.const (.int .i64 (-1))), some 4, none⟩])
  (.ret)) (.skip)))
  (.seq (.ops [⟨.mov (.tmp 1), some 30, none⟩,
    ⟨.bin .add (.tmp 30) (.const (.int .i64 1)), some 31, none⟩,
    ⟨.mov (.tmp 31), some 1, none⟩])
  (.seq (.seq (.ops [⟨.mov (.tmp 0), some 32, none⟩,
    ⟨.mov (.tmp 5), some 33, none⟩,
    ⟨.idxS 3 (.tmp 32) (.tmp 33), some 34, none⟩,
    ⟨.addr (.tmp 34) 2, some 35, none⟩,
    ⟨.load none (.tmp 35), some 36, none⟩,
    ⟨.mov (.tmp 1), some 37, none⟩,
    ⟨.convF .f32 (.tmp 37), some 38, none⟩,
    ⟨.fbin .neq (.tmp 36) (.tmp 38), some 39, none⟩])
  (.cond (.tmp 39) (.seq (.ops [⟨.mov (.const (.int .i64 (-1))), some 4, none⟩])
  (.ret)) (.skip)))
  (.ops [⟨.mov (.tmp 1), some 40, none⟩,
    ⟨.bin .add (.tmp 40) (.const (.int .i64 1)), some 41, none⟩,
    ⟨.mov (.tmp 41), some 1, none⟩])))))))
  (.ops [⟨.mov (.tmp 5), some 10, none⟩,
    ⟨.bin .add (.tmp 10) (.const (.int .i64 1)), some 11, none⟩,
    ⟨.mov (.tmp 11), some 5, none⟩]))))))
  (.seq (.ops [⟨.mov (.tmp 1), some 42, none⟩,
    ⟨.mov (.tmp 42), some 4, none⟩])
  (.ret)))⟩
theorem ok_laws_heldWellS : cmpF Try.prog Try.f11 = some c_laws_heldWellS := by kernel_rfl

/- laws.szReadingS -/
def c_laws_szReadingS : FV := ⟨12, [.tmp 4],
  .seq (.ops [⟨.mov (.const (.int .i64 0)), some 4, none⟩])
  (.seq (.ops [⟨.mov (.tmp 1), some 5, none⟩,
    ⟨.mov (.tmp 0), some 6, none⟩,
    ⟨.lenL (.tmp 6), some 7, none⟩,
    ⟨.bin .sub (.tmp 5) (.tmp 7), some 8, none⟩,
    ⟨.mov (.tmp 8), some 1, none⟩])
  (.seq (.seq (.ops [⟨.mov (.tmp 1), some 9, none⟩,
    ⟨.bin .lss (.tmp 9) (.const (.int .i64 0)), some 10, none⟩])
  (.cond (.tmp 10) (.seq (.ops [⟨.mov (.const (.int .i64 (-1))), some 4, none⟩])
  (.ret)) (.skip)))
  (.seq (.ops [⟨.mov (.tmp 1), some 11, none⟩,
    ⟨.mov (.tmp 11), some 4, none⟩])
  (.ret))))⟩
theorem ok_laws_szReadingS : cmpF Try.prog Try.f12 = some c_laws_szReadingS := by kernel_rfl

/- spec.LineThrough -/
def c_spec_LineThrough : FV := ⟨118, [.tmp 2, .tmp 3, .tmp 4],
  .seq (.ops [⟨.mov (.const (.float .f32 0)), some 2, none⟩,
    ⟨.mov (.const (.float .f32 0)), some 3, none⟩,
    ⟨.mov (.const (.int .i64 0)), some 4, none⟩])
  (.seq (.seq (.ops [⟨.mov (.tmp 0), some 15, none⟩,
    ⟨.call 26 [.tmp 15], some 16, none⟩,
    ⟨.un .not (.tmp 16), some 17, none⟩])
  (.cond (.tmp 17) (.seq (.ops [⟨.mov (.const (.float .f32 0)), some 2, none⟩,
    ⟨.mov (.const (.float .f32 0)), some 3, none⟩,
    ⟨.mov (.const (.int .i64 1)), some 4, none⟩])
  (.ret)) (.skip)))
  (.seq (.seq (.ops [⟨.mov (.tmp 0), some 18, none⟩,
    ⟨.lenL (.tmp 18), some 19, none⟩,
    ⟨.bin .lss (.tmp 19) (.const (.int .i64 2)), some 20, none⟩])
  (.cond (.tmp 20) (.seq (.ops [⟨.mov (.const (.float .f32 0)), some 2, none⟩,
    ⟨.mov (.const (.float .f32 0)), some 3, none⟩,
    ⟨.mov (.const (.int .i64 6)), some 4, none⟩])
  (.ret)) (.skip)))
  (.seq (.ops [⟨.buildA 1 (#[.float .f32 0, .float .f32 0, .float .f32 0, .float .f32 0]) [], some 21, none⟩,
    ⟨.alloc 54 (.agg (#[.float .f32 0, .float .f32 0, .float .f32 0, .float .f32 0])), some 5, none⟩,
    ⟨.store 4 (.tmp 5) (.tmp 21), none, none⟩])
  (.seq (.seq (.ops [⟨.mov (.const (.int .i64 0)), some 6, none⟩])
  (.block 0 (.loop (.seq (.seq (.ops [⟨.mov (.tmp 6), some 22, none⟩,
    ⟨.mov (.tmp 0), some 23, none⟩,
    ⟨.lenL (.tmp 23), some 24, none⟩,
    ⟨.bin .lss (.tmp 22) (.tmp 24), some 25, none⟩])
  (.cond (.tmp 25) (.skip) (.exit 0)))
  (.seq (.block 1 (.seq (.ops [⟨.mov (.tmp 0), some 28, none⟩,
    ⟨.mov (.tmp 6), some 29, none⟩,
    ⟨.idxS 2 (.tmp 28) (.tmp 29), some 30, none⟩,
    ⟨.addr (.tmp 30) 0, some 31, none⟩,
    ⟨.load none (.tmp 31), some 32, none⟩,
    ⟨.convF .f32 (.tmp 32), some 33, none⟩,
    ⟨.call 27 [.tmp 33], some 34, none⟩,
    ⟨.mov (.tmp 34), some 7, none⟩])
  (.seq (.ops [⟨.mov (.tmp 0), some 35, none⟩,
    ⟨.mov (.tmp 6), some 36, none⟩,
    ⟨.idxS 2 (.tmp 35) (.tmp 36), some 37, none⟩,
    ⟨.load (some 2) (.tmp 37), some 38, none⟩,
    ⟨.call 28 [.tmp 38], some 39, none⟩,
    ⟨.mov (.tmp 39), some 8, none⟩])
  (.seq (.ops [⟨.mov (.tmp 7), some 40, none⟩,
    ⟨.mov (.tmp 8), some 41, none⟩,
    ⟨.mov (.tmp 7), some 42, none⟩,
    ⟨.mov (.tmp 7), some 43, none⟩,
    ⟨.fbin .mul (.tmp 42) (.tmp 43), some 44, none⟩,
    ⟨.mov (.tmp 7), some 45, none⟩,
    ⟨.mov (.tmp 8), some 46, none⟩,
    ⟨.fbin .mul (.tmp 45) (.tmp 46), some 47, none⟩,
    ⟨.buildA 1 (#[.float .f32 0, .float .f32 0, .float .f32 0, .float .f32 0]) [(0, .tmp 40), (1, .tmp 41), (2, .tmp 44), (3, .tmp 47)], some 48, none⟩,
    ⟨.alloc 54 (.agg (#[.float .f32 0, .float .f32 0, .float .f32 0, .float .f32 0])), some 9, none⟩,
    ⟨.store 4 (.tmp 9) (.tmp 48), none, none⟩])
  (.seq (.ops [⟨.mov (.const (.int .i64 0)), some 10, none⟩])
  (.block 2 (.loop (.seq (.seq (.ops [⟨.mov (.tmp 10), some 49, none⟩,
    ⟨.bin .lss (.tmp 49) (.const (.int .i64 4)), some 50, none⟩])
  (.cond (.tmp 50) (.skip) (.exit 2)))
  (.seq (.block 3 (.seq (.ops [⟨.mov (.tmp 6), some 53, none⟩,
    ⟨.bin .eql (.tmp 53) (.const (.int .i64 0)), some 54, none⟩])
  (.cond (.tmp 54) (.ops [⟨.mov (.tmp 10), some 55, none⟩,
    ⟨.mov (.tmp 10), some 56, none⟩,
    ⟨.idxA 4 1 (.tmp 9) (.tmp 56), some 57, none⟩,
    ⟨.load none (.tmp 57), some 58, none⟩,
    ⟨.idxA 4 1 (.tmp 5) (.tmp 55), some 59, none⟩,
    ⟨.store 1 (.tmp 59) (.tmp 58), none, none⟩]) (.ops [⟨.mov (.tmp 10), some 60, none⟩,
    ⟨.mov (.tmp 10), some 61, none⟩,
    ⟨.idxA 4 1 (.tmp 5) (.tmp 61), some 62, none⟩,
    ⟨.load none (.tmp 62), some 63, none⟩,
    ⟨.mov (.tmp 10), some 64, none⟩,
    ⟨.idxA 4 1 (.tmp 9) (.tmp 64), some 65, none⟩,
    ⟨.load none (.tmp 65), some 66, none⟩,
    ⟨.fbin .add (.tmp 63) (.tmp 66), some 67, none⟩,
    ⟨.idxA 4 1 (.tmp 5) (.tmp 60), some 68, none⟩,
    ⟨.store 1 (.tmp 68) (.tmp 67), none, none⟩]))))
  (.ops [⟨.mov (.tmp 10), some 51, none⟩,
    ⟨.bin .add (.tmp 51) (.const (.int .i64 1)), some 52, none⟩,
    ⟨.mov (.tmp 52), some 10, none⟩]))))))))))
  (.ops [⟨.mov (.tmp 6), some 26, none⟩,
    ⟨.bin .add (.tmp 26) (.const (.int .i64 1)), some 27, none⟩,
    ⟨.mov (.tmp 27), some 6, none⟩]))))))
  (.seq (.ops [⟨.mov (.tmp 0), some 69, none⟩,
    ⟨.lenL (.tmp 69), some 70, none⟩,
    ⟨.convF .f32 (.tmp 70), some 71, none⟩,
    ⟨.mov (.tmp 71), some 11, none⟩])
  (.seq (.ops [⟨.mov (.tmp 11), some 72, none⟩,
    ⟨.idxA 4 1 (.tmp 5) (.const (.int .i64 2)), some 73, none⟩,
    ⟨.load none (.tmp 73), some 74, none⟩,
    ⟨.fbin .mul (.tmp 72) (.tmp 74), some 75, none⟩,
    ⟨.idxA 4 1 (.tmp 5) (.const (.int .i64 0)), some 76, none⟩,
    ⟨.load none (.tmp 76), some 77, none⟩,
    ⟨.idxA 4 1 (.tmp 5) (.const (.int .i64 0)), some 78, none⟩,
    ⟨.load none (.tmp 78), some 79, none⟩,
    ⟨.fbin .mul (.tmp 77) (.tmp 79), some 80, none⟩,
    ⟨.fbin .sub (.tmp 75) (.tmp 80), some 81, none⟩,
    ⟨.mov (.tmp 81), some 12, none⟩])
  (.seq (.ops [⟨.mov (.tmp 11), some 82, none⟩,
    ⟨.idxA 4 1 (.tmp 5) (.const (.int .i64 3)), some 83, none⟩,
    ⟨.load none (.tmp 83), some 84, none⟩,
    ⟨.fbin .mul (.tmp 82) (.tmp 84), some 85, none⟩,
    ⟨.idxA 4 1 (.tmp 5) (.const (.int .i64 0)), some 86, none⟩,
    ⟨.load none (.tmp 86), some 87, none⟩,
    ⟨.idxA 4 1 (.tmp 5) (.const (.int .i64 1)), some 88, none⟩,
    ⟨.load none (.tmp 88), some 89, none⟩,
    ⟨.fbin .mul (.tmp 87) (.tmp 89), some 90, none⟩,
    ⟨.fbin .sub (.tmp 85) (.tmp 90), some 91, none⟩,
    ⟨.mov (.tmp 12), some 92, none⟩,
    ⟨.fbin .quo (.tmp 91) (.tmp 92), some 93, none⟩,
    ⟨.mov (.tmp 93), some 13, none⟩])
  (.seq (.ops [⟨.idxA 4 1 (.tmp 5) (.const (.int .i64 1)), some 94, none⟩,
    ⟨.load none (.tmp 94), some 95, none⟩,
    ⟨.mov (.tmp 13), some 96, none⟩,
    ⟨.idxA 4 1 (.tmp 5) (.const (.int .i64 0)), some 97, none⟩,
    ⟨.load none (.tmp 97), some 98, none⟩,
    ⟨.fbin .mul (.tmp 96) (.tmp 98), some 99, none⟩,
    ⟨.fbin .sub (.tmp 95) (.tmp 99), some 100, none⟩,
    ⟨.mov (.tmp 11), some 101, none⟩,
    ⟨.fbin .quo (.tmp 100) (.tmp 101), some 102, none⟩,
    ⟨.mov (.tmp 102), some 14, none⟩])
  (.seq (.seq (.ops [⟨.mov (.tmp 12), some 103, none⟩,
    ⟨.fbin .gtr (.tmp 103) (.const (.float .f32 0)), some 104, none⟩,
    ⟨.un .not (.tmp 104), some 105, none⟩,
    ⟨.mov (.tmp 105), some 106, none⟩,
    ⟨.mov (.tmp 13), some 107, some (106, false)⟩,
    ⟨.call 29 [.tmp 107], some 108, some (106, false)⟩,
    ⟨.un .not (.tmp 108), some 109, some (106, false)⟩,
    ⟨.pick (.tmp 106) (.const (.bool true)) (.tmp 109), some 110, none⟩,
    ⟨.mov (.tmp 110), some 111, none⟩,
    ⟨.mov (.tmp 14), some 112, some (111, false)⟩,
    ⟨.call 29 [.tmp 112], some 113, some (111, false)⟩,
    ⟨.un .not (.tmp 113), some 114, some (111, false)⟩,
    ⟨.pick (.tmp 111) (.const (.bool true)) (.tmp 114), some 115, none⟩])
  (.cond (.tmp 115) (.seq (.ops [⟨.mov (.const (.float .f32 0)), some 2, none⟩,
    ⟨.mov (.const (.float .f32 0)), some 3, none⟩,
    ⟨.mov (.const (.int .i64 4)), some 4, none⟩])
  (.ret)) (.skip)))
  (.seq (.ops [⟨.mov (.tmp 14), some 116, none⟩,
    ⟨.mov (.tmp 13), some 117, none⟩,
    ⟨.mov (.tmp 116), some 2, none⟩,
    ⟨.mov (.tmp 117), some 3, none⟩,
    ⟨.mov (.const (.int .i64 0)), some 4, none⟩])
  (.ret)))))))))))⟩
theorem ok_spec_LineThrough : cmpF Try.prog Try.f13 = some c_spec_LineThrough := by kernel_rfl

/- laws.toReadingS -/
def c_laws_toReadingS : FV := ⟨23, [.tmp 2],
  .seq (.ops [⟨.mov (.const (.slice none 0 0)), some 2, none⟩])
  (.seq (.ops [⟨.mov (.tmp 0), some 5, none⟩,
    ⟨.lenL (.tmp 5), some 6, none⟩,
    ⟨.mks 58 2 (#[.int .i64 0, .int .i16 0]) (.tmp 6) (.tmp 6), some 7, none⟩,
    ⟨.mov (.tmp 7), some 3, none⟩])
  (.seq (.seq (.ops [⟨.mov (.const (.int .i64 0)), some 4, none⟩])
  (.block 0 (.loop (.seq (.seq (.ops [⟨.mov (.tmp 4), some 8, none⟩,
    ⟨.mov (.tmp 0), some 9, none⟩,
    ⟨.lenL (.tmp 9), some 10, none⟩,
    ⟨.bin .lss (.tmp 8) (.tmp 10), some 11, none⟩])
  (.cond (.tmp 11) (.skip) (.exit 0)))
  (.seq (.block 1 (.ops [⟨.mov (.tmp 3), some 14, none⟩,
    ⟨.mov (.tmp 4), some 15, none⟩,
    ⟨.mov (.tmp 0), some 16, none⟩,
    ⟨.mov (.tmp 4), some 17, none⟩,
    ⟨.idxS 2 (.tmp 16) (.tmp 17), some 18, none⟩,
    ⟨.load (some 2) (.tmp 18), some 19, none⟩,
    ⟨.call 30 [.tmp 19], some 20, none⟩,
    ⟨.idxS 2 (.tmp 14) (.tmp 15), some 21, none⟩,
    ⟨.store 2 (.tmp 21) (.tmp 20), none, none⟩]))
  (.ops [⟨.mov (.tmp 4), some 12, none⟩,
    ⟨.bin .add (.tmp 12) (.const (.int .i64 1)), some 13, none⟩,
    ⟨.mov (.tmp 13), some 4, none⟩]))))))
  (.seq (.ops [⟨.mov (.tmp 3), some 22, none⟩,
    ⟨.mov (.tmp 22), some 2, none⟩])
  (.ret))))⟩
theorem ok_laws_toReadingS : cmpF Try.prog Try.f14 = some c_laws_toReadingS := by kernel_rfl

end Go.Proofs.Ytkjlndflcfboeaa

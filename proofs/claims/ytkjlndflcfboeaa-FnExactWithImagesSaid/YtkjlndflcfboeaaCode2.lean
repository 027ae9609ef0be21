/- The code of the Go functions in the generator's own form, printed by a program of mine (gen.py) out of the loaded program; each with the check that it is so. -/
import Derived.Test.YtkjlndflcfboeaaVcFn
import Derived.Test.YtkjlndflcfboeaaGeo
import Derived.Test.YtkjlndflcfboeaaRows
import Derived.KernelRfl
namespace Go.Proofs.Ytkjlndflcfboeaa
open Go Go.Fl Go.Vc
set_option linter.all false
set_option maxRecDepth 100000

/- impl.ValidWell -/
def c_impl_ValidWell : FV := ⟨18, [.tmp 2],
  .seq (.ops [⟨.box 45 (.tmp 0), some 1, none⟩,
    ⟨.mov (.const (.bool false)), some 2, none⟩])
  (.seq (.ops [⟨.addr (.tmp 1) 0, some 3, none⟩,
    ⟨.load none (.tmp 3), some 4, none⟩,
    ⟨.convI .i64 (.tmp 4), some 5, none⟩,
    ⟨.call 44 [.tmp 5], some 6, none⟩,
    ⟨.mov (.tmp 6), some 7, none⟩,
    ⟨.addr (.tmp 1) 1, some 8, some (7, true)⟩,
    ⟨.load none (.tmp 8), some 9, some (7, true)⟩,
    ⟨.convI .i64 (.tmp 9), some 10, some (7, true)⟩,
    ⟨.call 44 [.tmp 10], some 11, some (7, true)⟩,
    ⟨.pick (.tmp 7) (.tmp 11) (.const (.bool false)), some 12, none⟩,
    ⟨.mov (.tmp 12), some 13, none⟩,
    ⟨.addr (.tmp 1) 2, some 14, some (13, true)⟩,
    ⟨.load none (.tmp 14), some 15, some (13, true)⟩,
    ⟨.call 48 [.tmp 15], some 16, some (13, true)⟩,
    ⟨.pick (.tmp 13) (.tmp 16) (.const (.bool false)), some 17, none⟩,
    ⟨.mov (.tmp 17), some 2, none⟩])
  (.ret))⟩
theorem ok_impl_ValidWell : cmpF Try.prog Try.f42 = some c_impl_ValidWell := by kernel_rfl

/- impl.in -/
def c_impl_in : FV := ⟨15, [.tmp 6],
  .seq (.ops [⟨.mov (.const (.bool false)), some 6, none⟩])
  (.seq (.ops [⟨.mov (.tmp 0), some 7, none⟩,
    ⟨.mov (.tmp 1), some 8, none⟩,
    ⟨.bin .geq (.tmp 7) (.tmp 8), some 9, none⟩,
    ⟨.mov (.tmp 9), some 10, none⟩,
    ⟨.mov (.tmp 0), some 11, some (10, true)⟩,
    ⟨.mov (.tmp 2), some 12, some (10, true)⟩,
    ⟨.bin .leq (.tmp 11) (.tmp 12), some 13, some (10, true)⟩,
    ⟨.pick (.tmp 10) (.tmp 13) (.const (.bool false)), some 14, none⟩,
    ⟨.mov (.tmp 14), some 6, none⟩])
  (.ret))⟩
theorem ok_impl_in : cmpF Try.prog Try.f43 = some c_impl_in := by kernel_rfl

/- impl.isPlace -/
def c_impl_isPlace : FV := ⟨5, [.tmp 2],
  .seq (.ops [⟨.mov (.const (.bool false)), some 2, none⟩])
  (.seq (.ops [⟨.mov (.tmp 0), some 3, none⟩,
    ⟨.call 43 [.tmp 3, .const (.int .i64 (-100)), .const (.int .i64 100)], some 4, none⟩,
    ⟨.mov (.tmp 4), some 2, none⟩])
  (.ret))⟩
theorem ok_impl_isPlace : cmpF Try.prog Try.f44 = some c_impl_isPlace := by kernel_rfl

/- spec.l03Ratio -/
def c_spec_l03Ratio : FV := ⟨10, [.tmp 4],
  .seq (.ops [⟨.mov (.const (.float .f32 0)), some 4, none⟩])
  (.seq (.ops [⟨.mov (.tmp 0), some 5, none⟩,
    ⟨.convF .f32 (.tmp 5), some 6, none⟩,
    ⟨.mov (.tmp 1), some 7, none⟩,
    ⟨.convF .f32 (.tmp 7), some 8, none⟩,
    ⟨.fbin .quo (.tmp 6) (.tmp 8), some 9, none⟩,
    ⟨.mov (.tmp 9), some 4, none⟩])
  (.ret))⟩
theorem ok_spec_l03Ratio : cmpF Try.prog Try.f45 = some c_spec_l03Ratio := by kernel_rfl

/- impl.timesOk -/
def c_impl_timesOk : FV := ⟨32, [.tmp 2],
  .seq (.ops [⟨.mov (.const (.bool false)), some 2, none⟩])
  (.seq (.seq (.ops [⟨.mov (.tmp 0), some 5, none⟩,
    ⟨.lenL (.tmp 5), some 6, none⟩,
    ⟨.mov (.const (.int .i64 0)), some 7, none⟩])
  (.block 0 (.loop (.seq (.ops [⟨.bin .lss (.tmp 7) (.tmp 6), some 8, none⟩])
  (.seq (.cond (.tmp 8) (.skip) (.exit 0))
  (.seq (.block 1 (.seq (.ops [⟨.mov (.tmp 7), some 9, none⟩,
    ⟨.idxS 1 (.tmp 5) (.tmp 7), some 10, none⟩,
    ⟨.load none (.tmp 10), some 11, none⟩,
    ⟨.mov (.tmp 9), some 3, none⟩,
    ⟨.mov (.tmp 11), some 4, none⟩])
  (.seq (.ops [⟨.mov (.tmp 4), some 12, none⟩,
    ⟨.call 49 [.tmp 12], some 13, none⟩,
    ⟨.un .not (.tmp 13), some 14, none⟩,
    ⟨.mov (.tmp 14), some 15, none⟩,
    ⟨.mov (.tmp 3), some 16, some (15, false)⟩,
    ⟨.bin .gtr (.tmp 16) (.const (.int .i64 0)), some 17, some (15, false)⟩,
    ⟨.mov (.tmp 17), some 18, some (15, false)⟩,
    ⟨.mov (.tmp 0), some 19, some (18, true)⟩,
    ⟨.mov (.tmp 3), some 20, some (18, true)⟩,
    ⟨.bin .sub (.tmp 20) (.const (.int .i64 1)), some 21, some (18, true)⟩,
    ⟨.idxS 1 (.tmp 19) (.tmp 21), some 22, some (18, true)⟩,
    ⟨.load none (.tmp 22), some 23, some (18, true)⟩,
    ⟨.mov (.tmp 4), some 24, some (18, true)⟩,
    ⟨.bin .geq (.tmp 23) (.tmp 24), some 25, some (18, true)⟩,
    ⟨.pick (.tmp 18) (.tmp 25) (.const (.bool false)), some 26, some (15, false)⟩,
    ⟨.pick (.tmp 15) (.const (.bool true)) (.tmp 26), some 27, none⟩])
  (.cond (.tmp 27) (.seq (.ops [⟨.mov (.const (.bool false)), some 2, none⟩])
  (.ret)) (.skip)))))
  (.ops [⟨.bin .add (.tmp 7) (.const (.int .i64 1)), some 28, none⟩,
    ⟨.mov (.tmp 28), some 7, none⟩])))))))
  (.seq (.ops [⟨.mov (.tmp 0), some 29, none⟩,
    ⟨.lenL (.tmp 29), some 30, none⟩,
    ⟨.bin .leq (.tmp 30) (.const (.int .i64 40)), some 31, none⟩,
    ⟨.mov (.tmp 31), some 2, none⟩])
  (.ret)))⟩
theorem ok_impl_timesOk : cmpF Try.prog Try.f46 = some c_impl_timesOk := by kernel_rfl

/- impl.LnOf -/
def c_impl_LnOf : FV := ⟨55, [.tmp 2, .tmp 3],
  .seq (.ops [⟨.mov (.const (.float .f32 0)), some 2, none⟩,
    ⟨.mov (.const (.int .i64 0)), some 3, none⟩])
  (.seq (.seq (.ops [⟨.mov (.tmp 0), some 9, none⟩,
    ⟨.fbin .geq (.tmp 9) (.const (.float .f32 562036736)), some 10, none⟩,
    ⟨.un .not (.tmp 10), some 11, none⟩,
    ⟨.mov (.tmp 11), some 12, none⟩,
    ⟨.mov (.tmp 0), some 13, some (12, false)⟩,
    ⟨.fbin .gtr (.tmp 13) (.const (.float .f32 1568669696)), some 14, some (12, false)⟩,
    ⟨.pick (.tmp 12) (.const (.bool true)) (.tmp 14), some 15, none⟩])
  (.cond (.tmp 15) (.seq (.ops [⟨.mov (.const (.float .f32 0)), some 2, none⟩,
    ⟨.mov (.const (.int .i64 2)), some 3, none⟩])
  (.ret)) (.skip)))
  (.seq (.ops [⟨.mov (.tmp 0), some 16, none⟩,
    ⟨.mov (.tmp 16), some 4, none⟩,
    ⟨.mov (.const (.float .f32 0)), some 5, none⟩])
  (.seq (.block 0 (.loop (.seq (.seq (.ops [⟨.mov (.tmp 4), some 17, none⟩,
    ⟨.fbin .geq (.tmp 17) (.const (.float .f32 1069547520)), some 18, none⟩])
  (.cond (.tmp 18) (.skip) (.exit 0)))
  (.block 1 (.ops [⟨.mov (.tmp 4), some 19, none⟩,
    ⟨.fbin .quo (.tmp 19) (.const (.float .f32 1073741824)), some 20, none⟩,
    ⟨.mov (.tmp 5), some 21, none⟩,
    ⟨.fbin .add (.tmp 21) (.const (.float .f32 1065353216)), some 22, none⟩,
    ⟨.mov (.tmp 20), some 4, none⟩,
    ⟨.mov (.tmp 22), some 5, none⟩])))))
  (.seq (.block 2 (.loop (.seq (.seq (.ops [⟨.mov (.tmp 4), some 23, none⟩,
    ⟨.fbin .lss (.tmp 23) (.const (.float .f32 1061158912)), some 24, none⟩])
  (.cond (.tmp 24) (.skip) (.exit 2)))
  (.block 3 (.ops [⟨.mov (.tmp 4), some 25, none⟩,
    ⟨.fbin .mul (.tmp 25) (.const (.float .f32 1073741824)), some 26, none⟩,
    ⟨.mov (.tmp 5), some 27, none⟩,
    ⟨.fbin .sub (.tmp 27) (.const (.float .f32 1065353216)), some 28, none⟩,
    ⟨.mov (.tmp 26), some 4, none⟩,
    ⟨.mov (.tmp 28), some 5, none⟩])))))
  (.seq (.ops [⟨.mov (.tmp 4), some 29, none⟩,
    ⟨.fbin .sub (.tmp 29) (.const (.float .f32 1065353216)), some 30, none⟩,
    ⟨.mov (.tmp 4), some 31, none⟩,
    ⟨.fbin .add (.tmp 31) (.const (.float .f32 1065353216)), some 32, none⟩,
    ⟨.fbin .quo (.tmp 30) (.tmp 32), some 33, none⟩,
    ⟨.mov (.tmp 33), some 6, none⟩])
  (.seq (.ops [⟨.mov (.tmp 6), some 34, none⟩,
    ⟨.mov (.tmp 6), some 35, none⟩,
    ⟨.fbin .mul (.tmp 34) (.tmp 35), some 36, none⟩,
    ⟨.mov (.tmp 36), some 7, none⟩])
  (.seq (.ops [⟨.mov (.tmp 7), some 37, none⟩,
    ⟨.fbin .mul (.tmp 37) (.const (.float .f32 1041385765)), some 38, none⟩,
    ⟨.fbin .add (.tmp 38) (.const (.float .f32 1045220557)), some 39, none⟩,
    ⟨.mov (.tmp 39), some 8, none⟩])
  (.seq (.ops [⟨.mov (.tmp 8), some 40, none⟩,
    ⟨.mov (.tmp 7), some 41, none⟩,
    ⟨.fbin .mul (.tmp 40) (.tmp 41), some 42, none⟩,
    ⟨.fbin .add (.tmp 42) (.const (.float .f32 1051372203)), some 43, none⟩,
    ⟨.mov (.tmp 43), some 8, none⟩])
  (.seq (.ops [⟨.mov (.tmp 8), some 44, none⟩,
    ⟨.mov (.tmp 7), some 45, none⟩,
    ⟨.fbin .mul (.tmp 44) (.tmp 45), some 46, none⟩,
    ⟨.fbin .add (.tmp 46) (.const (.float .f32 1065353216)), some 47, none⟩,
    ⟨.mov (.tmp 47), some 8, none⟩])
  (.seq (.ops [⟨.mov (.tmp 5), some 48, none⟩,
    ⟨.fbin .mul (.tmp 48) (.const (.float .f32 1060205080)), some 49, none⟩,
    ⟨.mov (.tmp 6), some 50, none⟩,
    ⟨.mov (.tmp 8), some 51, none⟩,
    ⟨.fbin .mul (.tmp 50) (.tmp 51), some 52, none⟩,
    ⟨.fbin .mul (.const (.float .f32 1073741824)) (.tmp 52), some 53, none⟩,
    ⟨.fbin .add (.tmp 49) (.tmp 53), some 54, none⟩,
    ⟨.mov (.tmp 54), some 2, none⟩,
    ⟨.mov (.const (.int .i64 0)), some 3, none⟩])
  (.ret)))))))))))⟩
theorem ok_impl_LnOf : cmpF Try.prog Try.f47 = some c_impl_LnOf := by kernel_rfl

/- impl.IsPlain -/
def c_impl_IsPlain : FV := ⟨9, [.tmp 2],
  .seq (.ops [⟨.mov (.const (.bool false)), some 2, none⟩])
  (.seq (.ops [⟨.mov (.tmp 0), some 3, none⟩,
    ⟨.fbin .geq (.tmp 3) (.const (.float .f32 3380609024)), some 4, none⟩,
    ⟨.mov (.tmp 4), some 5, none⟩,
    ⟨.mov (.tmp 0), some 6, some (5, true)⟩,
    ⟨.fbin .leq (.tmp 6) (.const (.float .f32 1233125376)), some 7, some (5, true)⟩,
    ⟨.pick (.tmp 5) (.tmp 7) (.const (.bool false)), some 8, none⟩,
    ⟨.mov (.tmp 8), some 2, none⟩])
  (.ret))⟩
theorem ok_impl_IsPlain : cmpF Try.prog Try.f48 = some c_impl_IsPlain := by kernel_rfl

/- impl.isMoment -/
def c_impl_isMoment : FV := ⟨5, [.tmp 2],
  .seq (.ops [⟨.mov (.const (.bool false)), some 2, none⟩])
  (.seq (.ops [⟨.mov (.tmp 0), some 3, none⟩,
    ⟨.call 43 [.tmp 3, .const (.int .i64 1), .const (.int .i64 100000)], some 4, none⟩,
    ⟨.mov (.tmp 4), some 2, none⟩])
  (.ret))⟩
theorem ok_impl_isMoment : cmpF Try.prog Try.f49 = some c_impl_isMoment := by kernel_rfl

end Go.Proofs.Ytkjlndflcfboeaa

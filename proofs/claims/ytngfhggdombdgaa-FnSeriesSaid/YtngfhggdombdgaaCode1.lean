/- The code of the Go functions in the generator's own form, printed by a program of mine (gen.py) out of the loaded program; each with the check that it is so. -/
import Derived.Test.YtngfhggdombdgaaVcFn
import Derived.Test.YtngfhggdombdgaaGeo
import Derived.Test.YtngfhggdombdgaaRows
import Derived.KernelRfl
namespace Go.Proofs.Ytngfhggdombdgaa
open Go Go.Fl Go.Vc
set_option linter.all false
set_option maxRecDepth 100000

/- laws.FnExactLineThrough -/
def c_laws_FnExactLineThrough : FV := ⟨55, [.tmp 2],
  .seq (.ops [⟨.mov (.const (.bool false)), some 2, none⟩])
  (.seq (.ops [⟨.mov (.const (.int .i64 1048576)), some 3, none⟩])
  (.seq (.ops [⟨.mov (.tmp 0), some 11, none⟩,
    ⟨.mov (.tmp 3), some 12, none⟩,
    ⟨.call 30 [.tmp 11, .tmp 12], some 13, none⟩,
    ⟨.mov (.tmp 13), some 3, none⟩])
  (.seq (.seq (.ops [⟨.mov (.tmp 3), some 14, none⟩,
    ⟨.bin .lss (.tmp 14) (.const (.int .i64 0)), some 15, none⟩])
  (.cond (.tmp 15) (.seq (.ops [⟨.mov (.const (.bool true)), some 2, none⟩])
  (.ret)) (.skip)))
  (.seq (.ops [⟨.mov (.tmp 0), some 17, none⟩,
    ⟨.call 32 [.tmp 17], some 18, none⟩,
    ⟨.call 57 [.tmp 18], some 19, none⟩,
    ⟨.mov (.tmp 19), some 16, none⟩,
    ⟨.ext (.tmp 16) 0, some 20, none⟩,
    ⟨.ext (.tmp 16) 1, some 21, none⟩,
    ⟨.ext (.tmp 16) 2, some 22, none⟩,
    ⟨.mov (.tmp 20), some 4, none⟩,
    ⟨.mov (.tmp 21), some 5, none⟩,
    ⟨.mov (.tmp 22), some 6, none⟩])
  (.seq (.ops [⟨.mov (.tmp 0), some 23, none⟩,
    ⟨.call 32 [.tmp 23], some 24, none⟩,
    ⟨.mov (.tmp 24), some 7, none⟩])
  (.seq (.ops [⟨.mov (.tmp 7), some 26, none⟩,
    ⟨.call 58 [.tmp 26], some 27, none⟩,
    ⟨.mov (.tmp 27), some 25, none⟩,
    ⟨.ext (.tmp 25) 0, some 28, none⟩,
    ⟨.ext (.tmp 25) 1, some 29, none⟩,
    ⟨.ext (.tmp 25) 2, some 30, none⟩,
    ⟨.mov (.tmp 28), some 8, none⟩,
    ⟨.mov (.tmp 29), some 9, none⟩,
    ⟨.mov (.tmp 30), some 10, none⟩])
  (.seq (.seq (.ops [⟨.mov (.tmp 8), some 31, none⟩,
    ⟨.convF .f64 (.tmp 31), some 32, none⟩,
    ⟨.mov (.tmp 4), some 33, none⟩,
    ⟨.convF .f64 (.tmp 33), some 34, none⟩,
    ⟨.call 26 [.tmp 32, .tmp 34], some 35, none⟩,
    ⟨.un .not (.tmp 35), some 36, none⟩,
    ⟨.mov (.tmp 36), some 37, none⟩,
    ⟨.mov (.tmp 9), some 38, some (37, false)⟩,
    ⟨.convF .f64 (.tmp 38), some 39, some (37, false)⟩,
    ⟨.mov (.tmp 5), some 40, some (37, false)⟩,
    ⟨.convF .f64 (.tmp 40), some 41, some (37, false)⟩,
    ⟨.call 26 [.tmp 39, .tmp 41], some 42, some (37, false)⟩,
    ⟨.un .not (.tmp 42), some 43, some (37, false)⟩,
    ⟨.pick (.tmp 37) (.const (.bool true)) (.tmp 43), some 44, none⟩,
    ⟨.mov (.tmp 44), some 45, none⟩,
    ⟨.mov (.tmp 10), some 46, some (45, false)⟩,
    ⟨.mov (.tmp 6), some 47, some (45, false)⟩,
    ⟨.bin .neq (.tmp 46) (.tmp 47), some 48, some (45, false)⟩,
    ⟨.pick (.tmp 45) (.const (.bool true)) (.tmp 48), some 49, none⟩])
  (.cond (.tmp 49) (.seq (.ops [⟨.mov (.const (.bool false)), some 2, none⟩])
  (.ret)) (.skip)))
  (.seq (.seq (.ops [⟨.mov (.tmp 7), some 50, none⟩,
    ⟨.mov (.tmp 0), some 51, none⟩,
    ⟨.call 32 [.tmp 51], some 52, none⟩,
    ⟨.call 34 [.tmp 50, .tmp 52], some 53, none⟩,
    ⟨.un .not (.tmp 53), some 54, none⟩])
  (.cond (.tmp 54) (.seq (.ops [⟨.mov (.const (.bool false)), some 2, none⟩])
  (.ret)) (.skip)))
  (.seq (.ops [⟨.mov (.const (.bool true)), some 2, none⟩])
  (.ret))))))))))⟩
theorem ok_laws_FnExactLineThrough : cmpF Try.prog Try.f15 = some c_laws_FnExactLineThrough := by kernel_rfl

/- laws.FnExactDrawdownAt -/
def c_laws_FnExactDrawdownAt : FV := ⟨48, [.tmp 10],
  .seq (.ops [⟨.box 68 (.tmp 0), some 5, none⟩,
    ⟨.box 35 (.tmp 1), some 6, none⟩,
    ⟨.mov (.const (.bool false)), some 10, none⟩])
  (.seq (.bops [⟨.load (some 2) (.tmp 5), some 16, none⟩,
    ⟨.call 51 [.tmp 16], some 17, none⟩,
    ⟨.load (some 3) (.tmp 6), some 18, none⟩,
    ⟨.call 36 [.tmp 18], some 19, none⟩,
    ⟨.mov (.tmp 2), some 20, none⟩,
    ⟨.mov (.tmp 3), some 21, none⟩,
    ⟨.mov (.tmp 4), some 22, none⟩,
    ⟨.call 59 [.tmp 17, .tmp 19, .tmp 20, .tmp 21, .tmp 22], some 23, none⟩,
    ⟨.mov (.tmp 23), some 15, none⟩,
    ⟨.ext (.tmp 15) 0, some 24, none⟩,
    ⟨.ext (.tmp 15) 1, some 25, none⟩,
    ⟨.mov (.tmp 24), some 11, none⟩,
    ⟨.mov (.tmp 25), some 12, none⟩])
  (.seq (.bops [⟨.load (some 2) (.tmp 5), some 27, none⟩,
    ⟨.call 51 [.tmp 27], some 28, none⟩,
    ⟨.load (some 3) (.tmp 6), some 29, none⟩,
    ⟨.call 36 [.tmp 29], some 30, none⟩,
    ⟨.mov (.tmp 2), some 31, none⟩,
    ⟨.mov (.tmp 3), some 32, none⟩,
    ⟨.mov (.tmp 4), some 33, none⟩,
    ⟨.call 60 [.tmp 28, .tmp 30, .tmp 31, .tmp 32, .tmp 33], some 34, none⟩,
    ⟨.mov (.tmp 34), some 26, none⟩,
    ⟨.ext (.tmp 26) 0, some 35, none⟩,
    ⟨.ext (.tmp 26) 1, some 36, none⟩,
    ⟨.mov (.tmp 35), some 13, none⟩,
    ⟨.mov (.tmp 36), some 14, none⟩])
  (.seq (.seq (.ops [⟨.mov (.tmp 13), some 37, none⟩,
    ⟨.convF .f64 (.tmp 37), some 38, none⟩,
    ⟨.mov (.tmp 11), some 39, none⟩,
    ⟨.convF .f64 (.tmp 39), some 40, none⟩,
    ⟨.call 26 [.tmp 38, .tmp 40], some 41, none⟩,
    ⟨.un .not (.tmp 41), some 42, none⟩,
    ⟨.mov (.tmp 42), some 43, none⟩,
    ⟨.mov (.tmp 14), some 44, some (43, false)⟩,
    ⟨.mov (.tmp 12), some 45, some (43, false)⟩,
    ⟨.bin .neq (.tmp 44) (.tmp 45), some 46, some (43, false)⟩,
    ⟨.pick (.tmp 43) (.const (.bool true)) (.tmp 46), some 47, none⟩])
  (.cond (.tmp 47) (.seq (.ops [⟨.mov (.const (.bool false)), some 10, none⟩])
  (.ret)) (.skip)))
  (.seq (.ops [⟨.mov (.const (.bool true)), some 10, none⟩])
  (.ret)))))⟩
theorem ok_laws_FnExactDrawdownAt : cmpF Try.prog Try.f16 = some c_laws_FnExactDrawdownAt := by kernel_rfl

/- laws.f6big -/
def c_laws_f6big : FV := ⟨6, [.tmp 2],
  .seq (.ops [⟨.mov (.const (.bool false)), some 2, none⟩])
  (.seq (.ops [⟨.mov (.tmp 0), some 3, none⟩,
    ⟨.lenL (.tmp 3), some 4, none⟩,
    ⟨.bin .gtr (.tmp 4) (.const (.int .i64 4096)), some 5, none⟩,
    ⟨.mov (.tmp 5), some 2, none⟩])
  (.ret))⟩
theorem ok_laws_f6big : cmpF Try.prog Try.f17 = some c_laws_f6big := by kernel_rfl

/- spec.P6Pick -/
def c_spec_P6Pick : FV := ⟨9, [.tmp 4],
  .seq (.ops [⟨.mov (.const (.int .i64 0)), some 4, none⟩])
  (.seq (.ops [⟨.mov (.tmp 0), some 5, none⟩,
    ⟨.call 61 [.tmp 5], some 6, none⟩,
    ⟨.mov (.tmp 1), some 7, none⟩,
    ⟨.call 62 [.tmp 6, .tmp 7], some 8, none⟩,
    ⟨.mov (.tmp 8), some 4, none⟩])
  (.ret))⟩
theorem ok_spec_P6Pick : cmpF Try.prog Try.f18 = some c_spec_P6Pick := by kernel_rfl

/- impl.LnOf -/
def c_impl_LnOf : FV := ⟨55, [.tmp 2, .tmp 3],
  .seq (.ops [⟨.mov (.const (.float .f32 0)), some 2, none⟩,
    ⟨.mov (.const (.int .i64 0)), some 3, none⟩])
  (.seq (.seq (.ops [⟨.mov (.tmp 0), some 9, none⟩,
    ⟨.fbin .geq (.tmp 9) (.const (.float .f32 562036736)), some 10, none⟩,
    ⟨.un .not (.tmp 10), some 11, none⟩,
    ⟨.mov (.tmp 11), some 12, none⟩,
    ⟨.mov (.tmp 0), some 13, some (12, false)⟩,
    ⟨.fbin .gtr (.tmp 13) (.const (.float .f32 1568669696)), some 14, some (12, false)⟩,
    ⟨.pick (.tmp 12) (.const (.bool true)) (.tmp 14), some 15, none⟩])
  (.cond (.tmp 15) (.seq (.ops [⟨.mov (.const (.float .f32 0)), some 2, none⟩,
    ⟨.mov (.const (.int .i64 2)), some 3, none⟩])
  (.ret)) (.skip)))
  (.seq (.ops [⟨.mov (.tmp 0), some 16, none⟩,
    ⟨.mov (.tmp 16), some 4, none⟩,
    ⟨.mov (.const (.float .f32 0)), some 5, none⟩])
  (.seq (.block 0 (.loop (.seq (.seq (.ops [⟨.mov (.tmp 4), some 17, none⟩,
    ⟨.fbin .geq (.tmp 17) (.const (.float .f32 1069547520)), some 18, none⟩])
  (.cond (.tmp 18) (.skip) (.exit 0)))
  (.block 1 (.ops [⟨.mov (.tmp 4), some 19, none⟩,
    ⟨.fbin .quo (.tmp 19) (.const (.float .f32 1073741824)), some 20, none⟩,
    ⟨.mov (.tmp 5), some 21, none⟩,
    ⟨.fbin .add (.tmp 21) (.const (.float .f32 1065353216)), some 22, none⟩,
    ⟨.mov (.tmp 20), some 4, none⟩,
    ⟨.mov (.tmp 22), some 5, none⟩])))))
  (.seq (.block 2 (.loop (.seq (.seq (.ops [⟨.mov (.tmp 4), some 23, none⟩,
    ⟨.fbin .lss (.tmp 23) (.const (.float .f32 1061158912)), some 24, none⟩])
  (.cond (.tmp 24) (.skip) (.exit 2)))
  (.block 3 (.ops [⟨.mov (.tmp 4), some 25, none⟩,
    ⟨.fbin .mul (.tmp 25) (.const (.float .f32 1073741824)), some 26, none⟩,
    ⟨.mov (.tmp 5), some 27, none⟩,
    ⟨.fbin .sub (.tmp 27) (.const (.float .f32 1065353216)), some 28, none⟩,
    ⟨.mov (.tmp 26), some 4, none⟩,
    ⟨.mov (.tmp 28), some 5, none⟩])))))
  (.seq (.ops [⟨.mov (.tmp 4), some 29, none⟩,
    ⟨.fbin .sub (.tmp 29) (.const (.float .f32 1065353216)), some 30, none⟩,
    ⟨.mov (.tmp 4), some 31, none⟩,
    ⟨.fbin .add (.tmp 31) (.const (.float .f32 1065353216)), some 32, none⟩,
    ⟨.fbin .quo (.tmp 30) (.tmp 32), some 33, none⟩,
    ⟨.mov (.tmp 33), some 6, none⟩])
  (.seq (.ops [⟨.mov (.tmp 6), some 34, none⟩,
    ⟨.mov (.tmp 6), some 35, none⟩,
    ⟨.fbin .mul (.tmp 34) (.tmp 35), some 36, none⟩,
    ⟨.mov (.tmp 36), some 7, none⟩])
  (.seq (.ops [⟨.mov (.tmp 7), some 37, none⟩,
    ⟨.fbin .mul (.tmp 37) (.const (.float .f32 1041385765)), some 38, none⟩,
    ⟨.fbin .add (.tmp 38) (.const (.float .f32 1045220557)), some 39, none⟩,
    ⟨.mov (.tmp 39), some 8, none⟩])
  (.seq (.ops [⟨.mov (.tmp 8), some 40, none⟩,
    ⟨.mov (.tmp 7), some 41, none⟩,
    ⟨.fbin .mul (.tmp 40) (.tmp 41), some 42, none⟩,
    ⟨.fbin .add (.tmp 42) (.const (.float .f32 1051372203)), some 43, none⟩,
    ⟨.mov (.tmp 43), some 8, none⟩])
  (.seq (.ops [⟨.mov (.tmp 8), some 44, none⟩,
    ⟨.mov (.tmp 7), some 45, none⟩,
    ⟨.fbin .mul (.tmp 44) (.tmp 45), some 46, none⟩,
    ⟨.fbin .add (.tmp 46) (.const (.float .f32 1065353216)), some 47, none⟩,
    ⟨.mov (.tmp 47), some 8, none⟩])
  (.seq (.ops [⟨.mov (.tmp 5), some 48, none⟩,
    ⟨.fbin .mul (.tmp 48) (.const (.float .f32 1060205080)), some 49, none⟩,
    ⟨.mov (.tmp 6), some 50, none⟩,
    ⟨.mov (.tmp 8), some 51, none⟩,
    ⟨.fbin .mul (.tmp 50) (.tmp 51), some 52, none⟩,
    ⟨.fbin .mul (.const (.float .f32 1073741824)) (.tmp 52), some 53, none⟩,
    ⟨.fbin .add (.tmp 49) (.tmp 53), some 54, none⟩,
    ⟨.mov (.tmp 54), some 2, none⟩,
    ⟨.mov (.const (.int .i64 0)), some 3, none⟩])
  (.ret)))))))))))⟩
theorem ok_impl_LnOf : cmpF Try.prog Try.f19 = some c_impl_LnOf := by kernel_rfl

/- impl.ExpDown -/
def c_impl_ExpDown : FV := ⟨34, [.tmp 2, .tmp 3],
  .seq (.ops [⟨.mov (.const (.float .f32 0)), some 2, none⟩,
    ⟨.mov (.const (.int .i64 0)), some 3, none⟩])
  (.seq (.seq (.ops [⟨.mov (.tmp 0), some 6, none⟩,
    ⟨.fbin .geq (.tmp 6) (.const (.float .f32 0)), some 7, none⟩,
    ⟨.un .not (.tmp 7), some 8, none⟩,
    ⟨.mov (.tmp 8), some 9, none⟩,
    ⟨.mov (.tmp 0), some 10, some (9, false)⟩,
    ⟨.fbin .gtr (.tmp 10) (.const (.float .f32 1117782016)), some 11, some (9, false)⟩,
    ⟨.pick (.tmp 9) (.const (.bool true)) (.tmp 11), some 12, none⟩])
  (.cond (.tmp 12) (.seq (.ops [⟨.mov (.const (.float .f32 0)), some 2, none⟩,
    ⟨.mov (.const (.int .i64 2)), some 3, none⟩])
  (.ret)) (.skip)))
  (.seq (.ops [⟨.mov (.tmp 0), some 13, none⟩,
    ⟨.fbin .quo (.tmp 13) (.const (.float .f32 1132462080)), some 14, none⟩,
    ⟨.mov (.tmp 14), some 4, none⟩])
  (.seq (.ops [⟨.mov (.tmp 4), some 15, none⟩,
    ⟨.fbin .mul (.tmp 15) (.const (.float .f32 1042983595)), some 16, none⟩,
    ⟨.fbin .add (.tmp 16) (.const (.float .f32 1056964608)), some 17, none⟩,
    ⟨.mov (.tmp 17), some 5, none⟩])
  (.seq (.ops [⟨.mov (.tmp 5), some 18, none⟩,
    ⟨.mov (.tmp 4), some 19, none⟩,
    ⟨.fbin .mul (.tmp 18) (.tmp 19), some 20, none⟩,
    ⟨.fbin .add (.tmp 20) (.const (.float .f32 1065353216)), some 21, none⟩,
    ⟨.mov (.tmp 21), some 5, none⟩])
  (.seq (.ops [⟨.mov (.tmp 5), some 22, none⟩,
    ⟨.mov (.tmp 4), some 23, none⟩,
    ⟨.fbin .mul (.tmp 22) (.tmp 23), some 24, none⟩,
    ⟨.fbin .add (.tmp 24) (.const (.float .f32 1065353216)), some 25, none⟩,
    ⟨.mov (.tmp 25), some 5, none⟩])
  (.seq (.seq (.ops [⟨.mov (.const (.int .i64 0)), some 26, none⟩])
  (.block 0 (.loop (.seq (.ops [⟨.bin .lss (.tmp 26) (.const (.int .i64 8)), some 27, none⟩])
  (.seq (.cond (.tmp 27) (.skip) (.exit 0))
  (.seq (.block 1 (.ops [⟨.mov (.tmp 5), some 28, none⟩,
    ⟨.mov (.tmp 5), some 29, none⟩,
    ⟨.fbin .mul (.tmp 28) (.tmp 29), some 30, none⟩,
    ⟨.mov (.tmp 30), some 5, none⟩]))
  (.ops [⟨.bin .add (.tmp 26) (.const (.int .i64 1)), some 31, none⟩,
    ⟨.mov (.tmp 31), some 26, none⟩])))))))
  (.seq (.ops [⟨.mov (.tmp 5), some 32, none⟩,
    ⟨.fbin .quo (.const (.float .f32 1065353216)) (.tmp 32), some 33, none⟩,
    ⟨.mov (.tmp 33), some 2, none⟩,
    ⟨.mov (.const (.int .i64 0)), some 3, none⟩])
  (.ret))))))))⟩
theorem ok_impl_ExpDown : cmpF Try.prog Try.f20 = some c_impl_ExpDown := by kernel_rfl

/- spec.LnOf -/
def c_spec_LnOf : FV := ⟨13, [.tmp 2, .tmp 3],
  .seq (.ops [⟨.mov (.const (.float .f32 0)), some 2, none⟩,
    ⟨.mov (.const (.int .i64 0)), some 3, none⟩])
  (.seq (.seq (.ops [⟨.mov (.tmp 0), some 4, none⟩,
    ⟨.fbin .geq (.tmp 4) (.const (.float .f32 562036736)), some 5, none⟩,
    ⟨.mov (.tmp 5), some 6, none⟩,
    ⟨.mov (.tmp 0), some 7, some (6, true)⟩,
    ⟨.fbin .leq (.tmp 7) (.const (.float .f32 1568669696)), some 8, some (6, true)⟩,
    ⟨.pick (.tmp 6) (.tmp 8) (.const (.bool false)), some 9, none⟩,
    ⟨.un .not (.tmp 9), some 10, none⟩])
  (.cond (.tmp 10) (.seq (.ops [⟨.mov (.const (.float .f32 0)), some 2, none⟩,
    ⟨.mov (.const (.int .i64 2)), some 3, none⟩])
  (.ret)) (.skip)))
  (.seq (.ops [⟨.mov (.tmp 0), some 11, none⟩,
    ⟨.call 63 [.tmp 11], some 12, none⟩,
    ⟨.mov (.tmp 12), some 2, none⟩,
    ⟨.mov (.const (.int .i64 0)), some 3, none⟩])
  (.ret)))⟩
theorem ok_spec_LnOf : cmpF Try.prog Try.f21 = some c_spec_LnOf := by kernel_rfl

/- spec.ExpDown -/
def c_spec_ExpDown : FV := ⟨13, [.tmp 2, .tmp 3],
  .seq (.ops [⟨.mov (.const (.float .f32 0)), some 2, none⟩,
    ⟨.mov (.const (.int .i64 0)), some 3, none⟩])
  (.seq (.seq (.ops [⟨.mov (.tmp 0), some 4, none⟩,
    ⟨.fbin .geq (.tmp 4) (.const (.float .f32 0)), some 5, none⟩,
    ⟨.mov (.tmp 5), some 6, none⟩,
    ⟨.mov (.tmp 0), some 7, some (6, true)⟩,
    ⟨.fbin .leq (.tmp 7) (.const (.float .f32 1117782016)), some 8, some (6, true)⟩,
    ⟨.pick (.tmp 6) (.tmp 8) (.const (.bool false)), some 9, none⟩,
    ⟨.un .not (.tmp 9), some 10, none⟩])
  (.cond (.tmp 10) (.seq (.ops [⟨.mov (.const (.float .f32 0)), some 2, none⟩,
    ⟨.mov (.const (.int .i64 2)), some 3, none⟩])
  (.ret)) (.skip)))
  (.seq (.ops [⟨.mov (.tmp 0), some 11, none⟩,
    ⟨.call 64 [.tmp 11], some 12, none⟩,
    ⟨.mov (.tmp 12), some 2, none⟩,
    ⟨.mov (.const (.int .i64 0)), some 3, none⟩])
  (.ret)))⟩
theorem ok_spec_ExpDown : cmpF Try.prog Try.f22 = some c_spec_ExpDown := by kernel_rfl

/- impl.WellFunction -/
def c_impl_WellFunction : FV := ⟨67, [.tmp 2, .tmp 3],
  .seq (.ops [⟨.mov (.const (.float .f32 0)), some 2, none⟩,
    ⟨.mov (.const (.int .i64 0)), some 3, none⟩])
  (.seq (.seq (.ops [⟨.mov (.tmp 0), some 11, none⟩,
    ⟨.fbin .geq (.tmp 11) (.const (.float .f32 562036736)), some 12, none⟩,
    ⟨.un .not (.tmp 12), some 13, none⟩,
    ⟨.mov (.tmp 13), some 14, none⟩,
    ⟨.mov (.tmp 0), some 15, some (14, false)⟩,
    ⟨.fbin .gtr (.tmp 15) (.const (.float .f32 1117782016)), some 16, some (14, false)⟩,
    ⟨.pick (.tmp 14) (.const (.bool true)) (.tmp 16), some 17, none⟩])
  (.cond (.tmp 17) (.seq (.ops [⟨.mov (.const (.float .f32 0)), some 2, none⟩,
    ⟨.mov (.const (.int .i64 2)), some 3, none⟩])
  (.ret)) (.skip)))
  (.seq (.seq (.ops [⟨.mov (.tmp 0), some 18, none⟩,
    ⟨.fbin .leq (.tmp 18) (.const (.float .f32 1065353216)), some 19, none⟩])
  (.cond (.tmp 19) (.seq (.ops [⟨.mov (.tmp 0), some 20, none⟩,
    ⟨.fbin .mul (.tmp 20) (.const (.float .f32 987395086)), some 21, none⟩,
    ⟨.fbin .sub (.tmp 21) (.const (.float .f32 1009429163)), some 22, none⟩,
    ⟨.mov (.tmp 22), some 4, none⟩])
  (.seq (.ops [⟨.mov (.tmp 4), some 23, none⟩,
    ⟨.mov (.tmp 0), some 24, none⟩,
    ⟨.fbin .mul (.tmp 23) (.tmp 24), some 25, none⟩,
    ⟨.fbin .add (.tmp 25) (.const (.float .f32 1029934649)), some 26, none⟩,
    ⟨.mov (.tmp 26), some 4, none⟩])
  (.seq (.ops [⟨.mov (.tmp 4), some 27, none⟩,
    ⟨.mov (.tmp 0), some 28, none⟩,
    ⟨.fbin .mul (.tmp 27) (.tmp 28), some 29, none⟩,
    ⟨.fbin .sub (.tmp 29) (.const (.float .f32 1048576000)), some 30, none⟩,
    ⟨.mov (.tmp 30), some 4, none⟩])
  (.seq (.ops [⟨.mov (.tmp 4), some 31, none⟩,
    ⟨.mov (.tmp 0), some 32, none⟩,
    ⟨.fbin .mul (.tmp 31) (.tmp 32), some 33, none⟩,
    ⟨.fbin .add (.tmp 33) (.const (.float .f32 1065353216)), some 34, none⟩,
    ⟨.mov (.tmp 34), some 4, none⟩])
  (.seq (.ops [⟨.mov (.tmp 0), some 36, none⟩,
    ⟨.call 19 [.tmp 36], some 37, none⟩,
    ⟨.mov (.tmp 37), some 35, none⟩,
    ⟨.ext (.tmp 35) 0, some 38, none⟩,
    ⟨.ext (.tmp 35) 1, some 39, none⟩,
    ⟨.mov (.tmp 38), some 5, none⟩,
    ⟨.mov (.tmp 39), some 6, none⟩])
  (.seq (.ops [⟨.mov (.tmp 5), some 40, none⟩,
    ⟨.fbin .sub (.const (.float .f32 3205743720)) (.tmp 40), some 41, none⟩,
    ⟨.mov (.tmp 4), some 42, none⟩,
    ⟨.mov (.tmp 0), some 43, none⟩,
    ⟨.fbin .mul (.tmp 42) (.tmp 43), some 44, none⟩,
    ⟨.fbin .add (.tmp 41) (.tmp 44), some 45, none⟩,
    ⟨.mov (.tmp 45), some 2, none⟩,
    ⟨.mov (.const (.int .i64 0)), some 3, none⟩])
  (.ret))))))) (.skip)))
  (.seq (.ops [⟨.mov (.tmp 0), some 46, none⟩,
    ⟨.mov (.tmp 46), some 7, none⟩])
  (.seq (.seq (.ops [⟨.mov (.const (.float .f32 1090519040)), some 8, none⟩])
  (.block 0 (.loop (.seq (.seq (.ops [⟨.mov (.tmp 8), some 47, none⟩,
    ⟨.fbin .geq (.tmp 47) (.const (.float .f32 1065353216)), some 48, none⟩])
  (.cond (.tmp 48) (.skip) (.exit 0)))
  (.seq (.block 1 (.ops [⟨.mov (.tmp 0), some 51, none⟩,
    ⟨.mov (.tmp 8), some 52, none⟩,
    ⟨.mov (.tmp 8), some 53, none⟩,
    ⟨.mov (.tmp 7), some 54, none⟩,
    ⟨.fbin .quo (.tmp 53) (.tmp 54), some 55, none⟩,
    ⟨.fbin .add (.const (.float .f32 1065353216)) (.tmp 55), some 56, none⟩,
    ⟨.fbin .quo (.tmp 52) (.tmp 56), some 57, none⟩,
    ⟨.fbin .add (.tmp 51) (.tmp 57), some 58, none⟩,
    ⟨.mov (.tmp 58), some 7, none⟩]))
  (.ops [⟨.mov (.tmp 8), some 49, none⟩,
    ⟨.fbin .sub (.tmp 49) (.const (.float .f32 1065353216)), some 50, none⟩,
    ⟨.mov (.tmp 50), some 8, none⟩]))))))
  (.seq (.ops [⟨.mov (.tmp 0), some 60, none⟩,
    ⟨.call 20 [.tmp 60], some 61, none⟩,
    ⟨.mov (.tmp 61), some 59, none⟩,
    ⟨.ext (.tmp 59) 0, some 62, none⟩,
    ⟨.ext (.tmp 59) 1, some 63, none⟩,
    ⟨.mov (.tmp 62), some 9, none⟩,
    ⟨.mov (.tmp 63), some 10, none⟩])
  (.seq (.ops [⟨.mov (.tmp 9), some 64, none⟩,
    ⟨.mov (.tmp 7), some 65, none⟩,
    ⟨.fbin .quo (.tmp 64) (.tmp 65), some 66, none⟩,
    ⟨.mov (.tmp 66), some 2, none⟩,
    ⟨.mov (.const (.int .i64 0)), some 3, none⟩])
  (.ret)))))))⟩
theorem ok_impl_WellFunction : cmpF Try.prog Try.f23 = some c_impl_WellFunction := by kernel_rfl

/- spec.WellFunction -/
def c_spec_WellFunction : FV := ⟨13, [.tmp 2, .tmp 3],
  .seq (.ops [⟨.mov (.const (.float .f32 0)), some 2, none⟩,
    ⟨.mov (.const (.int .i64 0)), some 3, none⟩])
  (.seq (.seq (.ops [⟨.mov (.tmp 0), some 4, none⟩,
    ⟨.fbin .geq (.tmp 4) (.const (.float .f32 562036736)), some 5, none⟩,
    ⟨.mov (.tmp 5), some 6, none⟩,
    ⟨.mov (.tmp 0), some 7, some (6, true)⟩,
    ⟨.fbin .leq (.tmp 7) (.const (.float .f32 1117782016)), some 8, some (6, true)⟩,
    ⟨.pick (.tmp 6) (.tmp 8) (.const (.bool false)), some 9, none⟩,
    ⟨.un .not (.tmp 9), some 10, none⟩])
  (.cond (.tmp 10) (.seq (.ops [⟨.mov (.const (.float .f32 0)), some 2, none⟩,
    ⟨.mov (.const (.int .i64 2)), some 3, none⟩])
  (.ret)) (.skip)))
  (.seq (.ops [⟨.mov (.tmp 0), some 11, none⟩,
    ⟨.call 65 [.tmp 11], some 12, none⟩,
    ⟨.mov (.tmp 12), some 2, none⟩,
    ⟨.mov (.const (.int .i64 0)), some 3, none⟩])
  (.ret)))⟩
theorem ok_spec_WellFunction : cmpF Try.prog Try.f24 = some c_spec_WellFunction := by kernel_rfl

/- spec.SameNumber -/
def c_spec_SameNumber : FV := ⟨8, [.tmp 4],
  .seq (.ops [⟨.mov (.const (.bool false)), some 4, none⟩])
  (.seq (.ops [⟨.mov (.tmp 0), some 5, none⟩,
    ⟨.mov (.tmp 1), some 6, none⟩,
    ⟨.call 66 [.tmp 5, .tmp 6], some 7, none⟩,
    ⟨.mov (.tmp 7), some 4, none⟩])
  (.ret))⟩
theorem ok_spec_SameNumber : cmpF Try.prog Try.f25 = some c_spec_SameNumber := by kernel_rfl

/- laws.sameFloat -/
def c_laws_sameFloat : FV := ⟨37, [.tmp 4],
  .seq (.ops [⟨.mov (.const (.bool false)), some 4, none⟩])
  (.seq (.seq (.ops [⟨.mov (.tmp 0), some 5, none⟩,
    ⟨.mov (.tmp 0), some 6, none⟩,
    ⟨.fbin .neq (.tmp 5) (.tmp 6), some 7, none⟩,
    ⟨.mov (.tmp 7), some 8, none⟩,
    ⟨.mov (.tmp 1), some 9, some (8, false)⟩,
    ⟨.mov (.tmp 1), some 10, some (8, false)⟩,
    ⟨.fbin .neq (.tmp 9) (.tmp 10), some 11, some (8, false)⟩,
    ⟨.pick (.tmp 8) (.const (.bool true)) (.tmp 11), some 12, none⟩])
  (.cond (.tmp 12) (.seq (.ops [⟨.mov (.tmp 0), some 13, none⟩,
    ⟨.mov (.tmp 0), some 14, none⟩,
    ⟨.fbin .neq (.tmp 13) (.tmp 14), some 15, none⟩,
    ⟨.mov (.tmp 15), some 16, none⟩,
    ⟨.mov (.tmp 1), some 17, some (16, true)⟩,
    ⟨.mov (.tmp 1), some 18, some (16, true)⟩,
    ⟨.fbin .neq (.tmp 17) (.tmp 18), some 19, some (16, true)⟩,
    ⟨.pick (.tmp 16) (.tmp 19) (.const (.bool false)), some 20, none⟩,
    ⟨.mov (.tmp 20), some 4, none⟩])
  (.ret)) (.skip)))
  (.seq (.seq (.ops [⟨.mov (.tmp 0), some 21, none⟩,
    ⟨.fbin .eql (.tmp 21) (.const (.float .f64 0)), some 22, none⟩,
    ⟨.mov (.tmp 22), some 23, none⟩,
    ⟨.mov (.tmp 1), some 24, some (23, true)⟩,
    ⟨.fbin .eql (.tmp 24) (.const (.float .f64 0)), some 25, some (23, true)⟩,
    ⟨.pick (.tmp 23) (.tmp 25) (.const (.bool false)), some 26, none⟩])
  (.cond (.tmp 26) (.seq (.ops [⟨.mov (.tmp 0), some 27, none⟩,
    ⟨.fbin .quo (.const (.float .f64 4607182418800017408)) (.tmp 27), some 28, none⟩,
    ⟨.fbin .gtr (.tmp 28) (.const (.float .f64 0)), some 29, none⟩,
    ⟨.mov (.tmp 1), some 30, none⟩,
    ⟨.fbin .quo (.const (.float .f64 4607182418800017408)) (.tmp 30), some 31, none⟩,
    ⟨.fbin .gtr (.tmp 31) (.const (.float .f64 0)), some 32, none⟩,
    ⟨.beq false (.tmp 29) (.tmp 32), some 33, none⟩,
    ⟨.mov (.tmp 33), some 4, none⟩])
  (.ret)) (.skip)))
  (.seq (.ops [⟨.mov (.tmp 0), some 34, none⟩,
    ⟨.mov (.tmp 1), some 35, none⟩,
    ⟨.fbin .eql (.tmp 34) (.tmp 35), some 36, none⟩,
    ⟨.mov (.tmp 36), some 4, none⟩])
  (.ret))))⟩
theorem ok_laws_sameFloat : cmpF Try.prog Try.f26 = some c_laws_sameFloat := by kernel_rfl

/- spec.TransmitOf -/
def c_spec_TransmitOf : FV := ⟨28, [.tmp 4, .tmp 5],
  .seq (.ops [⟨.box 41 (.tmp 0), some 2, none⟩,
    ⟨.mov (.const (.float .f32 0)), some 4, none⟩,
    ⟨.mov (.const (.int .i64 0)), some 5, none⟩])
  (.seq (.seq (.ops [⟨.load (some 5) (.tmp 2), some 8, none⟩,
    ⟨.call 67 [.tmp 8], some 9, none⟩,
    ⟨.un .not (.tmp 9), some 10, none⟩])
  (.cond (.tmp 10) (.seq (.ops [⟨.mov (.const (.float .f32 0)), some 4, none⟩,
    ⟨.mov (.const (.int .i64 1)), some 5, none⟩])
  (.ret)) (.skip)))
  (.seq (.ops [⟨.mov (.const (.float .f32 1095307227)), some 6, none⟩])
  (.seq (.ops [⟨.mov (.tmp 6), some 11, none⟩,
    ⟨.mov (.tmp 1), some 12, none⟩,
    ⟨.fbin .mul (.tmp 11) (.tmp 12), some 13, none⟩,
    ⟨.mov (.tmp 13), some 6, none⟩])
  (.seq (.ops [⟨.addr (.tmp 2) 0, some 14, none⟩,
    ⟨.addr (.tmp 14) 2, some 15, none⟩,
    ⟨.load none (.tmp 15), some 16, none⟩,
    ⟨.mov (.tmp 6), some 17, none⟩,
    ⟨.fbin .quo (.tmp 16) (.tmp 17), some 18, none⟩,
    ⟨.mov (.tmp 18), some 7, none⟩])
  (.seq (.seq (.ops [⟨.mov (.tmp 7), some 19, none⟩,
    ⟨.call 68 [.const (.int .i64 1), .const (.int .i64 1024)], some 20, none⟩,
    ⟨.fbin .geq (.tmp 19) (.tmp 20), some 21, none⟩,
    ⟨.mov (.tmp 21), some 22, none⟩,
    ⟨.mov (.tmp 7), some 23, some (22, true)⟩,
    ⟨.fbin .leq (.tmp 23) (.const (.float .f32 1233125376)), some 24, some (22, true)⟩,
    ⟨.pick (.tmp 22) (.tmp 24) (.const (.bool false)), some 25, none⟩,
    ⟨.un .not (.tmp 25), some 26, none⟩])
  (.cond (.tmp 26) (.seq (.ops [⟨.mov (.const (.float .f32 0)), some 4, none⟩,
    ⟨.mov (.const (.int .i64 4)), some 5, none⟩])
  (.ret)) (.skip)))
  (.seq (.ops [⟨.mov (.tmp 7), some 27, none⟩,
    ⟨.mov (.tmp 27), some 4, none⟩,
    ⟨.mov (.const (.int .i64 0)), some 5, none⟩])
  (.ret)))))))⟩
theorem ok_spec_TransmitOf : cmpF Try.prog Try.f27 = some c_spec_TransmitOf := by kernel_rfl

/- laws.toSite -/
def c_laws_toSite : FV := ⟨15, [.cell 2 (some 5)],
  .seq (.ops [⟨.box 37 (.tmp 0), some 1, none⟩,
    ⟨.alloc 41 (.agg (#[.int .i8 0, .int .i8 0, .float .f32 0, .int .i8 0, .int .i8 0])), some 2, none⟩])
  (.seq (.ops [⟨.alloc 41 (.agg (#[.int .i8 0, .int .i8 0, .float .f32 0, .int .i8 0, .int .i8 0])), some 3, none⟩])
  (.seq (.ops [⟨.addr (.tmp 1) 0, some 4, none⟩,
    ⟨.load (some 3) (.tmp 4), some 5, none⟩,
    ⟨.call 36 [.tmp 5], some 6, none⟩,
    ⟨.addr (.tmp 3) 0, some 7, none⟩,
    ⟨.store 3 (.tmp 7) (.tmp 6), none, none⟩])
  (.seq (.ops [⟨.addr (.tmp 1) 3, some 8, none⟩,
    ⟨.load none (.tmp 8), some 9, none⟩,
    ⟨.addr (.tmp 3) 3, some 10, none⟩,
    ⟨.store 1 (.tmp 10) (.tmp 9), none, none⟩])
  (.seq (.ops [⟨.addr (.tmp 1) 4, some 11, none⟩,
    ⟨.load none (.tmp 11), some 12, none⟩,
    ⟨.addr (.tmp 3) 4, some 13, none⟩,
    ⟨.store 1 (.tmp 13) (.tmp 12), none, none⟩])
  (.seq (.ops [⟨.load (some 5) (.tmp 3), some 14, none⟩,
    ⟨.store 5 (.tmp 2) (.tmp 14), none, none⟩])
  (.ret))))))⟩
theorem ok_laws_toSite : cmpF Try.prog Try.f28 = some c_laws_toSite := by kernel_rfl

/- impl.TransmitOf -/
def c_impl_TransmitOf : FV := ⟨25, [.tmp 4, .tmp 5],
  .seq (.ops [⟨.box 41 (.tmp 0), some 2, none⟩,
    ⟨.mov (.const (.float .f32 0)), some 4, none⟩,
    ⟨.mov (.const (.int .i64 0)), some 5, none⟩])
  (.seq (.seq (.ops [⟨.load (some 5) (.tmp 2), some 7, none⟩,
    ⟨.call 69 [.tmp 7], some 8, none⟩,
    ⟨.un .not (.tmp 8), some 9, none⟩])
  (.cond (.tmp 9) (.seq (.ops [⟨.mov (.const (.float .f32 0)), some 4, none⟩,
    ⟨.mov (.const (.int .i64 1)), some 5, none⟩])
  (.ret)) (.skip)))
  (.seq (.bops [⟨.addr (.tmp 2) 0, some 10, none⟩,
    ⟨.addr (.tmp 10) 2, some 11, none⟩,
    ⟨.load none (.tmp 11), some 12, none⟩,
    ⟨.call 70 [], some 13, none⟩,
    ⟨.mov (.tmp 1), some 14, none⟩,
    ⟨.fbin .mul (.tmp 13) (.tmp 14), some 15, none⟩,
    ⟨.fbin .quo (.tmp 12) (.tmp 15), some 16, none⟩,
    ⟨.mov (.tmp 16), some 6, none⟩])
  (.seq (.seq (.ops [⟨.mov (.tmp 6), some 17, none⟩,
    ⟨.fbin .geq (.tmp 17) (.const (.float .f32 981467136)), some 18, none⟩,
    ⟨.un .not (.tmp 18), some 19, none⟩,
    ⟨.mov (.tmp 19), some 20, none⟩,
    ⟨.mov (.tmp 6), some 21, some (20, false)⟩,
    ⟨.fbin .gtr (.tmp 21) (.const (.float .f32 1233125376)), some 22, some (20, false)⟩,
    ⟨.pick (.tmp 20) (.const (.bool true)) (.tmp 22), some 23, none⟩])
  (.cond (.tmp 23) (.seq (.ops [⟨.mov (.const (.float .f32 0)), some 4, none⟩,
    ⟨.mov (.const (.int .i64 4)), some 5, none⟩])
  (.ret)) (.skip)))
  (.seq (.ops [⟨.mov (.tmp 6), some 24, none⟩,
    ⟨.mov (.tmp 24), some 4, none⟩,
    ⟨.mov (.const (.int .i64 0)), some 5, none⟩])
  (.ret)))))⟩
theorem ok_impl_TransmitOf : cmpF Try.prog Try.f29 = some c_impl_TransmitOf := by kernel_rfl

/- laws.szReadingS -/
def c_laws_szReadingS : FV := ⟨12, [.tmp 4],
  .seq (.ops [⟨.mov (.const (.int .i64 0)), some 4, none⟩])
  (.seq (.ops [⟨.mov (.tmp 1), some 5, none⟩,
    ⟨.mov (.tmp 0), some 6, none⟩,
    ⟨.lenL (.tmp 6), some 7, none⟩,
    ⟨.bin .sub (.tmp 5) (.tmp 7), some 8, none⟩,
    ⟨.mov (.tmp 8), some 1, none⟩])
  (.seq (.seq (.ops [⟨.mov (.tmp 1), some 9, none⟩,
    ⟨.bin .lss (.tmp 9) (.const (.int .i64 0)), some 10, none⟩])
  (.cond (.tmp 10) (.seq (.ops [⟨.mov (.const (.int .i64 (-1))), some 4, none⟩])
  (.ret)) (.skip)))
  (.seq (.ops [⟨.mov (.tmp 1), some 11, none⟩,
    ⟨.mov (.tmp 11), some 4, none⟩])
  (.ret))))⟩
theorem ok_laws_szReadingS : cmpF Try.prog Try.f30 = some c_laws_szReadingS := by kernel_rfl

/- spec.SameReadings -/
def c_spec_SameReadings : FV := ⟨26, [.tmp 4],
  .seq (.ops [⟨.mov (.const (.bool false)), some 4, none⟩])
  (.seq (.seq (.ops [⟨.mov (.tmp 0), some 6, none⟩,
    ⟨.lenL (.tmp 6), some 7, none⟩,
    ⟨.mov (.tmp 1), some 8, none⟩,
    ⟨.lenL (.tmp 8), some 9, none⟩,
    ⟨.bin .neq (.tmp 7) (.tmp 9), some 10, none⟩])
  (.cond (.tmp 10) (.seq (.ops [⟨.mov (.const (.bool false)), some 4, none⟩])
  (.ret)) (.skip)))
  (.seq (.seq (.ops [⟨.mov (.const (.int .i64 0)), some 5, none⟩])
  (.block 0 (.loop (.seq (.seq (.ops [⟨.mov (.tmp 5), some 11, none⟩,
    ⟨.mov (.tmp 0), some 12, none⟩,
    ⟨.lenL (.tmp 12), some 13, none⟩,
    ⟨.bin .lss (.tmp 11) (.tmp 13), some 14, none⟩])
  (.cond (.tmp 14) (.skip) (.exit 0)))
  (.seq (.block 1 (.seq (.ops [⟨.mov (.tmp 0), some 17, none⟩,
    ⟨.mov (.tmp 5), some 18, none⟩,
    ⟨.idxS 2 (.tmp 17) (.tmp 18), some 19, none⟩,
    ⟨.load (some 2) (.tmp 19), some 20, none⟩,
    ⟨.mov (.tmp 1), some 21, none⟩,
    ⟨.mov (.tmp 5), some 22, none⟩,
    ⟨.idxS 2 (.tmp 21) (.tmp 22), some 23, none⟩,
    ⟨.load (some 2) (.tmp 23), some 24, none⟩,
    ⟨.aeq true (.tmp 20) (.tmp 24), some 25, none⟩])
  (.cond (.tmp 25) (.seq (.ops [⟨.mov (.const (.bool false)), some 4, none⟩])
  (.ret)) (.skip))))
  (.ops [⟨.mov (.tmp 5), some 15, none⟩,
    ⟨.bin .add (.tmp 15) (.const (.int .i64 1)), some 16, none⟩,
    ⟨.mov (.tmp 16), some 5, none⟩]))))))
  (.seq (.ops [⟨.mov (.const (.bool true)), some 4, none⟩])
  (.ret))))⟩
theorem ok_spec_SameReadings : cmpF Try.prog Try.f31 = some c_spec_SameReadings := by kernel_rfl

/- laws.toReadingS -/
def c_laws_toReadingS : FV := ⟨23, [.tmp 2],
  .seq (.ops [⟨.mov (.const (.slice none 0 0)), some 2, none⟩])
  (.seq (.ops [⟨.mov (.tmp 0), some 5, none⟩,
    ⟨.lenL (.tmp 5), some 6, none⟩,
    ⟨.mks 87 2 (#[.int .i64 0, .int .i16 0]) (.tmp 6) (.tmp 6), some 7, none⟩,
    ⟨.mov (.tmp 7), some 3, none⟩])
  (.seq (.seq (.ops [⟨.mov (.const (.int .i64 0)), some 4, none⟩])
  (.block 0 (.loop (.seq (.seq (.ops [⟨.mov (.tmp 4), some 8, none⟩,
    ⟨.mov (.tmp 0), some 9, none⟩,
    ⟨.lenL (.tmp 9), some 10, none⟩,
    ⟨.bin .lss (.tmp 8) (.tmp 10), some 11, none⟩])
  (.cond (.tmp 11) (.skip) (.exit 0)))
  (.seq (.block 1 (.ops [⟨.mov (.tmp 3), some 14, none⟩,
    ⟨.mov (.tmp 4), some 15, none⟩,
    ⟨.mov (.tmp 0), some 16, none⟩,
    ⟨.mov (.tmp 4), some 17, none⟩,
    ⟨.idxS 2 (.tmp 16) (.tmp 17), some 18, none⟩,
    ⟨.load (some 2) (.tmp 18), some 19, none⟩,
    ⟨.call 71 [.tmp 19], some 20, none⟩,
    ⟨.idxS 2 (.tmp 14) (.tmp 15), some 21, none⟩,
    ⟨.store 2 (.tmp 21) (.tmp 20), none, none⟩]))
  (.ops [⟨.mov (.tmp 4), some 12, none⟩,
    ⟨.bin .add (.tmp 12) (.const (.int .i64 1)), some 13, none⟩,
    ⟨.mov (.tmp 13), some 4, none⟩]))))))
  (.seq (.ops [⟨.mov (.tmp 3), some 22, none⟩,
    ⟨.mov (.tmp 22), some 2, none⟩])
  (.ret))))⟩
theorem ok_laws_toReadingS : cmpF Try.prog Try.f32 = some c_laws_toReadingS := by kernel_rfl

/- impl.SameReadings -/
def c_impl_SameReadings : FV := ⟨8, [.tmp 4],
  .seq (.ops [⟨.mov (.const (.bool false)), some 4, none⟩])
  (.seq (.ops [⟨.mov (.tmp 0), some 5, none⟩,
    ⟨.mov (.tmp 1), some 6, none⟩,
    ⟨.call 72 [.tmp 5, .tmp 6], some 7, none⟩,
    ⟨.mov (.tmp 7), some 4, none⟩])
  (.ret))⟩
theorem ok_impl_SameReadings : cmpF Try.prog Try.f33 = some c_impl_SameReadings := by kernel_rfl

/- laws.eqReadingS -/
def c_laws_eqReadingS : FV := ⟨27, [.tmp 4],
  .seq (.ops [⟨.mov (.const (.bool false)), some 4, none⟩])
  (.seq (.seq (.ops [⟨.mov (.tmp 0), some 6, none⟩,
    ⟨.lenL (.tmp 6), some 7, none⟩,
    ⟨.mov (.tmp 1), some 8, none⟩,
    ⟨.lenL (.tmp 8), some 9, none⟩,
    ⟨.bin .neq (.tmp 7) (.tmp 9), some 10, none⟩])
  (.cond (.tmp 10) (.seq (.ops [⟨.mov (.const (.bool false)), some 4, none⟩])
  (.ret)) (.skip)))
  (.seq (.seq (.ops [⟨.mov (.const (.int .i64 0)), some 5, none⟩])
  (.block 0 (.loop (.seq (.seq (.ops [⟨.mov (.tmp 5), some 11, none⟩,
    ⟨.mov (.tmp 0), some 12, none⟩,
    ⟨.lenL (.tmp 12), some 13, none⟩,
    ⟨.bin .lss (.tmp 11) (.tmp 13), some 14, none⟩])
  (.cond (.tmp 14) (.skip) (.exit 0)))
  (.seq (.block 1 (.seq (.ops [⟨.mov (.tmp 0), some 17, none⟩,
    ⟨.mov (.tmp 5), some 18, none⟩,
    ⟨.idxS 2 (.tmp 17) (.tmp 18), some 19, none⟩,
    ⟨.load (some 2) (.tmp 19), some 20, none⟩,
    ⟨.mov (.tmp 1), some 21, none⟩,
    ⟨.mov (.tmp 5), some 22, none⟩,
    ⟨.idxS 2 (.tmp 21) (.tmp 22), some 23, none⟩,
    ⟨.load (some 2) (.tmp 23), some 24, none⟩,
    ⟨.call 73 [.tmp 20, .tmp 24], some 25, none⟩,
    ⟨.un .not (.tmp 25), some 26, none⟩])
  (.cond (.tmp 26) (.seq (.ops [⟨.mov (.const (.bool false)), some 4, none⟩])
  (.ret)) (.skip))))
  (.ops [⟨.mov (.tmp 5), some 15, none⟩,
    ⟨.bin .add (.tmp 15) (.const (.int .i64 1)), some 16, none⟩,
    ⟨.mov (.tmp 16), some 5, none⟩]))))))
  (.seq (.ops [⟨.mov (.const (.bool true)), some 4, none⟩])
  (.ret))))⟩
theorem ok_laws_eqReadingS : cmpF Try.prog Try.f34 = some c_laws_eqReadingS := by kernel_rfl

/- spec.ImageOf -/
def c_spec_ImageOf : FV := ⟨22, [.cell 6 (some 3), .tmp 7],
  .seq (.ops [⟨.box 39 (.tmp 0), some 3, none⟩,
    ⟨.alloc 39 (.agg (#[.int .i8 0, .int .i8 0, .float .f32 0])), some 6, none⟩,
    ⟨.mov (.const (.int .i64 0)), some 7, none⟩])
  (.seq (.seq (.ops [⟨.load (some 3) (.tmp 3), some 8, none⟩,
    ⟨.call 74 [.tmp 8], some 9, none⟩,
    ⟨.un .not (.tmp 9), some 10, none⟩])
  (.cond (.tmp 10) (.seq (.ops [⟨.build [(0, 1), (1, 1), (2, 1)] (#[.int .i8 0, .int .i8 0, .float .f32 0]) [], some 11, none⟩,
    ⟨.store 3 (.tmp 6) (.tmp 11), none, none⟩,
    ⟨.mov (.const (.int .i64 1)), some 7, none⟩])
  (.ret)) (.skip)))
  (.seq (.seq (.ops [⟨.mov (.tmp 1), some 12, none⟩,
    ⟨.call 75 [.tmp 12, .const (.int .i64 (-400)), .const (.int .i64 400)], some 13, none⟩,
    ⟨.un .not (.tmp 13), some 14, none⟩])
  (.cond (.tmp 14) (.seq (.ops [⟨.build [(0, 1), (1, 1), (2, 1)] (#[.int .i8 0, .int .i8 0, .float .f32 0]) [], some 15, none⟩,
    ⟨.store 3 (.tmp 6) (.tmp 15), none, none⟩,
    ⟨.mov (.const (.int .i64 2)), some 7, none⟩])
  (.ret)) (.skip)))
  (.seq (.ops [⟨.load (some 3) (.tmp 3), some 16, none⟩,
    ⟨.mov (.tmp 1), some 17, none⟩,
    ⟨.mov (.tmp 2), some 18, none⟩,
    ⟨.call 76 [.tmp 16, .tmp 17, .tmp 18], some 19, none⟩,
    ⟨.ext (.tmp 19) 0, some 20, none⟩,
    ⟨.ext (.tmp 19) 1, some 21, none⟩,
    ⟨.store 3 (.tmp 6) (.tmp 20), none, none⟩,
    ⟨.mov (.tmp 21), some 7, none⟩])
  (.ret))))⟩
theorem ok_spec_ImageOf : cmpF Try.prog Try.f35 = some c_spec_ImageOf := by kernel_rfl

/- laws.toWell -/
def c_laws_toWell : FV := ⟨14, [.cell 2 (some 3)],
  .seq (.ops [⟨.box 35 (.tmp 0), some 1, none⟩,
    ⟨.alloc 39 (.agg (#[.int .i8 0, .int .i8 0, .float .f32 0])), some 2, none⟩])
  (.seq (.ops [⟨.alloc 39 (.agg (#[.int .i8 0, .int .i8 0, .float .f32 0])), some 3, none⟩])
  (.seq (.ops [⟨.addr (.tmp 1) 0, some 4, none⟩,
    ⟨.load none (.tmp 4), some 5, none⟩,
    ⟨.addr (.tmp 3) 0, some 6, none⟩,
    ⟨.store 1 (.tmp 6) (.tmp 5), none, none⟩])
  (.seq (.ops [⟨.addr (.tmp 1) 1, some 7, none⟩,
    ⟨.load none (.tmp 7), some 8, none⟩,
    ⟨.addr (.tmp 3) 1, some 9, none⟩,
    ⟨.store 1 (.tmp 9) (.tmp 8), none, none⟩])
  (.seq (.ops [⟨.addr (.tmp 1) 2, some 10, none⟩,
    ⟨.load none (.tmp 10), some 11, none⟩,
    ⟨.addr (.tmp 3) 2, some 12, none⟩,
    ⟨.store 1 (.tmp 12) (.tmp 11), none, none⟩])
  (.seq (.ops [⟨.load (some 3) (.tmp 3), some 13, none⟩,
    ⟨.store 3 (.tmp 2) (.tmp 13), none, none⟩])
  (.ret))))))⟩
theorem ok_laws_toWell : cmpF Try.prog Try.f36 = some c_laws_toWell := by kernel_rfl

/- impl.ImageOf -/
def c_impl_ImageOf : FV := ⟨36, [.cell 6 (some 3), .tmp 7],
  .seq (.ops [⟨.box 39 (.tmp 0), some 3, none⟩,
    ⟨.alloc 39 (.agg (#[.int .i8 0, .int .i8 0, .float .f32 0])), some 6, none⟩,
    ⟨.mov (.const (.int .i64 0)), some 7, none⟩])
  (.seq (.seq (.ops [⟨.load (some 3) (.tmp 3), some 9, none⟩,
    ⟨.call 77 [.tmp 9], some 10, none⟩,
    ⟨.un .not (.tmp 10), some 11, none⟩])
  (.cond (.tmp 11) (.seq (.ops [⟨.build [(0, 1), (1, 1), (2, 1)] (#[.int .i8 0, .int .i8 0, .float .f32 0]) [], some 12, none⟩,
    ⟨.store 3 (.tmp 6) (.tmp 12), none, none⟩,
    ⟨.mov (.const (.int .i64 1)), some 7, none⟩])
  (.ret)) (.skip)))
  (.seq (.ops [⟨.mov (.tmp 1), some 13, none⟩,
    ⟨.addr (.tmp 3) 0, some 14, none⟩,
    ⟨.load none (.tmp 14), some 15, none⟩,
    ⟨.convI .i64 (.tmp 15), some 16, none⟩,
    ⟨.bin .sub (.tmp 13) (.tmp 16), some 17, none⟩,
    ⟨.mov (.tmp 17), some 8, none⟩])
  (.seq (.seq (.ops [⟨.mov (.tmp 1), some 18, none⟩,
    ⟨.call 78 [.tmp 18, .const (.int .i64 (-400)), .const (.int .i64 400)], some 19, none⟩,
    ⟨.un .not (.tmp 19), some 20, none⟩,
    ⟨.mov (.tmp 20), some 21, none⟩,
    ⟨.mov (.tmp 8), some 22, some (21, false)⟩,
    ⟨.call 79 [.tmp 22], some 23, some (21, false)⟩,
    ⟨.un .not (.tmp 23), some 24, some (21, false)⟩,
    ⟨.pick (.tmp 21) (.const (.bool true)) (.tmp 24), some 25, none⟩])
  (.cond (.tmp 25) (.seq (.ops [⟨.build [(0, 1), (1, 1), (2, 1)] (#[.int .i8 0, .int .i8 0, .float .f32 0]) [], some 26, none⟩,
    ⟨.store 3 (.tmp 6) (.tmp 26), none, none⟩,
    ⟨.mov (.const (.int .i64 2)), some 7, none⟩])
  (.ret)) (.skip)))
  (.seq (.seq (.ops [⟨.mov (.tmp 8), some 27, none⟩,
    ⟨.convI .i8 (.tmp 27), some 28, none⟩,
    ⟨.addr (.tmp 3) 0, some 29, none⟩,
    ⟨.store 1 (.tmp 29) (.tmp 28), none, none⟩])
  (.seq (.ops [⟨.mov (.tmp 2), some 30, none⟩])
  (.cond (.tmp 30) (.ops [⟨.addr (.tmp 3) 2, some 31, none⟩,
    ⟨.load none (.tmp 31), some 32, none⟩,
    ⟨.un .neg (.tmp 32), some 33, none⟩,
    ⟨.addr (.tmp 3) 2, some 34, none⟩,
    ⟨.store 1 (.tmp 34) (.tmp 33), none, none⟩]) (.skip))))
  (.seq (.ops [⟨.load (some 3) (.tmp 3), some 35, none⟩,
    ⟨.store 3 (.tmp 6) (.tmp 35), none, none⟩,
    ⟨.mov (.const (.int .i64 0)), some 7, none⟩])
  (.ret))))))⟩
theorem ok_impl_ImageOf : cmpF Try.prog Try.f37 = some c_impl_ImageOf := by kernel_rfl

end Go.Proofs.Ytngfhggdombdgaa

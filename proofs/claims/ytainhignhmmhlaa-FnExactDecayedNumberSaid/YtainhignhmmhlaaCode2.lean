/- The code of the Go functions in the generator's own form, printed by a program of mine (gen.py) out of the loaded program; each with the check that it is so. -/
import Derived.Test.YtainhignhmmhlaaVcFn
import Derived.Test.YtainhignhmmhlaaGeo
import Derived.Test.YtainhignhmmhlaaRows
import Derived.KernelRfl
namespace Go.Proofs.Ytainhignhmmhlaa
open Go Go.Fl Go.Vc
set_option linter.all false
set_option maxRecDepth 100000

/- impl.ExpDown -/
def c_impl_ExpDown : FV := ⟨34, [.tmp 2, .tmp 3],
  .seq (.ops [⟨.mov (.const (.float .f32 0)), some 2, none⟩,
    ⟨.mov (.const (.int .i64 0)), some 3, none⟩])
  (.seq (.seq (.ops [⟨.mov (.tmp 0), some 6, none⟩,
    ⟨.fbin .geq (.tmp 6) (.const (.float .f32 0)), some 7, none⟩,
    ⟨.un .not (.tmp 7), some 8, none⟩,
    ⟨.mov (.tmp 8), some 9, none⟩,
    ⟨.mov (.tmp 0), some 10, some (9, false)⟩,
    ⟨.fbin .gtr (.tmp 10) (.const (.float .f32 1117782016)), some 11, some (9, false)⟩,
    ⟨.pick (.tmp 9) (.const (.bool true)) (.tmp 11), some 12, none⟩])
  (.cond (.tmp 12) (.seq (.ops [⟨.mov (.const (.float .f32 0)), some 2, none⟩,
    ⟨.mov (.const (.int .i64 2)), some 3, none⟩])
  (.ret)) (.skip)))
  (.seq (.ops [⟨.mov (.tmp 0), some 13, none⟩,
    ⟨.fbin .quo (.tmp 13) (.const (.float .f32 1132462080)), some 14, none⟩,
    ⟨.mov (.tmp 14), some 4, none⟩])
  (.seq (.ops [⟨.mov (.tmp 4), some 15, none⟩,
    ⟨.fbin .mul (.tmp 15) (.const (.float .f32 1042983595)), some 16, none⟩,
    ⟨.fbin .add (.tmp 16) (.const (.float .f32 1056964608)), some 17, none⟩,
    ⟨.mov (.tmp 17), some 5, none⟩])
  (.seq (.ops [⟨.mov (.tmp 5), some 18, none⟩,
    ⟨.mov (.tmp 4), some 19, none⟩,
    ⟨.fbin .mul (.tmp 18) (.tmp 19), some 20, none⟩,
    ⟨.fbin .add (.tmp 20) (.const (.float .f32 1065353216)), some 21, none⟩,
    ⟨.mov (.tmp 21), some 5, none⟩])
  (.seq (.ops [⟨.mov (.tmp 5), some 22, none⟩,
    ⟨.mov (.tmp 4), some 23, none⟩,
    ⟨.fbin .mul (.tmp 22) (.tmp 23), some 24, none⟩,
    ⟨.fbin .add (.tmp 24) (.const (.float .f32 1065353216)), some 25, none⟩,
    ⟨.mov (.tmp 25), some 5, none⟩])
  (.seq (.seq (.ops [⟨.mov (.const (.int .i64 0)), some 26, none⟩])
  (.block 0 (.loop (.seq (.ops [⟨.bin .lss (.tmp 26) (.const (.int .i64 8)), some 27, none⟩])
  (.seq (.cond (.tmp 27) (.skip) (.exit 0))
  (.seq (.block 1 (.ops [⟨.mov (.tmp 5), some 28, none⟩,
    ⟨.mov (.tmp 5), some 29, none⟩,
    ⟨.fbin .mul (.tmp 28) (.tmp 29), some 30, none⟩,
    ⟨.mov (.tmp 30), some 5, none⟩]))
  (.ops [⟨.bin .add (.tmp 26) (.const (.int .i64 1)), some 31, none⟩,
    ⟨.mov (.tmp 31), some 26, none⟩])))))))
  (.seq (.ops [⟨.mov (.tmp 5), some 32, none⟩,
    ⟨.fbin .quo (.const (.float .f32 1065353216)) (.tmp 32), some 33, none⟩,
    ⟨.mov (.tmp 33), some 2, none⟩,
    ⟨.mov (.const (.int .i64 0)), some 3, none⟩])
  (.ret))))))))⟩
theorem ok_impl_ExpDown : cmpF Try.prog Try.f45 = some c_impl_ExpDown := by kernel_rfl

/- spec.LnOf -/
def c_spec_LnOf : FV := ⟨13, [.tmp 2, .tmp 3],
  .seq (.ops [⟨.mov (.const (.float .f32 0)), some 2, none⟩,
    ⟨.mov (.const (.int .i64 0)), some 3, none⟩])
  (.seq (.seq (.ops [⟨.mov (.tmp 0), some 4, none⟩,
    ⟨.fbin .geq (.tmp 4) (.const (.float .f32 562036736)), some 5, none⟩,
    ⟨.mov (.tmp 5), some 6, none⟩,
    ⟨.mov (.tmp 0), some 7, some (6, true)⟩,
    ⟨.fbin .leq (.tmp 7) (.const (.float .f32 1568669696)), some 8, some (6, true)⟩,
    ⟨.pick (.tmp 6) (.tmp 8) (.const (.bool false)), some 9, none⟩,
    ⟨.un .not (.tmp 9), some 10, none⟩])
  (.cond (.tmp 10) (.seq (.ops [⟨.mov (.const (.float .f32 0)), some 2, none⟩,
    ⟨.mov (.const (.int .i64 2)), some 3, none⟩])
  (.ret)) (.skip)))
  (.seq (.ops [⟨.mov (.tmp 0), some 11, none⟩,
    ⟨.call 103 [.tmp 11], some 12, none⟩,
    ⟨.mov (.tmp 12), some 2, none⟩,
    ⟨.mov (.const (.int .i64 0)), some 3, none⟩])
  (.ret)))⟩
theorem ok_spec_LnOf : cmpF Try.prog Try.f46 = some c_spec_LnOf := by kernel_rfl

/- spec.ExpDown -/
def c_spec_ExpDown : FV := ⟨13, [.tmp 2, .tmp 3],
  .seq (.ops [⟨.mov (.const (.float .f32 0)), some 2, none⟩,
    ⟨.mov (.const (.int .i64 0)), some 3, none⟩])
  (.seq (.seq (.ops [⟨.mov (.tmp 0), some 4, none⟩,
    ⟨.fbin .geq (.tmp 4) (.const (.float .f32 0)), some 5, none⟩,
    ⟨.mov (.tmp 5), some 6, none⟩,
    ⟨.mov (.tmp 0), some 7, some (6, true)⟩,
    ⟨.fbin .leq (.tmp 7) (.const (.float .f32 1117782016)), some 8, some (6, true)⟩,
    ⟨.pick (.tmp 6) (.tmp 8) (.const (.bool false)), some 9, none⟩,
    ⟨.un .not (.tmp 9), some 10, none⟩])
  (.cond (.tmp 10) (.seq (.ops [⟨.mov (.const (.float .f32 0)), some 2, none⟩,
    ⟨.mov (.const (.int .i64 2)), some 3, none⟩])
  (.ret)) (.skip)))
  (.seq (.ops [⟨.mov (.tmp 0), some 11, none⟩,
    ⟨.call 104 [.tmp 11], some 12, none⟩,
    ⟨.mov (.tmp 12), some 2, none⟩,
    ⟨.mov (.const (.int .i64 0)), some 3, none⟩])
  (.ret)))⟩
theorem ok_spec_ExpDown : cmpF Try.prog Try.f47 = some c_spec_ExpDown := by kernel_rfl

/- impl.WellFunction -/
def c_impl_WellFunction : FV := ⟨67, [.tmp 2, .tmp 3],
  .seq (.ops [⟨.mov (.const (.float .f32 0)), some 2, none⟩,
    ⟨.mov (.const (.int .i64 0)), some 3, none⟩])
  (.seq (.seq (.ops [⟨.mov (.tmp 0), some 11, none⟩,
    ⟨.fbin .geq (.tmp 11) (.const (.float .f32 562036736)), some 12, none⟩,
    ⟨.un .not (.tmp 12), some 13, none⟩,
    ⟨.mov (.tmp 13), some 14, none⟩,
    ⟨.mov (.tmp 0), some 15, some (14, false)⟩,
    ⟨.fbin .gtr (.tmp 15) (.const (.float .f32 1117782016)), some 16, some (14, false)⟩,
    ⟨.pick (.tmp 14) (.const (.bool true)) (.tmp 16), some 17, none⟩])
  (.cond (.tmp 17) (.seq (.ops [⟨.mov (.const (.float .f32 0)), some 2, none⟩,
    ⟨.mov (.const (.int .i64 2)), some 3, none⟩])
  (.ret)) (.skip)))
  (.seq (.seq (.ops [⟨.mov (.tmp 0), some 18, none⟩,
    ⟨.fbin .leq (.tmp 18) (.const (.float .f32 1065353216)), some 19, none⟩])
  (.cond (.tmp 19) (.seq (.ops [⟨.mov (.tmp 0), some 20, none⟩,
    ⟨.fbin .mul (.tmp 20) (.const (.float .f32 987395086)), some 21, none⟩,
    ⟨.fbin .sub (.tmp 21) (.const (.float .f32 1009429163)), some 22, none⟩,
    ⟨.mov (.tmp 22), some 4, none⟩])
  (.seq (.ops [⟨.mov (.tmp 4), some 23, none⟩,
    ⟨.mov (.tmp 0), some 24, none⟩,
    ⟨.fbin .mul (.tmp 23) (.tmp 24), some 25, none⟩,
    ⟨.fbin .add (.tmp 25) (.const (.float .f32 1029934649)), some 26, none⟩,
    ⟨.mov (.tmp 26), some 4, none⟩])
  (.seq (.ops [⟨.mov (.tmp 4), some 27, none⟩,
    ⟨.mov (.tmp 0), some 28, none⟩,
    ⟨.fbin .mul (.tmp 27) (.tmp 28), some 29, none⟩,
    ⟨.fbin .sub (.tmp 29) (.const (.float .f32 1048576000)), some 30, none⟩,
    ⟨.mov (.tmp 30), some 4, none⟩])
  (.seq (.ops [⟨.mov (.tmp 4), some 31, none⟩,
    ⟨.mov (.tmp 0), some 32, none⟩,
    ⟨.fbin .mul (.tmp 31) (.tmp 32), some 33, none⟩,
    ⟨.fbin .add (.tmp 33) (.const (.float .f32 1065353216)), some 34, none⟩,
    ⟨.mov (.tmp 34), some 4, none⟩])
  (.seq (.ops [⟨.mov (.tmp 0), some 36, none⟩,
    ⟨.call 44 [.tmp 36], some 37, none⟩,
    ⟨.mov (.tmp 37), some 35, none⟩,
    ⟨.ext (.tmp 35) 0, some 38, none⟩,
    ⟨.ext (.tmp 35) 1, some 39, none⟩,
    ⟨.mov (.tmp 38), some 5, none⟩,
    ⟨.mov (.tmp 39), some 6, none⟩])
  (.seq (.ops [⟨.mov (.tmp 5), some 40, none⟩,
    ⟨.fbin .sub (.const (.float .f32 3205743720)) (.tmp 40), some 41, none⟩,
    ⟨.mov (.tmp 4), some 42, none⟩,
    ⟨.mov (.tmp 0), some 43, none⟩,
    ⟨.fbin .mul (.tmp 42) (.tmp 43), some 44, none⟩,
    ⟨.fbin .add (.tmp 41) (.tmp 44), some 45, none⟩,
    ⟨.mov (.tmp 45), some 2, none⟩,
    ⟨.mov (.const (.int .i64 0)), some 3, none⟩])
  (.ret))))))) (.skip)))
  (.seq (.ops [⟨.mov (.tmp 0), some 46, none⟩,
    ⟨.mov (.tmp 46), some 7, none⟩])
  (.seq (.seq (.ops [⟨.mov (.const (.float .f32 1090519040)), some 8, none⟩])
  (.block 0 (.loop (.seq (.seq (.ops [⟨.mov (.tmp 8), some 47, none⟩,
    ⟨.fbin .geq (.tmp 47) (.const (.float .f32 1065353216)), some 48, none⟩])
  (.cond (.tmp 48) (.skip) (.exit 0)))
  (.seq (.block 1 (.ops [⟨.mov (.tmp 0), some 51, none⟩,
    ⟨.mov (.tmp 8), some 52, none⟩,
    ⟨.mov (.tmp 8), some 53, none⟩,
    ⟨.mov (.tmp 7), some 54, none⟩,
    ⟨.fbin .quo (.tmp 53) (.tmp 54), some 55, none⟩,
    ⟨.fbin .add (.const (.float .f32 1065353216)) (.tmp 55), some 56, none⟩,
    ⟨.fbin .quo (.tmp 52) (.tmp 56), some 57, none⟩,
    ⟨.fbin .add (.tmp 51) (.tmp 57), some 58, none⟩,
    ⟨.mov (.tmp 58), some 7, none⟩]))
  (.ops [⟨.mov (.tmp 8), some 49, none⟩,
    ⟨.fbin .sub (.tmp 49) (.const (.float .f32 1065353216)), some 50, none⟩,
    ⟨.mov (.tmp 50), some 8, none⟩]))))))
  (.seq (.ops [⟨.mov (.tmp 0), some 60, none⟩,
    ⟨.call 45 [.tmp 60], some 61, none⟩,
    ⟨.mov (.tmp 61), some 59, none⟩,
    ⟨.ext (.tmp 59) 0, some 62, none⟩,
    ⟨.ext (.tmp 59) 1, some 63, none⟩,
    ⟨.mov (.tmp 62), some 9, none⟩,
    ⟨.mov (.tmp 63), some 10, none⟩])
  (.seq (.ops [⟨.mov (.tmp 9), some 64, none⟩,
    ⟨.mov (.tmp 7), some 65, none⟩,
    ⟨.fbin .quo (.tmp 64) (.tmp 65), some 66, none⟩,
    ⟨.mov (.tmp 66), some 2, none⟩,
    ⟨.mov (.const (.int .i64 0)), some 3, none⟩])
  (.ret)))))))⟩
theorem ok_impl_WellFunction : cmpF Try.prog Try.f48 = some c_impl_WellFunction := by kernel_rfl

/- spec.WellFunction -/
def c_spec_WellFunction : FV := ⟨13, [.tmp 2, .tmp 3],
  .seq (.ops [⟨.mov (.const (.float .f32 0)), some 2, none⟩,
    ⟨.mov (.const (.int .i64 0)), some 3, none⟩])
  (.seq (.seq (.ops [⟨.mov (.tmp 0), some 4, none⟩,
    ⟨.fbin .geq (.tmp 4) (.const (.float .f32 562036736)), some 5, none⟩,
    ⟨.mov (.tmp 5), some 6, none⟩,
    ⟨.mov (.tmp 0), some 7, some (6, true)⟩,
    ⟨.fbin .leq (.tmp 7) (.const (.float .f32 1117782016)), some 8, some (6, true)⟩,
    ⟨.pick (.tmp 6) (.tmp 8) (.const (.bool false)), some 9, none⟩,
    ⟨.un .not (.tmp 9), some 10, none⟩])
  (.cond (.tmp 10) (.seq (.ops [⟨.mov (.const (.float .f32 0)), some 2, none⟩,
    ⟨.mov (.const (.int .i64 2)), some 3, none⟩])
  (.ret)) (.skip)))
  (.seq (.ops [⟨.mov (.tmp 0), some 11, none⟩,
    ⟨.call 105 [.tmp 11], some 12, none⟩,
    ⟨.mov (.tmp 12), some 2, none⟩,
    ⟨.mov (.const (.int .i64 0)), some 3, none⟩])
  (.ret)))⟩
theorem ok_spec_WellFunction : cmpF Try.prog Try.f49 = some c_spec_WellFunction := by kernel_rfl

/- spec.ValidWell -/
def c_spec_ValidWell : FV := ⟨5, [.tmp 2],
  .seq (.ops [⟨.box 53 (.tmp 0), some 1, none⟩,
    ⟨.mov (.const (.bool false)), some 2, none⟩])
  (.seq (.ops [⟨.load (some 3) (.tmp 1), some 3, none⟩,
    ⟨.call 106 [.tmp 3], some 4, none⟩,
    ⟨.mov (.tmp 4), some 2, none⟩])
  (.ret))⟩
theorem ok_spec_ValidWell : cmpF Try.prog Try.f50 = some c_spec_ValidWell := by kernel_rfl

/- laws.toWell -/
def c_laws_toWell : FV := ⟨14, [.cell 2 (some 3)],
  .seq (.ops [⟨.box 51 (.tmp 0), some 1, none⟩,
    ⟨.alloc 53 (.agg (#[.int .i8 0, .int .i8 0, .float .f32 0])), some 2, none⟩])
  (.seq (.ops [⟨.alloc 53 (.agg (#[.int .i8 0, .int .i8 0, .float .f32 0])), some 3, none⟩])
  (.seq (.ops [⟨.addr (.tmp 1) 0, some 4, none⟩,
    ⟨.load none (.tmp 4), some 5, none⟩,
    ⟨.addr (.tmp 3) 0, some 6, none⟩,
    ⟨.store 1 (.tmp 6) (.tmp 5), none, none⟩])
  (.seq (.ops [⟨.addr (.tmp 1) 1, some 7, none⟩,
    ⟨.load none (.tmp 7), some 8, none⟩,
    ⟨.addr (.tmp 3) 1, some 9, none⟩,
    ⟨.store 1 (.tmp 9) (.tmp 8), none, none⟩])
  (.seq (.ops [⟨.addr (.tmp 1) 2, some 10, none⟩,
    ⟨.load none (.tmp 10), some 11, none⟩,
    ⟨.addr (.tmp 3) 2, some 12, none⟩,
    ⟨.store 1 (.tmp 12) (.tmp 11), none, none⟩])
  (.seq (.ops [⟨.load (some 3) (.tmp 3), some 13, none⟩,
    ⟨.store 3 (.tmp 2) (.tmp 13), none, none⟩])
  (.ret))))))⟩
theorem ok_laws_toWell : cmpF Try.prog Try.f51 = some c_laws_toWell := by kernel_rfl

/- impl.ValidWell -/
def c_impl_ValidWell : FV := ⟨18, [.tmp 2],
  .seq (.ops [⟨.box 53 (.tmp 0), some 1, none⟩,
    ⟨.mov (.const (.bool false)), some 2, none⟩])
  (.seq (.ops [⟨.addr (.tmp 1) 0, some 3, none⟩,
    ⟨.load none (.tmp 3), some 4, none⟩,
    ⟨.convI .i64 (.tmp 4), some 5, none⟩,
    ⟨.call 107 [.tmp 5], some 6, none⟩,
    ⟨.mov (.tmp 6), some 7, none⟩,
    ⟨.addr (.tmp 1) 1, some 8, some (7, true)⟩,
    ⟨.load none (.tmp 8), some 9, some (7, true)⟩,
    ⟨.convI .i64 (.tmp 9), some 10, some (7, true)⟩,
    ⟨.call 107 [.tmp 10], some 11, some (7, true)⟩,
    ⟨.pick (.tmp 7) (.tmp 11) (.const (.bool false)), some 12, none⟩,
    ⟨.mov (.tmp 12), some 13, none⟩,
    ⟨.addr (.tmp 1) 2, some 14, some (13, true)⟩,
    ⟨.load none (.tmp 14), some 15, some (13, true)⟩,
    ⟨.call 30 [.tmp 15], some 16, some (13, true)⟩,
    ⟨.pick (.tmp 13) (.tmp 16) (.const (.bool false)), some 17, none⟩,
    ⟨.mov (.tmp 17), some 2, none⟩])
  (.ret))⟩
theorem ok_impl_ValidWell : cmpF Try.prog Try.f52 = some c_impl_ValidWell := by kernel_rfl

/- spec.JointOf -/
def c_spec_JointOf : FV := ⟨8, [.tmp 4],
  .seq (.ops [⟨.mov (.const (.float .f32 0)), some 4, none⟩])
  (.seq (.ops [⟨.mov (.tmp 0), some 5, none⟩,
    ⟨.mov (.tmp 1), some 6, none⟩,
    ⟨.call 108 [.tmp 5, .tmp 6], some 7, none⟩,
    ⟨.mov (.tmp 7), some 4, none⟩])
  (.ret))⟩
theorem ok_spec_JointOf : cmpF Try.prog Try.f53 = some c_spec_JointOf := by kernel_rfl

/- impl.JointOf -/
def c_impl_JointOf : FV := ⟨21, [.tmp 4],
  .seq (.ops [⟨.mov (.const (.float .f32 0)), some 4, none⟩])
  (.seq (.seq (.ops [⟨.mov (.tmp 0), some 5, none⟩,
    ⟨.fbin .gtr (.tmp 5) (.const (.float .f32 0)), some 6, none⟩,
    ⟨.un .not (.tmp 6), some 7, none⟩,
    ⟨.mov (.tmp 7), some 8, none⟩,
    ⟨.mov (.tmp 1), some 9, some (8, false)⟩,
    ⟨.fbin .gtr (.tmp 9) (.const (.float .f32 0)), some 10, some (8, false)⟩,
    ⟨.un .not (.tmp 10), some 11, some (8, false)⟩,
    ⟨.pick (.tmp 8) (.const (.bool true)) (.tmp 11), some 12, none⟩])
  (.cond (.tmp 12) (.seq (.ops [⟨.mov (.const (.float .f32 0)), some 4, none⟩])
  (.ret)) (.skip)))
  (.seq (.ops [⟨.mov (.tmp 0), some 13, none⟩,
    ⟨.mov (.tmp 1), some 14, none⟩,
    ⟨.fbin .mul (.tmp 13) (.tmp 14), some 15, none⟩,
    ⟨.fbin .mul (.const (.float .f32 1073741824)) (.tmp 15), some 16, none⟩,
    ⟨.mov (.tmp 0), some 17, none⟩,
    ⟨.mov (.tmp 1), some 18, none⟩,
    ⟨.fbin .add (.tmp 17) (.tmp 18), some 19, none⟩,
    ⟨.fbin .quo (.tmp 16) (.tmp 19), some 20, none⟩,
    ⟨.mov (.tmp 20), some 4, none⟩])
  (.ret)))⟩
theorem ok_impl_JointOf : cmpF Try.prog Try.f54 = some c_impl_JointOf := by kernel_rfl

/- spec.ValidSite -/
def c_spec_ValidSite : FV := ⟨5, [.tmp 2],
  .seq (.ops [⟨.box 61 (.tmp 0), some 1, none⟩,
    ⟨.mov (.const (.bool false)), some 2, none⟩])
  (.seq (.ops [⟨.load (some 5) (.tmp 1), some 3, none⟩,
    ⟨.call 109 [.tmp 3], some 4, none⟩,
    ⟨.mov (.tmp 4), some 2, none⟩])
  (.ret))⟩
theorem ok_spec_ValidSite : cmpF Try.prog Try.f55 = some c_spec_ValidSite := by kernel_rfl

/- laws.toSite -/
def c_laws_toSite : FV := ⟨15, [.cell 2 (some 5)],
  .seq (.ops [⟨.box 58 (.tmp 0), some 1, none⟩,
    ⟨.alloc 61 (.agg (#[.int .i8 0, .int .i8 0, .float .f32 0, .int .i8 0, .int .i8 0])), some 2, none⟩])
  (.seq (.ops [⟨.alloc 61 (.agg (#[.int .i8 0, .int .i8 0, .float .f32 0, .int .i8 0, .int .i8 0])), some 3, none⟩])
  (.seq (.ops [⟨.addr (.tmp 1) 0, some 4, none⟩,
    ⟨.load (some 3) (.tmp 4), some 5, none⟩,
    ⟨.call 51 [.tmp 5], some 6, none⟩,
    ⟨.addr (.tmp 3) 0, some 7, none⟩,
    ⟨.store 3 (.tmp 7) (.tmp 6), none, none⟩])
  (.seq (.ops [⟨.addr (.tmp 1) 3, some 8, none⟩,
    ⟨.load none (.tmp 8), some 9, none⟩,
    ⟨.addr (.tmp 3) 3, some 10, none⟩,
    ⟨.store 1 (.tmp 10) (.tmp 9), none, none⟩])
  (.seq (.ops [⟨.addr (.tmp 1) 4, some 11, none⟩,
    ⟨.load none (.tmp 11), some 12, none⟩,
    ⟨.addr (.tmp 3) 4, some 13, none⟩,
    ⟨.store 1 (.tmp 13) (.tmp 12), none, none⟩])
  (.seq (.ops [⟨.load (some 5) (.tmp 3), some 14, none⟩,
    ⟨.store 5 (.tmp 2) (.tmp 14), none, none⟩])
  (.ret))))))⟩
theorem ok_laws_toSite : cmpF Try.prog Try.f56 = some c_laws_toSite := by kernel_rfl

/- impl.ValidSite -/
def c_impl_ValidSite : FV := ⟨18, [.tmp 2],
  .seq (.ops [⟨.box 61 (.tmp 0), some 1, none⟩,
    ⟨.mov (.const (.bool false)), some 2, none⟩])
  (.seq (.ops [⟨.addr (.tmp 1) 0, some 3, none⟩,
    ⟨.load (some 3) (.tmp 3), some 4, none⟩,
    ⟨.call 52 [.tmp 4], some 5, none⟩,
    ⟨.mov (.tmp 5), some 6, none⟩,
    ⟨.addr (.tmp 1) 3, some 7, some (6, true)⟩,
    ⟨.load none (.tmp 7), some 8, some (6, true)⟩,
    ⟨.convI .i64 (.tmp 8), some 9, some (6, true)⟩,
    ⟨.call 107 [.tmp 9], some 10, some (6, true)⟩,
    ⟨.pick (.tmp 6) (.tmp 10) (.const (.bool false)), some 11, none⟩,
    ⟨.mov (.tmp 11), some 12, none⟩,
    ⟨.addr (.tmp 1) 4, some 13, some (12, true)⟩,
    ⟨.load none (.tmp 13), some 14, some (12, true)⟩,
    ⟨.convI .i64 (.tmp 14), some 15, some (12, true)⟩,
    ⟨.call 107 [.tmp 15], some 16, some (12, true)⟩,
    ⟨.pick (.tmp 12) (.tmp 16) (.const (.bool false)), some 17, none⟩,
    ⟨.mov (.tmp 17), some 2, none⟩])
  (.ret))⟩
theorem ok_impl_ValidSite : cmpF Try.prog Try.f57 = some c_impl_ValidSite := by kernel_rfl

/- spec.GoneAfter -/
def c_spec_GoneAfter : FV := ⟨25, [.tmp 6, .tmp 7],
  .seq (.ops [⟨.mov (.const (.int .i64 0)), some 6, none⟩,
    ⟨.mov (.const (.int .i64 0)), some 7, none⟩])
  (.seq (.seq (.ops [⟨.mov (.tmp 0), some 9, none⟩,
    ⟨.mov (.tmp 1), some 10, none⟩,
    ⟨.mov (.tmp 2), some 11, none⟩,
    ⟨.call 110 [.tmp 9, .tmp 10, .tmp 11], some 12, none⟩,
    ⟨.un .not (.tmp 12), some 13, none⟩])
  (.cond (.tmp 13) (.seq (.ops [⟨.mov (.const (.int .i64 0)), some 6, none⟩,
    ⟨.mov (.const (.int .i64 2)), some 7, none⟩])
  (.ret)) (.skip)))
  (.seq (.seq (.ops [⟨.mov (.const (.int .i64 0)), some 8, none⟩])
  (.block 0 (.loop (.seq (.seq (.ops [⟨.mov (.tmp 8), some 14, none⟩,
    ⟨.mov (.tmp 2), some 15, none⟩,
    ⟨.bin .leq (.tmp 14) (.tmp 15), some 16, none⟩])
  (.cond (.tmp 16) (.skip) (.exit 0)))
  (.seq (.block 1 (.seq (.seq (.ops [⟨.mov (.tmp 0), some 19, none⟩,
    ⟨.fbin .eql (.tmp 19) (.const (.float .f32 0)), some 20, none⟩])
  (.cond (.tmp 20) (.seq (.ops [⟨.mov (.tmp 8), some 21, none⟩,
    ⟨.mov (.tmp 21), some 6, none⟩,
    ⟨.mov (.const (.int .i64 0)), some 7, none⟩])
  (.ret)) (.skip)))
  (.ops [⟨.mov (.tmp 0), some 22, none⟩,
    ⟨.mov (.tmp 1), some 23, none⟩,
    ⟨.fbin .mul (.tmp 22) (.tmp 23), some 24, none⟩,
    ⟨.mov (.tmp 24), some 0, none⟩])))
  (.ops [⟨.mov (.tmp 8), some 17, none⟩,
    ⟨.bin .add (.tmp 17) (.const (.int .i64 1)), some 18, none⟩,
    ⟨.mov (.tmp 18), some 8, none⟩]))))))
  (.seq (.ops [⟨.mov (.const (.int .i64 0)), some 6, none⟩,
    ⟨.mov (.const (.int .i64 7)), some 7, none⟩])
  (.ret))))⟩
theorem ok_spec_GoneAfter : cmpF Try.prog Try.f58 = some c_spec_GoneAfter := by kernel_rfl

/- impl.GoneAfter -/
def c_impl_GoneAfter : FV := ⟨26, [.tmp 6, .tmp 7],
  .seq (.ops [⟨.mov (.const (.int .i64 0)), some 6, none⟩,
    ⟨.mov (.const (.int .i64 0)), some 7, none⟩])
  (.seq (.seq (.ops [⟨.mov (.tmp 0), some 9, none⟩,
    ⟨.mov (.tmp 1), some 10, none⟩,
    ⟨.mov (.tmp 2), some 11, none⟩,
    ⟨.call 111 [.tmp 9, .tmp 10, .tmp 11], some 12, none⟩,
    ⟨.un .not (.tmp 12), some 13, none⟩])
  (.cond (.tmp 13) (.seq (.ops [⟨.mov (.const (.int .i64 0)), some 6, none⟩,
    ⟨.mov (.const (.int .i64 2)), some 7, none⟩])
  (.ret)) (.skip)))
  (.seq (.seq (.ops [⟨.mov (.tmp 2), some 14, none⟩,
    ⟨.bin .add (.tmp 14) (.const (.int .i64 1)), some 15, none⟩,
    ⟨.mov (.const (.int .i64 0)), some 16, none⟩])
  (.block 0 (.loop (.seq (.ops [⟨.bin .lss (.tmp 16) (.tmp 15), some 17, none⟩])
  (.seq (.cond (.tmp 17) (.skip) (.exit 0))
  (.seq (.block 1 (.seq (.ops [⟨.mov (.tmp 16), some 18, none⟩,
    ⟨.mov (.tmp 18), some 8, none⟩])
  (.seq (.seq (.ops [⟨.mov (.tmp 0), some 19, none⟩,
    ⟨.fbin .eql (.tmp 19) (.const (.float .f32 0)), some 20, none⟩])
  (.cond (.tmp 20) (.seq (.ops [⟨.mov (.tmp 8), some 21, none⟩,
    ⟨.mov (.tmp 21), some 6, none⟩,
    ⟨.mov (.const (.int .i64 0)), some 7, none⟩])
  (.ret)) (.skip)))
  (.ops [⟨.mov (.tmp 0), some 22, none⟩,
    ⟨.mov (.tmp 1), some 23, none⟩,
    ⟨.fbin .mul (.tmp 22) (.tmp 23), some 24, none⟩,
    ⟨.mov (.tmp 24), some 0, none⟩]))))
  (.ops [⟨.bin .add (.tmp 16) (.const (.int .i64 1)), some 25, none⟩,
    ⟨.mov (.tmp 25), some 16, none⟩])))))))
  (.seq (.ops [⟨.mov (.const (.int .i64 0)), some 6, none⟩,
    ⟨.mov (.const (.int .i64 7)), some 7, none⟩])
  (.ret))))⟩
theorem ok_impl_GoneAfter : cmpF Try.prog Try.f59 = some c_impl_GoneAfter := by kernel_rfl

/- spec.DecayedNumber -/
def c_spec_DecayedNumber : FV := ⟨17, [.tmp 6, .tmp 7],
  .seq (.ops [⟨.mov (.const (.float .f32 0)), some 6, none⟩,
    ⟨.mov (.const (.int .i64 0)), some 7, none⟩])
  (.seq (.seq (.ops [⟨.mov (.tmp 0), some 8, none⟩,
    ⟨.mov (.tmp 1), some 9, none⟩,
    ⟨.mov (.tmp 2), some 10, none⟩,
    ⟨.call 110 [.tmp 8, .tmp 9, .tmp 10], some 11, none⟩,
    ⟨.un .not (.tmp 11), some 12, none⟩])
  (.cond (.tmp 12) (.seq (.ops [⟨.mov (.const (.float .f32 0)), some 6, none⟩,
    ⟨.mov (.const (.int .i64 2)), some 7, none⟩])
  (.ret)) (.skip)))
  (.seq (.ops [⟨.mov (.tmp 0), some 13, none⟩,
    ⟨.mov (.tmp 1), some 14, none⟩,
    ⟨.mov (.tmp 2), some 15, none⟩,
    ⟨.call 112 [.tmp 13, .tmp 14, .tmp 15], some 16, none⟩,
    ⟨.mov (.tmp 16), some 6, none⟩,
    ⟨.mov (.const (.int .i64 0)), some 7, none⟩])
  (.ret)))⟩
theorem ok_spec_DecayedNumber : cmpF Try.prog Try.f60 = some c_spec_DecayedNumber := by kernel_rfl

/- impl.DecayedNumber -/
def c_impl_DecayedNumber : FV := ⟨17, [.tmp 6, .tmp 7],
  .seq (.ops [⟨.mov (.const (.float .f32 0)), some 6, none⟩,
    ⟨.mov (.const (.int .i64 0)), some 7, none⟩])
  (.seq (.seq (.ops [⟨.mov (.tmp 0), some 8, none⟩,
    ⟨.mov (.tmp 1), some 9, none⟩,
    ⟨.mov (.tmp 2), some 10, none⟩,
    ⟨.call 111 [.tmp 8, .tmp 9, .tmp 10], some 11, none⟩,
    ⟨.un .not (.tmp 11), some 12, none⟩])
  (.cond (.tmp 12) (.seq (.ops [⟨.mov (.const (.float .f32 0)), some 6, none⟩,
    ⟨.mov (.const (.int .i64 2)), some 7, none⟩])
  (.ret)) (.skip)))
  (.seq (.ops [⟨.mov (.tmp 0), some 13, none⟩,
    ⟨.mov (.tmp 1), some 14, none⟩,
    ⟨.mov (.tmp 2), some 15, none⟩,
    ⟨.call 113 [.tmp 13, .tmp 14, .tmp 15], some 16, none⟩,
    ⟨.mov (.tmp 16), some 6, none⟩,
    ⟨.mov (.const (.int .i64 0)), some 7, none⟩])
  (.ret)))⟩
theorem ok_impl_DecayedNumber : cmpF Try.prog Try.f61 = some c_impl_DecayedNumber := by kernel_rfl

/- spec.TransmitOf -/
def c_spec_TransmitOf : FV := ⟨28, [.tmp 4, .tmp 5],
  .seq (.ops [⟨.box 61 (.tmp 0), some 2, none⟩,
    ⟨.mov (.const (.float .f32 0)), some 4, none⟩,
    ⟨.mov (.const (.int .i64 0)), some 5, none⟩])
  (.seq (.seq (.ops [⟨.load (some 5) (.tmp 2), some 8, none⟩,
    ⟨.call 109 [.tmp 8], some 9, none⟩,
    ⟨.un .not (.tmp 9), some 10, none⟩])
  (.cond (.tmp 10) (.seq (.ops [⟨.mov (.const (.float .f32 0)), some 4, none⟩,
    ⟨.mov (.const (.int .i64 1)), some 5, none⟩])
  (.ret)) (.skip)))
  (.seq (.ops [⟨.mov (.const (.float .f32 1095307227)), some 6, none⟩])
  (.seq (.ops [⟨.mov (.tmp 6), some 11, none⟩,
    ⟨.mov (.tmp 1), some 12, none⟩,
    ⟨.fbin .mul (.tmp 11) (.tmp 12), some 13, none⟩,
    ⟨.mov (.tmp 13), some 6, none⟩])
  (.seq (.ops [⟨.addr (.tmp 2) 0, some 14, none⟩,
    ⟨.addr (.tmp 14) 2, some 15, none⟩,
    ⟨.load none (.tmp 15), some 16, none⟩,
    ⟨.mov (.tmp 6), some 17, none⟩,
    ⟨.fbin .quo (.tmp 16) (.tmp 17), some 18, none⟩,
    ⟨.mov (.tmp 18), some 7, none⟩])
  (.seq (.seq (.ops [⟨.mov (.tmp 7), some 19, none⟩,
    ⟨.call 114 [.const (.int .i64 1), .const (.int .i64 1024)], some 20, none⟩,
    ⟨.fbin .geq (.tmp 19) (.tmp 20), some 21, none⟩,
    ⟨.mov (.tmp 21), some 22, none⟩,
    ⟨.mov (.tmp 7), some 23, some (22, true)⟩,
    ⟨.fbin .leq (.tmp 23) (.const (.float .f32 1233125376)), some 24, some (22, true)⟩,
    ⟨.pick (.tmp 22) (.tmp 24) (.const (.bool false)), some 25, none⟩,
    ⟨.un .not (.tmp 25), some 26, none⟩])
  (.cond (.tmp 26) (.seq (.ops [⟨.mov (.const (.float .f32 0)), some 4, none⟩,
    ⟨.mov (.const (.int .i64 4)), some 5, none⟩])
  (.ret)) (.skip)))
  (.seq (.ops [⟨.mov (.tmp 7), some 27, none⟩,
    ⟨.mov (.tmp 27), some 4, none⟩,
    ⟨.mov (.const (.int .i64 0)), some 5, none⟩])
  (.ret)))))))⟩
theorem ok_spec_TransmitOf : cmpF Try.prog Try.f62 = some c_spec_TransmitOf := by kernel_rfl

/- impl.TransmitOf -/
def c_impl_TransmitOf : FV := ⟨25, [.tmp 4, .tmp 5],
  .seq (.ops [⟨.box 61 (.tmp 0), some 2, none⟩,
    ⟨.mov (.const (.float .f32 0)), some 4, none⟩,
    ⟨.mov (.const (.int .i64 0)), some 5, none⟩])
  (.seq (.seq (.ops [⟨.load (some 5) (.tmp 2), some 7, none⟩,
    ⟨.call 57 [.tmp 7], some 8, none⟩,
    ⟨.un .not (.tmp 8), some 9, none⟩])
  (.cond (.tmp 9) (.seq (.ops [⟨.mov (.const (.float .f32 0)), some 4, none⟩,
    ⟨.mov (.const (.int .i64 1)), some 5, none⟩])
  (.ret)) (.skip)))
  (.seq (.dops [⟨.addr (.tmp 2) 0, some 10, none⟩,
    ⟨.addr (.tmp 10) 2, some 11, none⟩,
    ⟨.load none (.tmp 11), some 12, none⟩,
    ⟨.call 115 [], some 13, none⟩,
    ⟨.mov (.tmp 1), some 14, none⟩,
    ⟨.fbin .mul (.tmp 13) (.tmp 14), some 15, none⟩,
    ⟨.fbin .quo (.tmp 12) (.tmp 15), some 16, none⟩,
    ⟨.mov (.tmp 16), some 6, none⟩])
  (.seq (.seq (.ops [⟨.mov (.tmp 6), some 17, none⟩,
    ⟨.fbin .geq (.tmp 17) (.const (.float .f32 981467136)), some 18, none⟩,
    ⟨.un .not (.tmp 18), some 19, none⟩,
    ⟨.mov (.tmp 19), some 20, none⟩,
    ⟨.mov (.tmp 6), some 21, some (20, false)⟩,
    ⟨.fbin .gtr (.tmp 21) (.const (.float .f32 1233125376)), some 22, some (20, false)⟩,
    ⟨.pick (.tmp 20) (.const (.bool true)) (.tmp 22), some 23, none⟩])
  (.cond (.tmp 23) (.seq (.ops [⟨.mov (.const (.float .f32 0)), some 4, none⟩,
    ⟨.mov (.const (.int .i64 4)), some 5, none⟩])
  (.ret)) (.skip)))
  (.seq (.ops [⟨.mov (.tmp 6), some 24, none⟩,
    ⟨.mov (.tmp 24), some 4, none⟩,
    ⟨.mov (.const (.int .i64 0)), some 5, none⟩])
  (.ret)))))⟩
theorem ok_impl_TransmitOf : cmpF Try.prog Try.f63 = some c_impl_TransmitOf := by kernel_rfl

/- laws.szReadingS -/
def c_laws_szReadingS : FV := ⟨12, [.tmp 4],
  .seq (.ops [⟨.mov (.const (.int .i64 0)), some 4, none⟩])
  (.seq (.ops [⟨.mov (.tmp 1), some 5, none⟩,
    ⟨.mov (.tmp 0), some 6, none⟩,
    ⟨.lenL (.tmp 6), some 7, none⟩,
    ⟨.bin .sub (.tmp 5) (.tmp 7), some 8, none⟩,
    ⟨.mov (.tmp 8), some 1, none⟩])
  (.seq (.seq (.ops [⟨.mov (.tmp 1), some 9, none⟩,
    ⟨.bin .lss (.tmp 9) (.const (.int .i64 0)), some 10, none⟩])
  (.cond (.tmp 10) (.seq (.ops [⟨.mov (.const (.int .i64 (-1))), some 4, none⟩])
  (.ret)) (.skip)))
  (.seq (.ops [⟨.mov (.tmp 1), some 11, none⟩,
    ⟨.mov (.tmp 11), some 4, none⟩])
  (.ret))))⟩
theorem ok_laws_szReadingS : cmpF Try.prog Try.f64 = some c_laws_szReadingS := by kernel_rfl

/- impl.SameReadings -/
def c_impl_SameReadings : FV := ⟨8, [.tmp 4],
  .seq (.ops [⟨.mov (.const (.bool false)), some 4, none⟩])
  (.seq (.ops [⟨.mov (.tmp 0), some 5, none⟩,
    ⟨.mov (.tmp 1), some 6, none⟩,
    ⟨.call 116 [.tmp 5, .tmp 6], some 7, none⟩,
    ⟨.mov (.tmp 7), some 4, none⟩])
  (.ret))⟩
theorem ok_impl_SameReadings : cmpF Try.prog Try.f67 = some c_impl_SameReadings := by kernel_rfl

/- laws.eqReadingS -/
def c_laws_eqReadingS : FV := ⟨27, [.tmp 4],
  .seq (.ops [⟨.mov (.const (.bool false)), some 4, none⟩])
  (.seq (.seq (.ops [⟨.mov (.tmp 0), some 6, none⟩,
    ⟨.lenL (.tmp 6), some 7, none⟩,
    ⟨.mov (.tmp 1), some 8, none⟩,
    ⟨.lenL (.tmp 8), some 9, none⟩,
    ⟨.bin .neq (.tmp 7) (.tmp 9), some 10, none⟩])
  (.cond (.tmp 10) (.seq (.ops [⟨.mov (.const (.bool false)), some 4, none⟩])
  (.ret)) (.skip)))
  (.seq (.seq (.ops [⟨.mov (.const (.int .i64 0)), some 5, none⟩])
  (.block 0 (.loop (.seq (.seq (.ops [⟨.mov (.tmp 5), some 11, none⟩,
    ⟨.mov (.tmp 0), some 12, none⟩,
    ⟨.lenL (.tmp 12), some 13, none⟩,
    ⟨.bin .lss (.tmp 11) (.tmp 13), some 14, none⟩])
  (.cond (.tmp 14) (.skip) (.exit 0)))
  (.seq (.block 1 (.seq (.bops [⟨.mov (.tmp 0), some 17, none⟩,
    ⟨.mov (.tmp 5), some 18, none⟩,
    ⟨.idxS 2 (.tmp 17) (.tmp 18), some 19, none⟩,
    ⟨.load (some 2) (.tmp 19), some 20, none⟩,
    ⟨.mov (.tmp 1), some 21, none⟩,
    ⟨.mov (.tmp 5), some 22, none⟩,
    ⟨.idxS 2 (.tmp 21) (.tmp 22), some 23, none⟩,
    ⟨.load (some 2) (.tmp 23), some 24, none⟩,
    ⟨.call 117 [.tmp 20, .tmp 24], some 25, none⟩,
    ⟨.un .not (.tmp 25), some 26, none⟩])
  (.cond (.tmp 26) (.seq (.ops [⟨.mov (.const (.bool false)), some 4, none⟩])
  (.ret)) (.skip))))
  (.ops [⟨.mov (.tmp 5), some 15, none⟩,
    ⟨.bin .add (.tmp 15) (.const (.int .i64 1)), some 16, none⟩,
    ⟨.mov (.tmp 16), some 5, none⟩]))))))
  (.seq (.ops [⟨.mov (.const (.bool true)), some 4, none⟩])
  (.ret))))⟩
theorem ok_laws_eqReadingS : cmpF Try.prog Try.f68 = some c_laws_eqReadingS := by kernel_rfl

/- spec.ImageOf -/
def c_spec_ImageOf : FV := ⟨22, [.cell 6 (some 3), .tmp 7],
  .seq (.ops [⟨.box 53 (.tmp 0), some 3, none⟩,
    ⟨.alloc 53 (.agg (#[.int .i8 0, .int .i8 0, .float .f32 0])), some 6, none⟩,
    ⟨.mov (.const (.int .i64 0)), some 7, none⟩])
  (.seq (.seq (.ops [⟨.load (some 3) (.tmp 3), some 8, none⟩,
    ⟨.call 106 [.tmp 8], some 9, none⟩,
    ⟨.un .not (.tmp 9), some 10, none⟩])
  (.cond (.tmp 10) (.seq (.ops [⟨.build [(0, 1), (1, 1), (2, 1)] (#[.int .i8 0, .int .i8 0, .float .f32 0]) [], some 11, none⟩,
    ⟨.store 3 (.tmp 6) (.tmp 11), none, none⟩,
    ⟨.mov (.const (.int .i64 1)), some 7, none⟩])
  (.ret)) (.skip)))
  (.seq (.seq (.ops [⟨.mov (.tmp 1), some 12, none⟩,
    ⟨.call 95 [.tmp 12, .const (.int .i64 (-400)), .const (.int .i64 400)], some 13, none⟩,
    ⟨.un .not (.tmp 13), some 14, none⟩])
  (.cond (.tmp 14) (.seq (.ops [⟨.build [(0, 1), (1, 1), (2, 1)] (#[.int .i8 0, .int .i8 0, .float .f32 0]) [], some 15, none⟩,
    ⟨.store 3 (.tmp 6) (.tmp 15), none, none⟩,
    ⟨.mov (.const (.int .i64 2)), some 7, none⟩])
  (.ret)) (.skip)))
  (.seq (.ops [⟨.load (some 3) (.tmp 3), some 16, none⟩,
    ⟨.mov (.tmp 1), some 17, none⟩,
    ⟨.mov (.tmp 2), some 18, none⟩,
    ⟨.call 118 [.tmp 16, .tmp 17, .tmp 18], some 19, none⟩,
    ⟨.ext (.tmp 19) 0, some 20, none⟩,
    ⟨.ext (.tmp 19) 1, some 21, none⟩,
    ⟨.store 3 (.tmp 6) (.tmp 20), none, none⟩,
    ⟨.mov (.tmp 21), some 7, none⟩])
  (.ret))))⟩
theorem ok_spec_ImageOf : cmpF Try.prog Try.f69 = some c_spec_ImageOf := by kernel_rfl

/- impl.ImageOf -/
def c_impl_ImageOf : FV := ⟨36, [.cell 6 (some 3), .tmp 7],
  .seq (.ops [⟨.box 53 (.tmp 0), some 3, none⟩,
    ⟨.alloc 53 (.agg (#[.int .i8 0, .int .i8 0, .float .f32 0])), some 6, none⟩,
    ⟨.mov (.const (.int .i64 0)), some 7, none⟩])
  (.seq (.seq (.ops [⟨.load (some 3) (.tmp 3), some 9, none⟩,
    ⟨.call 52 [.tmp 9], some 10, none⟩,
    ⟨.un .not (.tmp 10), some 11, none⟩])
  (.cond (.tmp 11) (.seq (.ops [⟨.build [(0, 1), (1, 1), (2, 1)] (#[.int .i8 0, .int .i8 0, .float .f32 0]) [], some 12, none⟩,
    ⟨.store 3 (.tmp 6) (.tmp 12), none, none⟩,
    ⟨.mov (.const (.int .i64 1)), some 7, none⟩])
  (.ret)) (.skip)))
  (.seq (.ops [⟨.mov (.tmp 1), some 13, none⟩,
    ⟨.addr (.tmp 3) 0, some 14, none⟩,
    ⟨.load none (.tmp 14), some 15, none⟩,
    ⟨.convI .i64 (.tmp 15), some 16, none⟩,
    ⟨.bin .sub (.tmp 13) (.tmp 16), some 17, none⟩,
    ⟨.mov (.tmp 17), some 8, none⟩])
  (.seq (.seq (.ops [⟨.mov (.tmp 1), some 18, none⟩,
    ⟨.call 96 [.tmp 18, .const (.int .i64 (-400)), .const (.int .i64 400)], some 19, none⟩,
    ⟨.un .not (.tmp 19), some 20, none⟩,
    ⟨.mov (.tmp 20), some 21, none⟩,
    ⟨.mov (.tmp 8), some 22, some (21, false)⟩,
    ⟨.call 107 [.tmp 22], some 23, some (21, false)⟩,
    ⟨.un .not (.tmp 23), some 24, some (21, false)⟩,
    ⟨.pick (.tmp 21) (.const (.bool true)) (.tmp 24), some 25, none⟩])
  (.cond (.tmp 25) (.seq (.ops [⟨.build [(0, 1), (1, 1), (2, 1)] (#[.int .i8 0, .int .i8 0, .float .f32 0]) [], some 26, none⟩,
    ⟨.store 3 (.tmp 6) (.tmp 26), none, none⟩,
    ⟨.mov (.const (.int .i64 2)), some 7, none⟩])
  (.ret)) (.skip)))
  (.seq (.seq (.ops [⟨.mov (.tmp 8), some 27, none⟩,
    ⟨.convI .i8 (.tmp 27), some 28, none⟩,
    ⟨.addr (.tmp 3) 0, some 29, none⟩,
    ⟨.store 1 (.tmp 29) (.tmp 28), none, none⟩])
  (.seq (.ops [⟨.mov (.tmp 2), some 30, none⟩])
  (.cond (.tmp 30) (.ops [⟨.addr (.tmp 3) 2, some 31, none⟩,
    ⟨.load none (.tmp 31), some 32, none⟩,
    ⟨.un .neg (.tmp 32), some 33, none⟩,
    ⟨.addr (.tmp 3) 2, some 34, none⟩,
    ⟨.store 1 (.tmp 34) (.tmp 33), none, none⟩]) (.skip))))
  (.seq (.ops [⟨.load (some 3) (.tmp 3), some 35, none⟩,
    ⟨.store 3 (.tmp 6) (.tmp 35), none, none⟩,
    ⟨.mov (.const (.int .i64 0)), some 7, none⟩])
  (.ret))))))⟩
theorem ok_impl_ImageOf : cmpF Try.prog Try.f70 = some c_impl_ImageOf := by kernel_rfl

/- laws.eqWell -/
def c_laws_eqWell : FV := ⟨23, [.tmp 4],
  .seq (.ops [⟨.box 53 (.tmp 0), some 2, none⟩,
    ⟨.box 53 (.tmp 1), some 3, none⟩,
    ⟨.mov (.const (.bool false)), some 4, none⟩])
  (.seq (.seq (.ops [⟨.addr (.tmp 2) 0, some 5, none⟩,
    ⟨.load none (.tmp 5), some 6, none⟩,
    ⟨.addr (.tmp 3) 0, some 7, none⟩,
    ⟨.load none (.tmp 7), some 8, none⟩,
    ⟨.bin .neq (.tmp 6) (.tmp 8), some 9, none⟩])
  (.cond (.tmp 9) (.seq (.ops [⟨.mov (.const (.bool false)), some 4, none⟩])
  (.ret)) (.skip)))
  (.seq (.seq (.ops [⟨.addr (.tmp 2) 1, some 10, none⟩,
    ⟨.load none (.tmp 10), some 11, none⟩,
    ⟨.addr (.tmp 3) 1, some 12, none⟩,
    ⟨.load none (.tmp 12), some 13, none⟩,
    ⟨.bin .neq (.tmp 11) (.tmp 13), some 14, none⟩])
  (.cond (.tmp 14) (.seq (.ops [⟨.mov (.const (.bool false)), some 4, none⟩])
  (.ret)) (.skip)))
  (.seq (.seq (.ops [⟨.addr (.tmp 2) 2, some 15, none⟩,
    ⟨.load none (.tmp 15), some 16, none⟩,
    ⟨.convF .f64 (.tmp 16), some 17, none⟩,
    ⟨.addr (.tmp 3) 2, some 18, none⟩,
    ⟨.load none (.tmp 18), some 19, none⟩,
    ⟨.convF .f64 (.tmp 19), some 20, none⟩,
    ⟨.call 41 [.tmp 17, .tmp 20], some 21, none⟩,
    ⟨.un .not (.tmp 21), some 22, none⟩])
  (.cond (.tmp 22) (.seq (.ops [⟨.mov (.const (.bool false)), some 4, none⟩])
  (.ret)) (.skip)))
  (.seq (.ops [⟨.mov (.const (.bool true)), some 4, none⟩])
  (.ret)))))⟩
theorem ok_laws_eqWell : cmpF Try.prog Try.f71 = some c_laws_eqWell := by kernel_rfl

/- spec.ValidReadings -/
def c_spec_ValidReadings : FV := ⟨5, [.tmp 2],
  .seq (.ops [⟨.mov (.const (.bool false)), some 2, none⟩])
  (.seq (.ops [⟨.mov (.tmp 0), some 3, none⟩,
    ⟨.call 119 [.tmp 3], some 4, none⟩,
    ⟨.mov (.tmp 4), some 2, none⟩])
  (.ret))⟩
theorem ok_spec_ValidReadings : cmpF Try.prog Try.f72 = some c_spec_ValidReadings := by kernel_rfl

/- impl.ValidReadings -/
def c_impl_ValidReadings : FV := ⟨21, [.tmp 2],
  .seq (.ops [⟨.mov (.const (.bool false)), some 2, none⟩])
  (.seq (.ops [⟨.bslice 2 1 0 (#[.int .i64 0]) [], some 6, none⟩,
    ⟨.mov (.tmp 6), some 3, none⟩])
  (.seq (.seq (.ops [⟨.mov (.tmp 0), some 7, none⟩,
    ⟨.lenL (.tmp 7), some 8, none⟩,
    ⟨.mov (.const (.int .i64 0)), some 9, none⟩])
  (.block 0 (.loop (.seq (.ops [⟨.bin .lss (.tmp 9) (.tmp 8), some 10, none⟩])
  (.seq (.cond (.tmp 10) (.skip) (.exit 0))
  (.seq (.block 1 (.seq (.ops [⟨.idxS 2 (.tmp 7) (.tmp 9), some 11, none⟩,
    ⟨.load (some 2) (.tmp 11), some 12, none⟩,
    ⟨.alloc 38 (.agg (#[.int .i64 0, .int .i16 0])), some 5, none⟩,
    ⟨.store 2 (.tmp 5) (.tmp 12), none, none⟩])
  (.ops [⟨.mov (.tmp 3), some 13, none⟩,
    ⟨.addr (.tmp 5) 0, some 14, none⟩,
    ⟨.load none (.tmp 14), some 15, none⟩,
    ⟨.bslice 2 1 1 (#[.int .i64 0]) [(0, .tmp 15)], some 16, none⟩,
    ⟨.app 2 1 (.tmp 13) (.tmp 16), some 17, none⟩,
    ⟨.mov (.tmp 17), some 3, none⟩])))
  (.ops [⟨.bin .add (.tmp 9) (.const (.int .i64 1)), some 18, none⟩,
    ⟨.mov (.tmp 18), some 9, none⟩])))))))
  (.seq (.ops [⟨.mov (.tmp 3), some 19, none⟩,
    ⟨.call 120 [.tmp 19], some 20, none⟩,
    ⟨.mov (.tmp 20), some 2, none⟩])
  (.ret))))⟩
theorem ok_impl_ValidReadings : cmpF Try.prog Try.f73 = some c_impl_ValidReadings := by kernel_rfl

/- laws.szWellS -/
def c_laws_szWellS : FV := ⟨12, [.tmp 4],
  .seq (.ops [⟨.mov (.const (.int .i64 0)), some 4, none⟩])
  (.seq (.ops [⟨.mov (.tmp 1), some 5, none⟩,
    ⟨.mov (.tmp 0), some 6, none⟩,
    ⟨.lenL (.tmp 6), some 7, none⟩,
    ⟨.bin .sub (.tmp 5) (.tmp 7), some 8, none⟩,
    ⟨.mov (.tmp 8), some 1, none⟩])
  (.seq (.seq (.ops [⟨.mov (.tmp 1), some 9, none⟩,
    ⟨.bin .lss (.tmp 9) (.const (.int .i64 0)), some 10, none⟩])
  (.cond (.tmp 10) (.seq (.ops [⟨.mov (.const (.int .i64 (-1))), some 4, none⟩])
  (.ret)) (.skip)))
  (.seq (.ops [⟨.mov (.tmp 1), some 11, none⟩,
    ⟨.mov (.tmp 11), some 4, none⟩])
  (.ret))))⟩
theorem ok_laws_szWellS : cmpF Try.prog Try.f74 = some c_laws_szWellS := by kernel_rfl

end Go.Proofs.Ytainhignhmmhlaa

/- The code of the Go functions in the generator's own form, printed by a program of mine (gen.py) out of the loaded program; each with the check that it is so. -/
import Derived.Test.YtnfipcfhnhhcmaaDoorVcFn
import Derived.Test.YtnfipcfhnhhcmaaDoorGeo
import Derived.Test.YtnfipcfhnhhcmaaDoorRows
import Derived.KernelRfl
namespace Go.Proofs.YtnfipcfhnhhcmaaDoor
open Go Go.Fl Go.Vc
set_option linter.all false
set_option maxRecDepth 100000

/- laws.FnExactNumberText -/
def c_laws_FnExactNumberText : FV := ⟨12, [.tmp 2],
  .seq (.ops [⟨.mov (.const (.bool false)), some 2, none⟩])
  (.seq (.ops [⟨.mov (.tmp 0), some 5, none⟩,
    ⟨.call 5 [.tmp 5], some 6, none⟩,
    ⟨.mov (.tmp 6), some 3, none⟩])
  (.seq (.ops [⟨.mov (.tmp 0), some 7, none⟩,
    ⟨.call 6 [.tmp 7], some 8, none⟩,
    ⟨.mov (.tmp 8), some 4, none⟩])
  (.seq (.seq (.ops [⟨.mov (.tmp 4), some 9, none⟩,
    ⟨.mov (.tmp 3), some 10, none⟩,
    ⟨.bin .neq (.tmp 9) (.tmp 10), some 11, none⟩])
  (.cond (.tmp 11) (.seq (.ops [⟨.mov (.const (.bool false)), some 2, none⟩])
  (.ret)) (.skip)))
  (.seq (.ops [⟨.mov (.const (.bool true)), some 2, none⟩])
  (.ret)))))⟩
theorem ok_laws_FnExactNumberText : cmpF Tryd.prog Tryd.f3 = some c_laws_FnExactNumberText := by kernel_rfl

/- laws.FnExactReadNumber -/
def c_laws_FnExactReadNumber : FV := ⟨31, [.tmp 2],
  .seq (.ops [⟨.mov (.const (.bool false)), some 2, none⟩])
  (.seq (.seq (.ops [⟨.mov (.tmp 0), some 7, none⟩,
    ⟨.lenS (.tmp 7), some 8, none⟩,
    ⟨.bin .gtr (.tmp 8) (.const (.int .i64 1048576)), some 9, none⟩])
  (.cond (.tmp 9) (.seq (.ops [⟨.mov (.const (.bool true)), some 2, none⟩])
  (.ret)) (.skip)))
  (.seq (.ops [⟨.mov (.tmp 0), some 11, none⟩,
    ⟨.call 7 [.tmp 11], some 12, none⟩,
    ⟨.mov (.tmp 12), some 10, none⟩,
    ⟨.ext (.tmp 10) 0, some 13, none⟩,
    ⟨.ext (.tmp 10) 1, some 14, none⟩,
    ⟨.mov (.tmp 13), some 3, none⟩,
    ⟨.mov (.tmp 14), some 4, none⟩])
  (.seq (.ops [⟨.mov (.tmp 0), some 16, none⟩,
    ⟨.call 8 [.tmp 16], some 17, none⟩,
    ⟨.mov (.tmp 17), some 15, none⟩,
    ⟨.ext (.tmp 15) 0, some 18, none⟩,
    ⟨.ext (.tmp 15) 1, some 19, none⟩,
    ⟨.mov (.tmp 18), some 5, none⟩,
    ⟨.mov (.tmp 19), some 6, none⟩])
  (.seq (.seq (.ops [⟨.mov (.tmp 5), some 20, none⟩,
    ⟨.convF .f64 (.tmp 20), some 21, none⟩,
    ⟨.mov (.tmp 3), some 22, none⟩,
    ⟨.convF .f64 (.tmp 22), some 23, none⟩,
    ⟨.call 9 [.tmp 21, .tmp 23], some 24, none⟩,
    ⟨.un .not (.tmp 24), some 25, none⟩,
    ⟨.mov (.tmp 25), some 26, none⟩,
    ⟨.mov (.tmp 6), some 27, some (26, false)⟩,
    ⟨.mov (.tmp 4), some 28, some (26, false)⟩,
    ⟨.bin .neq (.tmp 27) (.tmp 28), some 29, some (26, false)⟩,
    ⟨.pick (.tmp 26) (.const (.bool true)) (.tmp 29), some 30, none⟩])
  (.cond (.tmp 30) (.seq (.ops [⟨.mov (.const (.bool false)), some 2, none⟩])
  (.ret)) (.skip)))
  (.seq (.ops [⟨.mov (.const (.bool true)), some 2, none⟩])
  (.ret))))))⟩
theorem ok_laws_FnExactReadNumber : cmpF Tryd.prog Tryd.f4 = some c_laws_FnExactReadNumber := by kernel_rfl

/- spec.NumberText -/
def c_spec_NumberText : FV := ⟨5, [.tmp 2],
  .seq (.ops [⟨.mov (.const (.string ⟨#[]⟩)), some 2, none⟩])
  (.seq (.ops [⟨.mov (.tmp 0), some 3, none⟩,
    ⟨.call 10 [.tmp 3], some 4, none⟩,
    ⟨.mov (.tmp 4), some 2, none⟩])
  (.ret))⟩
theorem ok_spec_NumberText : cmpF Tryd.prog Tryd.f5 = some c_spec_NumberText := by kernel_rfl

/- impl.NumberText -/
def c_impl_NumberText : FV := ⟨16, [.tmp 2],
  .seq (.ops [⟨.mov (.const (.string ⟨#[]⟩)), some 2, none⟩])
  (.seq (.seq (.ops [⟨.mov (.tmp 0), some 4, none⟩,
    ⟨.call 11 [.tmp 4], some 5, none⟩])
  (.cond (.tmp 5) (.seq (.ops [⟨.mov (.const (.string ⟨#[55, 102, 99, 48, 48, 48, 48, 48]⟩)), some 2, none⟩])
  (.ret)) (.skip)))
  (.seq (.ops [⟨.mov (.tmp 0), some 6, none⟩,
    ⟨.f32bits (.tmp 6), some 7, none⟩,
    ⟨.convI .u64 (.tmp 7), some 8, none⟩,
    ⟨.call 12 [.tmp 8, .const (.int .i64 16)], some 9, none⟩,
    ⟨.mov (.tmp 9), some 3, none⟩])
  (.seq (.ops [⟨.mov (.tmp 3), some 10, none⟩,
    ⟨.lenS (.tmp 10), some 11, none⟩,
    ⟨.bin .sub (.const (.int .i64 8)) (.tmp 11), some 12, none⟩,
    ⟨.call 14 [.const (.string ⟨#[48]⟩), .tmp 12], some 13, none⟩,
    ⟨.mov (.tmp 3), some 14, none⟩,
    ⟨.bin .add (.tmp 13) (.tmp 14), some 15, none⟩,
    ⟨.mov (.tmp 15), some 2, none⟩])
  (.ret))))⟩
theorem ok_impl_NumberText : cmpF Tryd.prog Tryd.f6 = some c_impl_NumberText := by kernel_rfl

/- spec.ReadNumber -/
def c_spec_ReadNumber : FV := ⟨14, [.tmp 2, .tmp 3],
  .seq (.ops [⟨.mov (.const (.float .f32 0)), some 2, none⟩,
    ⟨.mov (.const (.int .i64 0)), some 3, none⟩])
  (.seq (.ops [⟨.mov (.tmp 0), some 7, none⟩,
    ⟨.call 15 [.tmp 7], some 8, none⟩,
    ⟨.mov (.tmp 8), some 6, none⟩,
    ⟨.ext (.tmp 6) 0, some 9, none⟩,
    ⟨.ext (.tmp 6) 1, some 10, none⟩,
    ⟨.mov (.tmp 9), some 4, none⟩,
    ⟨.mov (.tmp 10), some 5, none⟩])
  (.seq (.seq (.ops [⟨.mov (.tmp 5), some 11, none⟩,
    ⟨.un .not (.tmp 11), some 12, none⟩])
  (.cond (.tmp 12) (.seq (.ops [⟨.mov (.const (.float .f32 0)), some 2, none⟩,
    ⟨.mov (.const (.int .i64 5)), some 3, none⟩])
  (.ret)) (.skip)))
  (.seq (.ops [⟨.mov (.tmp 4), some 13, none⟩,
    ⟨.mov (.tmp 13), some 2, none⟩,
    ⟨.mov (.const (.int .i64 0)), some 3, none⟩])
  (.ret))))⟩
theorem ok_spec_ReadNumber : cmpF Tryd.prog Tryd.f7 = some c_spec_ReadNumber := by kernel_rfl

/- impl.ReadNumber -/
def c_impl_ReadNumber : FV := ⟨24, [.tmp 2, .tmp 3],
  .seq (.ops [⟨.mov (.const (.float .f32 0)), some 2, none⟩,
    ⟨.mov (.const (.int .i64 0)), some 3, none⟩])
  (.seq (.ops [⟨.mov (.tmp 0), some 8, none⟩,
    ⟨.call 16 [.tmp 8, .const (.int .i64 16), .const (.int .i64 32)], some 9, none⟩,
    ⟨.mov (.tmp 9), some 7, none⟩,
    ⟨.ext (.tmp 7) 0, some 10, none⟩,
    ⟨.ext (.tmp 7) 1, some 11, none⟩,
    ⟨.mov (.tmp 10), some 4, none⟩,
    ⟨.mov (.tmp 11), some 5, none⟩])
  (.seq (.ops [⟨.mov (.tmp 4), some 12, none⟩,
    ⟨.convI .u32 (.tmp 12), some 13, none⟩,
    ⟨.f32from (.tmp 13), some 14, none⟩,
    ⟨.mov (.tmp 14), some 6, none⟩])
  (.seq (.seq (.ops [⟨.mov (.tmp 5), some 15, none⟩,
    ⟨.inil true (.tmp 15), some 16, none⟩,
    ⟨.mov (.tmp 16), some 17, none⟩,
    ⟨.mov (.tmp 6), some 18, some (17, false)⟩,
    ⟨.call 6 [.tmp 18], some 19, some (17, false)⟩,
    ⟨.mov (.tmp 0), some 20, some (17, false)⟩,
    ⟨.bin .neq (.tmp 19) (.tmp 20), some 21, some (17, false)⟩,
    ⟨.pick (.tmp 17) (.const (.bool true)) (.tmp 21), some 22, none⟩])
  (.cond (.tmp 22) (.seq (.ops [⟨.mov (.const (.float .f32 0)), some 2, none⟩,
    ⟨.mov (.const (.int .i64 5)), some 3, none⟩])
  (.ret)) (.skip)))
  (.seq (.ops [⟨.mov (.tmp 6), some 23, none⟩,
    ⟨.mov (.tmp 23), some 2, none⟩,
    ⟨.mov (.const (.int .i64 0)), some 3, none⟩])
  (.ret)))))⟩
theorem ok_impl_ReadNumber : cmpF Tryd.prog Tryd.f8 = some c_impl_ReadNumber := by kernel_rfl

/- laws.sameFloat -/
def c_laws_sameFloat : FV := ⟨37, [.tmp 4],
  .seq (.ops [⟨.mov (.const (.bool false)), some 4, none⟩])
  (.seq (.seq (.ops [⟨.mov (.tmp 0), some 5, none⟩,
    ⟨.mov (.tmp 0), some 6, none⟩,
    ⟨.fbin .neq (.tmp 5) (.tmp 6), some 7, none⟩,
    ⟨.mov (.tmp 7), some 8, none⟩,
    ⟨.mov (.tmp 1), some 9, some (8, false)⟩,
    ⟨.mov (.tmp 1), some 10, some (8, false)⟩,
    ⟨.fbin .neq (.tmp 9) (.tmp 10), some 11, some (8, false)⟩,
    ⟨.pick (.tmp 8) (.const (.bool true)) (.tmp 11), some 12, none⟩])
  (.cond (.tmp 12) (.seq (.ops [⟨.mov (.tmp 0), some 13, none⟩,
    ⟨.mov (.tmp 0), some 14, none⟩,
    ⟨.fbin .neq (.tmp 13) (.tmp 14), some 15, none⟩,
    ⟨.mov (.tmp 15), some 16, none⟩,
    ⟨.mov (.tmp 1), some 17, some (16, true)⟩,
    ⟨.mov (.tmp 1), some 18, some (16, true)⟩,
    ⟨.fbin .neq (.tmp 17) (.tmp 18), some 19, some (16, true)⟩,
    ⟨.pick (.tmp 16) (.tmp 19) (.const (.bool false)), some 20, none⟩,
    ⟨.mov (.tmp 20), some 4, none⟩])
  (.ret)) (.skip)))
  (.seq (.seq (.ops [⟨.mov (.tmp 0), some 21, none⟩,
    ⟨.fbin .eql (.tmp 21) (.const (.float .f64 0)), some 22, none⟩,
    ⟨.mov (.tmp 22), some 23, none⟩,
    ⟨.mov (.tmp 1), some 24, some (23, true)⟩,
    ⟨.fbin .eql (.tmp 24) (.const (.float .f64 0)), some 25, some (23, true)⟩,
    ⟨.pick (.tmp 23) (.tmp 25) (.const (.bool false)), some 26, none⟩])
  (.cond (.tmp 26) (.seq (.ops [⟨.mov (.tmp 0), some 27, none⟩,
    ⟨.fbin .quo (.const (.float .f64 4607182418800017408)) (.tmp 27), some 28, none⟩,
    ⟨.fbin .gtr (.tmp 28) (.const (.float .f64 0)), some 29, none⟩,
    ⟨.mov (.tmp 1), some 30, none⟩,
    ⟨.fbin .quo (.const (.float .f64 4607182418800017408)) (.tmp 30), some 31, none⟩,
    ⟨.fbin .gtr (.tmp 31) (.const (.float .f64 0)), some 32, none⟩,
    ⟨.beq false (.tmp 29) (.tmp 32), some 33, none⟩,
    ⟨.mov (.tmp 33), some 4, none⟩])
  (.ret)) (.skip)))
  (.seq (.ops [⟨.mov (.tmp 0), some 34, none⟩,
    ⟨.mov (.tmp 1), some 35, none⟩,
    ⟨.fbin .eql (.tmp 34) (.tmp 35), some 36, none⟩,
    ⟨.mov (.tmp 36), some 4, none⟩])
  (.ret))))⟩
theorem ok_laws_sameFloat : cmpF Tryd.prog Tryd.f9 = some c_laws_sameFloat := by kernel_rfl

/- spec.l01Hex -/
def c_spec_l01Hex : FV := ⟨23, [.tmp 2],
  .seq (.ops [⟨.mov (.const (.string ⟨#[]⟩)), some 2, none⟩])
  (.seq (.ops [⟨.mov (.tmp 0), some 6, none⟩,
    ⟨.call 18 [.tmp 6], some 7, none⟩,
    ⟨.mov (.tmp 7), some 3, none⟩])
  (.seq (.ops [⟨.mks 5 1 (#[.int .u8 0]) (.const (.int .i64 8)) (.const (.int .i64 8)), some 8, none⟩,
    ⟨.mov (.tmp 8), some 4, none⟩])
  (.seq (.seq (.ops [⟨.mov (.const (.int .i64 7)), some 5, none⟩])
  (.block 0 (.loop (.seq (.seq (.ops [⟨.mov (.tmp 5), some 9, none⟩,
    ⟨.bin .geq (.tmp 9) (.const (.int .i64 0)), some 10, none⟩])
  (.cond (.tmp 10) (.skip) (.exit 0)))
  (.seq (.block 1 (.seq (.ops [⟨.mov (.tmp 4), some 13, none⟩,
    ⟨.mov (.tmp 5), some 14, none⟩,
    ⟨.mov (.tmp 3), some 15, none⟩,
    ⟨.bin .rem (.tmp 15) (.const (.int .u32 16)), some 16, none⟩,
    ⟨.ixStr (.const (.string ⟨#[48, 49, 50, 51, 52, 53, 54, 55, 56, 57, 97, 98, 99, 100, 101, 102]⟩)) (.tmp 16), some 17, none⟩,
    ⟨.idxS 1 (.tmp 13) (.tmp 14), some 18, none⟩,
    ⟨.store 1 (.tmp 18) (.tmp 17), none, none⟩])
  (.ops [⟨.mov (.tmp 3), some 19, none⟩,
    ⟨.bin .quo (.tmp 19) (.const (.int .u32 16)), some 20, none⟩,
    ⟨.mov (.tmp 20), some 3, none⟩])))
  (.ops [⟨.mov (.tmp 5), some 11, none⟩,
    ⟨.bin .sub (.tmp 11) (.const (.int .i64 1)), some 12, none⟩,
    ⟨.mov (.tmp 12), some 5, none⟩]))))))
  (.seq (.ops [⟨.mov (.tmp 4), some 21, none⟩,
    ⟨.bstr (.tmp 21), some 22, none⟩,
    ⟨.mov (.tmp 22), some 2, none⟩])
  (.ret)))))⟩
theorem ok_spec_l01Hex : cmpF Tryd.prog Tryd.f10 = some c_spec_l01Hex := by kernel_rfl

/- impl.isNaN -/
def c_impl_isNaN : FV := ⟨6, [.tmp 2],
  .seq (.ops [⟨.mov (.const (.bool false)), some 2, none⟩])
  (.seq (.ops [⟨.mov (.tmp 0), some 3, none⟩,
    ⟨.mov (.tmp 0), some 4, none⟩,
    ⟨.fbin .neq (.tmp 3) (.tmp 4), some 5, none⟩,
    ⟨.mov (.tmp 5), some 2, none⟩])
  (.ret))⟩
theorem ok_impl_isNaN : cmpF Tryd.prog Tryd.f11 = some c_impl_isNaN := by kernel_rfl

/- strconv.FormatUint -/
def c_strconv_FormatUint : FV := ⟨8, [.tmp 4],
  .seq (.ops [⟨.mov (.const (.string ⟨#[]⟩)), some 4, none⟩])
  (.seq (.ops [⟨.mov (.tmp 0), some 5, none⟩,
    ⟨.mov (.tmp 1), some 6, none⟩,
    ⟨.call 19 [.tmp 5, .tmp 6], some 7, none⟩,
    ⟨.mov (.tmp 7), some 4, none⟩])
  (.ret))⟩
theorem ok_strconv_FormatUint : cmpF Tryd.prog Tryd.f12 = some c_strconv_FormatUint := by kernel_rfl

/- spec.l01Read -/
def c_spec_l01Read : FV := ⟨52, [.tmp 2, .tmp 3],
  .seq (.ops [⟨.mov (.const (.float .f32 0)), some 2, none⟩,
    ⟨.mov (.const (.bool false)), some 3, none⟩])
  (.seq (.seq (.ops [⟨.mov (.tmp 0), some 8, none⟩,
    ⟨.lenS (.tmp 8), some 9, none⟩,
    ⟨.bin .neq (.tmp 9) (.const (.int .i64 8)), some 10, none⟩])
  (.cond (.tmp 10) (.seq (.ops [⟨.mov (.const (.float .f32 0)), some 2, none⟩,
    ⟨.mov (.const (.bool false)), some 3, none⟩])
  (.ret)) (.skip)))
  (.seq (.ops [⟨.mov (.const (.int .u32 0)), some 4, none⟩])
  (.seq (.seq (.ops [⟨.mov (.const (.int .i64 0)), some 5, none⟩])
  (.block 0 (.loop (.seq (.seq (.ops [⟨.mov (.tmp 5), some 11, none⟩,
    ⟨.bin .lss (.tmp 11) (.const (.int .i64 8)), some 12, none⟩])
  (.cond (.tmp 12) (.skip) (.exit 0)))
  (.seq (.block 1 (.seq (.ops [⟨.mov (.tmp 0), some 15, none⟩,
    ⟨.mov (.tmp 5), some 16, none⟩,
    ⟨.ixStr (.tmp 15) (.tmp 16), some 17, none⟩,
    ⟨.mov (.tmp 17), some 6, none⟩])
  (.block 2 (.seq (.ops [⟨.mov (.tmp 6), some 19, none⟩,
    ⟨.bin .geq (.tmp 19) (.const (.int .u8 48)), some 20, none⟩,
    ⟨.mov (.tmp 20), some 21, none⟩,
    ⟨.mov (.tmp 6), some 22, some (21, true)⟩,
    ⟨.bin .leq (.tmp 22) (.const (.int .u8 57)), some 23, some (21, true)⟩,
    ⟨.pick (.tmp 21) (.tmp 23) (.const (.bool false)), some 24, none⟩,
    ⟨.mov (.tmp 24), some 18, none⟩])
  (.cond (.tmp 18) (.ops [⟨.mov (.tmp 4), some 25, none⟩,
    ⟨.bin .mul (.tmp 25) (.const (.int .u32 16)), some 26, none⟩,
    ⟨.mov (.tmp 6), some 27, none⟩,
    ⟨.bin .sub (.tmp 27) (.const (.int .u8 48)), some 28, none⟩,
    ⟨.convI .u32 (.tmp 28), some 29, none⟩,
    ⟨.bin .add (.tmp 26) (.tmp 29), some 30, none⟩,
    ⟨.mov (.tmp 30), some 4, none⟩]) (.seq (.ops [⟨.mov (.tmp 6), some 32, none⟩,
    ⟨.bin .geq (.tmp 32) (.const (.int .u8 97)), some 33, none⟩,
    ⟨.mov (.tmp 33), some 34, none⟩,
    ⟨.mov (.tmp 6), some 35, some (34, true)⟩,
    ⟨.bin .leq (.tmp 35) (.const (.int .u8 102)), some 36, some (34, true)⟩,
    ⟨.pick (.tmp 34) (.tmp 36) (.const (.bool false)), some 37, none⟩,
    ⟨.mov (.tmp 37), some 31, none⟩])
  (.cond (.tmp 31) (.ops [⟨.mov (.tmp 4), some 38, none⟩,
    ⟨.bin .mul (.tmp 38) (.const (.int .u32 16)), some 39, none⟩,
    ⟨.mov (.tmp 6), some 40, none⟩,
    ⟨.bin .sub (.tmp 40) (.const (.int .u8 97)), some 41, none⟩,
    ⟨.convI .u32 (.tmp 41), some 42, none⟩,
    ⟨.bin .add (.tmp 39) (.tmp 42), some 43, none⟩,
    ⟨.bin .add (.tmp 43) (.const (.int .u32 10)), some 44, none⟩,
    ⟨.mov (.tmp 44), some 4, none⟩]) (.seq (.ops [⟨.mov (.const (.float .f32 0)), some 2, none⟩,
    ⟨.mov (.const (.bool false)), some 3, none⟩])
  (.ret)))))))))
  (.ops [⟨.mov (.tmp 5), some 13, none⟩,
    ⟨.bin .add (.tmp 13) (.const (.int .i64 1)), some 14, none⟩,
    ⟨.mov (.tmp 14), some 5, none⟩]))))))
  (.seq (.ops [⟨.mov (.tmp 4), some 45, none⟩,
    ⟨.f32from (.tmp 45), some 46, none⟩,
    ⟨.mov (.tmp 46), some 7, none⟩])
  (.seq (.ops [⟨.mov (.tmp 7), some 47, none⟩,
    ⟨.mov (.tmp 7), some 48, none⟩,
    ⟨.call 18 [.tmp 48], some 49, none⟩,
    ⟨.mov (.tmp 4), some 50, none⟩,
    ⟨.bin .eql (.tmp 49) (.tmp 50), some 51, none⟩,
    ⟨.mov (.tmp 47), some 2, none⟩,
    ⟨.mov (.tmp 51), some 3, none⟩])
  (.ret))))))⟩
theorem ok_spec_l01Read : cmpF Tryd.prog Tryd.f15 = some c_spec_l01Read := by kernel_rfl

/- strconv.ParseUint -/
def c_strconv_ParseUint : FV := ⟨26, [.tmp 6, .tmp 7],
  .seq (.ops [⟨.mov (.const (.int .u64 0)), some 6, none⟩,
    ⟨.mov (.const (.nilIface)), some 7, none⟩])
  (.seq (.ops [⟨.mov (.tmp 0), some 11, none⟩,
    ⟨.mov (.tmp 1), some 12, none⟩,
    ⟨.mov (.tmp 2), some 13, none⟩,
    ⟨.call 26 [.tmp 11, .tmp 12, .tmp 13], some 14, none⟩,
    ⟨.mov (.tmp 14), some 10, none⟩,
    ⟨.ext (.tmp 10) 0, some 15, none⟩,
    ⟨.ext (.tmp 10) 1, some 16, none⟩,
    ⟨.mov (.tmp 15), some 8, none⟩,
    ⟨.mov (.tmp 16), some 9, none⟩])
  (.seq (.seq (.ops [⟨.mov (.tmp 9), some 17, none⟩,
    ⟨.inil true (.tmp 17), some 18, none⟩])
  (.cond (.tmp 18) (.seq (.ops [⟨.mov (.tmp 8), some 19, none⟩,
    ⟨.mov (.tmp 0), some 20, none⟩,
    ⟨.mov (.tmp 1), some 21, none⟩,
    ⟨.mov (.tmp 2), some 22, none⟩,
    ⟨.mov (.tmp 9), some 23, none⟩,
    ⟨.call 27 [.const (.string ⟨#[80, 97, 114, 115, 101, 85, 105, 110, 116]⟩), .tmp 20, .tmp 21, .tmp 22, .tmp 23], some 24, none⟩,
    ⟨.mov (.tmp 19), some 6, none⟩,
    ⟨.mov (.tmp 24), some 7, none⟩])
  (.ret)) (.skip)))
  (.seq (.ops [⟨.mov (.tmp 8), some 25, none⟩,
    ⟨.mov (.tmp 25), some 6, none⟩,
    ⟨.mov (.const (.nilIface)), some 7, none⟩])
  (.ret))))⟩
theorem ok_strconv_ParseUint : cmpF Tryd.prog Tryd.f16 = some c_strconv_ParseUint := by kernel_rfl

/- spec.l01Bits -/
def c_spec_l01Bits : FV := ⟨8, [.tmp 2],
  .seq (.ops [⟨.mov (.const (.int .u32 0)), some 2, none⟩])
  (.seq (.seq (.ops [⟨.mov (.tmp 0), some 3, none⟩,
    ⟨.mov (.tmp 0), some 4, none⟩,
    ⟨.fbin .neq (.tmp 3) (.tmp 4), some 5, none⟩])
  (.cond (.tmp 5) (.seq (.ops [⟨.mov (.const (.int .u32 2143289344)), some 2, none⟩])
  (.ret)) (.skip)))
  (.seq (.ops [⟨.mov (.tmp 0), some 6, none⟩,
    ⟨.f32bits (.tmp 6), some 7, none⟩,
    ⟨.mov (.tmp 7), some 2, none⟩])
  (.ret)))⟩
theorem ok_spec_l01Bits : cmpF Tryd.prog Tryd.f18 = some c_spec_l01Bits := by kernel_rfl

/- internal/strconv.FormatUint -/
def c_internal_strconv_FormatUint : FV := ⟨32, [.tmp 4],
  .seq (.ops [⟨.mov (.const (.string ⟨#[]⟩)), some 4, none⟩])
  (.seq (.seq (.ops [⟨.mov (.tmp 1), some 9, none⟩,
    ⟨.bin .eql (.tmp 9) (.const (.int .i64 10)), some 10, none⟩])
  (.cond (.tmp 10) (.seq (.seq (.ops [⟨.mov (.tmp 0), some 11, none⟩,
    ⟨.bin .lss (.tmp 11) (.const (.int .u64 100)), some 12, none⟩])
  (.cond (.tmp 12) (.seq (.ops [⟨.mov (.tmp 0), some 13, none⟩,
    ⟨.convI .i64 (.tmp 13), some 14, none⟩,
    ⟨.call 28 [.tmp 14], some 15, none⟩,
    ⟨.mov (.tmp 15), some 4, none⟩])
  (.ret)) (.skip)))
  (.seq (.ops [⟨.alloc 57 (.agg (#[.int .u8 0, .int .u8 0, .int .u8 0, .int .u8 0, .int .u8 0, .int .u8 0, .int .u8 0, .int .u8 0, .int .u8 0, .int .u8 0, .int .u8 0, .int .u8 0, .int .u8 0, .int .u8 0, .int .u8 0, .int .u8 0, .int .u8 0, .int .u8 0, .int .u8 0, .int .u8 0, .int .u8 0, .int .u8 0, .int .u8 0, .int .u8 0])), some 5, none⟩])
  (.seq (.ops [⟨.mov (.tmp 0), some 16, none⟩,
    ⟨.call 29 [.tmp 16], some 17, none⟩,
    ⟨.mov (.tmp 17), some 6, none⟩])
  (.seq (.ops [⟨.mov (.tmp 6), some 18, none⟩,
    ⟨.dead, some 19, none⟩,
    ⟨.mov (.tmp 0), some 20, none⟩,
    ⟨.call 30 [.tmp 19, .tmp 20], some 21, none⟩])
  (.seq (.ops [⟨.mov (.tmp 6), some 22, none⟩,
    ⟨.dead, some 23, none⟩,
    ⟨.bstr (.tmp 23), some 24, none⟩,
    ⟨.mov (.tmp 24), some 4, none⟩])
  (.ret)))))) (.skip)))
  (.seq (.ops [⟨.mov (.tmp 0), some 26, none⟩,
    ⟨.mov (.tmp 1), some 27, none⟩,
    ⟨.call 31 [.const (.slice none 0 0), .tmp 26, .tmp 27, .const (.bool false), .const (.bool false)], some 28, none⟩,
    ⟨.mov (.tmp 28), some 25, none⟩,
    ⟨.ext (.tmp 25) 0, some 29, none⟩,
    ⟨.ext (.tmp 25) 1, some 30, none⟩,
    ⟨.mov (.tmp 29), some 7, none⟩,
    ⟨.mov (.tmp 30), some 8, none⟩])
  (.seq (.ops [⟨.mov (.tmp 8), some 31, none⟩,
    ⟨.mov (.tmp 31), some 4, none⟩])
  (.ret))))⟩
theorem ok_internal_strconv_FormatUint : cmpF Tryd.prog Tryd.f19 = some c_internal_strconv_FormatUint := by kernel_rfl

/- internal/strconv.ParseUint -/
def c_internal_strconv_ParseUint : FV := ⟨172, [.tmp 6, .tmp 7],
  .seq (.ops [⟨.mov (.const (.int .u64 0)), some 6, none⟩,
    ⟨.mov (.const (.nilIface)), some 7, none⟩])
  (.seq (.seq (.ops [⟨.mov (.tmp 0), some 18, none⟩,
    ⟨.bin .eql (.tmp 18) (.const (.string ⟨#[]⟩)), some 19, none⟩])
  (.cond (.tmp 19) (.seq (.ops [⟨.ifc 67 (.const (.int .i64 2)), some 20, none⟩,
    ⟨.mov (.const (.int .u64 0)), some 6, none⟩,
    ⟨.mov (.tmp 20), some 7, none⟩])
  (.ret)) (.skip)))
  (.seq (.ops [⟨.mov (.tmp 1), some 21, none⟩,
    ⟨.bin .eql (.tmp 21) (.const (.int .i64 0)), some 22, none⟩,
    ⟨.mov (.tmp 22), some 8, none⟩])
  (.seq (.ops [⟨.mov (.tmp 0), some 23, none⟩,
    ⟨.mov (.tmp 23), some 9, none⟩])
  (.seq (.block 0 (.seq (.ops [⟨.mov (.tmp 1), some 26, none⟩,
    ⟨.bin .leq (.const (.int .i64 2)) (.tmp 26), some 27, none⟩,
    ⟨.mov (.tmp 27), some 28, none⟩,
    ⟨.mov (.tmp 1), some 29, some (28, true)⟩,
    ⟨.bin .leq (.tmp 29) (.const (.int .i64 36)), some 30, some (28, true)⟩,
    ⟨.pick (.tmp 28) (.tmp 30) (.const (.bool false)), some 31, none⟩,
    ⟨.mov (.tmp 31), some 25, none⟩])
  (.cond (.tmp 25) (.skip) (.seq (.ops [⟨.mov (.tmp 1), some 33, none⟩,
    ⟨.bin .eql (.tmp 33) (.const (.int .i64 0)), some 34, none⟩,
    ⟨.mov (.tmp 34), some 32, none⟩])
  (.cond (.tmp 32) (.seq (.ops [⟨.mov (.const (.int .i64 10)), some 1, none⟩])
  (.seq (.ops [⟨.mov (.tmp 0), some 35, none⟩,
    ⟨.ixStr (.tmp 35) (.const (.int .i64 0)), some 36, none⟩,
    ⟨.bin .eql (.tmp 36) (.const (.int .u8 48)), some 37, none⟩])
  (.cond (.tmp 37) (.block 1 (.seq (.ops [⟨.mov (.tmp 0), some 41, none⟩,
    ⟨.lenS (.tmp 41), some 42, none⟩,
    ⟨.bin .geq (.tmp 42) (.const (.int .i64 3)), some 43, none⟩,
    ⟨.mov (.tmp 43), some 44, none⟩,
    ⟨.mov (.tmp 0), some 45, some (44, true)⟩,
    ⟨.ixStr (.tmp 45) (.const (.int .i64 1)), some 46, some (44, true)⟩,
    ⟨.call 37 [.tmp 46], some 47, some (44, true)⟩,
    ⟨.bin .eql (.tmp 47) (.const (.int .u8 98)), some 48, some (44, true)⟩,
    ⟨.pick (.tmp 44) (.tmp 48) (.const (.bool false)), some 49, none⟩,
    ⟨.mov (.tmp 49), some 40, none⟩])
  (.cond (.tmp 40) (.seq (.ops [⟨.mov (.const (.int .i64 2)), some 1, none⟩])
  (.ops [⟨.mov (.tmp 0), some 50, none⟩,
    ⟨.dead, some 51, none⟩,
    ⟨.mov (.tmp 51), some 0, none⟩])) (.seq (.ops [⟨.mov (.tmp 0), some 53, none⟩,
    ⟨.lenS (.tmp 53), some 54, none⟩,
    ⟨.bin .geq (.tmp 54) (.const (.int .i64 3)), some 55, none⟩,
    ⟨.mov (.tmp 55), some 56, none⟩,
    ⟨.mov (.tmp 0), some 57, some (56, true)⟩,
    ⟨.ixStr (.tmp 57) (.const (.int .i64 1)), some 58, some (56, true)⟩,
    ⟨.call 37 [.tmp 58], some 59, some (56, true)⟩,
    ⟨.bin .eql (.tmp 59) (.const (.int .u8 111)), some 60, some (56, true)⟩,
    ⟨.pick (.tmp 56) (.tmp 60) (.const (.bool false)), some 61, none⟩,
    ⟨.mov (.tmp 61), some 52, none⟩])
  (.cond (.tmp 52) (.seq (.ops [⟨.mov (.const (.int .i64 8)), some 1, none⟩])
  (.ops [⟨.mov (.tmp 0), some 62, none⟩,
    ⟨.dead, some 63, none⟩,
    ⟨.mov (.tmp 63), some 0, none⟩])) (.seq (.ops [⟨.mov (.tmp 0), some 65, none⟩,
    ⟨.lenS (.tmp 65), some 66, none⟩,
    ⟨.bin .geq (.tmp 66) (.const (.int .i64 3)), some 67, none⟩,
    ⟨.mov (.tmp 67), some 68, none⟩,
    ⟨.mov (.tmp 0), some 69, some (68, true)⟩,
    ⟨.ixStr (.tmp 69) (.const (.int .i64 1)), some 70, some (68, true)⟩,
    ⟨.call 37 [.tmp 70], some 71, some (68, true)⟩,
    ⟨.bin .eql (.tmp 71) (.const (.int .u8 120)), some 72, some (68, true)⟩,
    ⟨.pick (.tmp 68) (.tmp 72) (.const (.bool false)), some 73, none⟩,
    ⟨.mov (.tmp 73), some 64, none⟩])
  (.cond (.tmp 64) (.seq (.ops [⟨.mov (.const (.int .i64 16)), some 1, none⟩])
  (.ops [⟨.mov (.tmp 0), some 74, none⟩,
    ⟨.dead, some 75, none⟩,
    ⟨.mov (.tmp 75), some 0, none⟩])) (.seq (.ops [⟨.mov (.const (.int .i64 8)), some 1, none⟩])
  (.ops [⟨.mov (.tmp 0), some 38, none⟩,
    ⟨.dead, some 39, none⟩,
    ⟨.mov (.tmp 39), some 0, none⟩]))))))))) (.skip)))) (.seq (.ops [⟨.ifc 67 (.const (.int .i64 3)), some 24, none⟩,
    ⟨.mov (.const (.int .u64 0)), some 6, none⟩,
    ⟨.mov (.tmp 24), some 7, none⟩])
  (.ret)))))))
  (.seq (.seq (.ops [⟨.mov (.tmp 2), some 76, none⟩,
    ⟨.bin .eql (.tmp 76) (.const (.int .i64 0)), some 77, none⟩])
  (.cond (.tmp 77) (.ops [⟨.mov (.const (.int .i64 64)), some 2, none⟩]) (.seq (.ops [⟨.mov (.tmp 2), some 78, none⟩,
    ⟨.bin .lss (.tmp 78) (.const (.int .i64 0)), some 79, none⟩,
    ⟨.mov (.tmp 79), some 80, none⟩,
    ⟨.mov (.tmp 2), some 81, some (80, false)⟩,
    ⟨.bin .gtr (.tmp 81) (.const (.int .i64 64)), some 82, some (80, false)⟩,
    ⟨.pick (.tmp 80) (.const (.bool true)) (.tmp 82), some 83, none⟩])
  (.cond (.tmp 83) (.seq (.ops [⟨.ifc 67 (.const (.int .i64 4)), some 84, none⟩,
    ⟨.mov (.const (.int .u64 0)), some 6, none⟩,
    ⟨.mov (.tmp 84), some 7, none⟩])
  (.ret)) (.skip)))))
  (.seq (.ops [⟨.mov (.const (.int .u64 0)), some 10, none⟩])
  (.seq (.seq (.ops [⟨.mov (.tmp 1), some 85, none⟩])
  (.block 2 (.seq (.ops [⟨.bin .eql (.tmp 85) (.const (.int .i64 10)), some 91, none⟩,
    ⟨.mov (.tmp 91), some 90, none⟩])
  (.cond (.tmp 90) (.ops [⟨.mov (.const (.int .u64 1844674407370955162)), some 10, none⟩]) (.seq (.ops [⟨.bin .eql (.tmp 85) (.const (.int .i64 16)), some 93, none⟩,
    ⟨.mov (.tmp 93), some 92, none⟩])
  (.cond (.tmp 92) (.ops [⟨.mov (.const (.int .u64 1152921504606846976)), some 10, none⟩]) (.ops [⟨.mov (.tmp 1), some 86, none⟩,
    ⟨.convI .u64 (.tmp 86), some 87, none⟩,
    ⟨.bin .quo (.const (.int .u64 18446744073709551615)) (.tmp 87), some 88, none⟩,
    ⟨.bin .add (.tmp 88) (.const (.int .u64 1)), some 89, none⟩,
    ⟨.mov (.tmp 89), some 10, none⟩])))))))
  (.seq (.ops [⟨.mov (.tmp 2), some 94, none⟩,
    ⟨.convI .u64 (.tmp 94), some 95, none⟩,
    ⟨.bin .shl (.const (.int .u64 1)) (.tmp 95), some 96, none⟩,
    ⟨.bin .sub (.tmp 96) (.const (.int .u64 1)), some 97, none⟩,
    ⟨.mov (.tmp 97), some 11, none⟩])
  (.seq (.ops [⟨.mov (.const (.bool false)), some 12, none⟩])
  (.seq (.ops [⟨.mov (.const (.int .u64 0)), some 13, none⟩])
  (.seq (.seq (.ops [⟨.mov (.tmp 0), some 98, none⟩,
    ⟨.strb (.tmp 98), some 99, none⟩,
    ⟨.lenL (.tmp 99), some 100, none⟩,
    ⟨.mov (.const (.int .i64 0)), some 101, none⟩])
  (.block 3 (.loop (.seq (.ops [⟨.bin .lss (.tmp 101) (.tmp 100), some 102, none⟩])
  (.seq (.cond (.tmp 102) (.skip) (.exit 3))
  (.seq (.block 4 (.seq (.ops [⟨.idxS 1 (.tmp 99) (.tmp 101), some 103, none⟩,
    ⟨.load none (.tmp 103), some 104, none⟩,
    ⟨.mov (.tmp 104), some 15, none⟩])
  (.seq (.ops [⟨.mov (.const (.int .u8 0)), some 16, none⟩])
  (.seq (.block 5 (.seq (.ops [⟨.mov (.tmp 15), some 107, none⟩,
    ⟨.bin .eql (.tmp 107) (.const (.int .u8 95)), some 108, none⟩,
    ⟨.mov (.tmp 108), some 109, none⟩,
    ⟨.mov (.tmp 8), some 110, some (109, true)⟩,
    ⟨.pick (.tmp 109) (.tmp 110) (.const (.bool false)), some 111, none⟩,
    ⟨.mov (.tmp 111), some 106, none⟩])
  (.cond (.tmp 106) (.seq (.ops [⟨.mov (.const (.bool true)), some 12, none⟩])
  (.exit 4)) (.seq (.ops [⟨.mov (.tmp 15), some 113, none⟩,
    ⟨.bin .leq (.const (.int .u8 48)) (.tmp 113), some 114, none⟩,
    ⟨.mov (.tmp 114), some 115, none⟩,
    ⟨.mov (.tmp 15), some 116, some (115, true)⟩,
    ⟨.bin .leq (.tmp 116) (.const (.int .u8 57)), some 117, some (115, true)⟩,
    ⟨.pick (.tmp 115) (.tmp 117) (.const (.bool false)), some 118, none⟩,
    ⟨.mov (.tmp 118), some 112, none⟩])
  (.cond (.tmp 112) (.ops [⟨.mov (.tmp 15), some 119, none⟩,
    ⟨.bin .sub (.tmp 119) (.const (.int .u8 48)), some 120, none⟩,
    ⟨.mov (.tmp 120), some 16, none⟩]) (.seq (.ops [⟨.mov (.tmp 15), some 122, none⟩,
    ⟨.call 37 [.tmp 122], some 123, none⟩,
    ⟨.bin .leq (.const (.int .u8 97)) (.tmp 123), some 124, none⟩,
    ⟨.mov (.tmp 124), some 125, none⟩,
    ⟨.mov (.tmp 15), some 126, some (125, true)⟩,
    ⟨.call 37 [.tmp 126], some 127, some (125, true)⟩,
    ⟨.bin .leq (.tmp 127) (.const (.int .u8 122)), some 128, some (125, true)⟩,
    ⟨.pick (.tmp 125) (.tmp 128) (.const (.bool false)), some 129, none⟩,
    ⟨.mov (.tmp 129), some 121, none⟩])
  (.cond (.tmp 121) (.ops [⟨.mov (.tmp 15), some 130, none⟩,
    ⟨.call 37 [.tmp 130], some 131, none⟩,
    ⟨.bin .sub (.tmp 131) (.const (.int .u8 97)), some 132, none⟩,
    ⟨.bin .add (.tmp 132) (.const (.int .u8 10)), some 133, none⟩,
    ⟨.mov (.tmp 133), some 16, none⟩]) (.seq (.ops [⟨.ifc 67 (.const (.int .i64 2)), some 105, none⟩,
    ⟨.mov (.const (.int .u64 0)), some 6, none⟩,
    ⟨.mov (.tmp 105), some 7, none⟩])
  (.ret)))))))))
  (.seq (.seq (.ops [⟨.mov (.tmp 16), some 134, none⟩,
    ⟨.mov (.tmp 1), some 135, none⟩,
    ⟨.convI .u8 (.tmp 135), some 136, none⟩,
    ⟨.bin .geq (.tmp 134) (.tmp 136), some 137, none⟩])
  (.cond (.tmp 137) (.seq (.ops [⟨.ifc 67 (.const (.int .i64 2)), some 138, none⟩,
    ⟨.mov (.const (.int .u64 0)), some 6, none⟩,
    ⟨.mov (.tmp 138), some 7, none⟩])
  (.ret)) (.skip)))
  (.seq (.seq (.ops [⟨.mov (.tmp 13), some 139, none⟩,
    ⟨.mov (.tmp 10), some 140, none⟩,
    ⟨.bin .geq (.tmp 139) (.tmp 140), some 141, none⟩])
  (.cond (.tmp 141) (.seq (.ops [⟨.mov (.tmp 11), some 142, none⟩,
    ⟨.ifc 67 (.const (.int .i64 1)), some 143, none⟩,
    ⟨.mov (.tmp 142), some 6, none⟩,
    ⟨.mov (.tmp 143), some 7, none⟩])
  (.ret)) (.skip)))
  (.seq (.ops [⟨.mov (.tmp 13), some 144, none⟩,
    ⟨.mov (.tmp 1), some 145, none⟩,
    ⟨.convI .u64 (.tmp 145), some 146, none⟩,
    ⟨.bin .mul (.tmp 144) (.tmp 146), some 147, none⟩,
    ⟨.mov (.tmp 147), some 13, none⟩])
  (.seq (.ops [⟨.mov (.tmp 13), some 148, none⟩,
    ⟨.mov (.tmp 16), some 149, none⟩,
    ⟨.convI .u64 (.tmp 149), some 150, none⟩,
    ⟨.bin .add (.tmp 148) (.tmp 150), some 151, none⟩,
    ⟨.mov (.tmp 151), some 17, none⟩])
  (.seq (.seq (.ops [⟨.mov (.tmp 17), some 152, none⟩,
    ⟨.mov (.tmp 13), some 153, none⟩,
    ⟨.bin .lss (.tmp 152) (.tmp 153), some 154, none⟩,
    ⟨.mov (.tmp 154), some 155, none⟩,
    ⟨.mov (.tmp 17), some 156, some (155, false)⟩,
    ⟨.mov (.tmp 11), some 157, some (155, false)⟩,
    ⟨.bin .gtr (.tmp 156) (.tmp 157), some 158, some (155, false)⟩,
    ⟨.pick (.tmp 155) (.const (.bool true)) (.tmp 158), some 159, none⟩])
  (.cond (.tmp 159) (.seq (.ops [⟨.mov (.tmp 11), some 160, none⟩,
    ⟨.ifc 67 (.const (.int .i64 1)), some 161, none⟩,
    ⟨.mov (.tmp 160), some 6, none⟩,
    ⟨.mov (.tmp 161), some 7, none⟩])
  (.ret)) (.skip)))
  (.ops [⟨.mov (.tmp 17), some 162, none⟩,
    ⟨.mov (.tmp 162), some 13, none⟩]))))))))))
  (.ops [⟨.bin .add (.tmp 101) (.const (.int .i64 1)), some 163, none⟩,
    ⟨.mov (.tmp 163), some 101, none⟩])))))))
  (.seq (.seq (.ops [⟨.mov (.tmp 12), some 164, none⟩,
    ⟨.mov (.tmp 164), some 165, none⟩,
    ⟨.mov (.tmp 9), some 166, some (165, true)⟩,
    ⟨.call 38 [.tmp 166], some 167, some (165, true)⟩,
    ⟨.un .not (.tmp 167), some 168, some (165, true)⟩,
    ⟨.pick (.tmp 165) (.tmp 168) (.const (.bool false)), some 169, none⟩])
  (.cond (.tmp 169) (.seq (.ops [⟨.ifc 67 (.const (.int .i64 2)), some 170, none⟩,
    ⟨.mov (.const (.int .u64 0)), some 6, none⟩,
    ⟨.mov (.tmp 170), some 7, none⟩])
  (.ret)) (.skip)))
  (.seq (.ops [⟨.mov (.tmp 13), some 171, none⟩,
    ⟨.mov (.tmp 171), some 6, none⟩,
    ⟨.mov (.const (.nilIface)), some 7, none⟩])
  (.ret))))))))))))))⟩
theorem ok_internal_strconv_ParseUint : cmpF Tryd.prog Tryd.f26 = some c_internal_strconv_ParseUint := by kernel_rfl

/- internal/strconv.formatBits -/
def c_internal_strconv_formatBits : FV := ⟨102, [.tmp 10, .tmp 11],
  .seq (.ops [⟨.mov (.const (.slice none 0 0)), some 10, none⟩,
    ⟨.mov (.const (.string ⟨#[]⟩)), some 11, none⟩])
  (.seq (.seq (.ops [⟨.mov (.tmp 2), some 19, none⟩,
    ⟨.bin .lss (.tmp 19) (.const (.int .i64 2)), some 20, none⟩,
    ⟨.mov (.tmp 20), some 21, none⟩,
    ⟨.mov (.tmp 2), some 22, some (21, false)⟩,
    ⟨.bin .eql (.tmp 22) (.const (.int .i64 10)), some 23, some (21, false)⟩,
    ⟨.pick (.tmp 21) (.const (.bool true)) (.tmp 23), some 24, none⟩,
    ⟨.mov (.tmp 24), some 25, none⟩,
    ⟨.mov (.tmp 2), some 26, some (25, false)⟩,
    ⟨.bin .gtr (.tmp 26) (.const (.int .i64 36)), some 27, some (25, false)⟩,
    ⟨.pick (.tmp 25) (.const (.bool true)) (.tmp 27), some 28, none⟩])
  (.cond (.tmp 28) (.ops [⟨.ifc 9 (.const (.string ⟨#[115, 116, 114, 99, 111, 110, 118, 58, 32, 105, 108, 108, 101, 103, 97, 108, 32, 65, 112, 112, 101, 110, 100, 73, 110, 116, 47, 70, 111, 114, 109, 97, 116, 73, 110, 116, 32, 98, 97, 115, 101]⟩)), some 29, none⟩,
    ⟨.dead, none, none⟩]) (.skip)))
  (.seq (.ops [⟨.alloc 75 (.agg (#[.int .u8 0, .int .u8 0, .int .u8 0, .int .u8 0, .int .u8 0, .int .u8 0, .int .u8 0, .int .u8 0, .int .u8 0, .int .u8 0, .int .u8 0, .int .u8 0, .int .u8 0, .int .u8 0, .int .u8 0, .int .u8 0, .int .u8 0, .int .u8 0, .int .u8 0, .int .u8 0, .int .u8 0, .int .u8 0, .int .u8 0, .int .u8 0, .int .u8 0, .int .u8 0, .int .u8 0, .int .u8 0, .int .u8 0, .int .u8 0, .int .u8 0, .int .u8 0, .int .u8 0, .int .u8 0, .int .u8 0, .int .u8 0, .int .u8 0, .int .u8 0, .int .u8 0, .int .u8 0, .int .u8 0, .int .u8 0, .int .u8 0, .int .u8 0, .int .u8 0, .int .u8 0, .int .u8 0, .int .u8 0, .int .u8 0, .int .u8 0, .int .u8 0, .int .u8 0, .int .u8 0, .int .u8 0, .int .u8 0, .int .u8 0, .int .u8 0, .int .u8 0, .int .u8 0, .int .u8 0, .int .u8 0, .int .u8 0, .int .u8 0, .int .u8 0, .int .u8 0])), some 12, none⟩])
  (.seq (.ops [⟨.mov (.const (.int .i64 65)), some 13, none⟩])
  (.seq (.seq (.ops [⟨.mov (.tmp 3), some 30, none⟩])
  (.cond (.tmp 30) (.ops [⟨.mov (.tmp 1), some 31, none⟩,
    ⟨.un .neg (.tmp 31), some 32, none⟩,
    ⟨.mov (.tmp 32), some 1, none⟩]) (.skip)))
  (.seq (.seq (.ops [⟨.mov (.tmp 2), some 33, none⟩,
    ⟨.call 46 [.tmp 33], some 34, none⟩])
  (.cond (.tmp 34) (.seq (.ops [⟨.mov (.tmp 2), some 35, none⟩,
    ⟨.convI .u64 (.tmp 35), some 36, none⟩,
    ⟨.call 47 [.tmp 36], some 37, none⟩,
    ⟨.convI .u64 (.tmp 37), some 38, none⟩,
    ⟨.mov (.tmp 38), some 14, none⟩])
  (.seq (.ops [⟨.mov (.tmp 2), some 39, none⟩,
    ⟨.convI .u64 (.tmp 39), some 40, none⟩,
    ⟨.mov (.tmp 40), some 15, none⟩])
  (.seq (.ops [⟨.mov (.tmp 2), some 41, none⟩,
    ⟨.convI .u64 (.tmp 41), some 42, none⟩,
    ⟨.bin .sub (.tmp 42) (.const (.int .u64 1)), some 43, none⟩,
    ⟨.mov (.tmp 43), some 16, none⟩])
  (.seq (.block 0 (.loop (.seq (.seq (.ops [⟨.mov (.tmp 1), some 44, none⟩,
    ⟨.mov (.tmp 15), some 45, none⟩,
    ⟨.bin .geq (.tmp 44) (.tmp 45), some 46, none⟩])
  (.cond (.tmp 46) (.skip) (.exit 0)))
  (.block 1 (.seq (.ops [⟨.mov (.tmp 13), some 47, none⟩,
    ⟨.bin .sub (.tmp 47) (.const (.int .i64 1)), some 48, none⟩,
    ⟨.mov (.tmp 48), some 13, none⟩])
  (.seq (.ops [⟨.mov (.tmp 13), some 49, none⟩,
    ⟨.mov (.tmp 1), some 50, none⟩,
    ⟨.mov (.tmp 16), some 51, none⟩,
    ⟨.bin .and (.tmp 50) (.tmp 51), some 52, none⟩,
    ⟨.ixStr (.const (.string ⟨#[48, 49, 50, 51, 52, 53, 54, 55, 56, 57, 97, 98, 99, 100, 101, 102, 103, 104, 105, 106, 107, 108, 109, 110, 111, 112, 113, 114, 115, 116, 117, 118, 119, 120, 121, 122]⟩)) (.tmp 52), some 53, none⟩,
    ⟨.idxA 65 1 (.tmp 12) (.tmp 49), some 54, none⟩,
    ⟨.store 1 (.tmp 54) (.tmp 53), none, none⟩])
  (.ops [⟨.mov (.tmp 1), some 55, none⟩,
    ⟨.mov (.tmp 14), some 56, none⟩,
    ⟨.bin .shr (.tmp 55) (.tmp 56), some 57, none⟩,
    ⟨.mov (.tmp 57), some 1, none⟩])))))))
  (.seq (.ops [⟨.mov (.tmp 13), some 58, none⟩,
    ⟨.bin .sub (.tmp 58) (.const (.int .i64 1)), some 59, none⟩,
    ⟨.mov (.tmp 59), some 13, none⟩])
  (.ops [⟨.mov (.tmp 13), some 60, none⟩,
    ⟨.mov (.tmp 1), some 61, none⟩,
    ⟨.ixStr (.const (.string ⟨#[48, 49, 50, 51, 52, 53, 54, 55, 56, 57, 97, 98, 99, 100, 101, 102, 103, 104, 105, 106, 107, 108, 109, 110, 111, 112, 113, 114, 115, 116, 117, 118, 119, 120, 121, 122]⟩)) (.tmp 61), some 62, none⟩,
    ⟨.idxA 65 1 (.tmp 12) (.tmp 60), some 63, none⟩,
    ⟨.store 1 (.tmp 63) (.tmp 62), none, none⟩])))))) (.seq (.ops [⟨.mov (.tmp 2), some 64, none⟩,
    ⟨.convI .u64 (.tmp 64), some 65, none⟩,
    ⟨.mov (.tmp 65), some 17, none⟩])
  (.seq (.block 2 (.loop (.seq (.seq (.ops [⟨.mov (.tmp 1), some 66, none⟩,
    ⟨.mov (.tmp 17), some 67, none⟩,
    ⟨.bin .geq (.tmp 66) (.tmp 67), some 68, none⟩])
  (.cond (.tmp 68) (.skip) (.exit 2)))
  (.block 3 (.seq (.ops [⟨.mov (.tmp 13), some 69, none⟩,
    ⟨.bin .sub (.tmp 69) (.const (.int .i64 1)), some 70, none⟩,
    ⟨.mov (.tmp 70), some 13, none⟩])
  (.seq (.ops [⟨.mov (.tmp 1), some 71, none⟩,
    ⟨.mov (.tmp 17), some 72, none⟩,
    ⟨.bin .quo (.tmp 71) (.tmp 72), some 73, none⟩,
    ⟨.mov (.tmp 73), some 18, none⟩])
  (.seq (.ops [⟨.mov (.tmp 13), some 74, none⟩,
    ⟨.mov (.tmp 1), some 75, none⟩,
    ⟨.mov (.tmp 18), some 76, none⟩,
    ⟨.mov (.tmp 17), some 77, none⟩,
    ⟨.bin .mul (.tmp 76) (.tmp 77), some 78, none⟩,
    ⟨.bin .sub (.tmp 75) (.tmp 78), some 79, none⟩,
    ⟨.ixStr (.const (.string ⟨#[48, 49, 50, 51, 52, 53, 54, 55, 56, 57, 97, 98, 99, 100, 101, 102, 103, 104, 105, 106, 107, 108, 109, 110, 111, 112, 113, 114, 115, 116, 117, 118, 119, 120, 121, 122]⟩)) (.tmp 79), some 80, none⟩,
    ⟨.idxA 65 1 (.tmp 12) (.tmp 74), some 81, none⟩,
    ⟨.store 1 (.tmp 81) (.tmp 80), none, none⟩])
  (.ops [⟨.mov (.tmp 18), some 82, none⟩,
    ⟨.mov (.tmp 82), some 1, none⟩]))))))))
  (.seq (.ops [⟨.mov (.tmp 13), some 83, none⟩,
    ⟨.bin .sub (.tmp 83) (.const (.int .i64 1)), some 84, none⟩,
    ⟨.mov (.tmp 84), some 13, none⟩])
  (.ops [⟨.mov (.tmp 13), some 85, none⟩,
    ⟨.mov (.tmp 1), some 86, none⟩,
    ⟨.ixStr (.const (.string ⟨#[48, 49, 50, 51, 52, 53, 54, 55, 56, 57, 97, 98, 99, 100, 101, 102, 103, 104, 105, 106, 107, 108, 109, 110, 111, 112, 113, 114, 115, 116, 117, 118, 119, 120, 121, 122]⟩)) (.tmp 86), some 87, none⟩,
    ⟨.idxA 65 1 (.tmp 12) (.tmp 85), some 88, none⟩,
    ⟨.store 1 (.tmp 88) (.tmp 87), none, none⟩]))))))
  (.seq (.seq (.ops [⟨.mov (.tmp 3), some 89, none⟩])
  (.cond (.tmp 89) (.seq (.ops [⟨.mov (.tmp 13), some 90, none⟩,
    ⟨.bin .sub (.tmp 90) (.const (.int .i64 1)), some 91, none⟩,
    ⟨.mov (.tmp 91), some 13, none⟩])
  (.ops [⟨.mov (.tmp 13), some 92, none⟩,
    ⟨.idxA 65 1 (.tmp 12) (.tmp 92), some 93, none⟩,
    ⟨.store 1 (.tmp 93) (.const (.int .u8 45)), none, none⟩])) (.skip)))
  (.seq (.seq (.ops [⟨.mov (.tmp 4), some 94, none⟩])
  (.cond (.tmp 94) (.seq (.ops [⟨.mov (.tmp 0), some 95, none⟩,
    ⟨.mov (.tmp 13), some 96, none⟩,
    ⟨.slcA 65 1 (.tmp 12) (.tmp 96), some 97, none⟩,
    ⟨.app 5 1 (.tmp 95) (.tmp 97), some 98, none⟩,
    ⟨.mov (.tmp 98), some 10, none⟩])
  (.ret)) (.skip)))
  (.seq (.ops [⟨.mov (.tmp 13), some 99, none⟩,
    ⟨.slcA 65 1 (.tmp 12) (.tmp 99), some 100, none⟩,
    ⟨.bstr (.tmp 100), some 101, none⟩,
    ⟨.mov (.tmp 101), some 11, none⟩])
  (.ret)))))))))⟩
theorem ok_internal_strconv_formatBits : cmpF Tryd.prog Tryd.f31 = some c_internal_strconv_formatBits := by kernel_rfl

/- internal/strconv.lower -/
def c_internal_strconv_lower : FV := ⟨5, [.tmp 2],
  .seq (.ops [⟨.mov (.const (.int .u8 0)), some 2, none⟩])
  (.seq (.ops [⟨.mov (.tmp 0), some 3, none⟩,
    ⟨.bin .or (.tmp 3) (.const (.int .u8 32)), some 4, none⟩,
    ⟨.mov (.tmp 4), some 2, none⟩])
  (.ret))⟩
theorem ok_internal_strconv_lower : cmpF Tryd.prog Tryd.f37 = some c_internal_strconv_lower := by kernel_rfl

end Go.Proofs.YtnfipcfhnhhcmaaDoor

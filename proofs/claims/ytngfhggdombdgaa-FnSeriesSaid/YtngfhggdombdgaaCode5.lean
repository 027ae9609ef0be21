/- The code of the Go functions in the generator's own form, printed by a program of mine (gen.py) out of the loaded program; each with the check that it is so. -/
import Derived.Test.YtngfhggdombdgaaVcFn
import Derived.Test.YtngfhggdombdgaaGeo
import Derived.Test.YtngfhggdombdgaaRows
import Derived.KernelRfl
namespace Go.Proofs.Ytngfhggdombdgaa
open Go Go.Fl Go.Vc
set_option linter.all false
set_option maxRecDepth 100000

/- spec.l00Src.next -/
def c_spec_l00Src_next : FV := ⟨62, [.tmp 2],
  .seq (.ops [⟨.mov (.const (.int .i64 0)), some 2, none⟩])
  (.seq (.ops [⟨.mov (.const (.int .i64 0)), some 3, none⟩])
  (.seq (.seq (.ops [⟨.mov (.tmp 0), some 4, none⟩,
    ⟨.nilc (.tmp 4), some 5, none⟩,
    ⟨.addr (.tmp 5) 1, some 6, none⟩,
    ⟨.load none (.tmp 6), some 7, none⟩,
    ⟨.mov (.tmp 0), some 8, none⟩,
    ⟨.nilc (.tmp 8), some 9, none⟩,
    ⟨.addr (.tmp 9) 0, some 10, none⟩,
    ⟨.load none (.tmp 10), some 11, none⟩,
    ⟨.lenL (.tmp 11), some 12, none⟩,
    ⟨.bin .lss (.tmp 7) (.tmp 12), some 13, none⟩])
  (.cond (.tmp 13) (.ops [⟨.mov (.tmp 0), some 14, none⟩,
    ⟨.nilc (.tmp 14), some 15, none⟩,
    ⟨.addr (.tmp 15) 0, some 16, none⟩,
    ⟨.load none (.tmp 16), some 17, none⟩,
    ⟨.mov (.tmp 0), some 18, none⟩,
    ⟨.nilc (.tmp 18), some 19, none⟩,
    ⟨.addr (.tmp 19) 1, some 20, none⟩,
    ⟨.load none (.tmp 20), some 21, none⟩,
    ⟨.idxS 1 (.tmp 17) (.tmp 21), some 22, none⟩,
    ⟨.load none (.tmp 22), some 23, none⟩,
    ⟨.convI .i64 (.tmp 23), some 24, none⟩,
    ⟨.mov (.tmp 24), some 3, none⟩]) (.skip)))
  (.seq (.ops [⟨.mov (.tmp 0), some 25, none⟩,
    ⟨.nilc (.tmp 25), some 26, none⟩,
    ⟨.addr (.tmp 26) 1, some 27, none⟩,
    ⟨.load none (.tmp 27), some 28, none⟩,
    ⟨.bin .add (.tmp 28) (.const (.int .i64 1)), some 29, none⟩,
    ⟨.nilc (.tmp 25), some 30, none⟩,
    ⟨.addr (.tmp 30) 1, some 31, none⟩,
    ⟨.store 1 (.tmp 31) (.tmp 29), none, none⟩])
  (.seq (.ops [⟨.mov (.tmp 0), some 32, none⟩,
    ⟨.mov (.tmp 0), some 33, none⟩,
    ⟨.nilc (.tmp 33), some 34, none⟩,
    ⟨.addr (.tmp 34) 2, some 35, none⟩,
    ⟨.load none (.tmp 35), some 36, none⟩,
    ⟨.bin .mul (.tmp 36) (.const (.int .u64 6364136223846793005)), some 37, none⟩,
    ⟨.mov (.tmp 3), some 38, none⟩,
    ⟨.convI .u64 (.tmp 38), some 39, none⟩,
    ⟨.bin .add (.tmp 37) (.tmp 39), some 40, none⟩,
    ⟨.bin .add (.tmp 40) (.const (.int .u64 1442695040888963407)), some 41, none⟩,
    ⟨.nilc (.tmp 32), some 42, none⟩,
    ⟨.addr (.tmp 42) 2, some 43, none⟩,
    ⟨.store 1 (.tmp 43) (.tmp 41), none, none⟩])
  (.seq (.seq (.ops [⟨.mov (.tmp 0), some 44, none⟩,
    ⟨.nilc (.tmp 44), some 45, none⟩,
    ⟨.addr (.tmp 45) 1, some 46, none⟩,
    ⟨.load none (.tmp 46), some 47, none⟩,
    ⟨.mov (.tmp 0), some 48, none⟩,
    ⟨.nilc (.tmp 48), some 49, none⟩,
    ⟨.addr (.tmp 49) 0, some 50, none⟩,
    ⟨.load none (.tmp 50), some 51, none⟩,
    ⟨.lenL (.tmp 51), some 52, none⟩,
    ⟨.bin .leq (.tmp 47) (.tmp 52), some 53, none⟩])
  (.cond (.tmp 53) (.seq (.ops [⟨.mov (.tmp 3), some 54, none⟩,
    ⟨.mov (.tmp 54), some 2, none⟩])
  (.ret)) (.skip)))
  (.seq (.ops [⟨.mov (.tmp 0), some 55, none⟩,
    ⟨.nilc (.tmp 55), some 56, none⟩,
    ⟨.addr (.tmp 56) 2, some 57, none⟩,
    ⟨.load none (.tmp 57), some 58, none⟩,
    ⟨.bin .shr (.tmp 58) (.const (.int .u64 40)), some 59, none⟩,
    ⟨.bin .and (.tmp 59) (.const (.int .u64 255)), some 60, none⟩,
    ⟨.convI .i64 (.tmp 60), some 61, none⟩,
    ⟨.mov (.tmp 61), some 2, none⟩])
  (.ret)))))))⟩
theorem ok_spec_l00Src_next : cmpF Try.prog Try.f104 = some c_spec_l00Src_next := by kernel_rfl

/- spec.l03Place -/
def c_spec_l03Place : FV := ⟨5, [.tmp 2],
  .seq (.ops [⟨.mov (.const (.bool false)), some 2, none⟩])
  (.seq (.ops [⟨.mov (.tmp 0), some 3, none⟩,
    ⟨.call 75 [.tmp 3, .const (.int .i64 (-100)), .const (.int .i64 100)], some 4, none⟩,
    ⟨.mov (.tmp 4), some 2, none⟩])
  (.ret))⟩
theorem ok_spec_l03Place : cmpF Try.prog Try.f106 = some c_spec_l03Place := by kernel_rfl

/- spec.l03Plain -/
def c_spec_l03Plain : FV := ⟨9, [.tmp 2],
  .seq (.ops [⟨.mov (.const (.bool false)), some 2, none⟩])
  (.seq (.ops [⟨.mov (.tmp 0), some 3, none⟩,
    ⟨.fbin .geq (.tmp 3) (.const (.float .f32 3380609024)), some 4, none⟩,
    ⟨.mov (.tmp 4), some 5, none⟩,
    ⟨.mov (.tmp 0), some 6, some (5, true)⟩,
    ⟨.fbin .leq (.tmp 6) (.const (.float .f32 1233125376)), some 7, some (5, true)⟩,
    ⟨.pick (.tmp 5) (.tmp 7) (.const (.bool false)), some 8, none⟩,
    ⟨.mov (.tmp 8), some 2, none⟩])
  (.ret))⟩
theorem ok_spec_l03Plain : cmpF Try.prog Try.f107 = some c_spec_l03Plain := by kernel_rfl

/- impl.IsPlain -/
def c_impl_IsPlain : FV := ⟨9, [.tmp 2],
  .seq (.ops [⟨.mov (.const (.bool false)), some 2, none⟩])
  (.seq (.ops [⟨.mov (.tmp 0), some 3, none⟩,
    ⟨.fbin .geq (.tmp 3) (.const (.float .f32 3380609024)), some 4, none⟩,
    ⟨.mov (.tmp 4), some 5, none⟩,
    ⟨.mov (.tmp 0), some 6, some (5, true)⟩,
    ⟨.fbin .leq (.tmp 6) (.const (.float .f32 1233125376)), some 7, some (5, true)⟩,
    ⟨.pick (.tmp 5) (.tmp 7) (.const (.bool false)), some 8, none⟩,
    ⟨.mov (.tmp 8), some 2, none⟩])
  (.ret))⟩
theorem ok_impl_IsPlain : cmpF Try.prog Try.f108 = some c_impl_IsPlain := by kernel_rfl

/- impl.isMoment -/
def c_impl_isMoment : FV := ⟨5, [.tmp 2],
  .seq (.ops [⟨.mov (.const (.bool false)), some 2, none⟩])
  (.seq (.ops [⟨.mov (.tmp 0), some 3, none⟩,
    ⟨.call 78 [.tmp 3, .const (.int .i64 1), .const (.int .i64 100000)], some 4, none⟩,
    ⟨.mov (.tmp 4), some 2, none⟩])
  (.ret))⟩
theorem ok_impl_isMoment : cmpF Try.prog Try.f109 = some c_impl_isMoment := by kernel_rfl

/- math.floor -/
def c_math_floor : FV := ⟨38, [.tmp 2],
  .seq (.ops [⟨.mov (.const (.float .f64 0)), some 2, none⟩])
  (.seq (.seq (.ops [⟨.mov (.tmp 0), some 7, none⟩,
    ⟨.fbin .eql (.tmp 7) (.const (.float .f64 0)), some 8, none⟩,
    ⟨.mov (.tmp 8), some 9, none⟩,
    ⟨.mov (.tmp 0), some 10, some (9, false)⟩,
    ⟨.call 120 [.tmp 10], some 11, some (9, false)⟩,
    ⟨.pick (.tmp 9) (.const (.bool true)) (.tmp 11), some 12, none⟩,
    ⟨.mov (.tmp 12), some 13, none⟩,
    ⟨.mov (.tmp 0), some 14, some (13, false)⟩,
    ⟨.call 121 [.tmp 14, .const (.int .i64 0)], some 15, some (13, false)⟩,
    ⟨.pick (.tmp 13) (.const (.bool true)) (.tmp 15), some 16, none⟩])
  (.cond (.tmp 16) (.seq (.ops [⟨.mov (.tmp 0), some 17, none⟩,
    ⟨.mov (.tmp 17), some 2, none⟩])
  (.ret)) (.skip)))
  (.seq (.seq (.ops [⟨.mov (.tmp 0), some 18, none⟩,
    ⟨.fbin .lss (.tmp 18) (.const (.float .f64 0)), some 19, none⟩])
  (.cond (.tmp 19) (.seq (.ops [⟨.mov (.tmp 0), some 21, none⟩,
    ⟨.un .neg (.tmp 21), some 22, none⟩,
    ⟨.call 122 [.tmp 22], some 23, none⟩,
    ⟨.mov (.tmp 23), some 20, none⟩,
    ⟨.ext (.tmp 20) 0, some 24, none⟩,
    ⟨.ext (.tmp 20) 1, some 25, none⟩,
    ⟨.mov (.tmp 24), some 3, none⟩,
    ⟨.mov (.tmp 25), some 4, none⟩])
  (.seq (.seq (.ops [⟨.mov (.tmp 4), some 26, none⟩,
    ⟨.fbin .neq (.tmp 26) (.const (.float .f64 0)), some 27, none⟩])
  (.cond (.tmp 27) (.ops [⟨.mov (.tmp 3), some 28, none⟩,
    ⟨.fbin .add (.tmp 28) (.const (.float .f64 4607182418800017408)), some 29, none⟩,
    ⟨.mov (.tmp 29), some 3, none⟩]) (.skip)))
  (.seq (.ops [⟨.mov (.tmp 3), some 30, none⟩,
    ⟨.un .neg (.tmp 30), some 31, none⟩,
    ⟨.mov (.tmp 31), some 2, none⟩])
  (.ret)))) (.skip)))
  (.seq (.ops [⟨.mov (.tmp 0), some 33, none⟩,
    ⟨.call 122 [.tmp 33], some 34, none⟩,
    ⟨.mov (.tmp 34), some 32, none⟩,
    ⟨.ext (.tmp 32) 0, some 35, none⟩,
    ⟨.ext (.tmp 32) 1, some 36, none⟩,
    ⟨.mov (.tmp 35), some 5, none⟩,
    ⟨.mov (.tmp 36), some 6, none⟩])
  (.seq (.ops [⟨.mov (.tmp 5), some 37, none⟩,
    ⟨.mov (.tmp 37), some 2, none⟩])
  (.ret)))))⟩
theorem ok_math_floor : cmpF Try.prog Try.f111 = some c_math_floor := by kernel_rfl

/- math.ceil -/
def c_math_ceil : FV := ⟨7, [.tmp 2],
  .seq (.ops [⟨.mov (.const (.float .f64 0)), some 2, none⟩])
  (.seq (.ops [⟨.mov (.tmp 0), some 3, none⟩,
    ⟨.un .neg (.tmp 3), some 4, none⟩,
    ⟨.call 87 [.tmp 4], some 5, none⟩,
    ⟨.un .neg (.tmp 5), some 6, none⟩,
    ⟨.mov (.tmp 6), some 2, none⟩])
  (.ret))⟩
theorem ok_math_ceil : cmpF Try.prog Try.f113 = some c_math_ceil := by kernel_rfl

/- spec.l03Aquifer -/
def c_spec_l03Aquifer : FV := ⟨23, [.tmp 2],
  .seq (.ops [⟨.box 70 (.tmp 0), some 1, none⟩,
    ⟨.mov (.const (.bool false)), some 2, none⟩])
  (.seq (.bops [⟨.addr (.tmp 1) 0, some 3, none⟩,
    ⟨.load none (.tmp 3), some 4, none⟩,
    ⟨.call 68 [.const (.int .i64 1), .const (.int .i64 1024)], some 5, none⟩,
    ⟨.fbin .geq (.tmp 4) (.tmp 5), some 6, none⟩,
    ⟨.mov (.tmp 6), some 7, none⟩,
    ⟨.addr (.tmp 1) 0, some 8, some (7, true)⟩,
    ⟨.load none (.tmp 8), some 9, some (7, true)⟩,
    ⟨.fbin .leq (.tmp 9) (.const (.float .f32 1233125376)), some 10, some (7, true)⟩,
    ⟨.pick (.tmp 7) (.tmp 10) (.const (.bool false)), some 11, none⟩,
    ⟨.mov (.tmp 11), some 12, none⟩,
    ⟨.addr (.tmp 1) 1, some 13, some (12, true)⟩,
    ⟨.load none (.tmp 13), some 14, some (12, true)⟩,
    ⟨.call 68 [.const (.int .i64 1), .const (.int .i64 1048576)], some 15, some (12, true)⟩,
    ⟨.fbin .geq (.tmp 14) (.tmp 15), some 16, some (12, true)⟩,
    ⟨.pick (.tmp 12) (.tmp 16) (.const (.bool false)), some 17, none⟩,
    ⟨.mov (.tmp 17), some 18, none⟩,
    ⟨.addr (.tmp 1) 1, some 19, some (18, true)⟩,
    ⟨.load none (.tmp 19), some 20, some (18, true)⟩,
    ⟨.fbin .leq (.tmp 20) (.const (.float .f32 1065353216)), some 21, some (18, true)⟩,
    ⟨.pick (.tmp 18) (.tmp 21) (.const (.bool false)), some 22, none⟩,
    ⟨.mov (.tmp 22), some 2, none⟩])
  (.ret))⟩
theorem ok_spec_l03Aquifer : cmpF Try.prog Try.f114 = some c_spec_l03Aquifer := by kernel_rfl

/- spec.l03Moment -/
def c_spec_l03Moment : FV := ⟨5, [.tmp 2],
  .seq (.ops [⟨.mov (.const (.bool false)), some 2, none⟩])
  (.seq (.ops [⟨.mov (.tmp 0), some 3, none⟩,
    ⟨.call 75 [.tmp 3, .const (.int .i64 1), .const (.int .i64 100000)], some 4, none⟩,
    ⟨.mov (.tmp 4), some 2, none⟩])
  (.ret))⟩
theorem ok_spec_l03Moment : cmpF Try.prog Try.f115 = some c_spec_l03Moment := by kernel_rfl

/- impl.ValidAquifer -/
def c_impl_ValidAquifer : FV := ⟨21, [.tmp 2],
  .seq (.ops [⟨.box 70 (.tmp 0), some 1, none⟩,
    ⟨.mov (.const (.bool false)), some 2, none⟩])
  (.seq (.ops [⟨.addr (.tmp 1) 0, some 3, none⟩,
    ⟨.load none (.tmp 3), some 4, none⟩,
    ⟨.fbin .geq (.tmp 4) (.const (.float .f32 981467136)), some 5, none⟩,
    ⟨.mov (.tmp 5), some 6, none⟩,
    ⟨.addr (.tmp 1) 0, some 7, some (6, true)⟩,
    ⟨.load none (.tmp 7), some 8, some (6, true)⟩,
    ⟨.fbin .leq (.tmp 8) (.const (.float .f32 1233125376)), some 9, some (6, true)⟩,
    ⟨.pick (.tmp 6) (.tmp 9) (.const (.bool false)), some 10, none⟩,
    ⟨.mov (.tmp 10), some 11, none⟩,
    ⟨.addr (.tmp 1) 1, some 12, some (11, true)⟩,
    ⟨.load none (.tmp 12), some 13, some (11, true)⟩,
    ⟨.fbin .geq (.tmp 13) (.const (.float .f32 897581056)), some 14, some (11, true)⟩,
    ⟨.pick (.tmp 11) (.tmp 14) (.const (.bool false)), some 15, none⟩,
    ⟨.mov (.tmp 15), some 16, none⟩,
    ⟨.addr (.tmp 1) 1, some 17, some (16, true)⟩,
    ⟨.load none (.tmp 17), some 18, some (16, true)⟩,
    ⟨.fbin .leq (.tmp 18) (.const (.float .f32 1065353216)), some 19, some (16, true)⟩,
    ⟨.pick (.tmp 16) (.tmp 19) (.const (.bool false)), some 20, none⟩,
    ⟨.mov (.tmp 20), some 2, none⟩])
  (.ret))⟩
theorem ok_impl_ValidAquifer : cmpF Try.prog Try.f116 = some c_impl_ValidAquifer := by kernel_rfl

/- slices.ContainsFunc[[]int64,int64] -/
def c_slices_ContainsFunc___int64_int64 : FV := ⟨9, [.tmp 4],
  .seq (.ops [⟨.mov (.const (.bool false)), some 4, none⟩])
  (.seq (.ops [⟨.mov (.tmp 0), some 5, none⟩,
    ⟨.mov (.tmp 1), some 6, none⟩,
    ⟨.call 123 [.tmp 5, .tmp 6], some 7, none⟩,
    ⟨.bin .geq (.tmp 7) (.const (.int .i64 0)), some 8, none⟩,
    ⟨.mov (.tmp 8), some 4, none⟩])
  (.ret))⟩
theorem ok_slices_ContainsFunc___int64_int64 : cmpF Try.prog Try.f117 = some c_slices_ContainsFunc___int64_int64 := by kernel_rfl

/- impl.momentsFault$1 -/
def c_impl_momentsFault_1 : FV := ⟨6, [.tmp 2],
  .seq (.ops [⟨.mov (.const (.bool false)), some 2, none⟩])
  (.seq (.ops [⟨.mov (.tmp 0), some 3, none⟩,
    ⟨.call 109 [.tmp 3], some 4, none⟩,
    ⟨.un .not (.tmp 4), some 5, none⟩,
    ⟨.mov (.tmp 5), some 2, none⟩])
  (.ret))⟩
theorem ok_impl_momentsFault_1 : cmpF Try.prog Try.f118 = some c_impl_momentsFault_1 := by kernel_rfl

/- slices.IndexFunc[[]impl.Well,impl.Well] -/
def c_slices_IndexFunc___impl_Well_impl_Well : FV := ⟨19, [.tmp 4],
  .seq (.ops [⟨.mov (.const (.int .i64 0)), some 4, none⟩])
  (.seq (.seq (.ops [⟨.mov (.tmp 0), some 6, none⟩,
    ⟨.lenL (.tmp 6), some 7, none⟩,
    ⟨.mov (.const (.int .i64 0)), some 8, none⟩])
  (.block 0 (.loop (.seq (.ops [⟨.bin .lss (.tmp 8) (.tmp 7), some 9, none⟩])
  (.seq (.cond (.tmp 9) (.skip) (.exit 0))
  (.seq (.block 1 (.seq (.ops [⟨.mov (.tmp 8), some 10, none⟩,
    ⟨.mov (.tmp 10), some 5, none⟩])
  (.seq (.ops [⟨.mov (.tmp 1), some 11, none⟩,
    ⟨.mov (.tmp 0), some 12, none⟩,
    ⟨.mov (.tmp 5), some 13, none⟩,
    ⟨.idxS 3 (.tmp 12) (.tmp 13), some 14, none⟩,
    ⟨.load (some 3) (.tmp 14), some 15, none⟩,
    ⟨.callv (.tmp 11) [.tmp 15], some 16, none⟩])
  (.cond (.tmp 16) (.seq (.ops [⟨.mov (.tmp 5), some 17, none⟩,
    ⟨.mov (.tmp 17), some 4, none⟩])
  (.ret)) (.skip)))))
  (.ops [⟨.bin .add (.tmp 8) (.const (.int .i64 1)), some 18, none⟩,
    ⟨.mov (.tmp 18), some 8, none⟩])))))))
  (.seq (.ops [⟨.mov (.const (.int .i64 (-1))), some 4, none⟩])
  (.ret)))⟩
theorem ok_slices_IndexFunc___impl_Well_impl_Well : cmpF Try.prog Try.f119 = some c_slices_IndexFunc___impl_Well_impl_Well := by kernel_rfl

/- math.IsNaN -/
def c_math_IsNaN : FV := ⟨6, [.tmp 2],
  .seq (.ops [⟨.mov (.const (.bool false)), some 2, none⟩])
  (.seq (.ops [⟨.mov (.tmp 0), some 3, none⟩,
    ⟨.mov (.tmp 0), some 4, none⟩,
    ⟨.fbin .neq (.tmp 3) (.tmp 4), some 5, none⟩,
    ⟨.mov (.tmp 5), some 2, none⟩])
  (.ret))⟩
theorem ok_math_IsNaN : cmpF Try.prog Try.f120 = some c_math_IsNaN := by kernel_rfl

/- math.IsInf -/
def c_math_IsInf : FV := ⟨15, [.tmp 4],
  .seq (.ops [⟨.mov (.const (.bool false)), some 4, none⟩])
  (.seq (.seq (.ops [⟨.mov (.tmp 1), some 5, none⟩,
    ⟨.bin .eql (.tmp 5) (.const (.int .i64 0)), some 6, none⟩])
  (.cond (.tmp 6) (.ops [⟨.mov (.tmp 0), some 7, none⟩,
    ⟨.call 124 [.tmp 7], some 8, none⟩,
    ⟨.mov (.tmp 8), some 0, none⟩]) (.seq (.ops [⟨.mov (.tmp 1), some 9, none⟩,
    ⟨.bin .lss (.tmp 9) (.const (.int .i64 0)), some 10, none⟩])
  (.cond (.tmp 10) (.ops [⟨.mov (.tmp 0), some 11, none⟩,
    ⟨.un .neg (.tmp 11), some 12, none⟩,
    ⟨.mov (.tmp 12), some 0, none⟩]) (.skip)))))
  (.seq (.ops [⟨.mov (.tmp 0), some 13, none⟩,
    ⟨.fbin .gtr (.tmp 13) (.const (.float .f64 9218868437227405311)), some 14, none⟩,
    ⟨.mov (.tmp 14), some 4, none⟩])
  (.ret)))⟩
theorem ok_math_IsInf : cmpF Try.prog Try.f121 = some c_math_IsInf := by kernel_rfl

/- math.Modf -/
def c_math_Modf : FV := ⟨11, [.tmp 2, .tmp 3],
  .seq (.ops [⟨.mov (.const (.float .f64 0)), some 2, none⟩,
    ⟨.mov (.const (.float .f64 0)), some 3, none⟩])
  (.seq (.ops [⟨.mov (.tmp 0), some 4, none⟩,
    ⟨.call 125 [.tmp 4], some 5, none⟩,
    ⟨.mov (.tmp 5), some 2, none⟩])
  (.seq (.ops [⟨.mov (.tmp 0), some 6, none⟩,
    ⟨.mov (.tmp 2), some 7, none⟩,
    ⟨.fbin .sub (.tmp 6) (.tmp 7), some 8, none⟩,
    ⟨.mov (.tmp 0), some 9, none⟩,
    ⟨.call 126 [.tmp 8, .tmp 9], some 10, none⟩,
    ⟨.mov (.tmp 10), some 3, none⟩])
  (.ret)))⟩
theorem ok_math_Modf : cmpF Try.prog Try.f122 = some c_math_Modf := by kernel_rfl

/- slices.IndexFunc[[]int64,int64] -/
def c_slices_IndexFunc___int64_int64 : FV := ⟨19, [.tmp 4],
  .seq (.ops [⟨.mov (.const (.int .i64 0)), some 4, none⟩])
  (.seq (.seq (.ops [⟨.mov (.tmp 0), some 6, none⟩,
    ⟨.lenL (.tmp 6), some 7, none⟩,
    ⟨.mov (.const (.int .i64 0)), some 8, none⟩])
  (.block 0 (.loop (.seq (.ops [⟨.bin .lss (.tmp 8) (.tmp 7), some 9, none⟩])
  (.seq (.cond (.tmp 9) (.skip) (.exit 0))
  (.seq (.block 1 (.seq (.ops [⟨.mov (.tmp 8), some 10, none⟩,
    ⟨.mov (.tmp 10), some 5, none⟩])
  (.seq (.ops [⟨.mov (.tmp 1), some 11, none⟩,
    ⟨.mov (.tmp 0), some 12, none⟩,
    ⟨.mov (.tmp 5), some 13, none⟩,
    ⟨.idxS 1 (.tmp 12) (.tmp 13), some 14, none⟩,
    ⟨.load none (.tmp 14), some 15, none⟩,
    ⟨.callv (.tmp 11) [.tmp 15], some 16, none⟩])
  (.cond (.tmp 16) (.seq (.ops [⟨.mov (.tmp 5), some 17, none⟩,
    ⟨.mov (.tmp 17), some 4, none⟩])
  (.ret)) (.skip)))))
  (.ops [⟨.bin .add (.tmp 8) (.const (.int .i64 1)), some 18, none⟩,
    ⟨.mov (.tmp 18), some 8, none⟩])))))))
  (.seq (.ops [⟨.mov (.const (.int .i64 (-1))), some 4, none⟩])
  (.ret)))⟩
theorem ok_slices_IndexFunc___int64_int64 : cmpF Try.prog Try.f123 = some c_slices_IndexFunc___int64_int64 := by kernel_rfl

/- math.Abs -/
def c_math_Abs : FV := ⟨7, [.tmp 2],
  .seq (.ops [⟨.mov (.const (.float .f64 0)), some 2, none⟩])
  (.seq (.ops [⟨.mov (.tmp 0), some 3, none⟩,
    ⟨.f64bits (.tmp 3), some 4, none⟩,
    ⟨.bin .andNot (.tmp 4) (.const (.int .u64 9223372036854775808)), some 5, none⟩,
    ⟨.f64from (.tmp 5), some 6, none⟩,
    ⟨.mov (.tmp 6), some 2, none⟩])
  (.ret))⟩
theorem ok_math_Abs : cmpF Try.prog Try.f124 = some c_math_Abs := by kernel_rfl

/- math.Trunc -/
def c_math_Trunc : FV := ⟨7, [.tmp 2],
  .seq (.ops [⟨.mov (.const (.float .f64 0)), some 2, none⟩])
  (.seq (.cond (.const (.bool true)) (.seq (.ops [⟨.mov (.tmp 0), some 3, none⟩,
    ⟨.integ .zero (.tmp 3), some 4, none⟩,
    ⟨.mov (.tmp 4), some 2, none⟩])
  (.ret)) (.skip))
  (.seq (.ops [⟨.mov (.tmp 0), some 5, none⟩,
    ⟨.call 130 [.tmp 5], some 6, none⟩,
    ⟨.mov (.tmp 6), some 2, none⟩])
  (.ret)))⟩
theorem ok_math_Trunc : cmpF Try.prog Try.f125 = some c_math_Trunc := by kernel_rfl

/- math.Copysign -/
def c_math_Copysign : FV := ⟨13, [.tmp 4],
  .seq (.ops [⟨.mov (.const (.float .f64 0)), some 4, none⟩])
  (.seq (.ops [⟨.mov (.tmp 0), some 5, none⟩,
    ⟨.f64bits (.tmp 5), some 6, none⟩,
    ⟨.bin .andNot (.tmp 6) (.const (.int .u64 9223372036854775808)), some 7, none⟩,
    ⟨.mov (.tmp 1), some 8, none⟩,
    ⟨.f64bits (.tmp 8), some 9, none⟩,
    ⟨.bin .and (.tmp 9) (.const (.int .u64 9223372036854775808)), some 10, none⟩,
    ⟨.bin .or (.tmp 7) (.tmp 10), some 11, none⟩,
    ⟨.f64from (.tmp 11), some 12, none⟩,
    ⟨.mov (.tmp 12), some 4, none⟩])
  (.ret))⟩
theorem ok_math_Copysign : cmpF Try.prog Try.f126 = some c_math_Copysign := by kernel_rfl

/- math.trunc -/
def c_math_trunc : FV := ⟨26, [.tmp 2],
  .seq (.ops [⟨.mov (.const (.float .f64 0)), some 2, none⟩])
  (.seq (.seq (.ops [⟨.mov (.tmp 0), some 5, none⟩,
    ⟨.call 124 [.tmp 5], some 6, none⟩,
    ⟨.fbin .lss (.tmp 6) (.const (.float .f64 4607182418800017408)), some 7, none⟩])
  (.cond (.tmp 7) (.seq (.ops [⟨.mov (.tmp 0), some 8, none⟩,
    ⟨.call 126 [.const (.float .f64 0), .tmp 8], some 9, none⟩,
    ⟨.mov (.tmp 9), some 2, none⟩])
  (.ret)) (.skip)))
  (.seq (.ops [⟨.mov (.tmp 0), some 10, none⟩,
    ⟨.f64bits (.tmp 10), some 11, none⟩,
    ⟨.mov (.tmp 11), some 3, none⟩])
  (.seq (.ops [⟨.mov (.tmp 3), some 12, none⟩,
    ⟨.bin .shr (.tmp 12) (.const (.int .u64 52)), some 13, none⟩,
    ⟨.bin .and (.tmp 13) (.const (.int .u64 2047)), some 14, none⟩,
    ⟨.bin .sub (.tmp 14) (.const (.int .u64 1023)), some 15, none⟩,
    ⟨.mov (.tmp 15), some 4, none⟩])
  (.seq (.seq (.ops [⟨.mov (.tmp 4), some 16, none⟩,
    ⟨.bin .lss (.tmp 16) (.const (.int .u64 52)), some 17, none⟩])
  (.cond (.tmp 17) (.ops [⟨.mov (.tmp 3), some 18, none⟩,
    ⟨.mov (.tmp 4), some 19, none⟩,
    ⟨.bin .sub (.const (.int .u64 52)) (.tmp 19), some 20, none⟩,
    ⟨.bin .shl (.const (.int .u64 1)) (.tmp 20), some 21, none⟩,
    ⟨.bin .sub (.tmp 21) (.const (.int .u64 1)), some 22, none⟩,
    ⟨.bin .andNot (.tmp 18) (.tmp 22), some 23, none⟩,
    ⟨.mov (.tmp 23), some 3, none⟩]) (.skip)))
  (.seq (.ops [⟨.mov (.tmp 3), some 24, none⟩,
    ⟨.f64from (.tmp 24), some 25, none⟩,
    ⟨.mov (.tmp 25), some 2, none⟩])
  (.ret))))))⟩
theorem ok_math_trunc : cmpF Try.prog Try.f130 = some c_math_trunc := by kernel_rfl

end Go.Proofs.Ytngfhggdombdgaa

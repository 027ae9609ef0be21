/- The code of the Go functions in the generator's own form, printed by a program of mine (gen.py) out of the loaded program; each with the check that it is so. -/
import Derived.Test.YtbhipkiiondgnaaVcFn
import Derived.Test.YtbhipkiiondgnaaGeo
import Derived.Test.YtbhipkiiondgnaaRows
import Derived.KernelRfl
namespace Go.Proofs.Ytbhipkiiondgnaa
open Go Go.Fl Go.Vc
set_option linter.all false
set_option maxRecDepth 100000

/- impl.Ground.settled -/
def c_impl_Ground_settled : FV := ⟨68, [.tmp 4],
  .seq (.ops [⟨.mov (.const (.float .f32 0)), some 4, none⟩])
  (.seq (.ops [⟨.mov (.tmp 0), some 10, none⟩,
    ⟨.mov (.tmp 1), some 11, none⟩,
    ⟨.nilc (.tmp 10), some 12, none⟩,
    ⟨.addr (.tmp 12) 66, some 13, none⟩,
    ⟨.idxA 64 1 (.tmp 13) (.tmp 11), some 14, none⟩,
    ⟨.load none (.tmp 14), some 15, none⟩,
    ⟨.mov (.tmp 15), some 5, none⟩,
    ⟨.mov (.const (.float .f32 0)), some 6, none⟩])
  (.seq (.seq (.ops [⟨.mov (.const (.int .i64 0)), some 16, none⟩])
  (.block 0 (.loop (.seq (.ops [⟨.bin .lss (.tmp 16) (.const (.int .i64 4)), some 17, none⟩])
  (.seq (.cond (.tmp 17) (.skip) (.exit 0))
  (.seq (.block 1 (.seq (.ops [⟨.mov (.tmp 16), some 18, none⟩,
    ⟨.mov (.tmp 18), some 7, none⟩])
  (.seq (.ops [⟨.mov (.tmp 0), some 19, none⟩,
    ⟨.mov (.tmp 1), some 20, none⟩,
    ⟨.mov (.tmp 7), some 21, none⟩,
    ⟨.call 98 [.tmp 19, .tmp 20, .tmp 21], some 22, none⟩,
    ⟨.mov (.tmp 22), some 8, none⟩])
  (.seq (.ops [⟨.mov (.tmp 8), some 23, none⟩,
    ⟨.bin .geq (.tmp 23) (.const (.int .i64 0)), some 24, none⟩])
  (.cond (.tmp 24) (.seq (.ops [⟨.mov (.tmp 0), some 25, none⟩,
    ⟨.mov (.tmp 1), some 26, none⟩,
    ⟨.nilc (.tmp 25), some 27, none⟩,
    ⟨.addr (.tmp 27) 2, some 28, none⟩,
    ⟨.idxA 64 1 (.tmp 28) (.tmp 26), some 29, none⟩,
    ⟨.load none (.tmp 29), some 30, none⟩,
    ⟨.mov (.tmp 0), some 31, none⟩,
    ⟨.mov (.tmp 8), some 32, none⟩,
    ⟨.nilc (.tmp 31), some 33, none⟩,
    ⟨.addr (.tmp 33) 2, some 34, none⟩,
    ⟨.idxA 64 1 (.tmp 34) (.tmp 32), some 35, none⟩,
    ⟨.load none (.tmp 35), some 36, none⟩,
    ⟨.call 99 [.tmp 30, .tmp 36], some 37, none⟩,
    ⟨.mov (.tmp 37), some 9, none⟩])
  (.seq (.ops [⟨.mov (.tmp 5), some 38, none⟩,
    ⟨.mov (.tmp 9), some 39, none⟩,
    ⟨.mov (.tmp 0), some 40, none⟩,
    ⟨.mov (.tmp 8), some 41, none⟩,
    ⟨.nilc (.tmp 40), some 42, none⟩,
    ⟨.addr (.tmp 42) 130, some 43, none⟩,
    ⟨.idxA 64 1 (.tmp 43) (.tmp 41), some 44, none⟩,
    ⟨.load none (.tmp 44), some 45, none⟩,
    ⟨.fbin .mul (.tmp 39) (.tmp 45), some 46, none⟩,
    ⟨.fbin .add (.tmp 38) (.tmp 46), some 47, none⟩,
    ⟨.mov (.tmp 47), some 5, none⟩])
  (.ops [⟨.mov (.tmp 6), some 48, none⟩,
    ⟨.mov (.tmp 9), some 49, none⟩,
    ⟨.fbin .add (.tmp 48) (.tmp 49), some 50, none⟩,
    ⟨.mov (.tmp 50), some 6, none⟩]))) (.skip))))))
  (.ops [⟨.bin .add (.tmp 16) (.const (.int .i64 1)), some 51, none⟩,
    ⟨.mov (.tmp 51), some 16, none⟩])))))))
  (.seq (.seq (.ops [⟨.mov (.tmp 0), some 52, none⟩,
    ⟨.mov (.tmp 1), some 53, none⟩,
    ⟨.call 87 [.tmp 52, .tmp 53], some 54, none⟩,
    ⟨.mov (.tmp 54), some 55, none⟩,
    ⟨.mov (.tmp 6), some 56, some (55, false)⟩,
    ⟨.fbin .eql (.tmp 56) (.const (.float .f32 0)), some 57, some (55, false)⟩,
    ⟨.pick (.tmp 55) (.const (.bool true)) (.tmp 57), some 58, none⟩])
  (.cond (.tmp 58) (.seq (.ops [⟨.mov (.tmp 0), some 59, none⟩,
    ⟨.mov (.tmp 1), some 60, none⟩,
    ⟨.nilc (.tmp 59), some 61, none⟩,
    ⟨.addr (.tmp 61) 130, some 62, none⟩,
    ⟨.idxA 64 1 (.tmp 62) (.tmp 60), some 63, none⟩,
    ⟨.load none (.tmp 63), some 64, none⟩,
    ⟨.mov (.tmp 64), some 4, none⟩])
  (.ret)) (.skip)))
  (.seq (.ops [⟨.mov (.tmp 5), some 65, none⟩,
    ⟨.mov (.tmp 6), some 66, none⟩,
    ⟨.fbin .quo (.tmp 65) (.tmp 66), some 67, none⟩,
    ⟨.mov (.tmp 67), some 4, none⟩])
  (.ret)))))⟩
theorem ok_impl_Ground_settled : cmpF Try.prog Try.f111 = some c_impl_Ground_settled := by kernel_rfl

/- impl.isNaN -/
def c_impl_isNaN : FV := ⟨6, [.tmp 2],
  .seq (.ops [⟨.mov (.const (.bool false)), some 2, none⟩])
  (.seq (.ops [⟨.mov (.tmp 0), some 3, none⟩,
    ⟨.mov (.tmp 0), some 4, none⟩,
    ⟨.fbin .neq (.tmp 3) (.tmp 4), some 5, none⟩,
    ⟨.mov (.tmp 5), some 2, none⟩])
  (.ret))⟩
theorem ok_impl_isNaN : cmpF Try.prog Try.f113 = some c_impl_isNaN := by kernel_rfl

/- impl.Ground.has -/
def c_impl_Ground_has : FV := ⟨23, [.tmp 4],
  .seq (.ops [⟨.mov (.const (.bool false)), some 4, none⟩])
  (.seq (.ops [⟨.mov (.tmp 1), some 5, none⟩,
    ⟨.bin .rem (.tmp 5) (.const (.int .i64 8)), some 6, none⟩,
    ⟨.mov (.tmp 0), some 7, none⟩,
    ⟨.nilc (.tmp 7), some 8, none⟩,
    ⟨.addr (.tmp 8) 0, some 9, none⟩,
    ⟨.load none (.tmp 9), some 10, none⟩,
    ⟨.convI .i64 (.tmp 10), some 11, none⟩,
    ⟨.bin .lss (.tmp 6) (.tmp 11), some 12, none⟩,
    ⟨.mov (.tmp 12), some 13, none⟩,
    ⟨.mov (.tmp 1), some 14, some (13, true)⟩,
    ⟨.bin .quo (.tmp 14) (.const (.int .i64 8)), some 15, some (13, true)⟩,
    ⟨.mov (.tmp 0), some 16, some (13, true)⟩,
    ⟨.nilc (.tmp 16), some 17, some (13, true)⟩,
    ⟨.addr (.tmp 17) 1, some 18, some (13, true)⟩,
    ⟨.load none (.tmp 18), some 19, some (13, true)⟩,
    ⟨.convI .i64 (.tmp 19), some 20, some (13, true)⟩,
    ⟨.bin .lss (.tmp 15) (.tmp 20), some 21, some (13, true)⟩,
    ⟨.pick (.tmp 13) (.tmp 21) (.const (.bool false)), some 22, none⟩,
    ⟨.mov (.tmp 22), some 4, none⟩])
  (.ret))⟩
theorem ok_impl_Ground_has : cmpF Try.prog Try.f114 = some c_impl_Ground_has := by kernel_rfl

/- spec.l01Field -/
def c_spec_l01Field : FV := ⟨36, [.tmp 4],
  .seq (.ops [⟨.mov (.const (.bool false)), some 4, none⟩])
  (.seq (.seq (.ops [⟨.mov (.const (.int .i64 0)), some 5, none⟩])
  (.block 0 (.loop (.seq (.seq (.ops [⟨.mov (.tmp 5), some 6, none⟩,
    ⟨.bin .lss (.tmp 6) (.const (.int .i64 64)), some 7, none⟩])
  (.cond (.tmp 7) (.skip) (.exit 0)))
  (.seq (.block 1 (.seq (.ops [⟨.mov (.tmp 0), some 10, none⟩,
    ⟨.mov (.tmp 5), some 11, none⟩,
    ⟨.call 71 [.tmp 10, .tmp 11], some 12, none⟩,
    ⟨.mov (.tmp 12), some 13, none⟩,
    ⟨.mov (.tmp 1), some 14, some (13, true)⟩,
    ⟨.mov (.tmp 5), some 15, some (13, true)⟩,
    ⟨.nilc (.tmp 14), some 16, some (13, true)⟩,
    ⟨.idxA 64 1 (.tmp 16) (.tmp 15), some 17, some (13, true)⟩,
    ⟨.load none (.tmp 17), some 18, some (13, true)⟩,
    ⟨.call 69 [.tmp 18], some 19, some (13, true)⟩,
    ⟨.un .not (.tmp 19), some 20, some (13, true)⟩,
    ⟨.pick (.tmp 13) (.tmp 20) (.const (.bool false)), some 21, none⟩,
    ⟨.mov (.tmp 21), some 22, none⟩,
    ⟨.mov (.tmp 0), some 23, some (22, false)⟩,
    ⟨.mov (.tmp 5), some 24, some (22, false)⟩,
    ⟨.call 71 [.tmp 23, .tmp 24], some 25, some (22, false)⟩,
    ⟨.un .not (.tmp 25), some 26, some (22, false)⟩,
    ⟨.mov (.tmp 26), some 27, some (22, false)⟩,
    ⟨.mov (.tmp 1), some 28, some (27, true)⟩,
    ⟨.mov (.tmp 5), some 29, some (27, true)⟩,
    ⟨.nilc (.tmp 28), some 30, some (27, true)⟩,
    ⟨.idxA 64 1 (.tmp 30) (.tmp 29), some 31, some (27, true)⟩,
    ⟨.load none (.tmp 31), some 32, some (27, true)⟩,
    ⟨.fbin .neq (.tmp 32) (.const (.float .f32 0)), some 33, some (27, true)⟩,
    ⟨.pick (.tmp 27) (.tmp 33) (.const (.bool false)), some 34, some (22, false)⟩,
    ⟨.pick (.tmp 22) (.const (.bool true)) (.tmp 34), some 35, none⟩])
  (.cond (.tmp 35) (.seq (.ops [⟨.mov (.const (.bool false)), some 4, none⟩])
  (.ret)) (.skip))))
  (.ops [⟨.mov (.tmp 5), some 8, none⟩,
    ⟨.bin .add (.tmp 8) (.const (.int .i64 1)), some 9, none⟩,
    ⟨.mov (.tmp 9), some 5, none⟩]))))))
  (.seq (.ops [⟨.mov (.const (.bool true)), some 4, none⟩])
  (.ret)))⟩
theorem ok_spec_l01Field : cmpF Try.prog Try.f115 = some c_spec_l01Field := by kernel_rfl

/- spec.l01Cells -/
def c_spec_l01Cells : FV := ⟨18, [.tmp 2],
  .seq (.ops [⟨.mov (.const (.int .u64 0)), some 2, none⟩])
  (.seq (.ops [⟨.mov (.const (.int .u64 0)), some 3, none⟩])
  (.seq (.seq (.ops [⟨.mov (.const (.int .i64 0)), some 4, none⟩])
  (.block 0 (.loop (.seq (.seq (.ops [⟨.mov (.tmp 4), some 5, none⟩,
    ⟨.bin .lss (.tmp 5) (.const (.int .i64 64)), some 6, none⟩])
  (.cond (.tmp 6) (.skip) (.exit 0)))
  (.seq (.block 1 (.seq (.ops [⟨.mov (.tmp 0), some 9, none⟩,
    ⟨.mov (.tmp 4), some 10, none⟩,
    ⟨.call 71 [.tmp 9, .tmp 10], some 11, none⟩])
  (.cond (.tmp 11) (.ops [⟨.mov (.tmp 3), some 12, none⟩,
    ⟨.mov (.tmp 4), some 13, none⟩,
    ⟨.convI .u64 (.tmp 13), some 14, none⟩,
    ⟨.bin .shl (.const (.int .u64 1)) (.tmp 14), some 15, none⟩,
    ⟨.bin .or (.tmp 12) (.tmp 15), some 16, none⟩,
    ⟨.mov (.tmp 16), some 3, none⟩]) (.skip))))
  (.ops [⟨.mov (.tmp 4), some 7, none⟩,
    ⟨.bin .add (.tmp 7) (.const (.int .i64 1)), some 8, none⟩,
    ⟨.mov (.tmp 8), some 4, none⟩]))))))
  (.seq (.ops [⟨.mov (.tmp 3), some 17, none⟩,
    ⟨.mov (.tmp 17), some 2, none⟩])
  (.ret))))⟩
theorem ok_spec_l01Cells : cmpF Try.prog Try.f116 = some c_spec_l01Cells := by kernel_rfl

/- impl.Ground.bits -/
def c_impl_Ground_bits : FV := ⟨19, [.tmp 2],
  .seq (.ops [⟨.mov (.const (.int .u64 0)), some 2, none⟩])
  (.seq (.ops [⟨.mov (.const (.int .u64 0)), some 3, none⟩])
  (.seq (.seq (.ops [⟨.mov (.tmp 0), some 6, none⟩,
    ⟨.call 75 [.tmp 6], some 7, none⟩,
    ⟨.lenL (.tmp 7), some 8, none⟩,
    ⟨.mov (.const (.int .i64 0)), some 9, none⟩])
  (.block 0 (.loop (.seq (.ops [⟨.bin .lss (.tmp 9) (.tmp 8), some 10, none⟩])
  (.seq (.cond (.tmp 10) (.skip) (.exit 0))
  (.seq (.block 1 (.seq (.ops [⟨.idxS 1 (.tmp 7) (.tmp 9), some 11, none⟩,
    ⟨.load none (.tmp 11), some 12, none⟩,
    ⟨.mov (.tmp 12), some 5, none⟩])
  (.ops [⟨.mov (.tmp 3), some 13, none⟩,
    ⟨.mov (.tmp 5), some 14, none⟩,
    ⟨.bin .shl (.const (.int .u64 1)) (.tmp 14), some 15, none⟩,
    ⟨.bin .or (.tmp 13) (.tmp 15), some 16, none⟩,
    ⟨.mov (.tmp 16), some 3, none⟩])))
  (.ops [⟨.bin .add (.tmp 9) (.const (.int .i64 1)), some 17, none⟩,
    ⟨.mov (.tmp 17), some 9, none⟩])))))))
  (.seq (.ops [⟨.mov (.tmp 3), some 18, none⟩,
    ⟨.mov (.tmp 18), some 2, none⟩])
  (.ret))))⟩
theorem ok_impl_Ground_bits : cmpF Try.prog Try.f117 = some c_impl_Ground_bits := by kernel_rfl

/- impl.size -/
def c_impl_size : FV := ⟨7, [.tmp 2],
  .seq (.ops [⟨.mov (.const (.float .f32 0)), some 2, none⟩])
  (.seq (.ops [⟨.mov (.tmp 0), some 3, none⟩,
    ⟨.convF .f64 (.tmp 3), some 4, none⟩,
    ⟨.call 122 [.tmp 4], some 5, none⟩,
    ⟨.convF .f32 (.tmp 5), some 6, none⟩,
    ⟨.mov (.tmp 6), some 2, none⟩])
  (.ret))⟩
theorem ok_impl_size : cmpF Try.prog Try.f118 = some c_impl_size := by kernel_rfl

/- spec.l01Between -/
def c_spec_l01Between : FV := ⟨29, [.tmp 6, .tmp 7],
  .seq (.ops [⟨.mov (.const (.float .f32 0)), some 6, none⟩,
    ⟨.mov (.const (.int .i64 0)), some 7, none⟩])
  (.seq (.ops [⟨.mov (.tmp 0), some 9, none⟩,
    ⟨.mov (.tmp 1), some 10, none⟩,
    ⟨.mov (.tmp 2), some 11, none⟩,
    ⟨.call 121 [.tmp 9, .tmp 10, .tmp 11], some 12, none⟩,
    ⟨.mov (.tmp 12), some 8, none⟩])
  (.seq (.seq (.ops [⟨.mov (.tmp 8), some 13, none⟩,
    ⟨.bin .lss (.tmp 13) (.const (.int .i64 0)), some 14, none⟩])
  (.cond (.tmp 14) (.seq (.ops [⟨.mov (.const (.float .f32 0)), some 6, none⟩,
    ⟨.mov (.const (.int .i64 (-1))), some 7, none⟩])
  (.ret)) (.skip)))
  (.seq (.ops [⟨.mov (.tmp 0), some 15, none⟩,
    ⟨.mov (.tmp 1), some 16, none⟩,
    ⟨.nilc (.tmp 15), some 17, none⟩,
    ⟨.addr (.tmp 17) 2, some 18, none⟩,
    ⟨.idxA 64 1 (.tmp 18) (.tmp 16), some 19, none⟩,
    ⟨.load none (.tmp 19), some 20, none⟩,
    ⟨.mov (.tmp 0), some 21, none⟩,
    ⟨.mov (.tmp 8), some 22, none⟩,
    ⟨.nilc (.tmp 21), some 23, none⟩,
    ⟨.addr (.tmp 23) 2, some 24, none⟩,
    ⟨.idxA 64 1 (.tmp 24) (.tmp 22), some 25, none⟩,
    ⟨.load none (.tmp 25), some 26, none⟩,
    ⟨.call 123 [.tmp 20, .tmp 26], some 27, none⟩,
    ⟨.mov (.tmp 8), some 28, none⟩,
    ⟨.mov (.tmp 27), some 6, none⟩,
    ⟨.mov (.tmp 28), some 7, none⟩])
  (.ret))))⟩
theorem ok_spec_l01Between : cmpF Try.prog Try.f119 = some c_spec_l01Between := by kernel_rfl

/- spec.l05Field -/
def c_spec_l05Field : FV := ⟨19, [.tmp 4],
  .seq (.ops [⟨.mov (.const (.bool false)), some 4, none⟩])
  (.seq (.seq (.ops [⟨.mov (.const (.int .i64 0)), some 5, none⟩])
  (.block 0 (.loop (.seq (.seq (.ops [⟨.mov (.tmp 5), some 6, none⟩,
    ⟨.bin .lss (.tmp 6) (.const (.int .i64 64)), some 7, none⟩])
  (.cond (.tmp 7) (.skip) (.exit 0)))
  (.seq (.block 1 (.seq (.ops [⟨.mov (.tmp 1), some 10, none⟩,
    ⟨.mov (.tmp 5), some 11, none⟩,
    ⟨.nilc (.tmp 10), some 12, none⟩,
    ⟨.idxA 64 1 (.tmp 12) (.tmp 11), some 13, none⟩,
    ⟨.load none (.tmp 13), some 14, none⟩,
    ⟨.fbin .lss (.tmp 14) (.const (.float .f32 0)), some 15, none⟩])
  (.cond (.tmp 15) (.seq (.ops [⟨.mov (.const (.bool false)), some 4, none⟩])
  (.ret)) (.skip))))
  (.ops [⟨.mov (.tmp 5), some 8, none⟩,
    ⟨.bin .add (.tmp 8) (.const (.int .i64 1)), some 9, none⟩,
    ⟨.mov (.tmp 9), some 5, none⟩]))))))
  (.seq (.ops [⟨.mov (.tmp 0), some 16, none⟩,
    ⟨.mov (.tmp 1), some 17, none⟩,
    ⟨.call 115 [.tmp 16, .tmp 17], some 18, none⟩,
    ⟨.mov (.tmp 18), some 4, none⟩])
  (.ret)))⟩
theorem ok_spec_l05Field : cmpF Try.prog Try.f120 = some c_spec_l05Field := by kernel_rfl

/- spec.l01Beside -/
def c_spec_l01Beside : FV := ⟨54, [.tmp 6],
  .seq (.ops [⟨.mov (.const (.int .i64 0)), some 6, none⟩])
  (.seq (.ops [⟨.mov (.tmp 1), some 9, none⟩,
    ⟨.bin .rem (.tmp 9) (.const (.int .i64 8)), some 10, none⟩,
    ⟨.mov (.tmp 10), some 7, none⟩])
  (.seq (.ops [⟨.mov (.tmp 1), some 11, none⟩,
    ⟨.bin .quo (.tmp 11) (.const (.int .i64 8)), some 12, none⟩,
    ⟨.mov (.tmp 12), some 8, none⟩])
  (.seq (.seq (.ops [⟨.mov (.tmp 2), some 13, none⟩])
  (.block 0 (.seq (.ops [⟨.bin .eql (.tmp 13) (.const (.int .i64 0)), some 15, none⟩,
    ⟨.mov (.tmp 15), some 14, none⟩])
  (.cond (.tmp 14) (.ops [⟨.mov (.tmp 8), some 16, none⟩,
    ⟨.bin .sub (.tmp 16) (.const (.int .i64 1)), some 17, none⟩,
    ⟨.mov (.tmp 17), some 8, none⟩]) (.seq (.ops [⟨.bin .eql (.tmp 13) (.const (.int .i64 1)), some 19, none⟩,
    ⟨.mov (.tmp 19), some 18, none⟩])
  (.cond (.tmp 18) (.ops [⟨.mov (.tmp 7), some 20, none⟩,
    ⟨.bin .add (.tmp 20) (.const (.int .i64 1)), some 21, none⟩,
    ⟨.mov (.tmp 21), some 7, none⟩]) (.seq (.ops [⟨.bin .eql (.tmp 13) (.const (.int .i64 2)), some 23, none⟩,
    ⟨.mov (.tmp 23), some 22, none⟩])
  (.cond (.tmp 22) (.ops [⟨.mov (.tmp 8), some 24, none⟩,
    ⟨.bin .add (.tmp 24) (.const (.int .i64 1)), some 25, none⟩,
    ⟨.mov (.tmp 25), some 8, none⟩]) (.seq (.ops [⟨.bin .eql (.tmp 13) (.const (.int .i64 3)), some 27, none⟩,
    ⟨.mov (.tmp 27), some 26, none⟩])
  (.cond (.tmp 26) (.ops [⟨.mov (.tmp 7), some 28, none⟩,
    ⟨.bin .sub (.tmp 28) (.const (.int .i64 1)), some 29, none⟩,
    ⟨.mov (.tmp 29), some 7, none⟩]) (.skip)))))))))))
  (.seq (.seq (.ops [⟨.mov (.tmp 7), some 30, none⟩,
    ⟨.mov (.tmp 0), some 31, none⟩,
    ⟨.nilc (.tmp 31), some 32, none⟩,
    ⟨.addr (.tmp 32) 0, some 33, none⟩,
    ⟨.load none (.tmp 33), some 34, none⟩,
    ⟨.convI .i64 (.tmp 34), some 35, none⟩,
    ⟨.bin .sub (.tmp 35) (.const (.int .i64 1)), some 36, none⟩,
    ⟨.call 70 [.tmp 30, .const (.int .i64 0), .tmp 36], some 37, none⟩,
    ⟨.un .not (.tmp 37), some 38, none⟩,
    ⟨.mov (.tmp 38), some 39, none⟩,
    ⟨.mov (.tmp 8), some 40, some (39, false)⟩,
    ⟨.mov (.tmp 0), some 41, some (39, false)⟩,
    ⟨.nilc (.tmp 41), some 42, some (39, false)⟩,
    ⟨.addr (.tmp 42) 1, some 43, some (39, false)⟩,
    ⟨.load none (.tmp 43), some 44, some (39, false)⟩,
    ⟨.convI .i64 (.tmp 44), some 45, some (39, false)⟩,
    ⟨.bin .sub (.tmp 45) (.const (.int .i64 1)), some 46, some (39, false)⟩,
    ⟨.call 70 [.tmp 40, .const (.int .i64 0), .tmp 46], some 47, some (39, false)⟩,
    ⟨.un .not (.tmp 47), some 48, some (39, false)⟩,
    ⟨.pick (.tmp 39) (.const (.bool true)) (.tmp 48), some 49, none⟩])
  (.cond (.tmp 49) (.seq (.ops [⟨.mov (.const (.int .i64 (-1))), some 6, none⟩])
  (.ret)) (.skip)))
  (.seq (.ops [⟨.mov (.tmp 7), some 50, none⟩,
    ⟨.mov (.tmp 8), some 51, none⟩,
    ⟨.bin .mul (.const (.int .i64 8)) (.tmp 51), some 52, none⟩,
    ⟨.bin .add (.tmp 50) (.tmp 52), some 53, none⟩,
    ⟨.mov (.tmp 53), some 6, none⟩])
  (.ret))))))⟩
theorem ok_spec_l01Beside : cmpF Try.prog Try.f121 = some c_spec_l01Beside := by kernel_rfl

/- math.Abs -/
def c_math_Abs : FV := ⟨7, [.tmp 2],
  .seq (.ops [⟨.mov (.const (.float .f64 0)), some 2, none⟩])
  (.seq (.ops [⟨.mov (.tmp 0), some 3, none⟩,
    ⟨.f64bits (.tmp 3), some 4, none⟩,
    ⟨.bin .andNot (.tmp 4) (.const (.int .u64 9223372036854775808)), some 5, none⟩,
    ⟨.f64from (.tmp 5), some 6, none⟩,
    ⟨.mov (.tmp 6), some 2, none⟩])
  (.ret))⟩
theorem ok_math_Abs : cmpF Try.prog Try.f122 = some c_math_Abs := by kernel_rfl

/- spec.l01Joint -/
def c_spec_l01Joint : FV := ⟨21, [.tmp 4],
  .seq (.ops [⟨.mov (.const (.float .f32 0)), some 4, none⟩])
  (.seq (.seq (.ops [⟨.mov (.tmp 0), some 5, none⟩,
    ⟨.fbin .gtr (.tmp 5) (.const (.float .f32 0)), some 6, none⟩,
    ⟨.un .not (.tmp 6), some 7, none⟩,
    ⟨.mov (.tmp 7), some 8, none⟩,
    ⟨.mov (.tmp 1), some 9, some (8, false)⟩,
    ⟨.fbin .gtr (.tmp 9) (.const (.float .f32 0)), some 10, some (8, false)⟩,
    ⟨.un .not (.tmp 10), some 11, some (8, false)⟩,
    ⟨.pick (.tmp 8) (.const (.bool true)) (.tmp 11), some 12, none⟩])
  (.cond (.tmp 12) (.seq (.ops [⟨.mov (.const (.float .f32 0)), some 4, none⟩])
  (.ret)) (.skip)))
  (.seq (.ops [⟨.mov (.tmp 0), some 13, none⟩,
    ⟨.mov (.tmp 1), some 14, none⟩,
    ⟨.fbin .mul (.tmp 13) (.tmp 14), some 15, none⟩,
    ⟨.fbin .mul (.const (.float .f32 1073741824)) (.tmp 15), some 16, none⟩,
    ⟨.mov (.tmp 0), some 17, none⟩,
    ⟨.mov (.tmp 1), some 18, none⟩,
    ⟨.fbin .add (.tmp 17) (.tmp 18), some 19, none⟩,
    ⟨.fbin .quo (.tmp 16) (.tmp 19), some 20, none⟩,
    ⟨.mov (.tmp 20), some 4, none⟩])
  (.ret)))⟩
theorem ok_spec_l01Joint : cmpF Try.prog Try.f123 = some c_spec_l01Joint := by kernel_rfl

end Go.Proofs.Ytbhipkiiondgnaa

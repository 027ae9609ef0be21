/- The code of the Go functions in the generator's own form, printed by a program of mine (gen.py) out of the loaded program; each with the check that it is so. -/
import Derived.Test.YtdhoaehiocbjaaaVcFn
import Derived.Test.YtdhoaehiocbjaaaGeo
import Derived.Test.YtdhoaehiocbjaaaRows
import Derived.KernelRfl
namespace Go.Proofs.Ytdhoaehiocbjaaa
open Go Go.Fl Go.Vc
set_option linter.all false
set_option maxRecDepth 100000

/- spec.l01Field -/
def c_spec_l01Field : FV := ⟨36, [.tmp 4],
  .seq (.ops [⟨.mov (.const (.bool false)), some 4, none⟩])
  (.seq (.seq (.ops [⟨.mov (.const (.int .i64 0)), some 5, none⟩])
  (.block 0 (.loop (.seq (.seq (.ops [⟨.mov (.tmp 5), some 6, none⟩,
    ⟨.bin .lss (.tmp 6) (.const (.int .i64 64)), some 7, none⟩])
  (.cond (.tmp 7) (.skip) (.exit 0)))
  (.seq (.block 1 (.seq (.ops [⟨.mov (.tmp 0), some 10, none⟩,
    ⟨.mov (.tmp 5), some 11, none⟩,
    ⟨.call 18 [.tmp 10, .tmp 11], some 12, none⟩,
    ⟨.mov (.tmp 12), some 13, none⟩,
    ⟨.mov (.tmp 1), some 14, some (13, true)⟩,
    ⟨.mov (.tmp 5), some 15, some (13, true)⟩,
    ⟨.nilc (.tmp 14), some 16, some (13, true)⟩,
    ⟨.idxA 64 1 (.tmp 16) (.tmp 15), some 17, some (13, true)⟩,
    ⟨.load none (.tmp 17), some 18, some (13, true)⟩,
    ⟨.call 31 [.tmp 18], some 19, some (13, true)⟩,
    ⟨.un .not (.tmp 19), some 20, some (13, true)⟩,
    ⟨.pick (.tmp 13) (.tmp 20) (.const (.bool false)), some 21, none⟩,
    ⟨.mov (.tmp 21), some 22, none⟩,
    ⟨.mov (.tmp 0), some 23, some (22, false)⟩,
    ⟨.mov (.tmp 5), some 24, some (22, false)⟩,
    ⟨.call 18 [.tmp 23, .tmp 24], some 25, some (22, false)⟩,
    ⟨.un .not (.tmp 25), some 26, some (22, false)⟩,
    ⟨.mov (.tmp 26), some 27, some (22, false)⟩,
    ⟨.mov (.tmp 1), some 28, some (27, true)⟩,
    ⟨.mov (.tmp 5), some 29, some (27, true)⟩,
    ⟨.nilc (.tmp 28), some 30, some (27, true)⟩,
    ⟨.idxA 64 1 (.tmp 30) (.tmp 29), some 31, some (27, true)⟩,
    ⟨.load none (.tmp 31), some 32, some (27, true)⟩,
    ⟨.fbin .neq (.tmp 32) (.const (.float .f32 0)), some 33, some (27, true)⟩,
    ⟨.pick (.tmp 27) (.tmp 33) (.const (.bool false)), some 34, some (22, false)⟩,
    ⟨.pick (.tmp 22) (.const (.bool true)) (.tmp 34), some 35, none⟩])
  (.cond (.tmp 35) (.seq (.ops [⟨.mov (.const (.bool false)), some 4, none⟩])
  (.ret)) (.skip))))
  (.ops [⟨.mov (.tmp 5), some 8, none⟩,
    ⟨.bin .add (.tmp 8) (.const (.int .i64 1)), some 9, none⟩,
    ⟨.mov (.tmp 9), some 5, none⟩]))))))
  (.seq (.ops [⟨.mov (.const (.bool true)), some 4, none⟩])
  (.ret)))⟩
theorem ok_spec_l01Field : cmpF Try.prog Try.f22 = some c_spec_l01Field := by kernel_rfl

/- spec.l01Cells -/
def c_spec_l01Cells : FV := ⟨18, [.tmp 2],
  .seq (.ops [⟨.mov (.const (.int .u64 0)), some 2, none⟩])
  (.seq (.ops [⟨.mov (.const (.int .u64 0)), some 3, none⟩])
  (.seq (.seq (.ops [⟨.mov (.const (.int .i64 0)), some 4, none⟩])
  (.block 0 (.loop (.seq (.seq (.ops [⟨.mov (.tmp 4), some 5, none⟩,
    ⟨.bin .lss (.tmp 5) (.const (.int .i64 64)), some 6, none⟩])
  (.cond (.tmp 6) (.skip) (.exit 0)))
  (.seq (.block 1 (.seq (.ops [⟨.mov (.tmp 0), some 9, none⟩,
    ⟨.mov (.tmp 4), some 10, none⟩,
    ⟨.call 18 [.tmp 9, .tmp 10], some 11, none⟩])
  (.cond (.tmp 11) (.ops [⟨.mov (.tmp 3), some 12, none⟩,
    ⟨.mov (.tmp 4), some 13, none⟩,
    ⟨.convI .u64 (.tmp 13), some 14, none⟩,
    ⟨.bin .shl (.const (.int .u64 1)) (.tmp 14), some 15, none⟩,
    ⟨.bin .or (.tmp 12) (.tmp 15), some 16, none⟩,
    ⟨.mov (.tmp 16), some 3, none⟩]) (.skip))))
  (.ops [⟨.mov (.tmp 4), some 7, none⟩,
    ⟨.bin .add (.tmp 7) (.const (.int .i64 1)), some 8, none⟩,
    ⟨.mov (.tmp 8), some 4, none⟩]))))))
  (.seq (.ops [⟨.mov (.tmp 3), some 17, none⟩,
    ⟨.mov (.tmp 17), some 2, none⟩])
  (.ret))))⟩
theorem ok_spec_l01Cells : cmpF Try.prog Try.f23 = some c_spec_l01Cells := by kernel_rfl

/- impl.in -/
def c_impl_in : FV := ⟨15, [.tmp 6],
  .seq (.ops [⟨.mov (.const (.bool false)), some 6, none⟩])
  (.seq (.ops [⟨.mov (.tmp 0), some 7, none⟩,
    ⟨.mov (.tmp 1), some 8, none⟩,
    ⟨.bin .geq (.tmp 7) (.tmp 8), some 9, none⟩,
    ⟨.mov (.tmp 9), some 10, none⟩,
    ⟨.mov (.tmp 0), some 11, some (10, true)⟩,
    ⟨.mov (.tmp 2), some 12, some (10, true)⟩,
    ⟨.bin .leq (.tmp 11) (.tmp 12), some 13, some (10, true)⟩,
    ⟨.pick (.tmp 10) (.tmp 13) (.const (.bool false)), some 14, none⟩,
    ⟨.mov (.tmp 14), some 6, none⟩])
  (.ret))⟩
theorem ok_impl_in : cmpF Try.prog Try.f24 = some c_impl_in := by kernel_rfl

/- impl.Ground.fieldOk -/
def c_impl_Ground_fieldOk : FV := ⟨36, [.tmp 6],
  .seq (.ops [⟨.mov (.const (.bool false)), some 6, none⟩])
  (.seq (.seq (.ops [⟨.mov (.tmp 1), some 9, none⟩,
    ⟨.mov (.const (.int .i64 0)), some 10, none⟩])
  (.block 0 (.loop (.seq (.ops [⟨.bin .lss (.tmp 10) (.const (.int .i64 64)), some 11, none⟩])
  (.seq (.cond (.tmp 11) (.skip) (.exit 0))
  (.seq (.block 1 (.seq (.ops [⟨.mov (.tmp 10), some 12, none⟩,
    ⟨.nilc (.tmp 9), some 13, none⟩,
    ⟨.idxA 64 1 (.tmp 13) (.tmp 10), some 14, none⟩,
    ⟨.load none (.tmp 14), some 15, none⟩,
    ⟨.mov (.tmp 12), some 7, none⟩,
    ⟨.mov (.tmp 15), some 8, none⟩])
  (.seq (.ops [⟨.mov (.tmp 0), some 16, none⟩,
    ⟨.mov (.tmp 7), some 17, none⟩,
    ⟨.call 29 [.tmp 16, .tmp 17], some 18, none⟩,
    ⟨.mov (.tmp 18), some 19, none⟩,
    ⟨.mov (.tmp 2), some 20, some (19, true)⟩,
    ⟨.mov (.tmp 8), some 21, some (19, true)⟩,
    ⟨.callv (.tmp 20) [.tmp 21], some 22, some (19, true)⟩,
    ⟨.un .not (.tmp 22), some 23, some (19, true)⟩,
    ⟨.pick (.tmp 19) (.tmp 23) (.const (.bool false)), some 24, none⟩,
    ⟨.mov (.tmp 24), some 25, none⟩,
    ⟨.mov (.tmp 0), some 26, some (25, false)⟩,
    ⟨.mov (.tmp 7), some 27, some (25, false)⟩,
    ⟨.call 29 [.tmp 26, .tmp 27], some 28, some (25, false)⟩,
    ⟨.un .not (.tmp 28), some 29, some (25, false)⟩,
    ⟨.mov (.tmp 29), some 30, some (25, false)⟩,
    ⟨.mov (.tmp 8), some 31, some (30, true)⟩,
    ⟨.fbin .neq (.tmp 31) (.const (.float .f32 0)), some 32, some (30, true)⟩,
    ⟨.pick (.tmp 30) (.tmp 32) (.const (.bool false)), some 33, some (25, false)⟩,
    ⟨.pick (.tmp 25) (.const (.bool true)) (.tmp 33), some 34, none⟩])
  (.cond (.tmp 34) (.seq (.ops [⟨.mov (.const (.bool false)), some 6, none⟩])
  (.ret)) (.skip)))))
  (.ops [⟨.bin .add (.tmp 10) (.const (.int .i64 1)), some 35, none⟩,
    ⟨.mov (.tmp 35), some 10, none⟩])))))))
  (.seq (.ops [⟨.mov (.const (.bool true)), some 6, none⟩])
  (.ret)))⟩
theorem ok_impl_Ground_fieldOk : cmpF Try.prog Try.f25 = some c_impl_Ground_fieldOk := by kernel_rfl

/- impl.isAmount -/
def c_impl_isAmount : FV := ⟨9, [.tmp 2],
  .seq (.ops [⟨.mov (.const (.bool false)), some 2, none⟩])
  (.seq (.ops [⟨.mov (.tmp 0), some 3, none⟩,
    ⟨.call 27 [.tmp 3], some 4, none⟩,
    ⟨.mov (.tmp 4), some 5, none⟩,
    ⟨.mov (.tmp 0), some 6, some (5, true)⟩,
    ⟨.fbin .geq (.tmp 6) (.const (.float .f32 0)), some 7, some (5, true)⟩,
    ⟨.pick (.tmp 5) (.tmp 7) (.const (.bool false)), some 8, none⟩,
    ⟨.mov (.tmp 8), some 2, none⟩])
  (.ret))⟩
theorem ok_impl_isAmount : cmpF Try.prog Try.f26 = some c_impl_isAmount := by kernel_rfl

/- impl.IsPlain -/
def c_impl_IsPlain : FV := ⟨9, [.tmp 2],
  .seq (.ops [⟨.mov (.const (.bool false)), some 2, none⟩])
  (.seq (.ops [⟨.mov (.tmp 0), some 3, none⟩,
    ⟨.fbin .geq (.tmp 3) (.const (.float .f32 3380609024)), some 4, none⟩,
    ⟨.mov (.tmp 4), some 5, none⟩,
    ⟨.mov (.tmp 0), some 6, some (5, true)⟩,
    ⟨.fbin .leq (.tmp 6) (.const (.float .f32 1233125376)), some 7, some (5, true)⟩,
    ⟨.pick (.tmp 5) (.tmp 7) (.const (.bool false)), some 8, none⟩,
    ⟨.mov (.tmp 8), some 2, none⟩])
  (.ret))⟩
theorem ok_impl_IsPlain : cmpF Try.prog Try.f27 = some c_impl_IsPlain := by kernel_rfl

/- impl.Ground.bits -/
def c_impl_Ground_bits : FV := ⟨19, [.tmp 2],
  .seq (.ops [⟨.mov (.const (.int .u64 0)), some 2, none⟩])
  (.seq (.ops [⟨.mov (.const (.int .u64 0)), some 3, none⟩])
  (.seq (.seq (.ops [⟨.mov (.tmp 0), some 6, none⟩,
    ⟨.call 16 [.tmp 6], some 7, none⟩,
    ⟨.lenL (.tmp 7), some 8, none⟩,
    ⟨.mov (.const (.int .i64 0)), some 9, none⟩])
  (.block 0 (.loop (.seq (.ops [⟨.bin .lss (.tmp 9) (.tmp 8), some 10, none⟩])
  (.seq (.cond (.tmp 10) (.skip) (.exit 0))
  (.seq (.block 1 (.seq (.ops [⟨.idxS 1 (.tmp 7) (.tmp 9), some 11, none⟩,
    ⟨.load none (.tmp 11), some 12, none⟩,
    ⟨.mov (.tmp 12), some 5, none⟩])
  (.ops [⟨.mov (.tmp 3), some 13, none⟩,
    ⟨.mov (.tmp 5), some 14, none⟩,
    ⟨.bin .shl (.const (.int .u64 1)) (.tmp 14), some 15, none⟩,
    ⟨.bin .or (.tmp 13) (.tmp 15), some 16, none⟩,
    ⟨.mov (.tmp 16), some 3, none⟩])))
  (.ops [⟨.bin .add (.tmp 9) (.const (.int .i64 1)), some 17, none⟩,
    ⟨.mov (.tmp 17), some 9, none⟩])))))))
  (.seq (.ops [⟨.mov (.tmp 3), some 18, none⟩,
    ⟨.mov (.tmp 18), some 2, none⟩])
  (.ret))))⟩
theorem ok_impl_Ground_bits : cmpF Try.prog Try.f28 = some c_impl_Ground_bits := by kernel_rfl

/- impl.Ground.has -/
def c_impl_Ground_has : FV := ⟨23, [.tmp 4],
  .seq (.ops [⟨.mov (.const (.bool false)), some 4, none⟩])
  (.seq (.ops [⟨.mov (.tmp 1), some 5, none⟩,
    ⟨.bin .rem (.tmp 5) (.const (.int .i64 8)), some 6, none⟩,
    ⟨.mov (.tmp 0), some 7, none⟩,
    ⟨.nilc (.tmp 7), some 8, none⟩,
    ⟨.addr (.tmp 8) 0, some 9, none⟩,
    ⟨.load none (.tmp 9), some 10, none⟩,
    ⟨.convI .i64 (.tmp 10), some 11, none⟩,
    ⟨.bin .lss (.tmp 6) (.tmp 11), some 12, none⟩,
    ⟨.mov (.tmp 12), some 13, none⟩,
    ⟨.mov (.tmp 1), some 14, some (13, true)⟩,
    ⟨.bin .quo (.tmp 14) (.const (.int .i64 8)), some 15, some (13, true)⟩,
    ⟨.mov (.tmp 0), some 16, some (13, true)⟩,
    ⟨.nilc (.tmp 16), some 17, some (13, true)⟩,
    ⟨.addr (.tmp 17) 1, some 18, some (13, true)⟩,
    ⟨.load none (.tmp 18), some 19, some (13, true)⟩,
    ⟨.convI .i64 (.tmp 19), some 20, some (13, true)⟩,
    ⟨.bin .lss (.tmp 15) (.tmp 20), some 21, some (13, true)⟩,
    ⟨.pick (.tmp 13) (.tmp 21) (.const (.bool false)), some 22, none⟩,
    ⟨.mov (.tmp 22), some 4, none⟩])
  (.ret))⟩
theorem ok_impl_Ground_has : cmpF Try.prog Try.f29 = some c_impl_Ground_has := by kernel_rfl

/- impl.size -/
def c_impl_size : FV := ⟨7, [.tmp 2],
  .seq (.ops [⟨.mov (.const (.float .f32 0)), some 2, none⟩])
  (.seq (.ops [⟨.mov (.tmp 0), some 3, none⟩,
    ⟨.convF .f64 (.tmp 3), some 4, none⟩,
    ⟨.call 32 [.tmp 4], some 5, none⟩,
    ⟨.convF .f32 (.tmp 5), some 6, none⟩,
    ⟨.mov (.tmp 6), some 2, none⟩])
  (.ret))⟩
theorem ok_impl_size : cmpF Try.prog Try.f30 = some c_impl_size := by kernel_rfl

/- spec.l01Plain -/
def c_spec_l01Plain : FV := ⟨9, [.tmp 2],
  .seq (.ops [⟨.mov (.const (.bool false)), some 2, none⟩])
  (.seq (.ops [⟨.mov (.tmp 0), some 3, none⟩,
    ⟨.fbin .geq (.tmp 3) (.const (.float .f32 3380609024)), some 4, none⟩,
    ⟨.mov (.tmp 4), some 5, none⟩,
    ⟨.mov (.tmp 0), some 6, some (5, true)⟩,
    ⟨.fbin .leq (.tmp 6) (.const (.float .f32 1233125376)), some 7, some (5, true)⟩,
    ⟨.pick (.tmp 5) (.tmp 7) (.const (.bool false)), some 8, none⟩,
    ⟨.mov (.tmp 8), some 2, none⟩])
  (.ret))⟩
theorem ok_spec_l01Plain : cmpF Try.prog Try.f31 = some c_spec_l01Plain := by kernel_rfl

/- math.Abs -/
def c_math_Abs : FV := ⟨7, [.tmp 2],
  .seq (.ops [⟨.mov (.const (.float .f64 0)), some 2, none⟩])
  (.seq (.ops [⟨.mov (.tmp 0), some 3, none⟩,
    ⟨.f64bits (.tmp 3), some 4, none⟩,
    ⟨.bin .andNot (.tmp 4) (.const (.int .u64 9223372036854775808)), some 5, none⟩,
    ⟨.f64from (.tmp 5), some 6, none⟩,
    ⟨.mov (.tmp 6), some 2, none⟩])
  (.ret))⟩
theorem ok_math_Abs : cmpF Try.prog Try.f32 = some c_math_Abs := by kernel_rfl

end Go.Proofs.Ytdhoaehiocbjaaa

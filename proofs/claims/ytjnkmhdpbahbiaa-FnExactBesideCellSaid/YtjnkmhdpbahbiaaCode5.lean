/- The code of the Go functions in the generator's own form, printed by a program of mine (gen.py) out of the loaded program; each with the check that it is so. -/
import Derived.Test.YtjnkmhdpbahbiaaVcFn
import Derived.Test.YtjnkmhdpbahbiaaGeo
import Derived.Test.YtjnkmhdpbahbiaaRows
import Derived.KernelRfl
namespace Go.Proofs.Ytjnkmhdpbahbiaa
open Go Go.Fl Go.Vc
set_option linter.all false
set_option maxRecDepth 100000

/- spec.l05Ok -/
def c_spec_l05Ok : FV := ⟨68, [.tmp 2],
  .seq (.ops [⟨.mov (.const (.bool false)), some 2, none⟩])
  (.seq (.seq (.dops [⟨.mov (.tmp 0), some 5, none⟩,
    ⟨.nilc (.tmp 5), some 6, none⟩,
    ⟨.addr (.tmp 6) 0, some 7, none⟩,
    ⟨.call 92 [.tmp 7], some 8, none⟩,
    ⟨.un .not (.tmp 8), some 9, none⟩,
    ⟨.mov (.tmp 9), some 10, none⟩,
    ⟨.mov (.tmp 0), some 11, some (10, false)⟩,
    ⟨.nilc (.tmp 11), some 12, some (10, false)⟩,
    ⟨.addr (.tmp 12) 0, some 13, some (10, false)⟩,
    ⟨.mov (.tmp 0), some 14, some (10, false)⟩,
    ⟨.nilc (.tmp 14), some 15, some (10, false)⟩,
    ⟨.addr (.tmp 15) 195, some 16, some (10, false)⟩,
    ⟨.call 136 [.tmp 13, .tmp 16], some 17, some (10, false)⟩,
    ⟨.un .not (.tmp 17), some 18, some (10, false)⟩,
    ⟨.pick (.tmp 10) (.const (.bool true)) (.tmp 18), some 19, none⟩,
    ⟨.mov (.tmp 19), some 20, none⟩,
    ⟨.mov (.tmp 0), some 21, some (20, false)⟩,
    ⟨.nilc (.tmp 21), some 22, some (20, false)⟩,
    ⟨.addr (.tmp 22) 0, some 23, some (20, false)⟩,
    ⟨.mov (.tmp 0), some 24, some (20, false)⟩,
    ⟨.nilc (.tmp 24), some 25, some (20, false)⟩,
    ⟨.addr (.tmp 25) 259, some 26, some (20, false)⟩,
    ⟨.call 136 [.tmp 23, .tmp 26], some 27, some (20, false)⟩,
    ⟨.un .not (.tmp 27), some 28, some (20, false)⟩,
    ⟨.pick (.tmp 20) (.const (.bool true)) (.tmp 28), some 29, none⟩,
    ⟨.mov (.tmp 29), some 30, none⟩,
    ⟨.mov (.tmp 0), some 31, some (30, false)⟩,
    ⟨.nilc (.tmp 31), some 32, some (30, false)⟩,
    ⟨.addr (.tmp 32) 323, some 33, some (30, false)⟩,
    ⟨.load none (.tmp 33), some 34, some (30, false)⟩,
    ⟨.call 85 [.tmp 34], some 35, some (30, false)⟩,
    ⟨.un .not (.tmp 35), some 36, some (30, false)⟩,
    ⟨.pick (.tmp 30) (.const (.bool true)) (.tmp 36), some 37, none⟩,
    ⟨.mov (.tmp 37), some 38, none⟩,
    ⟨.mov (.tmp 0), some 39, some (38, false)⟩,
    ⟨.nilc (.tmp 39), some 40, some (38, false)⟩,
    ⟨.addr (.tmp 40) 323, some 41, some (38, false)⟩,
    ⟨.load none (.tmp 41), some 42, some (38, false)⟩,
    ⟨.fbin .lss (.tmp 42) (.const (.float .f32 981467136)), some 43, some (38, false)⟩,
    ⟨.pick (.tmp 38) (.const (.bool true)) (.tmp 43), some 44, none⟩])
  (.cond (.tmp 44) (.seq (.ops [⟨.mov (.const (.bool false)), some 2, none⟩])
  (.ret)) (.skip)))
  (.seq (.seq (.ops [⟨.mov (.const (.int .i64 0)), some 3, none⟩])
  (.block 0 (.loop (.seq (.seq (.ops [⟨.mov (.tmp 3), some 45, none⟩,
    ⟨.bin .lss (.tmp 45) (.const (.int .i64 64)), some 46, none⟩])
  (.cond (.tmp 46) (.skip) (.exit 0)))
  (.seq (.block 1 (.seq (.ops [⟨.mov (.const (.int .i64 0)), some 4, none⟩])
  (.block 2 (.loop (.seq (.seq (.ops [⟨.mov (.tmp 4), some 49, none⟩,
    ⟨.bin .lss (.tmp 49) (.const (.int .i64 4)), some 50, none⟩,
    ⟨.mov (.tmp 50), some 51, none⟩,
    ⟨.mov (.tmp 0), some 52, some (51, true)⟩,
    ⟨.nilc (.tmp 52), some 53, some (51, true)⟩,
    ⟨.addr (.tmp 53) 0, some 54, some (51, true)⟩,
    ⟨.mov (.tmp 3), some 55, some (51, true)⟩,
    ⟨.call 87 [.tmp 54, .tmp 55], some 56, some (51, true)⟩,
    ⟨.pick (.tmp 51) (.tmp 56) (.const (.bool false)), some 57, none⟩])
  (.cond (.tmp 57) (.skip) (.exit 2)))
  (.seq (.block 3 (.seq (.ops [⟨.mov (.tmp 0), some 60, none⟩,
    ⟨.nilc (.tmp 60), some 61, none⟩,
    ⟨.addr (.tmp 61) 0, some 62, none⟩,
    ⟨.mov (.tmp 3), some 63, none⟩,
    ⟨.mov (.tmp 4), some 64, none⟩,
    ⟨.call 123 [.tmp 62, .tmp 63, .tmp 64], some 65, none⟩,
    ⟨.call 101 [.tmp 65], some 66, none⟩,
    ⟨.un .not (.tmp 66), some 67, none⟩])
  (.cond (.tmp 67) (.seq (.ops [⟨.mov (.const (.bool false)), some 2, none⟩])
  (.ret)) (.skip))))
  (.ops [⟨.mov (.tmp 4), some 58, none⟩,
    ⟨.bin .add (.tmp 58) (.const (.int .i64 1)), some 59, none⟩,
    ⟨.mov (.tmp 59), some 4, none⟩])))))))
  (.ops [⟨.mov (.tmp 3), some 47, none⟩,
    ⟨.bin .add (.tmp 47) (.const (.int .i64 1)), some 48, none⟩,
    ⟨.mov (.tmp 48), some 3, none⟩]))))))
  (.seq (.ops [⟨.mov (.const (.bool true)), some 2, none⟩])
  (.ret))))⟩
theorem ok_spec_l05Ok : cmpF Try.prog Try.f121 = some c_spec_l05Ok := by kernel_rfl

/- impl.Ground.flowsOk -/
def c_impl_Ground_flowsOk : FV := ⟨24, [.tmp 2],
  .seq (.ops [⟨.mov (.const (.bool false)), some 2, none⟩])
  (.seq (.seq (.ops [⟨.mov (.tmp 0), some 6, none⟩,
    ⟨.call 91 [.tmp 6], some 7, none⟩,
    ⟨.lenL (.tmp 7), some 8, none⟩,
    ⟨.mov (.const (.int .i64 0)), some 9, none⟩])
  (.block 0 (.loop (.seq (.ops [⟨.bin .lss (.tmp 9) (.tmp 8), some 10, none⟩])
  (.seq (.cond (.tmp 10) (.skip) (.exit 0))
  (.seq (.block 1 (.seq (.ops [⟨.idxS 1 (.tmp 7) (.tmp 9), some 11, none⟩,
    ⟨.load none (.tmp 11), some 12, none⟩,
    ⟨.mov (.tmp 12), some 4, none⟩])
  (.seq (.ops [⟨.mov (.const (.int .i64 0)), some 13, none⟩])
  (.block 2 (.loop (.seq (.ops [⟨.bin .lss (.tmp 13) (.const (.int .i64 4)), some 14, none⟩])
  (.seq (.cond (.tmp 14) (.skip) (.exit 2))
  (.seq (.block 3 (.seq (.ops [⟨.mov (.tmp 13), some 15, none⟩,
    ⟨.mov (.tmp 15), some 5, none⟩])
  (.seq (.ops [⟨.mov (.tmp 0), some 16, none⟩,
    ⟨.mov (.tmp 4), some 17, none⟩,
    ⟨.mov (.tmp 5), some 18, none⟩,
    ⟨.call 124 [.tmp 16, .tmp 17, .tmp 18], some 19, none⟩,
    ⟨.call 99 [.tmp 19], some 20, none⟩,
    ⟨.un .not (.tmp 20), some 21, none⟩])
  (.cond (.tmp 21) (.seq (.ops [⟨.mov (.const (.bool false)), some 2, none⟩])
  (.ret)) (.skip)))))
  (.ops [⟨.bin .add (.tmp 13) (.const (.int .i64 1)), some 22, none⟩,
    ⟨.mov (.tmp 22), some 13, none⟩])))))))))
  (.ops [⟨.bin .add (.tmp 9) (.const (.int .i64 1)), some 23, none⟩,
    ⟨.mov (.tmp 23), some 9, none⟩])))))))
  (.seq (.ops [⟨.mov (.const (.bool true)), some 2, none⟩])
  (.ret)))⟩
theorem ok_impl_Ground_flowsOk : cmpF Try.prog Try.f122 = some c_impl_Ground_flowsOk := by kernel_rfl

/- spec.l01Flow -/
def c_spec_l01Flow : FV := ⟨33, [.tmp 6],
  .seq (.ops [⟨.mov (.const (.float .f32 0)), some 6, none⟩])
  (.seq (.ops [⟨.mov (.tmp 0), some 10, none⟩,
    ⟨.mov (.tmp 1), some 11, none⟩,
    ⟨.mov (.tmp 2), some 12, none⟩,
    ⟨.call 135 [.tmp 10, .tmp 11, .tmp 12], some 13, none⟩,
    ⟨.mov (.tmp 13), some 9, none⟩,
    ⟨.ext (.tmp 9) 0, some 14, none⟩,
    ⟨.ext (.tmp 9) 1, some 15, none⟩,
    ⟨.mov (.tmp 14), some 7, none⟩,
    ⟨.mov (.tmp 15), some 8, none⟩])
  (.seq (.seq (.ops [⟨.mov (.tmp 8), some 16, none⟩,
    ⟨.bin .lss (.tmp 16) (.const (.int .i64 0)), some 17, none⟩])
  (.cond (.tmp 17) (.seq (.ops [⟨.mov (.const (.float .f32 0)), some 6, none⟩])
  (.ret)) (.skip)))
  (.seq (.bops [⟨.mov (.tmp 7), some 18, none⟩,
    ⟨.mov (.tmp 0), some 19, none⟩,
    ⟨.mov (.tmp 1), some 20, none⟩,
    ⟨.nilc (.tmp 19), some 21, none⟩,
    ⟨.addr (.tmp 21) 130, some 22, none⟩,
    ⟨.idxA 64 1 (.tmp 22) (.tmp 20), some 23, none⟩,
    ⟨.load none (.tmp 23), some 24, none⟩,
    ⟨.mov (.tmp 0), some 25, none⟩,
    ⟨.mov (.tmp 8), some 26, none⟩,
    ⟨.nilc (.tmp 25), some 27, none⟩,
    ⟨.addr (.tmp 27) 130, some 28, none⟩,
    ⟨.idxA 64 1 (.tmp 28) (.tmp 26), some 29, none⟩,
    ⟨.load none (.tmp 29), some 30, none⟩,
    ⟨.fbin .sub (.tmp 24) (.tmp 30), some 31, none⟩,
    ⟨.fbin .mul (.tmp 18) (.tmp 31), some 32, none⟩,
    ⟨.mov (.tmp 32), some 6, none⟩])
  (.ret))))⟩
theorem ok_spec_l01Flow : cmpF Try.prog Try.f123 = some c_spec_l01Flow := by kernel_rfl

/- impl.Ground.flow -/
def c_impl_Ground_flow : FV := ⟨41, [.tmp 6],
  .seq (.ops [⟨.mov (.const (.float .f32 0)), some 6, none⟩])
  (.seq (.ops [⟨.mov (.tmp 0), some 8, none⟩,
    ⟨.mov (.tmp 1), some 9, none⟩,
    ⟨.mov (.tmp 2), some 10, none⟩,
    ⟨.call 115 [.tmp 8, .tmp 9, .tmp 10], some 11, none⟩,
    ⟨.mov (.tmp 11), some 7, none⟩])
  (.seq (.seq (.ops [⟨.mov (.tmp 7), some 12, none⟩,
    ⟨.bin .lss (.tmp 12) (.const (.int .i64 0)), some 13, none⟩])
  (.cond (.tmp 13) (.seq (.ops [⟨.mov (.const (.float .f32 0)), some 6, none⟩])
  (.ret)) (.skip)))
  (.seq (.dops [⟨.mov (.tmp 0), some 14, none⟩,
    ⟨.mov (.tmp 1), some 15, none⟩,
    ⟨.nilc (.tmp 14), some 16, none⟩,
    ⟨.addr (.tmp 16) 2, some 17, none⟩,
    ⟨.idxA 64 1 (.tmp 17) (.tmp 15), some 18, none⟩,
    ⟨.load none (.tmp 18), some 19, none⟩,
    ⟨.mov (.tmp 0), some 20, none⟩,
    ⟨.mov (.tmp 7), some 21, none⟩,
    ⟨.nilc (.tmp 20), some 22, none⟩,
    ⟨.addr (.tmp 22) 2, some 23, none⟩,
    ⟨.idxA 64 1 (.tmp 23) (.tmp 21), some 24, none⟩,
    ⟨.load none (.tmp 24), some 25, none⟩,
    ⟨.call 120 [.tmp 19, .tmp 25], some 26, none⟩,
    ⟨.mov (.tmp 0), some 27, none⟩,
    ⟨.mov (.tmp 1), some 28, none⟩,
    ⟨.nilc (.tmp 27), some 29, none⟩,
    ⟨.addr (.tmp 29) 130, some 30, none⟩,
    ⟨.idxA 64 1 (.tmp 30) (.tmp 28), some 31, none⟩,
    ⟨.load none (.tmp 31), some 32, none⟩,
    ⟨.mov (.tmp 0), some 33, none⟩,
    ⟨.mov (.tmp 7), some 34, none⟩,
    ⟨.nilc (.tmp 33), some 35, none⟩,
    ⟨.addr (.tmp 35) 130, some 36, none⟩,
    ⟨.idxA 64 1 (.tmp 36) (.tmp 34), some 37, none⟩,
    ⟨.load none (.tmp 37), some 38, none⟩,
    ⟨.fbin .sub (.tmp 32) (.tmp 38), some 39, none⟩,
    ⟨.fbin .mul (.tmp 26) (.tmp 39), some 40, none⟩,
    ⟨.mov (.tmp 40), some 6, none⟩])
  (.ret))))⟩
theorem ok_impl_Ground_flow : cmpF Try.prog Try.f124 = some c_impl_Ground_flow := by kernel_rfl

/- spec.l01Balance -/
def c_spec_l01Balance : FV := ⟨29, [.tmp 4],
  .seq (.ops [⟨.mov (.const (.float .f32 0)), some 4, none⟩])
  (.seq (.ops [⟨.mov (.tmp 0), some 7, none⟩,
    ⟨.mov (.tmp 1), some 8, none⟩,
    ⟨.nilc (.tmp 7), some 9, none⟩,
    ⟨.addr (.tmp 9) 66, some 10, none⟩,
    ⟨.idxA 64 1 (.tmp 10) (.tmp 8), some 11, none⟩,
    ⟨.load none (.tmp 11), some 12, none⟩,
    ⟨.mov (.tmp 12), some 5, none⟩])
  (.seq (.seq (.ops [⟨.mov (.const (.int .i64 0)), some 6, none⟩])
  (.block 0 (.loop (.seq (.seq (.ops [⟨.mov (.tmp 6), some 13, none⟩,
    ⟨.bin .lss (.tmp 13) (.const (.int .i64 4)), some 14, none⟩])
  (.cond (.tmp 14) (.skip) (.exit 0)))
  (.seq (.block 1 (.seq (.ops [⟨.mov (.tmp 0), some 17, none⟩,
    ⟨.mov (.tmp 1), some 18, none⟩,
    ⟨.mov (.tmp 6), some 19, none⟩,
    ⟨.call 113 [.tmp 17, .tmp 18, .tmp 19], some 20, none⟩,
    ⟨.bin .geq (.tmp 20) (.const (.int .i64 0)), some 21, none⟩])
  (.cond (.tmp 21) (.ops [⟨.mov (.tmp 5), some 22, none⟩,
    ⟨.mov (.tmp 0), some 23, none⟩,
    ⟨.mov (.tmp 1), some 24, none⟩,
    ⟨.mov (.tmp 6), some 25, none⟩,
    ⟨.call 123 [.tmp 23, .tmp 24, .tmp 25], some 26, none⟩,
    ⟨.fbin .sub (.tmp 22) (.tmp 26), some 27, none⟩,
    ⟨.mov (.tmp 27), some 5, none⟩]) (.skip))))
  (.ops [⟨.mov (.tmp 6), some 15, none⟩,
    ⟨.bin .add (.tmp 15) (.const (.int .i64 1)), some 16, none⟩,
    ⟨.mov (.tmp 16), some 6, none⟩]))))))
  (.seq (.ops [⟨.mov (.tmp 5), some 28, none⟩,
    ⟨.mov (.tmp 28), some 4, none⟩])
  (.ret))))⟩
theorem ok_spec_l01Balance : cmpF Try.prog Try.f125 = some c_spec_l01Balance := by kernel_rfl

/- impl.cellFault -/
def c_impl_cellFault : FV := ⟨21, [.tmp 4],
  .seq (.ops [⟨.mov (.const (.int .i64 0)), some 4, none⟩])
  (.seq (.block 0 (.seq (.ops [⟨.mov (.tmp 0), some 6, none⟩,
    ⟨.nilc (.tmp 6), some 7, none⟩,
    ⟨.load (some 195) (.tmp 7), some 8, none⟩,
    ⟨.call 40 [.tmp 8], some 9, none⟩,
    ⟨.un .not (.tmp 9), some 10, none⟩,
    ⟨.mov (.tmp 10), some 5, none⟩])
  (.cond (.tmp 5) (.seq (.ops [⟨.mov (.const (.int .i64 1)), some 4, none⟩])
  (.ret)) (.seq (.ops [⟨.mov (.tmp 1), some 12, none⟩,
    ⟨.call 90 [.tmp 12, .const (.int .i64 0), .const (.int .i64 63)], some 13, none⟩,
    ⟨.un .not (.tmp 13), some 14, none⟩,
    ⟨.mov (.tmp 14), some 15, none⟩,
    ⟨.mov (.tmp 0), some 16, some (15, false)⟩,
    ⟨.mov (.tmp 1), some 17, some (15, false)⟩,
    ⟨.call 132 [.tmp 16, .tmp 17], some 18, some (15, false)⟩,
    ⟨.un .not (.tmp 18), some 19, some (15, false)⟩,
    ⟨.pick (.tmp 15) (.const (.bool true)) (.tmp 19), some 20, none⟩,
    ⟨.mov (.tmp 20), some 11, none⟩])
  (.cond (.tmp 11) (.seq (.ops [⟨.mov (.const (.int .i64 2)), some 4, none⟩])
  (.ret)) (.skip))))))
  (.seq (.ops [⟨.mov (.const (.int .i64 0)), some 4, none⟩])
  (.ret)))⟩
theorem ok_impl_cellFault : cmpF Try.prog Try.f126 = some c_impl_cellFault := by kernel_rfl

/- impl.Ground.balance -/
def c_impl_Ground_balance : FV := ⟨29, [.tmp 4],
  .seq (.ops [⟨.mov (.const (.float .f32 0)), some 4, none⟩])
  (.seq (.ops [⟨.mov (.tmp 0), some 7, none⟩,
    ⟨.mov (.tmp 1), some 8, none⟩,
    ⟨.nilc (.tmp 7), some 9, none⟩,
    ⟨.addr (.tmp 9) 66, some 10, none⟩,
    ⟨.idxA 64 1 (.tmp 10) (.tmp 8), some 11, none⟩,
    ⟨.load none (.tmp 11), some 12, none⟩,
    ⟨.mov (.tmp 12), some 5, none⟩])
  (.seq (.seq (.ops [⟨.mov (.const (.int .i64 0)), some 13, none⟩])
  (.block 0 (.loop (.seq (.ops [⟨.bin .lss (.tmp 13) (.const (.int .i64 4)), some 14, none⟩])
  (.seq (.cond (.tmp 14) (.skip) (.exit 0))
  (.seq (.block 1 (.seq (.ops [⟨.mov (.tmp 13), some 15, none⟩,
    ⟨.mov (.tmp 15), some 6, none⟩])
  (.seq (.ops [⟨.mov (.tmp 0), some 16, none⟩,
    ⟨.mov (.tmp 1), some 17, none⟩,
    ⟨.mov (.tmp 6), some 18, none⟩,
    ⟨.call 115 [.tmp 16, .tmp 17, .tmp 18], some 19, none⟩,
    ⟨.bin .geq (.tmp 19) (.const (.int .i64 0)), some 20, none⟩])
  (.cond (.tmp 20) (.ops [⟨.mov (.tmp 5), some 21, none⟩,
    ⟨.mov (.tmp 0), some 22, none⟩,
    ⟨.mov (.tmp 1), some 23, none⟩,
    ⟨.mov (.tmp 6), some 24, none⟩,
    ⟨.call 124 [.tmp 22, .tmp 23, .tmp 24], some 25, none⟩,
    ⟨.fbin .sub (.tmp 21) (.tmp 25), some 26, none⟩,
    ⟨.mov (.tmp 26), some 5, none⟩]) (.skip)))))
  (.ops [⟨.bin .add (.tmp 13) (.const (.int .i64 1)), some 27, none⟩,
    ⟨.mov (.tmp 27), some 13, none⟩])))))))
  (.seq (.ops [⟨.mov (.tmp 5), some 28, none⟩,
    ⟨.mov (.tmp 28), some 4, none⟩])
  (.ret))))⟩
theorem ok_impl_Ground_balance : cmpF Try.prog Try.f127 = some c_impl_Ground_balance := by kernel_rfl

/- spec.l02Head -/
def c_spec_l02Head : FV := ⟨62, [.tmp 4],
  .seq (.ops [⟨.mov (.const (.float .f32 0)), some 4, none⟩])
  (.seq (.seq (.ops [⟨.mov (.tmp 0), some 10, none⟩,
    ⟨.mov (.tmp 1), some 11, none⟩,
    ⟨.call 104 [.tmp 10, .tmp 11], some 12, none⟩])
  (.cond (.tmp 12) (.seq (.ops [⟨.mov (.tmp 0), some 13, none⟩,
    ⟨.mov (.tmp 1), some 14, none⟩,
    ⟨.nilc (.tmp 13), some 15, none⟩,
    ⟨.addr (.tmp 15) 130, some 16, none⟩,
    ⟨.idxA 64 1 (.tmp 16) (.tmp 14), some 17, none⟩,
    ⟨.load none (.tmp 17), some 18, none⟩,
    ⟨.mov (.tmp 18), some 4, none⟩])
  (.ret)) (.skip)))
  (.seq (.ops [⟨.mov (.tmp 0), some 19, none⟩,
    ⟨.mov (.tmp 1), some 20, none⟩,
    ⟨.nilc (.tmp 19), some 21, none⟩,
    ⟨.addr (.tmp 21) 66, some 22, none⟩,
    ⟨.idxA 64 1 (.tmp 22) (.tmp 20), some 23, none⟩,
    ⟨.load none (.tmp 23), some 24, none⟩,
    ⟨.mov (.tmp 24), some 5, none⟩])
  (.seq (.ops [⟨.mov (.const (.float .f32 0)), some 6, none⟩])
  (.seq (.seq (.ops [⟨.mov (.const (.int .i64 0)), some 7, none⟩])
  (.block 0 (.loop (.seq (.seq (.ops [⟨.mov (.tmp 7), some 25, none⟩,
    ⟨.bin .lss (.tmp 25) (.const (.int .i64 4)), some 26, none⟩])
  (.cond (.tmp 26) (.skip) (.exit 0)))
  (.seq (.block 1 (.seq (.ops [⟨.mov (.tmp 0), some 30, none⟩,
    ⟨.mov (.tmp 1), some 31, none⟩,
    ⟨.mov (.tmp 7), some 32, none⟩,
    ⟨.call 135 [.tmp 30, .tmp 31, .tmp 32], some 33, none⟩,
    ⟨.mov (.tmp 33), some 29, none⟩,
    ⟨.ext (.tmp 29) 0, some 34, none⟩,
    ⟨.ext (.tmp 29) 1, some 35, none⟩,
    ⟨.mov (.tmp 34), some 8, none⟩,
    ⟨.mov (.tmp 35), some 9, none⟩])
  (.seq (.seq (.ops [⟨.mov (.tmp 9), some 36, none⟩,
    ⟨.bin .lss (.tmp 36) (.const (.int .i64 0)), some 37, none⟩])
  (.cond (.tmp 37) (.exit 1) (.skip)))
  (.seq (.ops [⟨.mov (.tmp 5), some 38, none⟩,
    ⟨.mov (.tmp 8), some 39, none⟩,
    ⟨.mov (.tmp 0), some 40, none⟩,
    ⟨.mov (.tmp 9), some 41, none⟩,
    ⟨.nilc (.tmp 40), some 42, none⟩,
    ⟨.addr (.tmp 42) 130, some 43, none⟩,
    ⟨.idxA 64 1 (.tmp 43) (.tmp 41), some 44, none⟩,
    ⟨.load none (.tmp 44), some 45, none⟩,
    ⟨.fbin .mul (.tmp 39) (.tmp 45), some 46, none⟩,
    ⟨.fbin .add (.tmp 38) (.tmp 46), some 47, none⟩,
    ⟨.mov (.tmp 47), some 5, none⟩])
  (.ops [⟨.mov (.tmp 6), some 48, none⟩,
    ⟨.mov (.tmp 8), some 49, none⟩,
    ⟨.fbin .add (.tmp 48) (.tmp 49), some 50, none⟩,
    ⟨.mov (.tmp 50), some 6, none⟩])))))
  (.ops [⟨.mov (.tmp 7), some 27, none⟩,
    ⟨.bin .add (.tmp 27) (.const (.int .i64 1)), some 28, none⟩,
    ⟨.mov (.tmp 28), some 7, none⟩]))))))
  (.seq (.seq (.ops [⟨.mov (.tmp 6), some 51, none⟩,
    ⟨.fbin .eql (.tmp 51) (.const (.float .f32 0)), some 52, none⟩])
  (.cond (.tmp 52) (.seq (.ops [⟨.mov (.tmp 0), some 53, none⟩,
    ⟨.mov (.tmp 1), some 54, none⟩,
    ⟨.nilc (.tmp 53), some 55, none⟩,
    ⟨.addr (.tmp 55) 130, some 56, none⟩,
    ⟨.idxA 64 1 (.tmp 56) (.tmp 54), some 57, none⟩,
    ⟨.load none (.tmp 57), some 58, none⟩,
    ⟨.mov (.tmp 58), some 4, none⟩])
  (.ret)) (.skip)))
  (.seq (.ops [⟨.mov (.tmp 5), some 59, none⟩,
    ⟨.mov (.tmp 6), some 60, none⟩,
    ⟨.fbin .quo (.tmp 59) (.tmp 60), some 61, none⟩,
    ⟨.mov (.tmp 61), some 4, none⟩])
  (.ret)))))))⟩
theorem ok_spec_l02Head : cmpF Try.prog Try.f128 = some c_spec_l02Head := by kernel_rfl

/- impl.Ground.settled -/
def c_impl_Ground_settled : FV := ⟨68, [.tmp 4],
  .seq (.ops [⟨.mov (.const (.float .f32 0)), some 4, none⟩])
  (.seq (.ops [⟨.mov (.tmp 0), some 10, none⟩,
    ⟨.mov (.tmp 1), some 11, none⟩,
    ⟨.nilc (.tmp 10), some 12, none⟩,
    ⟨.addr (.tmp 12) 66, some 13, none⟩,
    ⟨.idxA 64 1 (.tmp 13) (.tmp 11), some 14, none⟩,
    ⟨.load none (.tmp 14), some 15, none⟩,
    ⟨.mov (.tmp 15), some 5, none⟩,
    ⟨.mov (.const (.float .f32 0)), some 6, none⟩])
  (.seq (.seq (.ops [⟨.mov (.const (.int .i64 0)), some 16, none⟩])
  (.block 0 (.loop (.seq (.ops [⟨.bin .lss (.tmp 16) (.const (.int .i64 4)), some 17, none⟩])
  (.seq (.cond (.tmp 17) (.skip) (.exit 0))
  (.seq (.block 1 (.seq (.ops [⟨.mov (.tmp 16), some 18, none⟩,
    ⟨.mov (.tmp 18), some 7, none⟩])
  (.seq (.ops [⟨.mov (.tmp 0), some 19, none⟩,
    ⟨.mov (.tmp 1), some 20, none⟩,
    ⟨.mov (.tmp 7), some 21, none⟩,
    ⟨.call 115 [.tmp 19, .tmp 20, .tmp 21], some 22, none⟩,
    ⟨.mov (.tmp 22), some 8, none⟩])
  (.seq (.ops [⟨.mov (.tmp 8), some 23, none⟩,
    ⟨.bin .geq (.tmp 23) (.const (.int .i64 0)), some 24, none⟩])
  (.cond (.tmp 24) (.seq (.bops [⟨.mov (.tmp 0), some 25, none⟩,
    ⟨.mov (.tmp 1), some 26, none⟩,
    ⟨.nilc (.tmp 25), some 27, none⟩,
    ⟨.addr (.tmp 27) 2, some 28, none⟩,
    ⟨.idxA 64 1 (.tmp 28) (.tmp 26), some 29, none⟩,
    ⟨.load none (.tmp 29), some 30, none⟩,
    ⟨.mov (.tmp 0), some 31, none⟩,
    ⟨.mov (.tmp 8), some 32, none⟩,
    ⟨.nilc (.tmp 31), some 33, none⟩,
    ⟨.addr (.tmp 33) 2, some 34, none⟩,
    ⟨.idxA 64 1 (.tmp 34) (.tmp 32), some 35, none⟩,
    ⟨.load none (.tmp 35), some 36, none⟩,
    ⟨.call 120 [.tmp 30, .tmp 36], some 37, none⟩,
    ⟨.mov (.tmp 37), some 9, none⟩])
  (.seq (.ops [⟨.mov (.tmp 5), some 38, none⟩,
    ⟨.mov (.tmp 9), some 39, none⟩,
    ⟨.mov (.tmp 0), some 40, none⟩,
    ⟨.mov (.tmp 8), some 41, none⟩,
    ⟨.nilc (.tmp 40), some 42, none⟩,
    ⟨.addr (.tmp 42) 130, some 43, none⟩,
    ⟨.idxA 64 1 (.tmp 43) (.tmp 41), some 44, none⟩,
    ⟨.load none (.tmp 44), some 45, none⟩,
    ⟨.fbin .mul (.tmp 39) (.tmp 45), some 46, none⟩,
    ⟨.fbin .add (.tmp 38) (.tmp 46), some 47, none⟩,
    ⟨.mov (.tmp 47), some 5, none⟩])
  (.ops [⟨.mov (.tmp 6), some 48, none⟩,
    ⟨.mov (.tmp 9), some 49, none⟩,
    ⟨.fbin .add (.tmp 48) (.tmp 49), some 50, none⟩,
    ⟨.mov (.tmp 50), some 6, none⟩]))) (.skip))))))
  (.ops [⟨.bin .add (.tmp 16) (.const (.int .i64 1)), some 51, none⟩,
    ⟨.mov (.tmp 51), some 16, none⟩])))))))
  (.seq (.seq (.ops [⟨.mov (.tmp 0), some 52, none⟩,
    ⟨.mov (.tmp 1), some 53, none⟩,
    ⟨.call 105 [.tmp 52, .tmp 53], some 54, none⟩,
    ⟨.mov (.tmp 54), some 55, none⟩,
    ⟨.mov (.tmp 6), some 56, some (55, false)⟩,
    ⟨.fbin .eql (.tmp 56) (.const (.float .f32 0)), some 57, some (55, false)⟩,
    ⟨.pick (.tmp 55) (.const (.bool true)) (.tmp 57), some 58, none⟩])
  (.cond (.tmp 58) (.seq (.ops [⟨.mov (.tmp 0), some 59, none⟩,
    ⟨.mov (.tmp 1), some 60, none⟩,
    ⟨.nilc (.tmp 59), some 61, none⟩,
    ⟨.addr (.tmp 61) 130, some 62, none⟩,
    ⟨.idxA 64 1 (.tmp 62) (.tmp 60), some 63, none⟩,
    ⟨.load none (.tmp 63), some 64, none⟩,
    ⟨.mov (.tmp 64), some 4, none⟩])
  (.ret)) (.skip)))
  (.seq (.ops [⟨.mov (.tmp 5), some 65, none⟩,
    ⟨.mov (.tmp 6), some 66, none⟩,
    ⟨.fbin .quo (.tmp 65) (.tmp 66), some 67, none⟩,
    ⟨.mov (.tmp 67), some 4, none⟩])
  (.ret)))))⟩
theorem ok_impl_Ground_settled : cmpF Try.prog Try.f129 = some c_impl_Ground_settled := by kernel_rfl

/- impl.isNaN -/
def c_impl_isNaN : FV := ⟨6, [.tmp 2],
  .seq (.ops [⟨.mov (.const (.bool false)), some 2, none⟩])
  (.seq (.ops [⟨.mov (.tmp 0), some 3, none⟩,
    ⟨.mov (.tmp 0), some 4, none⟩,
    ⟨.fbin .neq (.tmp 3) (.tmp 4), some 5, none⟩,
    ⟨.mov (.tmp 5), some 2, none⟩])
  (.ret))⟩
theorem ok_impl_isNaN : cmpF Try.prog Try.f130 = some c_impl_isNaN := by kernel_rfl

/- impl.Ground.has -/
def c_impl_Ground_has : FV := ⟨23, [.tmp 4],
  .seq (.ops [⟨.mov (.const (.bool false)), some 4, none⟩])
  (.seq (.ops [⟨.mov (.tmp 1), some 5, none⟩,
    ⟨.bin .rem (.tmp 5) (.const (.int .i64 8)), some 6, none⟩,
    ⟨.mov (.tmp 0), some 7, none⟩,
    ⟨.nilc (.tmp 7), some 8, none⟩,
    ⟨.addr (.tmp 8) 0, some 9, none⟩,
    ⟨.load none (.tmp 9), some 10, none⟩,
    ⟨.convI .i64 (.tmp 10), some 11, none⟩,
    ⟨.bin .lss (.tmp 6) (.tmp 11), some 12, none⟩,
    ⟨.mov (.tmp 12), some 13, none⟩,
    ⟨.mov (.tmp 1), some 14, some (13, true)⟩,
    ⟨.bin .quo (.tmp 14) (.const (.int .i64 8)), some 15, some (13, true)⟩,
    ⟨.mov (.tmp 0), some 16, some (13, true)⟩,
    ⟨.nilc (.tmp 16), some 17, some (13, true)⟩,
    ⟨.addr (.tmp 17) 1, some 18, some (13, true)⟩,
    ⟨.load none (.tmp 18), some 19, some (13, true)⟩,
    ⟨.convI .i64 (.tmp 19), some 20, some (13, true)⟩,
    ⟨.bin .lss (.tmp 15) (.tmp 20), some 21, some (13, true)⟩,
    ⟨.pick (.tmp 13) (.tmp 21) (.const (.bool false)), some 22, none⟩,
    ⟨.mov (.tmp 22), some 4, none⟩])
  (.ret))⟩
theorem ok_impl_Ground_has : cmpF Try.prog Try.f132 = some c_impl_Ground_has := by kernel_rfl

/- spec.l01Field -/
def c_spec_l01Field : FV := ⟨36, [.tmp 4],
  .seq (.ops [⟨.mov (.const (.bool false)), some 4, none⟩])
  (.seq (.seq (.ops [⟨.mov (.const (.int .i64 0)), some 5, none⟩])
  (.block 0 (.loop (.seq (.seq (.ops [⟨.mov (.tmp 5), some 6, none⟩,
    ⟨.bin .lss (.tmp 6) (.const (.int .i64 64)), some 7, none⟩])
  (.cond (.tmp 7) (.skip) (.exit 0)))
  (.seq (.block 1 (.seq (.ops [⟨.mov (.tmp 0), some 10, none⟩,
    ⟨.mov (.tmp 5), some 11, none⟩,
    ⟨.call 87 [.tmp 10, .tmp 11], some 12, none⟩,
    ⟨.mov (.tmp 12), some 13, none⟩,
    ⟨.mov (.tmp 1), some 14, some (13, true)⟩,
    ⟨.mov (.tmp 5), some 15, some (13, true)⟩,
    ⟨.nilc (.tmp 14), some 16, some (13, true)⟩,
    ⟨.idxA 64 1 (.tmp 16) (.tmp 15), some 17, some (13, true)⟩,
    ⟨.load none (.tmp 17), some 18, some (13, true)⟩,
    ⟨.call 85 [.tmp 18], some 19, some (13, true)⟩,
    ⟨.un .not (.tmp 19), some 20, some (13, true)⟩,
    ⟨.pick (.tmp 13) (.tmp 20) (.const (.bool false)), some 21, none⟩,
    ⟨.mov (.tmp 21), some 22, none⟩,
    ⟨.mov (.tmp 0), some 23, some (22, false)⟩,
    ⟨.mov (.tmp 5), some 24, some (22, false)⟩,
    ⟨.call 87 [.tmp 23, .tmp 24], some 25, some (22, false)⟩,
    ⟨.un .not (.tmp 25), some 26, some (22, false)⟩,
    ⟨.mov (.tmp 26), some 27, some (22, false)⟩,
    ⟨.mov (.tmp 1), some 28, some (27, true)⟩,
    ⟨.mov (.tmp 5), some 29, some (27, true)⟩,
    ⟨.nilc (.tmp 28), some 30, some (27, true)⟩,
    ⟨.idxA 64 1 (.tmp 30) (.tmp 29), some 31, some (27, true)⟩,
    ⟨.load none (.tmp 31), some 32, some (27, true)⟩,
    ⟨.fbin .neq (.tmp 32) (.const (.float .f32 0)), some 33, some (27, true)⟩,
    ⟨.pick (.tmp 27) (.tmp 33) (.const (.bool false)), some 34, some (22, false)⟩,
    ⟨.pick (.tmp 22) (.const (.bool true)) (.tmp 34), some 35, none⟩])
  (.cond (.tmp 35) (.seq (.ops [⟨.mov (.const (.bool false)), some 4, none⟩])
  (.ret)) (.skip))))
  (.ops [⟨.mov (.tmp 5), some 8, none⟩,
    ⟨.bin .add (.tmp 8) (.const (.int .i64 1)), some 9, none⟩,
    ⟨.mov (.tmp 9), some 5, none⟩]))))))
  (.seq (.ops [⟨.mov (.const (.bool true)), some 4, none⟩])
  (.ret)))⟩
theorem ok_spec_l01Field : cmpF Try.prog Try.f133 = some c_spec_l01Field := by kernel_rfl

/- impl.size -/
def c_impl_size : FV := ⟨7, [.tmp 2],
  .seq (.ops [⟨.mov (.const (.float .f32 0)), some 2, none⟩])
  (.seq (.ops [⟨.mov (.tmp 0), some 3, none⟩,
    ⟨.convF .f64 (.tmp 3), some 4, none⟩,
    ⟨.call 137 [.tmp 4], some 5, none⟩,
    ⟨.convF .f32 (.tmp 5), some 6, none⟩,
    ⟨.mov (.tmp 6), some 2, none⟩])
  (.ret))⟩
theorem ok_impl_size : cmpF Try.prog Try.f134 = some c_impl_size := by kernel_rfl

/- spec.l01Between -/
def c_spec_l01Between : FV := ⟨29, [.tmp 6, .tmp 7],
  .seq (.ops [⟨.mov (.const (.float .f32 0)), some 6, none⟩,
    ⟨.mov (.const (.int .i64 0)), some 7, none⟩])
  (.seq (.ops [⟨.mov (.tmp 0), some 9, none⟩,
    ⟨.mov (.tmp 1), some 10, none⟩,
    ⟨.mov (.tmp 2), some 11, none⟩,
    ⟨.call 113 [.tmp 9, .tmp 10, .tmp 11], some 12, none⟩,
    ⟨.mov (.tmp 12), some 8, none⟩])
  (.seq (.seq (.ops [⟨.mov (.tmp 8), some 13, none⟩,
    ⟨.bin .lss (.tmp 13) (.const (.int .i64 0)), some 14, none⟩])
  (.cond (.tmp 14) (.seq (.ops [⟨.mov (.const (.float .f32 0)), some 6, none⟩,
    ⟨.mov (.const (.int .i64 (-1))), some 7, none⟩])
  (.ret)) (.skip)))
  (.seq (.bops [⟨.mov (.tmp 0), some 15, none⟩,
    ⟨.mov (.tmp 1), some 16, none⟩,
    ⟨.nilc (.tmp 15), some 17, none⟩,
    ⟨.addr (.tmp 17) 2, some 18, none⟩,
    ⟨.idxA 64 1 (.tmp 18) (.tmp 16), some 19, none⟩,
    ⟨.load none (.tmp 19), some 20, none⟩,
    ⟨.mov (.tmp 0), some 21, none⟩,
    ⟨.mov (.tmp 8), some 22, none⟩,
    ⟨.nilc (.tmp 21), some 23, none⟩,
    ⟨.addr (.tmp 23) 2, some 24, none⟩,
    ⟨.idxA 64 1 (.tmp 24) (.tmp 22), some 25, none⟩,
    ⟨.load none (.tmp 25), some 26, none⟩,
    ⟨.call 138 [.tmp 20, .tmp 26], some 27, none⟩,
    ⟨.mov (.tmp 8), some 28, none⟩,
    ⟨.mov (.tmp 27), some 6, none⟩,
    ⟨.mov (.tmp 28), some 7, none⟩])
  (.ret))))⟩
theorem ok_spec_l01Between : cmpF Try.prog Try.f135 = some c_spec_l01Between := by kernel_rfl

/- spec.l05Field -/
def c_spec_l05Field : FV := ⟨19, [.tmp 4],
  .seq (.ops [⟨.mov (.const (.bool false)), some 4, none⟩])
  (.seq (.seq (.ops [⟨.mov (.const (.int .i64 0)), some 5, none⟩])
  (.block 0 (.loop (.seq (.seq (.ops [⟨.mov (.tmp 5), some 6, none⟩,
    ⟨.bin .lss (.tmp 6) (.const (.int .i64 64)), some 7, none⟩])
  (.cond (.tmp 7) (.skip) (.exit 0)))
  (.seq (.block 1 (.seq (.ops [⟨.mov (.tmp 1), some 10, none⟩,
    ⟨.mov (.tmp 5), some 11, none⟩,
    ⟨.nilc (.tmp 10), some 12, none⟩,
    ⟨.idxA 64 1 (.tmp 12) (.tmp 11), some 13, none⟩,
    ⟨.load none (.tmp 13), some 14, none⟩,
    ⟨.fbin .lss (.tmp 14) (.const (.float .f32 0)), some 15, none⟩])
  (.cond (.tmp 15) (.seq (.ops [⟨.mov (.const (.bool false)), some 4, none⟩])
  (.ret)) (.skip))))
  (.ops [⟨.mov (.tmp 5), some 8, none⟩,
    ⟨.bin .add (.tmp 8) (.const (.int .i64 1)), some 9, none⟩,
    ⟨.mov (.tmp 9), some 5, none⟩]))))))
  (.seq (.ops [⟨.mov (.tmp 0), some 16, none⟩,
    ⟨.mov (.tmp 1), some 17, none⟩,
    ⟨.call 133 [.tmp 16, .tmp 17], some 18, none⟩,
    ⟨.mov (.tmp 18), some 4, none⟩])
  (.ret)))⟩
theorem ok_spec_l05Field : cmpF Try.prog Try.f136 = some c_spec_l05Field := by kernel_rfl

/- math.Abs -/
def c_math_Abs : FV := ⟨7, [.tmp 2],
  .seq (.ops [⟨.mov (.const (.float .f64 0)), some 2, none⟩])
  (.seq (.ops [⟨.mov (.tmp 0), some 3, none⟩,
    ⟨.f64bits (.tmp 3), some 4, none⟩,
    ⟨.bin .andNot (.tmp 4) (.const (.int .u64 9223372036854775808)), some 5, none⟩,
    ⟨.f64from (.tmp 5), some 6, none⟩,
    ⟨.mov (.tmp 6), some 2, none⟩])
  (.ret))⟩
theorem ok_math_Abs : cmpF Try.prog Try.f137 = some c_math_Abs := by kernel_rfl

/- spec.l01Joint -/
def c_spec_l01Joint : FV := ⟨21, [.tmp 4],
  .seq (.ops [⟨.mov (.const (.float .f32 0)), some 4, none⟩])
  (.seq (.seq (.ops [⟨.mov (.tmp 0), some 5, none⟩,
    ⟨.fbin .gtr (.tmp 5) (.const (.float .f32 0)), some 6, none⟩,
    ⟨.un .not (.tmp 6), some 7, none⟩,
    ⟨.mov (.tmp 7), some 8, none⟩,
    ⟨.mov (.tmp 1), some 9, some (8, false)⟩,
    ⟨.fbin .gtr (.tmp 9) (.const (.float .f32 0)), some 10, some (8, false)⟩,
    ⟨.un .not (.tmp 10), some 11, some (8, false)⟩,
    ⟨.pick (.tmp 8) (.const (.bool true)) (.tmp 11), some 12, none⟩])
  (.cond (.tmp 12) (.seq (.ops [⟨.mov (.const (.float .f32 0)), some 4, none⟩])
  (.ret)) (.skip)))
  (.seq (.ops [⟨.mov (.tmp 0), some 13, none⟩,
    ⟨.mov (.tmp 1), some 14, none⟩,
    ⟨.fbin .mul (.tmp 13) (.tmp 14), some 15, none⟩,
    ⟨.fbin .mul (.const (.float .f32 1073741824)) (.tmp 15), some 16, none⟩,
    ⟨.mov (.tmp 0), some 17, none⟩,
    ⟨.mov (.tmp 1), some 18, none⟩,
    ⟨.fbin .add (.tmp 17) (.tmp 18), some 19, none⟩,
    ⟨.fbin .quo (.tmp 16) (.tmp 19), some 20, none⟩,
    ⟨.mov (.tmp 20), some 4, none⟩])
  (.ret)))⟩
theorem ok_spec_l01Joint : cmpF Try.prog Try.f138 = some c_spec_l01Joint := by kernel_rfl

end Go.Proofs.Ytjnkmhdpbahbiaa

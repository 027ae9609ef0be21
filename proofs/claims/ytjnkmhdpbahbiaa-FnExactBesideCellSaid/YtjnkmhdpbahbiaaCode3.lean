/- The code of the Go functions in the generator's own form, printed by a program of mine (gen.py) out of the loaded program; each with the check that it is so. -/
import Derived.Test.YtjnkmhdpbahbiaaVcFn
import Derived.Test.YtjnkmhdpbahbiaaGeo
import Derived.Test.YtjnkmhdpbahbiaaRows
import Derived.KernelRfl
namespace Go.Proofs.Ytjnkmhdpbahbiaa
open Go Go.Fl Go.Vc
set_option linter.all false
set_option maxRecDepth 100000

/- spec.FedCells -/
def c_spec_FedCells : FV := ⟨7, [.tmp 2, .tmp 3],
  .seq (.ops [⟨.box 34 (.tmp 0), some 1, none⟩,
    ⟨.mov (.const (.int .u64 0)), some 2, none⟩,
    ⟨.mov (.const (.int .i64 0)), some 3, none⟩])
  (.seq (.seq (.ops [⟨.call 92 [.tmp 1], some 4, none⟩,
    ⟨.un .not (.tmp 4), some 5, none⟩])
  (.cond (.tmp 5) (.seq (.ops [⟨.mov (.const (.int .u64 0)), some 2, none⟩,
    ⟨.mov (.const (.int .i64 1)), some 3, none⟩])
  (.ret)) (.skip)))
  (.seq (.ops [⟨.call 119 [.tmp 1], some 6, none⟩,
    ⟨.mov (.tmp 6), some 2, none⟩,
    ⟨.mov (.const (.int .i64 0)), some 3, none⟩])
  (.ret)))⟩
theorem ok_spec_FedCells : cmpF Try.prog Try.f69 = some c_spec_FedCells := by kernel_rfl

/- impl.FedCells -/
def c_impl_FedCells : FV := ⟨57, [.tmp 2, .tmp 3],
  .seq (.ops [⟨.box 34 (.tmp 0), some 1, none⟩,
    ⟨.mov (.const (.int .u64 0)), some 2, none⟩,
    ⟨.mov (.const (.int .i64 0)), some 3, none⟩])
  (.seq (.seq (.ops [⟨.load (some 195) (.tmp 1), some 9, none⟩,
    ⟨.call 40 [.tmp 9], some 10, none⟩,
    ⟨.un .not (.tmp 10), some 11, none⟩])
  (.cond (.tmp 11) (.seq (.ops [⟨.mov (.const (.int .u64 0)), some 2, none⟩,
    ⟨.mov (.const (.int .i64 1)), some 3, none⟩])
  (.ret)) (.skip)))
  (.seq (.ops [⟨.addr (.tmp 1) 194, some 12, none⟩,
    ⟨.load none (.tmp 12), some 13, none⟩,
    ⟨.mov (.tmp 13), some 4, none⟩])
  (.seq (.seq (.ops [⟨.mov (.const (.int .i64 0)), some 14, none⟩])
  (.block 0 (.loop (.seq (.ops [⟨.bin .lss (.tmp 14) (.const (.int .i64 64)), some 15, none⟩])
  (.seq (.cond (.tmp 15) (.skip) (.exit 0))
  (.seq (.block 1 (.seq (.ops [⟨.call 91 [.tmp 1], some 16, none⟩,
    ⟨.lenL (.tmp 16), some 17, none⟩,
    ⟨.mov (.const (.int .i64 0)), some 18, none⟩])
  (.block 2 (.loop (.seq (.ops [⟨.bin .lss (.tmp 18) (.tmp 17), some 19, none⟩])
  (.seq (.cond (.tmp 19) (.skip) (.exit 2))
  (.seq (.block 3 (.seq (.ops [⟨.idxS 1 (.tmp 16) (.tmp 18), some 20, none⟩,
    ⟨.load none (.tmp 20), some 21, none⟩,
    ⟨.mov (.tmp 21), some 6, none⟩])
  (.seq (.ops [⟨.mov (.const (.int .i64 0)), some 22, none⟩])
  (.block 4 (.loop (.seq (.ops [⟨.bin .lss (.tmp 22) (.const (.int .i64 4)), some 23, none⟩])
  (.seq (.cond (.tmp 23) (.skip) (.exit 4))
  (.seq (.block 5 (.seq (.ops [⟨.mov (.tmp 22), some 24, none⟩,
    ⟨.mov (.tmp 24), some 7, none⟩])
  (.seq (.ops [⟨.mov (.tmp 6), some 25, none⟩,
    ⟨.mov (.tmp 7), some 26, none⟩,
    ⟨.call 115 [.tmp 1, .tmp 25, .tmp 26], some 27, none⟩,
    ⟨.mov (.tmp 27), some 8, none⟩])
  (.seq (.bops [⟨.mov (.tmp 4), some 28, none⟩,
    ⟨.mov (.tmp 6), some 29, none⟩,
    ⟨.bin .shr (.tmp 28) (.tmp 29), some 30, none⟩,
    ⟨.bin .and (.tmp 30) (.const (.int .u64 1)), some 31, none⟩,
    ⟨.bin .eql (.tmp 31) (.const (.int .u64 1)), some 32, none⟩,
    ⟨.mov (.tmp 32), some 33, none⟩,
    ⟨.mov (.tmp 8), some 34, some (33, true)⟩,
    ⟨.bin .geq (.tmp 34) (.const (.int .i64 0)), some 35, some (33, true)⟩,
    ⟨.pick (.tmp 33) (.tmp 35) (.const (.bool false)), some 36, none⟩,
    ⟨.mov (.tmp 36), some 37, none⟩,
    ⟨.mov (.tmp 6), some 38, some (37, true)⟩,
    ⟨.addr (.tmp 1) 2, some 39, some (37, true)⟩,
    ⟨.idxA 64 1 (.tmp 39) (.tmp 38), some 40, some (37, true)⟩,
    ⟨.load none (.tmp 40), some 41, some (37, true)⟩,
    ⟨.mov (.tmp 8), some 42, some (37, true)⟩,
    ⟨.addr (.tmp 1) 2, some 43, some (37, true)⟩,
    ⟨.idxA 64 1 (.tmp 43) (.tmp 42), some 44, some (37, true)⟩,
    ⟨.load none (.tmp 44), some 45, some (37, true)⟩,
    ⟨.call 120 [.tmp 41, .tmp 45], some 46, some (37, true)⟩,
    ⟨.fbin .gtr (.tmp 46) (.const (.float .f32 0)), some 47, some (37, true)⟩,
    ⟨.pick (.tmp 37) (.tmp 47) (.const (.bool false)), some 48, none⟩])
  (.cond (.tmp 48) (.ops [⟨.mov (.tmp 4), some 49, none⟩,
    ⟨.mov (.tmp 8), some 50, none⟩,
    ⟨.bin .shl (.const (.int .u64 1)) (.tmp 50), some 51, none⟩,
    ⟨.bin .or (.tmp 49) (.tmp 51), some 52, none⟩,
    ⟨.mov (.tmp 52), some 4, none⟩]) (.skip))))))
  (.ops [⟨.bin .add (.tmp 22) (.const (.int .i64 1)), some 53, none⟩,
    ⟨.mov (.tmp 53), some 22, none⟩])))))))))
  (.ops [⟨.bin .add (.tmp 18) (.const (.int .i64 1)), some 54, none⟩,
    ⟨.mov (.tmp 54), some 18, none⟩]))))))))
  (.ops [⟨.bin .add (.tmp 14) (.const (.int .i64 1)), some 55, none⟩,
    ⟨.mov (.tmp 55), some 14, none⟩])))))))
  (.seq (.ops [⟨.mov (.tmp 4), some 56, none⟩,
    ⟨.mov (.tmp 56), some 2, none⟩,
    ⟨.mov (.const (.int .i64 0)), some 3, none⟩])
  (.ret)))))⟩
theorem ok_impl_FedCells : cmpF Try.prog Try.f70 = some c_impl_FedCells := by kernel_rfl

/- spec.ValidBrine -/
def c_spec_ValidBrine : FV := ⟨4, [.tmp 2],
  .seq (.ops [⟨.box 41 (.tmp 0), some 1, none⟩,
    ⟨.mov (.const (.bool false)), some 2, none⟩])
  (.seq (.ops [⟨.call 121 [.tmp 1], some 3, none⟩,
    ⟨.mov (.tmp 3), some 2, none⟩])
  (.ret))⟩
theorem ok_spec_ValidBrine : cmpF Try.prog Try.f71 = some c_spec_ValidBrine := by kernel_rfl

/- impl.ValidBrine -/
def c_impl_ValidBrine : FV := ⟨33, [.tmp 2],
  .seq (.ops [⟨.box 41 (.tmp 0), some 1, none⟩,
    ⟨.mov (.const (.bool false)), some 2, none⟩])
  (.seq (.ops [⟨.addr (.tmp 1) 0, some 4, none⟩,
    ⟨.mov (.tmp 4), some 3, none⟩])
  (.seq (.seq (.ops [⟨.addr (.tmp 1) 0, some 5, none⟩,
    ⟨.load (some 195) (.tmp 5), some 6, none⟩,
    ⟨.call 40 [.tmp 6], some 7, none⟩,
    ⟨.un .not (.tmp 7), some 8, none⟩,
    ⟨.mov (.tmp 8), some 9, none⟩,
    ⟨.mov (.tmp 3), some 10, some (9, false)⟩,
    ⟨.addr (.tmp 1) 195, some 11, some (9, false)⟩,
    ⟨.call 93 [.tmp 10, .tmp 11, .func 88], some 12, some (9, false)⟩,
    ⟨.un .not (.tmp 12), some 13, some (9, false)⟩,
    ⟨.pick (.tmp 9) (.const (.bool true)) (.tmp 13), some 14, none⟩,
    ⟨.mov (.tmp 14), some 15, none⟩,
    ⟨.mov (.tmp 3), some 16, some (15, false)⟩,
    ⟨.addr (.tmp 1) 259, some 17, some (15, false)⟩,
    ⟨.call 93 [.tmp 16, .tmp 17, .func 88], some 18, some (15, false)⟩,
    ⟨.un .not (.tmp 18), some 19, some (15, false)⟩,
    ⟨.pick (.tmp 15) (.const (.bool true)) (.tmp 19), some 20, none⟩])
  (.cond (.tmp 20) (.seq (.ops [⟨.mov (.const (.bool false)), some 2, none⟩])
  (.ret)) (.skip)))
  (.seq (.ops [⟨.addr (.tmp 1) 323, some 21, none⟩,
    ⟨.load none (.tmp 21), some 22, none⟩,
    ⟨.call 89 [.tmp 22], some 23, none⟩,
    ⟨.mov (.tmp 23), some 24, none⟩,
    ⟨.addr (.tmp 1) 323, some 25, some (24, true)⟩,
    ⟨.load none (.tmp 25), some 26, some (24, true)⟩,
    ⟨.fbin .geq (.tmp 26) (.const (.float .f32 981467136)), some 27, some (24, true)⟩,
    ⟨.pick (.tmp 24) (.tmp 27) (.const (.bool false)), some 28, none⟩,
    ⟨.mov (.tmp 28), some 29, none⟩,
    ⟨.mov (.tmp 3), some 30, some (29, true)⟩,
    ⟨.call 122 [.tmp 30], some 31, some (29, true)⟩,
    ⟨.pick (.tmp 29) (.tmp 31) (.const (.bool false)), some 32, none⟩,
    ⟨.mov (.tmp 32), some 2, none⟩])
  (.ret))))⟩
theorem ok_impl_ValidBrine : cmpF Try.prog Try.f72 = some c_impl_ValidBrine := by kernel_rfl

/- spec.FlowFrom -/
def c_spec_FlowFrom : FV := ⟨23, [.tmp 6, .tmp 7],
  .seq (.ops [⟨.box 34 (.tmp 0), some 3, none⟩,
    ⟨.mov (.const (.float .f32 0)), some 6, none⟩,
    ⟨.mov (.const (.int .i64 0)), some 7, none⟩])
  (.seq (.seq (.ops [⟨.mov (.tmp 1), some 10, none⟩,
    ⟨.mov (.tmp 2), some 11, none⟩,
    ⟨.call 112 [.tmp 3, .tmp 10, .tmp 11], some 12, none⟩,
    ⟨.mov (.tmp 12), some 8, none⟩])
  (.seq (.ops [⟨.mov (.tmp 8), some 13, none⟩,
    ⟨.bin .neq (.tmp 13) (.const (.int .i64 0)), some 14, none⟩])
  (.cond (.tmp 14) (.seq (.ops [⟨.mov (.tmp 8), some 15, none⟩,
    ⟨.mov (.const (.float .f32 0)), some 6, none⟩,
    ⟨.mov (.tmp 15), some 7, none⟩])
  (.ret)) (.skip))))
  (.seq (.ops [⟨.mov (.tmp 1), some 16, none⟩,
    ⟨.mov (.tmp 2), some 17, none⟩,
    ⟨.call 123 [.tmp 3, .tmp 16, .tmp 17], some 18, none⟩,
    ⟨.mov (.tmp 18), some 9, none⟩])
  (.seq (.seq (.ops [⟨.mov (.tmp 9), some 19, none⟩,
    ⟨.call 101 [.tmp 19], some 20, none⟩,
    ⟨.un .not (.tmp 20), some 21, none⟩])
  (.cond (.tmp 21) (.seq (.ops [⟨.mov (.const (.float .f32 0)), some 6, none⟩,
    ⟨.mov (.const (.int .i64 4)), some 7, none⟩])
  (.ret)) (.skip)))
  (.seq (.ops [⟨.mov (.tmp 9), some 22, none⟩,
    ⟨.mov (.tmp 22), some 6, none⟩,
    ⟨.mov (.const (.int .i64 0)), some 7, none⟩])
  (.ret)))))⟩
theorem ok_spec_FlowFrom : cmpF Try.prog Try.f73 = some c_spec_FlowFrom := by kernel_rfl

/- impl.FlowFrom -/
def c_impl_FlowFrom : FV := ⟨21, [.tmp 6, .tmp 7],
  .seq (.ops [⟨.box 34 (.tmp 0), some 3, none⟩,
    ⟨.mov (.const (.float .f32 0)), some 6, none⟩,
    ⟨.mov (.const (.int .i64 0)), some 7, none⟩])
  (.seq (.seq (.ops [⟨.mov (.tmp 1), some 9, none⟩,
    ⟨.mov (.tmp 2), some 10, none⟩,
    ⟨.call 114 [.tmp 3, .tmp 9, .tmp 10], some 11, none⟩,
    ⟨.mov (.tmp 11), some 8, none⟩])
  (.seq (.ops [⟨.mov (.tmp 8), some 12, none⟩,
    ⟨.bin .neq (.tmp 12) (.const (.int .i64 0)), some 13, none⟩])
  (.cond (.tmp 13) (.seq (.ops [⟨.mov (.tmp 8), some 14, none⟩,
    ⟨.mov (.const (.float .f32 0)), some 6, none⟩,
    ⟨.mov (.tmp 14), some 7, none⟩])
  (.ret)) (.skip))))
  (.seq (.ops [⟨.mov (.tmp 1), some 15, none⟩,
    ⟨.mov (.tmp 2), some 16, none⟩,
    ⟨.call 124 [.tmp 3, .tmp 15, .tmp 16], some 17, none⟩,
    ⟨.call 102 [.tmp 17], some 18, none⟩,
    ⟨.ext (.tmp 18) 0, some 19, none⟩,
    ⟨.ext (.tmp 18) 1, some 20, none⟩,
    ⟨.mov (.tmp 19), some 6, none⟩,
    ⟨.mov (.tmp 20), some 7, none⟩])
  (.ret)))⟩
theorem ok_impl_FlowFrom : cmpF Try.prog Try.f74 = some c_impl_FlowFrom := by kernel_rfl

/- spec.BalanceAt -/
def c_spec_BalanceAt : FV := ⟨19, [.tmp 4, .tmp 5],
  .seq (.ops [⟨.box 34 (.tmp 0), some 2, none⟩,
    ⟨.mov (.const (.float .f32 0)), some 4, none⟩,
    ⟨.mov (.const (.int .i64 0)), some 5, none⟩])
  (.seq (.seq (.ops [⟨.mov (.tmp 1), some 8, none⟩,
    ⟨.call 106 [.tmp 2, .tmp 8], some 9, none⟩,
    ⟨.mov (.tmp 9), some 6, none⟩])
  (.seq (.ops [⟨.mov (.tmp 6), some 10, none⟩,
    ⟨.bin .neq (.tmp 10) (.const (.int .i64 0)), some 11, none⟩])
  (.cond (.tmp 11) (.seq (.ops [⟨.mov (.tmp 6), some 12, none⟩,
    ⟨.mov (.const (.float .f32 0)), some 4, none⟩,
    ⟨.mov (.tmp 12), some 5, none⟩])
  (.ret)) (.skip))))
  (.seq (.ops [⟨.mov (.tmp 1), some 13, none⟩,
    ⟨.call 125 [.tmp 2, .tmp 13], some 14, none⟩,
    ⟨.mov (.tmp 14), some 7, none⟩])
  (.seq (.seq (.ops [⟨.mov (.tmp 7), some 15, none⟩,
    ⟨.call 101 [.tmp 15], some 16, none⟩,
    ⟨.un .not (.tmp 16), some 17, none⟩])
  (.cond (.tmp 17) (.seq (.ops [⟨.mov (.const (.float .f32 0)), some 4, none⟩,
    ⟨.mov (.const (.int .i64 4)), some 5, none⟩])
  (.ret)) (.skip)))
  (.seq (.ops [⟨.mov (.tmp 7), some 18, none⟩,
    ⟨.mov (.tmp 18), some 4, none⟩,
    ⟨.mov (.const (.int .i64 0)), some 5, none⟩])
  (.ret)))))⟩
theorem ok_spec_BalanceAt : cmpF Try.prog Try.f75 = some c_spec_BalanceAt := by kernel_rfl

/- impl.BalanceAt -/
def c_impl_BalanceAt : FV := ⟨17, [.tmp 4, .tmp 5],
  .seq (.ops [⟨.box 34 (.tmp 0), some 2, none⟩,
    ⟨.mov (.const (.float .f32 0)), some 4, none⟩,
    ⟨.mov (.const (.int .i64 0)), some 5, none⟩])
  (.seq (.seq (.ops [⟨.mov (.tmp 1), some 7, none⟩,
    ⟨.call 126 [.tmp 2, .tmp 7], some 8, none⟩,
    ⟨.mov (.tmp 8), some 6, none⟩])
  (.seq (.ops [⟨.mov (.tmp 6), some 9, none⟩,
    ⟨.bin .neq (.tmp 9) (.const (.int .i64 0)), some 10, none⟩])
  (.cond (.tmp 10) (.seq (.ops [⟨.mov (.tmp 6), some 11, none⟩,
    ⟨.mov (.const (.float .f32 0)), some 4, none⟩,
    ⟨.mov (.tmp 11), some 5, none⟩])
  (.ret)) (.skip))))
  (.seq (.ops [⟨.mov (.tmp 1), some 12, none⟩,
    ⟨.call 127 [.tmp 2, .tmp 12], some 13, none⟩,
    ⟨.call 102 [.tmp 13], some 14, none⟩,
    ⟨.ext (.tmp 14) 0, some 15, none⟩,
    ⟨.ext (.tmp 14) 1, some 16, none⟩,
    ⟨.mov (.tmp 15), some 4, none⟩,
    ⟨.mov (.tmp 16), some 5, none⟩])
  (.ret)))⟩
theorem ok_impl_BalanceAt : cmpF Try.prog Try.f76 = some c_impl_BalanceAt := by kernel_rfl

/- spec.FrontOf -/
def c_spec_FrontOf : FV := ⟨31, [.tmp 4, .tmp 5],
  .seq (.ops [⟨.box 41 (.tmp 0), some 2, none⟩,
    ⟨.mov (.const (.int .u64 0)), some 4, none⟩,
    ⟨.mov (.const (.int .i64 0)), some 5, none⟩])
  (.seq (.seq (.ops [⟨.call 121 [.tmp 2], some 8, none⟩,
    ⟨.un .not (.tmp 8), some 9, none⟩])
  (.cond (.tmp 9) (.seq (.ops [⟨.mov (.const (.int .u64 0)), some 4, none⟩,
    ⟨.mov (.const (.int .i64 1)), some 5, none⟩])
  (.ret)) (.skip)))
  (.seq (.ops [⟨.mov (.const (.int .u64 0)), some 6, none⟩])
  (.seq (.seq (.ops [⟨.mov (.const (.int .i64 0)), some 7, none⟩])
  (.block 0 (.loop (.seq (.seq (.ops [⟨.mov (.tmp 7), some 10, none⟩,
    ⟨.bin .lss (.tmp 10) (.const (.int .i64 64)), some 11, none⟩])
  (.cond (.tmp 11) (.skip) (.exit 0)))
  (.seq (.block 1 (.seq (.ops [⟨.addr (.tmp 2) 0, some 14, none⟩,
    ⟨.mov (.tmp 7), some 15, none⟩,
    ⟨.call 87 [.tmp 14, .tmp 15], some 16, none⟩,
    ⟨.mov (.tmp 16), some 17, none⟩,
    ⟨.mov (.tmp 7), some 18, some (17, true)⟩,
    ⟨.addr (.tmp 2) 195, some 19, some (17, true)⟩,
    ⟨.idxA 64 1 (.tmp 19) (.tmp 18), some 20, some (17, true)⟩,
    ⟨.load none (.tmp 20), some 21, some (17, true)⟩,
    ⟨.mov (.tmp 1), some 22, some (17, true)⟩,
    ⟨.fbin .geq (.tmp 21) (.tmp 22), some 23, some (17, true)⟩,
    ⟨.pick (.tmp 17) (.tmp 23) (.const (.bool false)), some 24, none⟩])
  (.cond (.tmp 24) (.ops [⟨.mov (.tmp 6), some 25, none⟩,
    ⟨.mov (.tmp 7), some 26, none⟩,
    ⟨.convI .u64 (.tmp 26), some 27, none⟩,
    ⟨.bin .shl (.const (.int .u64 1)) (.tmp 27), some 28, none⟩,
    ⟨.bin .or (.tmp 25) (.tmp 28), some 29, none⟩,
    ⟨.mov (.tmp 29), some 6, none⟩]) (.skip))))
  (.ops [⟨.mov (.tmp 7), some 12, none⟩,
    ⟨.bin .add (.tmp 12) (.const (.int .i64 1)), some 13, none⟩,
    ⟨.mov (.tmp 13), some 7, none⟩]))))))
  (.seq (.ops [⟨.mov (.tmp 6), some 30, none⟩,
    ⟨.mov (.tmp 30), some 4, none⟩,
    ⟨.mov (.const (.int .i64 0)), some 5, none⟩])
  (.ret)))))⟩
theorem ok_spec_FrontOf : cmpF Try.prog Try.f77 = some c_spec_FrontOf := by kernel_rfl

/- impl.FrontOf -/
def c_impl_FrontOf : FV := ⟨31, [.tmp 4, .tmp 5],
  .seq (.ops [⟨.box 41 (.tmp 0), some 2, none⟩,
    ⟨.mov (.const (.int .u64 0)), some 4, none⟩,
    ⟨.mov (.const (.int .i64 0)), some 5, none⟩])
  (.seq (.seq (.ops [⟨.load (some 324) (.tmp 2), some 9, none⟩,
    ⟨.call 72 [.tmp 9], some 10, none⟩,
    ⟨.un .not (.tmp 10), some 11, none⟩])
  (.cond (.tmp 11) (.seq (.ops [⟨.mov (.const (.int .u64 0)), some 4, none⟩,
    ⟨.mov (.const (.int .i64 1)), some 5, none⟩])
  (.ret)) (.skip)))
  (.seq (.ops [⟨.mov (.const (.int .u64 0)), some 6, none⟩])
  (.seq (.seq (.ops [⟨.addr (.tmp 2) 0, some 12, none⟩,
    ⟨.call 91 [.tmp 12], some 13, none⟩,
    ⟨.lenL (.tmp 13), some 14, none⟩,
    ⟨.mov (.const (.int .i64 0)), some 15, none⟩])
  (.block 0 (.loop (.seq (.ops [⟨.bin .lss (.tmp 15) (.tmp 14), some 16, none⟩])
  (.seq (.cond (.tmp 16) (.skip) (.exit 0))
  (.seq (.block 1 (.seq (.ops [⟨.idxS 1 (.tmp 13) (.tmp 15), some 17, none⟩,
    ⟨.load none (.tmp 17), some 18, none⟩,
    ⟨.mov (.tmp 18), some 8, none⟩])
  (.seq (.ops [⟨.mov (.tmp 8), some 19, none⟩,
    ⟨.addr (.tmp 2) 195, some 20, none⟩,
    ⟨.idxA 64 1 (.tmp 20) (.tmp 19), some 21, none⟩,
    ⟨.load none (.tmp 21), some 22, none⟩,
    ⟨.mov (.tmp 1), some 23, none⟩,
    ⟨.fbin .geq (.tmp 22) (.tmp 23), some 24, none⟩])
  (.cond (.tmp 24) (.ops [⟨.mov (.tmp 6), some 25, none⟩,
    ⟨.mov (.tmp 8), some 26, none⟩,
    ⟨.bin .shl (.const (.int .u64 1)) (.tmp 26), some 27, none⟩,
    ⟨.bin .or (.tmp 25) (.tmp 27), some 28, none⟩,
    ⟨.mov (.tmp 28), some 6, none⟩]) (.skip)))))
  (.ops [⟨.bin .add (.tmp 15) (.const (.int .i64 1)), some 29, none⟩,
    ⟨.mov (.tmp 29), some 15, none⟩])))))))
  (.seq (.ops [⟨.mov (.tmp 6), some 30, none⟩,
    ⟨.mov (.tmp 30), some 4, none⟩,
    ⟨.mov (.const (.int .i64 0)), some 5, none⟩])
  (.ret)))))⟩
theorem ok_impl_FrontOf : cmpF Try.prog Try.f78 = some c_impl_FrontOf := by kernel_rfl

/- spec.SettledHead -/
def c_spec_SettledHead : FV := ⟨19, [.tmp 4, .tmp 5],
  .seq (.ops [⟨.box 34 (.tmp 0), some 2, none⟩,
    ⟨.mov (.const (.float .f32 0)), some 4, none⟩,
    ⟨.mov (.const (.int .i64 0)), some 5, none⟩])
  (.seq (.seq (.ops [⟨.mov (.tmp 1), some 8, none⟩,
    ⟨.call 106 [.tmp 2, .tmp 8], some 9, none⟩,
    ⟨.mov (.tmp 9), some 6, none⟩])
  (.seq (.ops [⟨.mov (.tmp 6), some 10, none⟩,
    ⟨.bin .neq (.tmp 10) (.const (.int .i64 0)), some 11, none⟩])
  (.cond (.tmp 11) (.seq (.ops [⟨.mov (.tmp 6), some 12, none⟩,
    ⟨.mov (.const (.float .f32 0)), some 4, none⟩,
    ⟨.mov (.tmp 12), some 5, none⟩])
  (.ret)) (.skip))))
  (.seq (.ops [⟨.mov (.tmp 1), some 13, none⟩,
    ⟨.call 128 [.tmp 2, .tmp 13], some 14, none⟩,
    ⟨.mov (.tmp 14), some 7, none⟩])
  (.seq (.seq (.ops [⟨.mov (.tmp 7), some 15, none⟩,
    ⟨.call 101 [.tmp 15], some 16, none⟩,
    ⟨.un .not (.tmp 16), some 17, none⟩])
  (.cond (.tmp 17) (.seq (.ops [⟨.mov (.const (.float .f32 0)), some 4, none⟩,
    ⟨.mov (.const (.int .i64 4)), some 5, none⟩])
  (.ret)) (.skip)))
  (.seq (.ops [⟨.mov (.tmp 7), some 18, none⟩,
    ⟨.mov (.tmp 18), some 4, none⟩,
    ⟨.mov (.const (.int .i64 0)), some 5, none⟩])
  (.ret)))))⟩
theorem ok_spec_SettledHead : cmpF Try.prog Try.f79 = some c_spec_SettledHead := by kernel_rfl

/- impl.SettledHead -/
def c_impl_SettledHead : FV := ⟨17, [.tmp 4, .tmp 5],
  .seq (.ops [⟨.box 34 (.tmp 0), some 2, none⟩,
    ⟨.mov (.const (.float .f32 0)), some 4, none⟩,
    ⟨.mov (.const (.int .i64 0)), some 5, none⟩])
  (.seq (.seq (.ops [⟨.mov (.tmp 1), some 7, none⟩,
    ⟨.call 126 [.tmp 2, .tmp 7], some 8, none⟩,
    ⟨.mov (.tmp 8), some 6, none⟩])
  (.seq (.ops [⟨.mov (.tmp 6), some 9, none⟩,
    ⟨.bin .neq (.tmp 9) (.const (.int .i64 0)), some 10, none⟩])
  (.cond (.tmp 10) (.seq (.ops [⟨.mov (.tmp 6), some 11, none⟩,
    ⟨.mov (.const (.float .f32 0)), some 4, none⟩,
    ⟨.mov (.tmp 11), some 5, none⟩])
  (.ret)) (.skip))))
  (.seq (.ops [⟨.mov (.tmp 1), some 12, none⟩,
    ⟨.call 129 [.tmp 2, .tmp 12], some 13, none⟩,
    ⟨.call 102 [.tmp 13], some 14, none⟩,
    ⟨.ext (.tmp 14) 0, some 15, none⟩,
    ⟨.ext (.tmp 14) 1, some 16, none⟩,
    ⟨.mov (.tmp 15), some 4, none⟩,
    ⟨.mov (.tmp 16), some 5, none⟩])
  (.ret)))⟩
theorem ok_impl_SettledHead : cmpF Try.prog Try.f80 = some c_impl_SettledHead := by kernel_rfl

/- spec.l01SameField -/
def c_spec_l01SameField : FV := ⟨22, [.tmp 4],
  .seq (.ops [⟨.mov (.const (.bool false)), some 4, none⟩])
  (.seq (.seq (.ops [⟨.mov (.const (.int .i64 0)), some 5, none⟩])
  (.block 0 (.loop (.seq (.seq (.ops [⟨.mov (.tmp 5), some 6, none⟩,
    ⟨.bin .lss (.tmp 6) (.const (.int .i64 64)), some 7, none⟩])
  (.cond (.tmp 7) (.skip) (.exit 0)))
  (.seq (.block 1 (.seq (.bops [⟨.mov (.tmp 0), some 10, none⟩,
    ⟨.mov (.tmp 5), some 11, none⟩,
    ⟨.nilc (.tmp 10), some 12, none⟩,
    ⟨.idxA 64 1 (.tmp 12) (.tmp 11), some 13, none⟩,
    ⟨.load none (.tmp 13), some 14, none⟩,
    ⟨.mov (.tmp 1), some 15, none⟩,
    ⟨.mov (.tmp 5), some 16, none⟩,
    ⟨.nilc (.tmp 15), some 17, none⟩,
    ⟨.idxA 64 1 (.tmp 17) (.tmp 16), some 18, none⟩,
    ⟨.load none (.tmp 18), some 19, none⟩,
    ⟨.call 84 [.tmp 14, .tmp 19], some 20, none⟩,
    ⟨.un .not (.tmp 20), some 21, none⟩])
  (.cond (.tmp 21) (.seq (.ops [⟨.mov (.const (.bool false)), some 4, none⟩])
  (.ret)) (.skip))))
  (.ops [⟨.mov (.tmp 5), some 8, none⟩,
    ⟨.bin .add (.tmp 8) (.const (.int .i64 1)), some 9, none⟩,
    ⟨.mov (.tmp 9), some 5, none⟩]))))))
  (.seq (.ops [⟨.mov (.const (.bool true)), some 4, none⟩])
  (.ret)))⟩
theorem ok_spec_l01SameField : cmpF Try.prog Try.f81 = some c_spec_l01SameField := by kernel_rfl

/- impl.SameNumber -/
def c_impl_SameNumber : FV := ⟨22, [.tmp 4],
  .seq (.ops [⟨.mov (.const (.bool false)), some 4, none⟩])
  (.seq (.seq (.ops [⟨.mov (.tmp 0), some 5, none⟩,
    ⟨.call 130 [.tmp 5], some 6, none⟩,
    ⟨.mov (.tmp 6), some 7, none⟩,
    ⟨.mov (.tmp 1), some 8, some (7, false)⟩,
    ⟨.call 130 [.tmp 8], some 9, some (7, false)⟩,
    ⟨.pick (.tmp 7) (.const (.bool true)) (.tmp 9), some 10, none⟩])
  (.cond (.tmp 10) (.seq (.ops [⟨.mov (.tmp 0), some 11, none⟩,
    ⟨.call 130 [.tmp 11], some 12, none⟩,
    ⟨.mov (.tmp 12), some 13, none⟩,
    ⟨.mov (.tmp 1), some 14, some (13, true)⟩,
    ⟨.call 130 [.tmp 14], some 15, some (13, true)⟩,
    ⟨.pick (.tmp 13) (.tmp 15) (.const (.bool false)), some 16, none⟩,
    ⟨.mov (.tmp 16), some 4, none⟩])
  (.ret)) (.skip)))
  (.seq (.ops [⟨.mov (.tmp 0), some 17, none⟩,
    ⟨.f32bits (.tmp 17), some 18, none⟩,
    ⟨.mov (.tmp 1), some 19, none⟩,
    ⟨.f32bits (.tmp 19), some 20, none⟩,
    ⟨.bin .eql (.tmp 18) (.tmp 20), some 21, none⟩,
    ⟨.mov (.tmp 21), some 4, none⟩])
  (.ret)))⟩
theorem ok_impl_SameNumber : cmpF Try.prog Try.f82 = some c_impl_SameNumber := by kernel_rfl

/- spec.l01SameGround -/
def c_spec_l01SameGround : FV := ⟨63, [.tmp 4],
  .seq (.ops [⟨.mov (.const (.bool false)), some 4, none⟩])
  (.seq (.dops [⟨.mov (.tmp 0), some 5, none⟩,
    ⟨.nilc (.tmp 5), some 6, none⟩,
    ⟨.addr (.tmp 6) 0, some 7, none⟩,
    ⟨.load none (.tmp 7), some 8, none⟩,
    ⟨.mov (.tmp 1), some 9, none⟩,
    ⟨.nilc (.tmp 9), some 10, none⟩,
    ⟨.addr (.tmp 10) 0, some 11, none⟩,
    ⟨.load none (.tmp 11), some 12, none⟩,
    ⟨.bin .eql (.tmp 8) (.tmp 12), some 13, none⟩,
    ⟨.mov (.tmp 13), some 14, none⟩,
    ⟨.mov (.tmp 0), some 15, some (14, true)⟩,
    ⟨.nilc (.tmp 15), some 16, some (14, true)⟩,
    ⟨.addr (.tmp 16) 1, some 17, some (14, true)⟩,
    ⟨.load none (.tmp 17), some 18, some (14, true)⟩,
    ⟨.mov (.tmp 1), some 19, some (14, true)⟩,
    ⟨.nilc (.tmp 19), some 20, some (14, true)⟩,
    ⟨.addr (.tmp 20) 1, some 21, some (14, true)⟩,
    ⟨.load none (.tmp 21), some 22, some (14, true)⟩,
    ⟨.bin .eql (.tmp 18) (.tmp 22), some 23, some (14, true)⟩,
    ⟨.pick (.tmp 14) (.tmp 23) (.const (.bool false)), some 24, none⟩,
    ⟨.mov (.tmp 24), some 25, none⟩,
    ⟨.mov (.tmp 0), some 26, some (25, true)⟩,
    ⟨.nilc (.tmp 26), some 27, some (25, true)⟩,
    ⟨.addr (.tmp 27) 194, some 28, some (25, true)⟩,
    ⟨.load none (.tmp 28), some 29, some (25, true)⟩,
    ⟨.mov (.tmp 1), some 30, some (25, true)⟩,
    ⟨.nilc (.tmp 30), some 31, some (25, true)⟩,
    ⟨.addr (.tmp 31) 194, some 32, some (25, true)⟩,
    ⟨.load none (.tmp 32), some 33, some (25, true)⟩,
    ⟨.bin .eql (.tmp 29) (.tmp 33), some 34, some (25, true)⟩,
    ⟨.pick (.tmp 25) (.tmp 34) (.const (.bool false)), some 35, none⟩,
    ⟨.mov (.tmp 35), some 36, none⟩,
    ⟨.mov (.tmp 0), some 37, some (36, true)⟩,
    ⟨.nilc (.tmp 37), some 38, some (36, true)⟩,
    ⟨.addr (.tmp 38) 2, some 39, some (36, true)⟩,
    ⟨.mov (.tmp 1), some 40, some (36, true)⟩,
    ⟨.nilc (.tmp 40), some 41, some (36, true)⟩,
    ⟨.addr (.tmp 41) 2, some 42, some (36, true)⟩,
    ⟨.call 81 [.tmp 39, .tmp 42], some 43, some (36, true)⟩,
    ⟨.pick (.tmp 36) (.tmp 43) (.const (.bool false)), some 44, none⟩,
    ⟨.mov (.tmp 44), some 45, none⟩,
    ⟨.mov (.tmp 0), some 46, some (45, true)⟩,
    ⟨.nilc (.tmp 46), some 47, some (45, true)⟩,
    ⟨.addr (.tmp 47) 66, some 48, some (45, true)⟩,
    ⟨.mov (.tmp 1), some 49, some (45, true)⟩,
    ⟨.nilc (.tmp 49), some 50, some (45, true)⟩,
    ⟨.addr (.tmp 50) 66, some 51, some (45, true)⟩,
    ⟨.call 81 [.tmp 48, .tmp 51], some 52, some (45, true)⟩,
    ⟨.pick (.tmp 45) (.tmp 52) (.const (.bool false)), some 53, none⟩,
    ⟨.mov (.tmp 53), some 54, none⟩,
    ⟨.mov (.tmp 0), some 55, some (54, true)⟩,
    ⟨.nilc (.tmp 55), some 56, some (54, true)⟩,
    ⟨.addr (.tmp 56) 130, some 57, some (54, true)⟩,
    ⟨.mov (.tmp 1), some 58, some (54, true)⟩,
    ⟨.nilc (.tmp 58), some 59, some (54, true)⟩,
    ⟨.addr (.tmp 59) 130, some 60, some (54, true)⟩,
    ⟨.call 81 [.tmp 57, .tmp 60], some 61, some (54, true)⟩,
    ⟨.pick (.tmp 54) (.tmp 61) (.const (.bool false)), some 62, none⟩,
    ⟨.mov (.tmp 62), some 4, none⟩])
  (.ret))⟩
theorem ok_spec_l01SameGround : cmpF Try.prog Try.f83 = some c_spec_l01SameGround := by kernel_rfl

/- spec.l01Same -/
def c_spec_l01Same : FV := ⟨26, [.tmp 4],
  .seq (.ops [⟨.mov (.const (.bool false)), some 4, none⟩])
  (.seq (.seq (.ops [⟨.mov (.tmp 0), some 5, none⟩,
    ⟨.mov (.tmp 0), some 6, none⟩,
    ⟨.fbin .neq (.tmp 5) (.tmp 6), some 7, none⟩,
    ⟨.mov (.tmp 7), some 8, none⟩,
    ⟨.mov (.tmp 1), some 9, some (8, false)⟩,
    ⟨.mov (.tmp 1), some 10, some (8, false)⟩,
    ⟨.fbin .neq (.tmp 9) (.tmp 10), some 11, some (8, false)⟩,
    ⟨.pick (.tmp 8) (.const (.bool true)) (.tmp 11), some 12, none⟩])
  (.cond (.tmp 12) (.seq (.ops [⟨.mov (.tmp 0), some 13, none⟩,
    ⟨.mov (.tmp 0), some 14, none⟩,
    ⟨.fbin .neq (.tmp 13) (.tmp 14), some 15, none⟩,
    ⟨.mov (.tmp 15), some 16, none⟩,
    ⟨.mov (.tmp 1), some 17, some (16, true)⟩,
    ⟨.mov (.tmp 1), some 18, some (16, true)⟩,
    ⟨.fbin .neq (.tmp 17) (.tmp 18), some 19, some (16, true)⟩,
    ⟨.pick (.tmp 16) (.tmp 19) (.const (.bool false)), some 20, none⟩,
    ⟨.mov (.tmp 20), some 4, none⟩])
  (.ret)) (.skip)))
  (.seq (.ops [⟨.mov (.tmp 0), some 21, none⟩,
    ⟨.f32bits (.tmp 21), some 22, none⟩,
    ⟨.mov (.tmp 1), some 23, none⟩,
    ⟨.f32bits (.tmp 23), some 24, none⟩,
    ⟨.bin .eql (.tmp 22) (.tmp 24), some 25, none⟩,
    ⟨.mov (.tmp 25), some 4, none⟩])
  (.ret)))⟩
theorem ok_spec_l01Same : cmpF Try.prog Try.f84 = some c_spec_l01Same := by kernel_rfl

/- spec.l01Plain -/
def c_spec_l01Plain : FV := ⟨9, [.tmp 2],
  .seq (.ops [⟨.mov (.const (.bool false)), some 2, none⟩])
  (.seq (.ops [⟨.mov (.tmp 0), some 3, none⟩,
    ⟨.fbin .geq (.tmp 3) (.const (.float .f32 3380609024)), some 4, none⟩,
    ⟨.mov (.tmp 4), some 5, none⟩,
    ⟨.mov (.tmp 0), some 6, some (5, true)⟩,
    ⟨.fbin .leq (.tmp 6) (.const (.float .f32 1233125376)), some 7, some (5, true)⟩,
    ⟨.pick (.tmp 5) (.tmp 7) (.const (.bool false)), some 8, none⟩,
    ⟨.mov (.tmp 8), some 2, none⟩])
  (.ret))⟩
theorem ok_spec_l01Plain : cmpF Try.prog Try.f85 = some c_spec_l01Plain := by kernel_rfl

/- spec.l00In -/
def c_spec_l00In : FV := ⟨15, [.tmp 6],
  .seq (.ops [⟨.mov (.const (.bool false)), some 6, none⟩])
  (.seq (.ops [⟨.mov (.tmp 0), some 7, none⟩,
    ⟨.mov (.tmp 1), some 8, none⟩,
    ⟨.bin .geq (.tmp 7) (.tmp 8), some 9, none⟩,
    ⟨.mov (.tmp 9), some 10, none⟩,
    ⟨.mov (.tmp 0), some 11, some (10, true)⟩,
    ⟨.mov (.tmp 2), some 12, some (10, true)⟩,
    ⟨.bin .leq (.tmp 11) (.tmp 12), some 13, some (10, true)⟩,
    ⟨.pick (.tmp 10) (.tmp 13) (.const (.bool false)), some 14, none⟩,
    ⟨.mov (.tmp 14), some 6, none⟩])
  (.ret))⟩
theorem ok_spec_l00In : cmpF Try.prog Try.f86 = some c_spec_l00In := by kernel_rfl

/- spec.l01Is -/
def c_spec_l01Is : FV := ⟨27, [.tmp 4],
  .seq (.ops [⟨.mov (.const (.bool false)), some 4, none⟩])
  (.seq (.ops [⟨.mov (.tmp 1), some 5, none⟩,
    ⟨.call 86 [.tmp 5, .const (.int .i64 0), .const (.int .i64 63)], some 6, none⟩,
    ⟨.mov (.tmp 6), some 7, none⟩,
    ⟨.mov (.tmp 1), some 8, some (7, true)⟩,
    ⟨.bin .rem (.tmp 8) (.const (.int .i64 8)), some 9, some (7, true)⟩,
    ⟨.mov (.tmp 0), some 10, some (7, true)⟩,
    ⟨.nilc (.tmp 10), some 11, some (7, true)⟩,
    ⟨.addr (.tmp 11) 0, some 12, some (7, true)⟩,
    ⟨.load none (.tmp 12), some 13, some (7, true)⟩,
    ⟨.convI .i64 (.tmp 13), some 14, some (7, true)⟩,
    ⟨.bin .lss (.tmp 9) (.tmp 14), some 15, some (7, true)⟩,
    ⟨.pick (.tmp 7) (.tmp 15) (.const (.bool false)), some 16, none⟩,
    ⟨.mov (.tmp 16), some 17, none⟩,
    ⟨.mov (.tmp 1), some 18, some (17, true)⟩,
    ⟨.bin .quo (.tmp 18) (.const (.int .i64 8)), some 19, some (17, true)⟩,
    ⟨.mov (.tmp 0), some 20, some (17, true)⟩,
    ⟨.nilc (.tmp 20), some 21, some (17, true)⟩,
    ⟨.addr (.tmp 21) 1, some 22, some (17, true)⟩,
    ⟨.load none (.tmp 22), some 23, some (17, true)⟩,
    ⟨.convI .i64 (.tmp 23), some 24, some (17, true)⟩,
    ⟨.bin .lss (.tmp 19) (.tmp 24), some 25, some (17, true)⟩,
    ⟨.pick (.tmp 17) (.tmp 25) (.const (.bool false)), some 26, none⟩,
    ⟨.mov (.tmp 26), some 4, none⟩])
  (.ret))⟩
theorem ok_spec_l01Is : cmpF Try.prog Try.f87 = some c_spec_l01Is := by kernel_rfl

/- impl.isAmount -/
def c_impl_isAmount : FV := ⟨9, [.tmp 2],
  .seq (.ops [⟨.mov (.const (.bool false)), some 2, none⟩])
  (.seq (.ops [⟨.mov (.tmp 0), some 3, none⟩,
    ⟨.call 89 [.tmp 3], some 4, none⟩,
    ⟨.mov (.tmp 4), some 5, none⟩,
    ⟨.mov (.tmp 0), some 6, some (5, true)⟩,
    ⟨.fbin .geq (.tmp 6) (.const (.float .f32 0)), some 7, some (5, true)⟩,
    ⟨.pick (.tmp 5) (.tmp 7) (.const (.bool false)), some 8, none⟩,
    ⟨.mov (.tmp 8), some 2, none⟩])
  (.ret))⟩
theorem ok_impl_isAmount : cmpF Try.prog Try.f88 = some c_impl_isAmount := by kernel_rfl

/- impl.IsPlain -/
def c_impl_IsPlain : FV := ⟨9, [.tmp 2],
  .seq (.ops [⟨.mov (.const (.bool false)), some 2, none⟩])
  (.seq (.ops [⟨.mov (.tmp 0), some 3, none⟩,
    ⟨.fbin .geq (.tmp 3) (.const (.float .f32 3380609024)), some 4, none⟩,
    ⟨.mov (.tmp 4), some 5, none⟩,
    ⟨.mov (.tmp 0), some 6, some (5, true)⟩,
    ⟨.fbin .leq (.tmp 6) (.const (.float .f32 1233125376)), some 7, some (5, true)⟩,
    ⟨.pick (.tmp 5) (.tmp 7) (.const (.bool false)), some 8, none⟩,
    ⟨.mov (.tmp 8), some 2, none⟩])
  (.ret))⟩
theorem ok_impl_IsPlain : cmpF Try.prog Try.f89 = some c_impl_IsPlain := by kernel_rfl

/- impl.in -/
def c_impl_in : FV := ⟨15, [.tmp 6],
  .seq (.ops [⟨.mov (.const (.bool false)), some 6, none⟩])
  (.seq (.ops [⟨.mov (.tmp 0), some 7, none⟩,
    ⟨.mov (.tmp 1), some 8, none⟩,
    ⟨.bin .geq (.tmp 7) (.tmp 8), some 9, none⟩,
    ⟨.mov (.tmp 9), some 10, none⟩,
    ⟨.mov (.tmp 0), some 11, some (10, true)⟩,
    ⟨.mov (.tmp 2), some 12, some (10, true)⟩,
    ⟨.bin .leq (.tmp 11) (.tmp 12), some 13, some (10, true)⟩,
    ⟨.pick (.tmp 10) (.tmp 13) (.const (.bool false)), some 14, none⟩,
    ⟨.mov (.tmp 14), some 6, none⟩])
  (.ret))⟩
theorem ok_impl_in : cmpF Try.prog Try.f90 = some c_impl_in := by kernel_rfl

/- impl.Ground.cells -/
def c_impl_Ground_cells : FV := ⟨18, [.tmp 2],
  .seq (.ops [⟨.mov (.const (.slice none 0 0)), some 2, none⟩])
  (.seq (.ops [⟨.bslice 3 1 0 (#[.int .i64 0]) [], some 5, none⟩,
    ⟨.mov (.tmp 5), some 3, none⟩])
  (.seq (.seq (.ops [⟨.mov (.const (.int .i64 0)), some 6, none⟩])
  (.block 0 (.loop (.seq (.ops [⟨.bin .lss (.tmp 6) (.const (.int .i64 64)), some 7, none⟩])
  (.seq (.cond (.tmp 7) (.skip) (.exit 0))
  (.seq (.block 1 (.seq (.ops [⟨.mov (.tmp 6), some 8, none⟩,
    ⟨.mov (.tmp 8), some 4, none⟩])
  (.seq (.ops [⟨.mov (.tmp 0), some 9, none⟩,
    ⟨.mov (.tmp 4), some 10, none⟩,
    ⟨.call 132 [.tmp 9, .tmp 10], some 11, none⟩])
  (.cond (.tmp 11) (.ops [⟨.mov (.tmp 3), some 12, none⟩,
    ⟨.mov (.tmp 4), some 13, none⟩,
    ⟨.bslice 3 1 1 (#[.int .i64 0]) [(0, .tmp 13)], some 14, none⟩,
    ⟨.app 3 1 (.tmp 12) (.tmp 14), some 15, none⟩,
    ⟨.mov (.tmp 15), some 3, none⟩]) (.skip)))))
  (.ops [⟨.bin .add (.tmp 6) (.const (.int .i64 1)), some 16, none⟩,
    ⟨.mov (.tmp 16), some 6, none⟩])))))))
  (.seq (.ops [⟨.mov (.tmp 3), some 17, none⟩,
    ⟨.mov (.tmp 17), some 2, none⟩])
  (.ret))))⟩
theorem ok_impl_Ground_cells : cmpF Try.prog Try.f91 = some c_impl_Ground_cells := by kernel_rfl

/- spec.l01Ok -/
def c_spec_l01Ok : FV := ⟨68, [.tmp 2],
  .seq (.ops [⟨.mov (.const (.bool false)), some 2, none⟩])
  (.seq (.seq (.ops [⟨.mov (.tmp 0), some 4, none⟩,
    ⟨.nilc (.tmp 4), some 5, none⟩,
    ⟨.addr (.tmp 5) 0, some 6, none⟩,
    ⟨.load none (.tmp 6), some 7, none⟩,
    ⟨.convI .i64 (.tmp 7), some 8, none⟩,
    ⟨.call 86 [.tmp 8, .const (.int .i64 2), .const (.int .i64 8)], some 9, none⟩,
    ⟨.un .not (.tmp 9), some 10, none⟩,
    ⟨.mov (.tmp 10), some 11, none⟩,
    ⟨.mov (.tmp 0), some 12, some (11, false)⟩,
    ⟨.nilc (.tmp 12), some 13, some (11, false)⟩,
    ⟨.addr (.tmp 13) 1, some 14, some (11, false)⟩,
    ⟨.load none (.tmp 14), some 15, some (11, false)⟩,
    ⟨.convI .i64 (.tmp 15), some 16, some (11, false)⟩,
    ⟨.call 86 [.tmp 16, .const (.int .i64 2), .const (.int .i64 8)], some 17, some (11, false)⟩,
    ⟨.un .not (.tmp 17), some 18, some (11, false)⟩,
    ⟨.pick (.tmp 11) (.const (.bool true)) (.tmp 18), some 19, none⟩])
  (.cond (.tmp 19) (.seq (.ops [⟨.mov (.const (.bool false)), some 2, none⟩])
  (.ret)) (.skip)))
  (.seq (.seq (.ops [⟨.mov (.tmp 0), some 20, none⟩,
    ⟨.mov (.tmp 0), some 21, none⟩,
    ⟨.nilc (.tmp 21), some 22, none⟩,
    ⟨.addr (.tmp 22) 2, some 23, none⟩,
    ⟨.call 133 [.tmp 20, .tmp 23], some 24, none⟩,
    ⟨.un .not (.tmp 24), some 25, none⟩,
    ⟨.mov (.tmp 25), some 26, none⟩,
    ⟨.mov (.tmp 0), some 27, some (26, false)⟩,
    ⟨.mov (.tmp 0), some 28, some (26, false)⟩,
    ⟨.nilc (.tmp 28), some 29, some (26, false)⟩,
    ⟨.addr (.tmp 29) 66, some 30, some (26, false)⟩,
    ⟨.call 133 [.tmp 27, .tmp 30], some 31, some (26, false)⟩,
    ⟨.un .not (.tmp 31), some 32, some (26, false)⟩,
    ⟨.pick (.tmp 26) (.const (.bool true)) (.tmp 32), some 33, none⟩,
    ⟨.mov (.tmp 33), some 34, none⟩,
    ⟨.mov (.tmp 0), some 35, some (34, false)⟩,
    ⟨.mov (.tmp 0), some 36, some (34, false)⟩,
    ⟨.nilc (.tmp 36), some 37, some (34, false)⟩,
    ⟨.addr (.tmp 37) 130, some 38, some (34, false)⟩,
    ⟨.call 133 [.tmp 35, .tmp 38], some 39, some (34, false)⟩,
    ⟨.un .not (.tmp 39), some 40, some (34, false)⟩,
    ⟨.pick (.tmp 34) (.const (.bool true)) (.tmp 40), some 41, none⟩])
  (.cond (.tmp 41) (.seq (.ops [⟨.mov (.const (.bool false)), some 2, none⟩])
  (.ret)) (.skip)))
  (.seq (.seq (.ops [⟨.mov (.const (.int .i64 0)), some 3, none⟩])
  (.block 0 (.loop (.seq (.seq (.ops [⟨.mov (.tmp 3), some 42, none⟩,
    ⟨.bin .lss (.tmp 42) (.const (.int .i64 64)), some 43, none⟩])
  (.cond (.tmp 43) (.skip) (.exit 0)))
  (.seq (.block 1 (.seq (.ops [⟨.mov (.tmp 0), some 46, none⟩,
    ⟨.mov (.tmp 3), some 47, none⟩,
    ⟨.nilc (.tmp 46), some 48, none⟩,
    ⟨.addr (.tmp 48) 2, some 49, none⟩,
    ⟨.idxA 64 1 (.tmp 49) (.tmp 47), some 50, none⟩,
    ⟨.load none (.tmp 50), some 51, none⟩,
    ⟨.fbin .lss (.tmp 51) (.const (.float .f32 0)), some 52, none⟩])
  (.cond (.tmp 52) (.seq (.ops [⟨.mov (.const (.bool false)), some 2, none⟩])
  (.ret)) (.skip))))
  (.ops [⟨.mov (.tmp 3), some 44, none⟩,
    ⟨.bin .add (.tmp 44) (.const (.int .i64 1)), some 45, none⟩,
    ⟨.mov (.tmp 45), some 3, none⟩]))))))
  (.seq (.bops [⟨.mov (.tmp 0), some 53, none⟩,
    ⟨.nilc (.tmp 53), some 54, none⟩,
    ⟨.addr (.tmp 54) 194, some 55, none⟩,
    ⟨.load none (.tmp 55), some 56, none⟩,
    ⟨.bin .neq (.tmp 56) (.const (.int .u64 0)), some 57, none⟩,
    ⟨.mov (.tmp 57), some 58, none⟩,
    ⟨.mov (.tmp 0), some 59, some (58, true)⟩,
    ⟨.nilc (.tmp 59), some 60, some (58, true)⟩,
    ⟨.addr (.tmp 60) 194, some 61, some (58, true)⟩,
    ⟨.load none (.tmp 61), some 62, some (58, true)⟩,
    ⟨.mov (.tmp 0), some 63, some (58, true)⟩,
    ⟨.call 95 [.tmp 63], some 64, some (58, true)⟩,
    ⟨.bin .andNot (.tmp 62) (.tmp 64), some 65, some (58, true)⟩,
    ⟨.bin .eql (.tmp 65) (.const (.int .u64 0)), some 66, some (58, true)⟩,
    ⟨.pick (.tmp 58) (.tmp 66) (.const (.bool false)), some 67, none⟩,
    ⟨.mov (.tmp 67), some 2, none⟩])
  (.ret)))))⟩
theorem ok_spec_l01Ok : cmpF Try.prog Try.f92 = some c_spec_l01Ok := by kernel_rfl

/- impl.Ground.fieldOk -/
def c_impl_Ground_fieldOk : FV := ⟨36, [.tmp 6],
  .seq (.ops [⟨.mov (.const (.bool false)), some 6, none⟩])
  (.seq (.seq (.ops [⟨.mov (.tmp 1), some 9, none⟩,
    ⟨.mov (.const (.int .i64 0)), some 10, none⟩])
  (.block 0 (.loop (.seq (.ops [⟨.bin .lss (.tmp 10) (.const (.int .i64 64)), some 11, none⟩])
  (.seq (.cond (.tmp 11) (.skip) (.exit 0))
  (.seq (.block 1 (.seq (.bops [⟨.mov (.tmp 10), some 12, none⟩,
    ⟨.nilc (.tmp 9), some 13, none⟩,
    ⟨.idxA 64 1 (.tmp 13) (.tmp 10), some 14, none⟩,
    ⟨.load none (.tmp 14), some 15, none⟩,
    ⟨.mov (.tmp 12), some 7, none⟩,
    ⟨.mov (.tmp 15), some 8, none⟩])
  (.seq (.ops [⟨.mov (.tmp 0), some 16, none⟩,
    ⟨.mov (.tmp 7), some 17, none⟩,
    ⟨.call 132 [.tmp 16, .tmp 17], some 18, none⟩,
    ⟨.mov (.tmp 18), some 19, none⟩,
    ⟨.mov (.tmp 2), some 20, some (19, true)⟩,
    ⟨.mov (.tmp 8), some 21, some (19, true)⟩,
    ⟨.callv (.tmp 20) [.tmp 21], some 22, some (19, true)⟩,
    ⟨.un .not (.tmp 22), some 23, some (19, true)⟩,
    ⟨.pick (.tmp 19) (.tmp 23) (.const (.bool false)), some 24, none⟩,
    ⟨.mov (.tmp 24), some 25, none⟩,
    ⟨.mov (.tmp 0), some 26, some (25, false)⟩,
    ⟨.mov (.tmp 7), some 27, some (25, false)⟩,
    ⟨.call 132 [.tmp 26, .tmp 27], some 28, some (25, false)⟩,
    ⟨.un .not (.tmp 28), some 29, some (25, false)⟩,
    ⟨.mov (.tmp 29), some 30, some (25, false)⟩,
    ⟨.mov (.tmp 8), some 31, some (30, true)⟩,
    ⟨.fbin .neq (.tmp 31) (.const (.float .f32 0)), some 32, some (30, true)⟩,
    ⟨.pick (.tmp 30) (.tmp 32) (.const (.bool false)), some 33, some (25, false)⟩,
    ⟨.pick (.tmp 25) (.const (.bool true)) (.tmp 33), some 34, none⟩])
  (.cond (.tmp 34) (.seq (.ops [⟨.mov (.const (.bool false)), some 6, none⟩])
  (.ret)) (.skip)))))
  (.ops [⟨.bin .add (.tmp 10) (.const (.int .i64 1)), some 35, none⟩,
    ⟨.mov (.tmp 35), some 10, none⟩])))))))
  (.seq (.ops [⟨.mov (.const (.bool true)), some 6, none⟩])
  (.ret)))⟩
theorem ok_impl_Ground_fieldOk : cmpF Try.prog Try.f93 = some c_impl_Ground_fieldOk := by kernel_rfl

end Go.Proofs.Ytjnkmhdpbahbiaa

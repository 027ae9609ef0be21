/- The code of the Go functions in the generator's own form, printed by a program of mine (gen.py) out of the loaded program; each with the check that it is so. -/
import Derived.Test.YtjnkmhdpbahbiaaVcFn
import Derived.Test.YtjnkmhdpbahbiaaGeo
import Derived.Test.YtjnkmhdpbahbiaaRows
import Derived.KernelRfl
namespace Go.Proofs.Ytjnkmhdpbahbiaa
open Go Go.Fl Go.Vc
set_option linter.all false
set_option maxRecDepth 100000

/- impl.Ground.bits -/
def c_impl_Ground_bits : FV := ⟨19, [.tmp 2],
  .seq (.ops [⟨.mov (.const (.int .u64 0)), some 2, none⟩])
  (.seq (.ops [⟨.mov (.const (.int .u64 0)), some 3, none⟩])
  (.seq (.seq (.ops [⟨.mov (.tmp 0), some 6, none⟩,
    ⟨.call 91 [.tmp 6], some 7, none⟩,
    ⟨.lenL (.tmp 7), some 8, none⟩,
    ⟨.mov (.const (.int .i64 0)), some 9, none⟩])
  (.block 0 (.loop (.seq (.ops [⟨.bin .lss (.tmp 9) (.tmp 8), some 10, none⟩])
  (.seq (.cond (.tmp 10) (.skip) (.exit 0))
  (.seq (.block 1 (.seq (.ops [⟨.idxS 1 (.tmp 7) (.tmp 9), some 11, none⟩,
    ⟨.load none (.tmp 11), some 12, none⟩,
    ⟨.mov (.tmp 12), some 5, none⟩])
  (.ops [⟨.mov (.tmp 3), some 13, none⟩,
    ⟨.mov (.tmp 5), some 14, none⟩,
    ⟨.bin .shl (.const (.int .u64 1)) (.tmp 14), some 15, none⟩,
    ⟨.bin .or (.tmp 13) (.tmp 15), some 16, none⟩,
    ⟨.mov (.tmp 16), some 3, none⟩])))
  (.ops [⟨.bin .add (.tmp 9) (.const (.int .i64 1)), some 17, none⟩,
    ⟨.mov (.tmp 17), some 9, none⟩])))))))
  (.seq (.ops [⟨.mov (.tmp 3), some 18, none⟩,
    ⟨.mov (.tmp 18), some 2, none⟩])
  (.ret))))⟩
theorem ok_impl_Ground_bits : cmpF Try.prog Try.f94 = some c_impl_Ground_bits := by kernel_rfl

/- spec.l01Cells -/
def c_spec_l01Cells : FV := ⟨18, [.tmp 2],
  .seq (.ops [⟨.mov (.const (.int .u64 0)), some 2, none⟩])
  (.seq (.ops [⟨.mov (.const (.int .u64 0)), some 3, none⟩])
  (.seq (.seq (.ops [⟨.mov (.const (.int .i64 0)), some 4, none⟩])
  (.block 0 (.loop (.seq (.seq (.ops [⟨.mov (.tmp 4), some 5, none⟩,
    ⟨.bin .lss (.tmp 5) (.const (.int .i64 64)), some 6, none⟩])
  (.cond (.tmp 6) (.skip) (.exit 0)))
  (.seq (.block 1 (.seq (.ops [⟨.mov (.tmp 0), some 9, none⟩,
    ⟨.mov (.tmp 4), some 10, none⟩,
    ⟨.call 87 [.tmp 9, .tmp 10], some 11, none⟩])
  (.cond (.tmp 11) (.ops [⟨.mov (.tmp 3), some 12, none⟩,
    ⟨.mov (.tmp 4), some 13, none⟩,
    ⟨.convI .u64 (.tmp 13), some 14, none⟩,
    ⟨.bin .shl (.const (.int .u64 1)) (.tmp 14), some 15, none⟩,
    ⟨.bin .or (.tmp 12) (.tmp 15), some 16, none⟩,
    ⟨.mov (.tmp 16), some 3, none⟩]) (.skip))))
  (.ops [⟨.mov (.tmp 4), some 7, none⟩,
    ⟨.bin .add (.tmp 7) (.const (.int .i64 1)), some 8, none⟩,
    ⟨.mov (.tmp 8), some 4, none⟩]))))))
  (.seq (.ops [⟨.mov (.tmp 3), some 17, none⟩,
    ⟨.mov (.tmp 17), some 2, none⟩])
  (.ret))))⟩
theorem ok_spec_l01Cells : cmpF Try.prog Try.f95 = some c_spec_l01Cells := by kernel_rfl

/- spec.l01Range -/
def c_spec_l01Range : FV := ⟨55, [.tmp 2, .tmp 3],
  .seq (.ops [⟨.mov (.const (.float .f32 0)), some 2, none⟩,
    ⟨.mov (.const (.float .f32 0)), some 3, none⟩])
  (.seq (.ops [⟨.mov (.tmp 0), some 7, none⟩,
    ⟨.nilc (.tmp 7), some 8, none⟩,
    ⟨.addr (.tmp 8) 130, some 9, none⟩,
    ⟨.idxA 64 1 (.tmp 9) (.const (.int .i64 0)), some 10, none⟩,
    ⟨.load none (.tmp 10), some 11, none⟩,
    ⟨.mov (.tmp 11), some 4, none⟩])
  (.seq (.ops [⟨.mov (.tmp 0), some 12, none⟩,
    ⟨.nilc (.tmp 12), some 13, none⟩,
    ⟨.addr (.tmp 13) 130, some 14, none⟩,
    ⟨.idxA 64 1 (.tmp 14) (.const (.int .i64 0)), some 15, none⟩,
    ⟨.load none (.tmp 15), some 16, none⟩,
    ⟨.mov (.tmp 16), some 5, none⟩])
  (.seq (.seq (.ops [⟨.mov (.const (.int .i64 1)), some 6, none⟩])
  (.block 0 (.loop (.seq (.seq (.ops [⟨.mov (.tmp 6), some 17, none⟩,
    ⟨.bin .lss (.tmp 17) (.const (.int .i64 64)), some 18, none⟩])
  (.cond (.tmp 18) (.skip) (.exit 0)))
  (.seq (.block 1 (.seq (.seq (.ops [⟨.mov (.tmp 0), some 21, none⟩,
    ⟨.mov (.tmp 6), some 22, none⟩,
    ⟨.call 87 [.tmp 21, .tmp 22], some 23, none⟩,
    ⟨.un .not (.tmp 23), some 24, none⟩])
  (.cond (.tmp 24) (.exit 1) (.skip)))
  (.seq (.seq (.ops [⟨.mov (.tmp 0), some 25, none⟩,
    ⟨.mov (.tmp 6), some 26, none⟩,
    ⟨.nilc (.tmp 25), some 27, none⟩,
    ⟨.addr (.tmp 27) 130, some 28, none⟩,
    ⟨.idxA 64 1 (.tmp 28) (.tmp 26), some 29, none⟩,
    ⟨.load none (.tmp 29), some 30, none⟩,
    ⟨.mov (.tmp 4), some 31, none⟩,
    ⟨.fbin .lss (.tmp 30) (.tmp 31), some 32, none⟩])
  (.cond (.tmp 32) (.ops [⟨.mov (.tmp 0), some 33, none⟩,
    ⟨.mov (.tmp 6), some 34, none⟩,
    ⟨.nilc (.tmp 33), some 35, none⟩,
    ⟨.addr (.tmp 35) 130, some 36, none⟩,
    ⟨.idxA 64 1 (.tmp 36) (.tmp 34), some 37, none⟩,
    ⟨.load none (.tmp 37), some 38, none⟩,
    ⟨.mov (.tmp 38), some 4, none⟩]) (.skip)))
  (.seq (.ops [⟨.mov (.tmp 0), some 39, none⟩,
    ⟨.mov (.tmp 6), some 40, none⟩,
    ⟨.nilc (.tmp 39), some 41, none⟩,
    ⟨.addr (.tmp 41) 130, some 42, none⟩,
    ⟨.idxA 64 1 (.tmp 42) (.tmp 40), some 43, none⟩,
    ⟨.load none (.tmp 43), some 44, none⟩,
    ⟨.mov (.tmp 5), some 45, none⟩,
    ⟨.fbin .gtr (.tmp 44) (.tmp 45), some 46, none⟩])
  (.cond (.tmp 46) (.ops [⟨.mov (.tmp 0), some 47, none⟩,
    ⟨.mov (.tmp 6), some 48, none⟩,
    ⟨.nilc (.tmp 47), some 49, none⟩,
    ⟨.addr (.tmp 49) 130, some 50, none⟩,
    ⟨.idxA 64 1 (.tmp 50) (.tmp 48), some 51, none⟩,
    ⟨.load none (.tmp 51), some 52, none⟩,
    ⟨.mov (.tmp 52), some 5, none⟩]) (.skip))))))
  (.ops [⟨.mov (.tmp 6), some 19, none⟩,
    ⟨.bin .add (.tmp 19) (.const (.int .i64 1)), some 20, none⟩,
    ⟨.mov (.tmp 20), some 6, none⟩]))))))
  (.seq (.ops [⟨.mov (.tmp 4), some 53, none⟩,
    ⟨.mov (.tmp 5), some 54, none⟩,
    ⟨.mov (.tmp 53), some 2, none⟩,
    ⟨.mov (.tmp 54), some 3, none⟩])
  (.ret)))))⟩
theorem ok_spec_l01Range : cmpF Try.prog Try.f96 = some c_spec_l01Range := by kernel_rfl

/- impl.at -/
def c_impl_at : FV := ⟨25, [.tmp 4],
  .seq (.ops [⟨.mov (.const (.slice none 0 0)), some 4, none⟩])
  (.seq (.ops [⟨.bslice 22 1 0 (#[.float .f32 0]) [], some 8, none⟩,
    ⟨.mov (.tmp 8), some 5, none⟩])
  (.seq (.seq (.ops [⟨.mov (.tmp 0), some 9, none⟩,
    ⟨.lenL (.tmp 9), some 10, none⟩,
    ⟨.mov (.const (.int .i64 0)), some 11, none⟩])
  (.block 0 (.loop (.seq (.ops [⟨.bin .lss (.tmp 11) (.tmp 10), some 12, none⟩])
  (.seq (.cond (.tmp 12) (.skip) (.exit 0))
  (.seq (.block 1 (.seq (.ops [⟨.idxS 1 (.tmp 9) (.tmp 11), some 13, none⟩,
    ⟨.load none (.tmp 13), some 14, none⟩,
    ⟨.mov (.tmp 14), some 7, none⟩])
  (.ops [⟨.mov (.tmp 5), some 15, none⟩,
    ⟨.mov (.tmp 1), some 16, none⟩,
    ⟨.mov (.tmp 7), some 17, none⟩,
    ⟨.nilc (.tmp 16), some 18, none⟩,
    ⟨.idxA 64 1 (.tmp 18) (.tmp 17), some 19, none⟩,
    ⟨.load none (.tmp 19), some 20, none⟩,
    ⟨.bslice 22 1 1 (#[.float .f32 0]) [(0, .tmp 20)], some 21, none⟩,
    ⟨.app 22 1 (.tmp 15) (.tmp 21), some 22, none⟩,
    ⟨.mov (.tmp 22), some 5, none⟩])))
  (.ops [⟨.bin .add (.tmp 11) (.const (.int .i64 1)), some 23, none⟩,
    ⟨.mov (.tmp 23), some 11, none⟩])))))))
  (.seq (.ops [⟨.mov (.tmp 5), some 24, none⟩,
    ⟨.mov (.tmp 24), some 4, none⟩])
  (.ret))))⟩
theorem ok_impl_at : cmpF Try.prog Try.f97 = some c_impl_at := by kernel_rfl

/- spec.l02Changes -/
def c_spec_l02Changes : FV := ⟨53, [.cell 4 (some 64), .tmp 5],
  .seq (.ops [⟨.alloc 25 (.agg (fcells fz)), some 4, none⟩,
    ⟨.mov (.const (.bool false)), some 5, none⟩])
  (.seq (.ops [⟨.buildA 1 (fcells fz) [], some 8, none⟩,
    ⟨.alloc 25 (.agg (fcells fz)), some 6, none⟩,
    ⟨.store 64 (.tmp 6) (.tmp 8), none, none⟩])
  (.seq (.seq (.bops [⟨.mov (.tmp 0), some 9, none⟩,
    ⟨.nilc (.tmp 9), some 10, none⟩,
    ⟨.addr (.tmp 10) 0, some 11, none⟩,
    ⟨.load none (.tmp 11), some 12, none⟩,
    ⟨.mov (.tmp 1), some 13, none⟩,
    ⟨.nilc (.tmp 13), some 14, none⟩,
    ⟨.addr (.tmp 14) 0, some 15, none⟩,
    ⟨.load none (.tmp 15), some 16, none⟩,
    ⟨.bin .neq (.tmp 12) (.tmp 16), some 17, none⟩,
    ⟨.mov (.tmp 17), some 18, none⟩,
    ⟨.mov (.tmp 0), some 19, some (18, false)⟩,
    ⟨.nilc (.tmp 19), some 20, some (18, false)⟩,
    ⟨.addr (.tmp 20) 1, some 21, some (18, false)⟩,
    ⟨.load none (.tmp 21), some 22, some (18, false)⟩,
    ⟨.mov (.tmp 1), some 23, some (18, false)⟩,
    ⟨.nilc (.tmp 23), some 24, some (18, false)⟩,
    ⟨.addr (.tmp 24) 1, some 25, some (18, false)⟩,
    ⟨.load none (.tmp 25), some 26, some (18, false)⟩,
    ⟨.bin .neq (.tmp 22) (.tmp 26), some 27, some (18, false)⟩,
    ⟨.pick (.tmp 18) (.const (.bool true)) (.tmp 27), some 28, none⟩])
  (.cond (.tmp 28) (.seq (.ops [⟨.load (some 64) (.tmp 6), some 29, none⟩,
    ⟨.store 64 (.tmp 4) (.tmp 29), none, none⟩,
    ⟨.mov (.const (.bool false)), some 5, none⟩])
  (.ret)) (.skip)))
  (.seq (.seq (.ops [⟨.mov (.const (.int .i64 0)), some 7, none⟩])
  (.block 0 (.loop (.seq (.seq (.ops [⟨.mov (.tmp 7), some 30, none⟩,
    ⟨.bin .lss (.tmp 30) (.const (.int .i64 64)), some 31, none⟩])
  (.cond (.tmp 31) (.skip) (.exit 0)))
  (.seq (.block 1 (.seq (.ops [⟨.mov (.tmp 0), some 34, none⟩,
    ⟨.mov (.tmp 7), some 35, none⟩,
    ⟨.call 87 [.tmp 34, .tmp 35], some 36, none⟩])
  (.cond (.tmp 36) (.bops [⟨.mov (.tmp 7), some 37, none⟩,
    ⟨.mov (.tmp 1), some 38, none⟩,
    ⟨.mov (.tmp 7), some 39, none⟩,
    ⟨.nilc (.tmp 38), some 40, none⟩,
    ⟨.addr (.tmp 40) 130, some 41, none⟩,
    ⟨.idxA 64 1 (.tmp 41) (.tmp 39), some 42, none⟩,
    ⟨.load none (.tmp 42), some 43, none⟩,
    ⟨.mov (.tmp 0), some 44, none⟩,
    ⟨.mov (.tmp 7), some 45, none⟩,
    ⟨.nilc (.tmp 44), some 46, none⟩,
    ⟨.addr (.tmp 46) 130, some 47, none⟩,
    ⟨.idxA 64 1 (.tmp 47) (.tmp 45), some 48, none⟩,
    ⟨.load none (.tmp 48), some 49, none⟩,
    ⟨.fbin .sub (.tmp 43) (.tmp 49), some 50, none⟩,
    ⟨.idxA 64 1 (.tmp 6) (.tmp 37), some 51, none⟩,
    ⟨.store 1 (.tmp 51) (.tmp 50), none, none⟩]) (.skip))))
  (.ops [⟨.mov (.tmp 7), some 32, none⟩,
    ⟨.bin .add (.tmp 32) (.const (.int .i64 1)), some 33, none⟩,
    ⟨.mov (.tmp 33), some 7, none⟩]))))))
  (.seq (.ops [⟨.load (some 64) (.tmp 6), some 52, none⟩,
    ⟨.store 64 (.tmp 4) (.tmp 52), none, none⟩,
    ⟨.mov (.const (.bool true)), some 5, none⟩])
  (.ret)))))⟩
theorem ok_spec_l02Changes : cmpF Try.prog Try.f98 = some c_spec_l02Changes := by kernel_rfl

/- impl.finite -/
def c_impl_finite : FV := ⟨7, [.tmp 2],
  .seq (.ops [⟨.mov (.const (.bool false)), some 2, none⟩])
  (.seq (.ops [⟨.mov (.tmp 0), some 3, none⟩,
    ⟨.mov (.tmp 0), some 4, none⟩,
    ⟨.fbin .sub (.tmp 3) (.tmp 4), some 5, none⟩,
    ⟨.fbin .eql (.tmp 5) (.const (.float .f32 0)), some 6, none⟩,
    ⟨.mov (.tmp 6), some 2, none⟩])
  (.ret))⟩
theorem ok_impl_finite : cmpF Try.prog Try.f99 = some c_impl_finite := by kernel_rfl

/- spec.l01Sum -/
def c_spec_l01Sum : FV := ⟨26, [.tmp 4],
  .seq (.ops [⟨.mov (.const (.float .f32 0)), some 4, none⟩])
  (.seq (.ops [⟨.mov (.tmp 1), some 7, none⟩,
    ⟨.nilc (.tmp 7), some 8, none⟩,
    ⟨.idxA 64 1 (.tmp 8) (.const (.int .i64 0)), some 9, none⟩,
    ⟨.load none (.tmp 9), some 10, none⟩,
    ⟨.mov (.tmp 10), some 5, none⟩])
  (.seq (.seq (.ops [⟨.mov (.const (.int .i64 1)), some 6, none⟩])
  (.block 0 (.loop (.seq (.seq (.ops [⟨.mov (.tmp 6), some 11, none⟩,
    ⟨.bin .lss (.tmp 11) (.const (.int .i64 64)), some 12, none⟩])
  (.cond (.tmp 12) (.skip) (.exit 0)))
  (.seq (.block 1 (.seq (.ops [⟨.mov (.tmp 0), some 15, none⟩,
    ⟨.mov (.tmp 6), some 16, none⟩,
    ⟨.call 87 [.tmp 15, .tmp 16], some 17, none⟩])
  (.cond (.tmp 17) (.ops [⟨.mov (.tmp 5), some 18, none⟩,
    ⟨.mov (.tmp 1), some 19, none⟩,
    ⟨.mov (.tmp 6), some 20, none⟩,
    ⟨.nilc (.tmp 19), some 21, none⟩,
    ⟨.idxA 64 1 (.tmp 21) (.tmp 20), some 22, none⟩,
    ⟨.load none (.tmp 22), some 23, none⟩,
    ⟨.fbin .add (.tmp 18) (.tmp 23), some 24, none⟩,
    ⟨.mov (.tmp 24), some 5, none⟩]) (.skip))))
  (.ops [⟨.mov (.tmp 6), some 13, none⟩,
    ⟨.bin .add (.tmp 13) (.const (.int .i64 1)), some 14, none⟩,
    ⟨.mov (.tmp 14), some 6, none⟩]))))))
  (.seq (.ops [⟨.mov (.tmp 5), some 25, none⟩,
    ⟨.mov (.tmp 25), some 4, none⟩])
  (.ret))))⟩
theorem ok_spec_l01Sum : cmpF Try.prog Try.f100 = some c_spec_l01Sum := by kernel_rfl

/- spec.l01Finite -/
def c_spec_l01Finite : FV := ⟨7, [.tmp 2],
  .seq (.ops [⟨.mov (.const (.bool false)), some 2, none⟩])
  (.seq (.ops [⟨.mov (.tmp 0), some 3, none⟩,
    ⟨.mov (.tmp 0), some 4, none⟩,
    ⟨.fbin .sub (.tmp 3) (.tmp 4), some 5, none⟩,
    ⟨.fbin .eql (.tmp 5) (.const (.float .f32 0)), some 6, none⟩,
    ⟨.mov (.tmp 6), some 2, none⟩])
  (.ret))⟩
theorem ok_spec_l01Finite : cmpF Try.prog Try.f101 = some c_spec_l01Finite := by kernel_rfl

/- impl.told -/
def c_impl_told : FV := ⟨8, [.tmp 2, .tmp 3],
  .seq (.ops [⟨.mov (.const (.float .f32 0)), some 2, none⟩,
    ⟨.mov (.const (.int .i64 0)), some 3, none⟩])
  (.seq (.seq (.ops [⟨.mov (.tmp 0), some 4, none⟩,
    ⟨.call 99 [.tmp 4], some 5, none⟩,
    ⟨.un .not (.tmp 5), some 6, none⟩])
  (.cond (.tmp 6) (.seq (.ops [⟨.mov (.const (.float .f32 0)), some 2, none⟩,
    ⟨.mov (.const (.int .i64 4)), some 3, none⟩])
  (.ret)) (.skip)))
  (.seq (.ops [⟨.mov (.tmp 0), some 7, none⟩,
    ⟨.mov (.tmp 7), some 2, none⟩,
    ⟨.mov (.const (.int .i64 0)), some 3, none⟩])
  (.ret)))⟩
theorem ok_impl_told : cmpF Try.prog Try.f102 = some c_impl_told := by kernel_rfl

/- impl.sum -/
def c_impl_sum : FV := ⟨24, [.tmp 2],
  .seq (.ops [⟨.mov (.const (.float .f32 0)), some 2, none⟩])
  (.seq (.seq (.ops [⟨.mov (.tmp 0), some 6, none⟩,
    ⟨.lenL (.tmp 6), some 7, none⟩,
    ⟨.bin .eql (.tmp 7) (.const (.int .i64 0)), some 8, none⟩])
  (.cond (.tmp 8) (.seq (.ops [⟨.mov (.const (.float .f32 0)), some 2, none⟩])
  (.ret)) (.skip)))
  (.seq (.ops [⟨.mov (.tmp 0), some 9, none⟩,
    ⟨.idxS 1 (.tmp 9) (.const (.int .i64 0)), some 10, none⟩,
    ⟨.load none (.tmp 10), some 11, none⟩,
    ⟨.mov (.tmp 11), some 3, none⟩])
  (.seq (.seq (.ops [⟨.mov (.tmp 0), some 12, none⟩,
    ⟨.slcL 1 (.tmp 12) (some (.const (.int .i64 1))) none, some 13, none⟩,
    ⟨.lenL (.tmp 13), some 14, none⟩,
    ⟨.mov (.const (.int .i64 0)), some 15, none⟩])
  (.block 0 (.loop (.seq (.ops [⟨.bin .lss (.tmp 15) (.tmp 14), some 16, none⟩])
  (.seq (.cond (.tmp 16) (.skip) (.exit 0))
  (.seq (.block 1 (.seq (.ops [⟨.idxS 1 (.tmp 13) (.tmp 15), some 17, none⟩,
    ⟨.load none (.tmp 17), some 18, none⟩,
    ⟨.mov (.tmp 18), some 5, none⟩])
  (.ops [⟨.mov (.tmp 3), some 19, none⟩,
    ⟨.mov (.tmp 5), some 20, none⟩,
    ⟨.fbin .add (.tmp 19) (.tmp 20), some 21, none⟩,
    ⟨.mov (.tmp 21), some 3, none⟩])))
  (.ops [⟨.bin .add (.tmp 15) (.const (.int .i64 1)), some 22, none⟩,
    ⟨.mov (.tmp 22), some 15, none⟩])))))))
  (.seq (.ops [⟨.mov (.tmp 3), some 23, none⟩,
    ⟨.mov (.tmp 23), some 2, none⟩])
  (.ret)))))⟩
theorem ok_impl_sum : cmpF Try.prog Try.f103 = some c_impl_sum := by kernel_rfl

/- spec.l01Fixed -/
def c_spec_l01Fixed : FV := ⟨14, [.tmp 4],
  .seq (.ops [⟨.mov (.const (.bool false)), some 4, none⟩])
  (.seq (.ops [⟨.mov (.tmp 0), some 5, none⟩,
    ⟨.nilc (.tmp 5), some 6, none⟩,
    ⟨.addr (.tmp 6) 194, some 7, none⟩,
    ⟨.load none (.tmp 7), some 8, none⟩,
    ⟨.mov (.tmp 1), some 9, none⟩,
    ⟨.convI .u64 (.tmp 9), some 10, none⟩,
    ⟨.bin .shr (.tmp 8) (.tmp 10), some 11, none⟩,
    ⟨.bin .rem (.tmp 11) (.const (.int .u64 2)), some 12, none⟩,
    ⟨.bin .eql (.tmp 12) (.const (.int .u64 1)), some 13, none⟩,
    ⟨.mov (.tmp 13), some 4, none⟩])
  (.ret))⟩
theorem ok_spec_l01Fixed : cmpF Try.prog Try.f104 = some c_spec_l01Fixed := by kernel_rfl

/- impl.Ground.fixed -/
def c_impl_Ground_fixed : FV := ⟨13, [.tmp 4],
  .seq (.ops [⟨.mov (.const (.bool false)), some 4, none⟩])
  (.seq (.ops [⟨.mov (.tmp 0), some 5, none⟩,
    ⟨.nilc (.tmp 5), some 6, none⟩,
    ⟨.addr (.tmp 6) 194, some 7, none⟩,
    ⟨.load none (.tmp 7), some 8, none⟩,
    ⟨.mov (.tmp 1), some 9, none⟩,
    ⟨.bin .shr (.tmp 8) (.tmp 9), some 10, none⟩,
    ⟨.bin .and (.tmp 10) (.const (.int .u64 1)), some 11, none⟩,
    ⟨.bin .eql (.tmp 11) (.const (.int .u64 1)), some 12, none⟩,
    ⟨.mov (.tmp 12), some 4, none⟩])
  (.ret))⟩
theorem ok_impl_Ground_fixed : cmpF Try.prog Try.f105 = some c_impl_Ground_fixed := by kernel_rfl

/- spec.l01Asked -/
def c_spec_l01Asked : FV := ⟨12, [.tmp 4],
  .seq (.ops [⟨.mov (.const (.int .i64 0)), some 4, none⟩])
  (.seq (.seq (.ops [⟨.mov (.tmp 0), some 5, none⟩,
    ⟨.call 92 [.tmp 5], some 6, none⟩,
    ⟨.un .not (.tmp 6), some 7, none⟩])
  (.cond (.tmp 7) (.seq (.ops [⟨.mov (.const (.int .i64 1)), some 4, none⟩])
  (.ret)) (.skip)))
  (.seq (.seq (.ops [⟨.mov (.tmp 0), some 8, none⟩,
    ⟨.mov (.tmp 1), some 9, none⟩,
    ⟨.call 87 [.tmp 8, .tmp 9], some 10, none⟩,
    ⟨.un .not (.tmp 10), some 11, none⟩])
  (.cond (.tmp 11) (.seq (.ops [⟨.mov (.const (.int .i64 2)), some 4, none⟩])
  (.ret)) (.skip)))
  (.seq (.ops [⟨.mov (.const (.int .i64 0)), some 4, none⟩])
  (.ret))))⟩
theorem ok_spec_l01Asked : cmpF Try.prog Try.f106 = some c_spec_l01Asked := by kernel_rfl

/- spec.l01Made -/
def c_spec_l01Made : FV := ⟨11, [.cell 2 (some 195), .tmp 3],
  .seq (.ops [⟨.alloc 34 (.agg (gcells gz)), some 2, none⟩,
    ⟨.mov (.const (.int .i64 0)), some 3, none⟩])
  (.seq (.seq (.ops [⟨.mov (.tmp 0), some 4, none⟩,
    ⟨.call 92 [.tmp 4], some 5, none⟩,
    ⟨.un .not (.tmp 5), some 6, none⟩])
  (.cond (.tmp 6) (.seq (.ops [⟨.build [(0, 1), (1, 1), (2, 64), (66, 64), (130, 64), (194, 1)] (gcells gz) [], some 7, none⟩,
    ⟨.store 195 (.tmp 2) (.tmp 7), none, none⟩,
    ⟨.mov (.const (.int .i64 4)), some 3, none⟩])
  (.ret)) (.skip)))
  (.seq (.ops [⟨.mov (.tmp 0), some 8, none⟩,
    ⟨.nilc (.tmp 8), some 9, none⟩,
    ⟨.load (some 195) (.tmp 9), some 10, none⟩,
    ⟨.store 195 (.tmp 2) (.tmp 10), none, none⟩,
    ⟨.mov (.const (.int .i64 0)), some 3, none⟩])
  (.ret)))⟩
theorem ok_spec_l01Made : cmpF Try.prog Try.f107 = some c_spec_l01Made := by kernel_rfl

/- impl.changed -/
def c_impl_changed : FV := ⟨22, [.cell 6 (some 195), .tmp 7],
  .seq (.ops [⟨.box 34 (.tmp 0), some 3, none⟩,
    ⟨.alloc 34 (.agg (gcells gz)), some 6, none⟩,
    ⟨.mov (.const (.int .i64 0)), some 7, none⟩])
  (.seq (.seq (.ops [⟨.mov (.tmp 1), some 9, none⟩,
    ⟨.call 126 [.tmp 3, .tmp 9], some 10, none⟩,
    ⟨.mov (.tmp 10), some 8, none⟩])
  (.seq (.ops [⟨.mov (.tmp 8), some 11, none⟩,
    ⟨.bin .neq (.tmp 11) (.const (.int .i64 0)), some 12, none⟩])
  (.cond (.tmp 12) (.seq (.ops [⟨.build [(0, 1), (1, 1), (2, 64), (66, 64), (130, 64), (194, 1)] (gcells gz) [], some 13, none⟩,
    ⟨.mov (.tmp 8), some 14, none⟩,
    ⟨.store 195 (.tmp 6) (.tmp 13), none, none⟩,
    ⟨.mov (.tmp 14), some 7, none⟩])
  (.ret)) (.skip))))
  (.seq (.ops [⟨.mov (.tmp 2), some 15, none⟩,
    ⟨.callv (.tmp 15) [.tmp 3], some 16, none⟩])
  (.seq (.seq (.ops [⟨.load (some 195) (.tmp 3), some 17, none⟩,
    ⟨.call 40 [.tmp 17], some 18, none⟩,
    ⟨.un .not (.tmp 18), some 19, none⟩])
  (.cond (.tmp 19) (.seq (.ops [⟨.build [(0, 1), (1, 1), (2, 64), (66, 64), (130, 64), (194, 1)] (gcells gz) [], some 20, none⟩,
    ⟨.store 195 (.tmp 6) (.tmp 20), none, none⟩,
    ⟨.mov (.const (.int .i64 4)), some 7, none⟩])
  (.ret)) (.skip)))
  (.seq (.ops [⟨.load (some 195) (.tmp 3), some 21, none⟩,
    ⟨.store 195 (.tmp 6) (.tmp 21), none, none⟩,
    ⟨.mov (.const (.int .i64 0)), some 7, none⟩])
  (.ret)))))⟩
theorem ok_impl_changed : cmpF Try.prog Try.f108 = some c_impl_changed := by kernel_rfl

/- impl.WithConduct$1 -/
def c_impl_WithConduct_1 : FV := ⟨10, [],
  .bops [⟨.mov (.tmp 0), some 4, none⟩,
    ⟨.load none (.tmp 2), some 5, none⟩,
    ⟨.load none (.tmp 1), some 6, none⟩,
    ⟨.nilc (.tmp 4), some 7, none⟩,
    ⟨.addr (.tmp 7) 2, some 8, none⟩,
    ⟨.idxA 64 1 (.tmp 8) (.tmp 5), some 9, none⟩,
    ⟨.store 1 (.tmp 9) (.tmp 6), none, none⟩]⟩
theorem ok_impl_WithConduct_1 : cmpF Try.prog Try.f109 = some c_impl_WithConduct_1 := by kernel_rfl

/- impl.WithGain$1 -/
def c_impl_WithGain_1 : FV := ⟨10, [],
  .bops [⟨.mov (.tmp 0), some 4, none⟩,
    ⟨.load none (.tmp 2), some 5, none⟩,
    ⟨.load none (.tmp 1), some 6, none⟩,
    ⟨.nilc (.tmp 4), some 7, none⟩,
    ⟨.addr (.tmp 7) 66, some 8, none⟩,
    ⟨.idxA 64 1 (.tmp 8) (.tmp 5), some 9, none⟩,
    ⟨.store 1 (.tmp 9) (.tmp 6), none, none⟩]⟩
theorem ok_impl_WithGain_1 : cmpF Try.prog Try.f110 = some c_impl_WithGain_1 := by kernel_rfl

/- impl.WithHead$1 -/
def c_impl_WithHead_1 : FV := ⟨10, [],
  .bops [⟨.mov (.tmp 0), some 4, none⟩,
    ⟨.load none (.tmp 2), some 5, none⟩,
    ⟨.load none (.tmp 1), some 6, none⟩,
    ⟨.nilc (.tmp 4), some 7, none⟩,
    ⟨.addr (.tmp 7) 130, some 8, none⟩,
    ⟨.idxA 64 1 (.tmp 8) (.tmp 5), some 9, none⟩,
    ⟨.store 1 (.tmp 9) (.tmp 6), none, none⟩]⟩
theorem ok_impl_WithHead_1 : cmpF Try.prog Try.f111 = some c_impl_WithHead_1 := by kernel_rfl

/- spec.l01Sided -/
def c_spec_l01Sided : FV := ⟨19, [.tmp 6],
  .seq (.ops [⟨.mov (.const (.int .i64 0)), some 6, none⟩])
  (.seq (.ops [⟨.mov (.tmp 0), some 8, none⟩,
    ⟨.mov (.tmp 1), some 9, none⟩,
    ⟨.call 106 [.tmp 8, .tmp 9], some 10, none⟩,
    ⟨.mov (.tmp 10), some 7, none⟩])
  (.seq (.seq (.ops [⟨.mov (.tmp 7), some 11, none⟩,
    ⟨.bin .eql (.tmp 11) (.const (.int .i64 0)), some 12, none⟩,
    ⟨.mov (.tmp 12), some 13, none⟩,
    ⟨.mov (.tmp 2), some 14, some (13, true)⟩,
    ⟨.call 86 [.tmp 14, .const (.int .i64 0), .const (.int .i64 3)], some 15, some (13, true)⟩,
    ⟨.un .not (.tmp 15), some 16, some (13, true)⟩,
    ⟨.pick (.tmp 13) (.tmp 16) (.const (.bool false)), some 17, none⟩])
  (.cond (.tmp 17) (.ops [⟨.mov (.const (.int .i64 2)), some 7, none⟩]) (.skip)))
  (.seq (.ops [⟨.mov (.tmp 7), some 18, none⟩,
    ⟨.mov (.tmp 18), some 6, none⟩])
  (.ret))))⟩
theorem ok_spec_l01Sided : cmpF Try.prog Try.f112 = some c_spec_l01Sided := by kernel_rfl

/- spec.l01Beside -/
def c_spec_l01Beside : FV := ⟨54, [.tmp 6],
  .seq (.ops [⟨.mov (.const (.int .i64 0)), some 6, none⟩])
  (.seq (.ops [⟨.mov (.tmp 1), some 9, none⟩,
    ⟨.bin .rem (.tmp 9) (.const (.int .i64 8)), some 10, none⟩,
    ⟨.mov (.tmp 10), some 7, none⟩])
  (.seq (.ops [⟨.mov (.tmp 1), some 11, none⟩,
    ⟨.bin .quo (.tmp 11) (.const (.int .i64 8)), some 12, none⟩,
    ⟨.mov (.tmp 12), some 8, none⟩])
  (.seq (.seq (.ops [⟨.mov (.tmp 2), some 13, none⟩])
  (.block 0 (.seq (.ops [⟨.bin .eql (.tmp 13) (.const (.int .i64 0)), some 15, none⟩,
    ⟨.mov (.tmp 15), some 14, none⟩])
  (.cond (.tmp 14) (.ops [⟨.mov (.tmp 8), some 16, none⟩,
    ⟨.bin .sub (.tmp 16) (.const (.int .i64 1)), some 17, none⟩,
    ⟨.mov (.tmp 17), some 8, none⟩]) (.seq (.ops [⟨.bin .eql (.tmp 13) (.const (.int .i64 1)), some 19, none⟩,
    ⟨.mov (.tmp 19), some 18, none⟩])
  (.cond (.tmp 18) (.ops [⟨.mov (.tmp 7), some 20, none⟩,
    ⟨.bin .add (.tmp 20) (.const (.int .i64 1)), some 21, none⟩,
    ⟨.mov (.tmp 21), some 7, none⟩]) (.seq (.ops [⟨.bin .eql (.tmp 13) (.const (.int .i64 2)), some 23, none⟩,
    ⟨.mov (.tmp 23), some 22, none⟩])
  (.cond (.tmp 22) (.ops [⟨.mov (.tmp 8), some 24, none⟩,
    ⟨.bin .add (.tmp 24) (.const (.int .i64 1)), some 25, none⟩,
    ⟨.mov (.tmp 25), some 8, none⟩]) (.seq (.ops [⟨.bin .eql (.tmp 13) (.const (.int .i64 3)), some 27, none⟩,
    ⟨.mov (.tmp 27), some 26, none⟩])
  (.cond (.tmp 26) (.ops [⟨.mov (.tmp 7), some 28, none⟩,
    ⟨.bin .sub (.tmp 28) (.const (.int .i64 1)), some 29, none⟩,
    ⟨.mov (.tmp 29), some 7, none⟩]) (.skip)))))))))))
  (.seq (.seq (.ops [⟨.mov (.tmp 7), some 30, none⟩,
    ⟨.mov (.tmp 0), some 31, none⟩,
    ⟨.nilc (.tmp 31), some 32, none⟩,
    ⟨.addr (.tmp 32) 0, some 33, none⟩,
    ⟨.load none (.tmp 33), some 34, none⟩,
    ⟨.convI .i64 (.tmp 34), some 35, none⟩,
    ⟨.bin .sub (.tmp 35) (.const (.int .i64 1)), some 36, none⟩,
    ⟨.call 86 [.tmp 30, .const (.int .i64 0), .tmp 36], some 37, none⟩,
    ⟨.un .not (.tmp 37), some 38, none⟩,
    ⟨.mov (.tmp 38), some 39, none⟩,
    ⟨.mov (.tmp 8), some 40, some (39, false)⟩,
    ⟨.mov (.tmp 0), some 41, some (39, false)⟩,
    ⟨.nilc (.tmp 41), some 42, some (39, false)⟩,
    ⟨.addr (.tmp 42) 1, some 43, some (39, false)⟩,
    ⟨.load none (.tmp 43), some 44, some (39, false)⟩,
    ⟨.convI .i64 (.tmp 44), some 45, some (39, false)⟩,
    ⟨.bin .sub (.tmp 45) (.const (.int .i64 1)), some 46, some (39, false)⟩,
    ⟨.call 86 [.tmp 40, .const (.int .i64 0), .tmp 46], some 47, some (39, false)⟩,
    ⟨.un .not (.tmp 47), some 48, some (39, false)⟩,
    ⟨.pick (.tmp 39) (.const (.bool true)) (.tmp 48), some 49, none⟩])
  (.cond (.tmp 49) (.seq (.ops [⟨.mov (.const (.int .i64 (-1))), some 6, none⟩])
  (.ret)) (.skip)))
  (.seq (.ops [⟨.mov (.tmp 7), some 50, none⟩,
    ⟨.mov (.tmp 8), some 51, none⟩,
    ⟨.bin .mul (.const (.int .i64 8)) (.tmp 51), some 52, none⟩,
    ⟨.bin .add (.tmp 50) (.tmp 52), some 53, none⟩,
    ⟨.mov (.tmp 53), some 6, none⟩])
  (.ret))))))⟩
theorem ok_spec_l01Beside : cmpF Try.prog Try.f113 = some c_spec_l01Beside := by kernel_rfl

/- impl.sideFault -/
def c_impl_sideFault : FV := ⟨17, [.tmp 6],
  .seq (.ops [⟨.mov (.const (.int .i64 0)), some 6, none⟩])
  (.seq (.seq (.ops [⟨.mov (.tmp 0), some 8, none⟩,
    ⟨.mov (.tmp 1), some 9, none⟩,
    ⟨.call 126 [.tmp 8, .tmp 9], some 10, none⟩,
    ⟨.mov (.tmp 10), some 7, none⟩])
  (.seq (.ops [⟨.mov (.tmp 7), some 11, none⟩,
    ⟨.bin .neq (.tmp 11) (.const (.int .i64 0)), some 12, none⟩])
  (.cond (.tmp 12) (.seq (.ops [⟨.mov (.tmp 7), some 13, none⟩,
    ⟨.mov (.tmp 13), some 6, none⟩])
  (.ret)) (.skip))))
  (.seq (.seq (.ops [⟨.mov (.tmp 2), some 14, none⟩,
    ⟨.call 90 [.tmp 14, .const (.int .i64 0), .const (.int .i64 3)], some 15, none⟩,
    ⟨.un .not (.tmp 15), some 16, none⟩])
  (.cond (.tmp 16) (.seq (.ops [⟨.mov (.const (.int .i64 2)), some 6, none⟩])
  (.ret)) (.skip)))
  (.seq (.ops [⟨.mov (.const (.int .i64 0)), some 6, none⟩])
  (.ret))))⟩
theorem ok_impl_sideFault : cmpF Try.prog Try.f114 = some c_impl_sideFault := by kernel_rfl

/- impl.Ground.beside -/
def c_impl_Ground_beside : FV := ⟨56, [.tmp 6],
  .seq (.ops [⟨.mov (.const (.int .i64 0)), some 6, none⟩])
  (.seq (.ops [⟨.mov (.tmp 1), some 9, none⟩,
    ⟨.bin .rem (.tmp 9) (.const (.int .i64 8)), some 10, none⟩,
    ⟨.mov (.tmp 1), some 11, none⟩,
    ⟨.bin .quo (.tmp 11) (.const (.int .i64 8)), some 12, none⟩,
    ⟨.mov (.tmp 10), some 7, none⟩,
    ⟨.mov (.tmp 12), some 8, none⟩])
  (.seq (.seq (.ops [⟨.mov (.tmp 2), some 13, none⟩])
  (.block 0 (.seq (.ops [⟨.bin .eql (.tmp 13) (.const (.int .i64 0)), some 17, none⟩,
    ⟨.mov (.tmp 17), some 16, none⟩])
  (.cond (.tmp 16) (.ops [⟨.mov (.tmp 8), some 18, none⟩,
    ⟨.bin .sub (.tmp 18) (.const (.int .i64 1)), some 19, none⟩,
    ⟨.mov (.tmp 19), some 8, none⟩]) (.seq (.ops [⟨.bin .eql (.tmp 13) (.const (.int .i64 1)), some 21, none⟩,
    ⟨.mov (.tmp 21), some 20, none⟩])
  (.cond (.tmp 20) (.ops [⟨.mov (.tmp 7), some 22, none⟩,
    ⟨.bin .add (.tmp 22) (.const (.int .i64 1)), some 23, none⟩,
    ⟨.mov (.tmp 23), some 7, none⟩]) (.seq (.ops [⟨.bin .eql (.tmp 13) (.const (.int .i64 2)), some 25, none⟩,
    ⟨.mov (.tmp 25), some 24, none⟩])
  (.cond (.tmp 24) (.ops [⟨.mov (.tmp 8), some 26, none⟩,
    ⟨.bin .add (.tmp 26) (.const (.int .i64 1)), some 27, none⟩,
    ⟨.mov (.tmp 27), some 8, none⟩]) (.ops [⟨.mov (.tmp 7), some 14, none⟩,
    ⟨.bin .sub (.tmp 14) (.const (.int .i64 1)), some 15, none⟩,
    ⟨.mov (.tmp 15), some 7, none⟩])))))))))
  (.seq (.seq (.ops [⟨.mov (.tmp 7), some 28, none⟩,
    ⟨.bin .lss (.tmp 28) (.const (.int .i64 0)), some 29, none⟩,
    ⟨.mov (.tmp 29), some 30, none⟩,
    ⟨.mov (.tmp 8), some 31, some (30, false)⟩,
    ⟨.bin .lss (.tmp 31) (.const (.int .i64 0)), some 32, some (30, false)⟩,
    ⟨.pick (.tmp 30) (.const (.bool true)) (.tmp 32), some 33, none⟩,
    ⟨.mov (.tmp 33), some 34, none⟩,
    ⟨.mov (.tmp 7), some 35, some (34, false)⟩,
    ⟨.mov (.tmp 0), some 36, some (34, false)⟩,
    ⟨.nilc (.tmp 36), some 37, some (34, false)⟩,
    ⟨.addr (.tmp 37) 0, some 38, some (34, false)⟩,
    ⟨.load none (.tmp 38), some 39, some (34, false)⟩,
    ⟨.convI .i64 (.tmp 39), some 40, some (34, false)⟩,
    ⟨.bin .geq (.tmp 35) (.tmp 40), some 41, some (34, false)⟩,
    ⟨.pick (.tmp 34) (.const (.bool true)) (.tmp 41), some 42, none⟩,
    ⟨.mov (.tmp 42), some 43, none⟩,
    ⟨.mov (.tmp 8), some 44, some (43, false)⟩,
    ⟨.mov (.tmp 0), some 45, some (43, false)⟩,
    ⟨.nilc (.tmp 45), some 46, some (43, false)⟩,
    ⟨.addr (.tmp 46) 1, some 47, some (43, false)⟩,
    ⟨.load none (.tmp 47), some 48, some (43, false)⟩,
    ⟨.convI .i64 (.tmp 48), some 49, some (43, false)⟩,
    ⟨.bin .geq (.tmp 44) (.tmp 49), some 50, some (43, false)⟩,
    ⟨.pick (.tmp 43) (.const (.bool true)) (.tmp 50), some 51, none⟩])
  (.cond (.tmp 51) (.seq (.ops [⟨.mov (.const (.int .i64 (-1))), some 6, none⟩])
  (.ret)) (.skip)))
  (.seq (.ops [⟨.mov (.tmp 7), some 52, none⟩,
    ⟨.mov (.tmp 8), some 53, none⟩,
    ⟨.bin .mul (.const (.int .i64 8)) (.tmp 53), some 54, none⟩,
    ⟨.bin .add (.tmp 52) (.tmp 54), some 55, none⟩,
    ⟨.mov (.tmp 55), some 6, none⟩])
  (.ret)))))⟩
theorem ok_impl_Ground_beside : cmpF Try.prog Try.f115 = some c_impl_Ground_beside := by kernel_rfl

/- spec.l01Size -/
def c_spec_l01Size : FV := ⟨8, [.tmp 2],
  .seq (.ops [⟨.mov (.const (.float .f32 0)), some 2, none⟩])
  (.seq (.seq (.ops [⟨.mov (.tmp 0), some 3, none⟩,
    ⟨.fbin .leq (.tmp 3) (.const (.float .f32 0)), some 4, none⟩])
  (.cond (.tmp 4) (.seq (.ops [⟨.mov (.tmp 0), some 5, none⟩,
    ⟨.fbin .sub (.const (.float .f32 0)) (.tmp 5), some 6, none⟩,
    ⟨.mov (.tmp 6), some 2, none⟩])
  (.ret)) (.skip)))
  (.seq (.ops [⟨.mov (.tmp 0), some 7, none⟩,
    ⟨.mov (.tmp 7), some 2, none⟩])
  (.ret)))⟩
theorem ok_spec_l01Size : cmpF Try.prog Try.f116 = some c_spec_l01Size := by kernel_rfl

/- impl.greatest -/
def c_impl_greatest : FV := ⟨34, [.tmp 4],
  .seq (.ops [⟨.mov (.const (.int .i64 0)), some 4, none⟩])
  (.seq (.ops [⟨.mov (.const (.int .i64 (-1))), some 5, none⟩])
  (.seq (.seq (.ops [⟨.mov (.tmp 0), some 8, none⟩,
    ⟨.lenL (.tmp 8), some 9, none⟩,
    ⟨.mov (.const (.int .i64 0)), some 10, none⟩])
  (.block 0 (.loop (.seq (.ops [⟨.bin .lss (.tmp 10) (.tmp 9), some 11, none⟩])
  (.seq (.cond (.tmp 11) (.skip) (.exit 0))
  (.seq (.block 1 (.seq (.ops [⟨.idxS 1 (.tmp 8) (.tmp 10), some 12, none⟩,
    ⟨.load none (.tmp 12), some 13, none⟩,
    ⟨.mov (.tmp 13), some 7, none⟩])
  (.seq (.bops [⟨.mov (.tmp 5), some 14, none⟩,
    ⟨.bin .lss (.tmp 14) (.const (.int .i64 0)), some 15, none⟩,
    ⟨.mov (.tmp 15), some 16, none⟩,
    ⟨.mov (.tmp 1), some 17, some (16, false)⟩,
    ⟨.mov (.tmp 7), some 18, some (16, false)⟩,
    ⟨.nilc (.tmp 17), some 19, some (16, false)⟩,
    ⟨.idxA 64 1 (.tmp 19) (.tmp 18), some 20, some (16, false)⟩,
    ⟨.load none (.tmp 20), some 21, some (16, false)⟩,
    ⟨.call 134 [.tmp 21], some 22, some (16, false)⟩,
    ⟨.mov (.tmp 1), some 23, some (16, false)⟩,
    ⟨.mov (.tmp 5), some 24, some (16, false)⟩,
    ⟨.nilc (.tmp 23), some 25, some (16, false)⟩,
    ⟨.idxA 64 1 (.tmp 25) (.tmp 24), some 26, some (16, false)⟩,
    ⟨.load none (.tmp 26), some 27, some (16, false)⟩,
    ⟨.call 134 [.tmp 27], some 28, some (16, false)⟩,
    ⟨.fbin .gtr (.tmp 22) (.tmp 28), some 29, some (16, false)⟩,
    ⟨.pick (.tmp 16) (.const (.bool true)) (.tmp 29), some 30, none⟩])
  (.cond (.tmp 30) (.ops [⟨.mov (.tmp 7), some 31, none⟩,
    ⟨.mov (.tmp 31), some 5, none⟩]) (.skip)))))
  (.ops [⟨.bin .add (.tmp 10) (.const (.int .i64 1)), some 32, none⟩,
    ⟨.mov (.tmp 32), some 10, none⟩])))))))
  (.seq (.ops [⟨.mov (.tmp 5), some 33, none⟩,
    ⟨.mov (.tmp 33), some 4, none⟩])
  (.ret))))⟩
theorem ok_impl_greatest : cmpF Try.prog Try.f117 = some c_impl_greatest := by kernel_rfl

/- impl.WithFixed$1 -/
def c_impl_WithFixed_1 : FV := ⟨23, [],
  .seq (.bops [⟨.mov (.tmp 0), some 4, none⟩,
    ⟨.nilc (.tmp 4), some 5, none⟩,
    ⟨.addr (.tmp 5) 194, some 6, none⟩,
    ⟨.load none (.tmp 6), some 7, none⟩,
    ⟨.load none (.tmp 1), some 8, none⟩,
    ⟨.bin .shl (.const (.int .u64 1)) (.tmp 8), some 9, none⟩,
    ⟨.bin .andNot (.tmp 7) (.tmp 9), some 10, none⟩,
    ⟨.nilc (.tmp 4), some 11, none⟩,
    ⟨.addr (.tmp 11) 194, some 12, none⟩,
    ⟨.store 1 (.tmp 12) (.tmp 10), none, none⟩])
  (.seq (.ops [⟨.load none (.tmp 2), some 13, none⟩])
  (.cond (.tmp 13) (.bops [⟨.mov (.tmp 0), some 14, none⟩,
    ⟨.nilc (.tmp 14), some 15, none⟩,
    ⟨.addr (.tmp 15) 194, some 16, none⟩,
    ⟨.load none (.tmp 16), some 17, none⟩,
    ⟨.load none (.tmp 1), some 18, none⟩,
    ⟨.bin .shl (.const (.int .u64 1)) (.tmp 18), some 19, none⟩,
    ⟨.bin .or (.tmp 17) (.tmp 19), some 20, none⟩,
    ⟨.nilc (.tmp 14), some 21, none⟩,
    ⟨.addr (.tmp 21) 194, some 22, none⟩,
    ⟨.store 1 (.tmp 22) (.tmp 20), none, none⟩]) (.skip)))⟩
theorem ok_impl_WithFixed_1 : cmpF Try.prog Try.f118 = some c_impl_WithFixed_1 := by kernel_rfl

/- spec.l01Fed -/
def c_spec_l01Fed : FV := ⟨55, [.tmp 2],
  .seq (.ops [⟨.mov (.const (.int .u64 0)), some 2, none⟩])
  (.seq (.ops [⟨.mov (.tmp 0), some 9, none⟩,
    ⟨.nilc (.tmp 9), some 10, none⟩,
    ⟨.addr (.tmp 10) 194, some 11, none⟩,
    ⟨.load none (.tmp 11), some 12, none⟩,
    ⟨.mov (.tmp 12), some 3, none⟩])
  (.seq (.seq (.ops [⟨.mov (.const (.bool true)), some 4, none⟩])
  (.block 0 (.loop (.seq (.seq (.ops [⟨.mov (.tmp 4), some 13, none⟩])
  (.cond (.tmp 13) (.skip) (.exit 0)))
  (.block 1 (.seq (.ops [⟨.mov (.const (.bool false)), some 4, none⟩])
  (.seq (.ops [⟨.mov (.const (.int .i64 0)), some 5, none⟩])
  (.block 2 (.loop (.seq (.seq (.ops [⟨.mov (.tmp 5), some 14, none⟩,
    ⟨.bin .lss (.tmp 14) (.const (.int .i64 64)), some 15, none⟩])
  (.cond (.tmp 15) (.skip) (.exit 2)))
  (.seq (.block 3 (.seq (.seq (.ops [⟨.mov (.tmp 3), some 18, none⟩,
    ⟨.mov (.tmp 5), some 19, none⟩,
    ⟨.convI .u64 (.tmp 19), some 20, none⟩,
    ⟨.bin .shr (.tmp 18) (.tmp 20), some 21, none⟩,
    ⟨.bin .rem (.tmp 21) (.const (.int .u64 2)), some 22, none⟩,
    ⟨.bin .eql (.tmp 22) (.const (.int .u64 0)), some 23, none⟩])
  (.cond (.tmp 23) (.exit 3) (.skip)))
  (.seq (.ops [⟨.mov (.const (.int .i64 0)), some 6, none⟩])
  (.block 4 (.loop (.seq (.seq (.ops [⟨.mov (.tmp 6), some 24, none⟩,
    ⟨.bin .lss (.tmp 24) (.const (.int .i64 4)), some 25, none⟩])
  (.cond (.tmp 25) (.skip) (.exit 4)))
  (.seq (.block 5 (.seq (.ops [⟨.mov (.tmp 0), some 29, none⟩,
    ⟨.mov (.tmp 5), some 30, none⟩,
    ⟨.mov (.tmp 6), some 31, none⟩,
    ⟨.call 135 [.tmp 29, .tmp 30, .tmp 31], some 32, none⟩,
    ⟨.mov (.tmp 32), some 28, none⟩,
    ⟨.ext (.tmp 28) 0, some 33, none⟩,
    ⟨.ext (.tmp 28) 1, some 34, none⟩,
    ⟨.mov (.tmp 33), some 7, none⟩,
    ⟨.mov (.tmp 34), some 8, none⟩])
  (.seq (.ops [⟨.mov (.tmp 8), some 35, none⟩,
    ⟨.bin .geq (.tmp 35) (.const (.int .i64 0)), some 36, none⟩,
    ⟨.mov (.tmp 36), some 37, none⟩,
    ⟨.mov (.tmp 7), some 38, some (37, true)⟩,
    ⟨.fbin .gtr (.tmp 38) (.const (.float .f32 0)), some 39, some (37, true)⟩,
    ⟨.pick (.tmp 37) (.tmp 39) (.const (.bool false)), some 40, none⟩,
    ⟨.mov (.tmp 40), some 41, none⟩,
    ⟨.mov (.tmp 3), some 42, some (41, true)⟩,
    ⟨.mov (.tmp 8), some 43, some (41, true)⟩,
    ⟨.convI .u64 (.tmp 43), some 44, some (41, true)⟩,
    ⟨.bin .shr (.tmp 42) (.tmp 44), some 45, some (41, true)⟩,
    ⟨.bin .rem (.tmp 45) (.const (.int .u64 2)), some 46, some (41, true)⟩,
    ⟨.bin .eql (.tmp 46) (.const (.int .u64 0)), some 47, some (41, true)⟩,
    ⟨.pick (.tmp 41) (.tmp 47) (.const (.bool false)), some 48, none⟩])
  (.cond (.tmp 48) (.seq (.ops [⟨.mov (.tmp 3), some 49, none⟩,
    ⟨.mov (.tmp 8), some 50, none⟩,
    ⟨.convI .u64 (.tmp 50), some 51, none⟩,
    ⟨.bin .shl (.const (.int .u64 1)) (.tmp 51), some 52, none⟩,
    ⟨.bin .or (.tmp 49) (.tmp 52), some 53, none⟩,
    ⟨.mov (.tmp 53), some 3, none⟩])
  (.ops [⟨.mov (.const (.bool true)), some 4, none⟩])) (.skip)))))
  (.ops [⟨.mov (.tmp 6), some 26, none⟩,
    ⟨.bin .add (.tmp 26) (.const (.int .i64 1)), some 27, none⟩,
    ⟨.mov (.tmp 27), some 6, none⟩]))))))))
  (.ops [⟨.mov (.tmp 5), some 16, none⟩,
    ⟨.bin .add (.tmp 16) (.const (.int .i64 1)), some 17, none⟩,
    ⟨.mov (.tmp 17), some 5, none⟩]))))))))))))
  (.seq (.ops [⟨.mov (.tmp 3), some 54, none⟩,
    ⟨.mov (.tmp 54), some 2, none⟩])
  (.ret))))⟩
theorem ok_spec_l01Fed : cmpF Try.prog Try.f119 = some c_spec_l01Fed := by kernel_rfl

/- impl.JointOf -/
def c_impl_JointOf : FV := ⟨21, [.tmp 4],
  .seq (.ops [⟨.mov (.const (.float .f32 0)), some 4, none⟩])
  (.seq (.seq (.ops [⟨.mov (.tmp 0), some 5, none⟩,
    ⟨.fbin .gtr (.tmp 5) (.const (.float .f32 0)), some 6, none⟩,
    ⟨.un .not (.tmp 6), some 7, none⟩,
    ⟨.mov (.tmp 7), some 8, none⟩,
    ⟨.mov (.tmp 1), some 9, some (8, false)⟩,
    ⟨.fbin .gtr (.tmp 9) (.const (.float .f32 0)), some 10, some (8, false)⟩,
    ⟨.un .not (.tmp 10), some 11, some (8, false)⟩,
    ⟨.pick (.tmp 8) (.const (.bool true)) (.tmp 11), some 12, none⟩])
  (.cond (.tmp 12) (.seq (.ops [⟨.mov (.const (.float .f32 0)), some 4, none⟩])
  (.ret)) (.skip)))
  (.seq (.ops [⟨.mov (.tmp 0), some 13, none⟩,
    ⟨.mov (.tmp 1), some 14, none⟩,
    ⟨.fbin .mul (.tmp 13) (.tmp 14), some 15, none⟩,
    ⟨.fbin .mul (.const (.float .f32 1073741824)) (.tmp 15), some 16, none⟩,
    ⟨.mov (.tmp 0), some 17, none⟩,
    ⟨.mov (.tmp 1), some 18, none⟩,
    ⟨.fbin .add (.tmp 17) (.tmp 18), some 19, none⟩,
    ⟨.fbin .quo (.tmp 16) (.tmp 19), some 20, none⟩,
    ⟨.mov (.tmp 20), some 4, none⟩])
  (.ret)))⟩
theorem ok_impl_JointOf : cmpF Try.prog Try.f120 = some c_impl_JointOf := by kernel_rfl

end Go.Proofs.Ytjnkmhdpbahbiaa

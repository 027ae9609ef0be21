/- The code of the Go functions in the generator's own form, printed by a program of mine (gen.py) out of the loaded program; each with the check that it is so. -/
import Derived.Test.YtbhipkiiondgnaaVcFn
import Derived.Test.YtbhipkiiondgnaaGeo
import Derived.Test.YtbhipkiiondgnaaRows
import Derived.KernelRfl
namespace Go.Proofs.Ytbhipkiiondgnaa
open Go Go.Fl Go.Vc
set_option linter.all false
set_option maxRecDepth 100000

/- spec.l01Made -/
def c_spec_l01Made : FV := ⟨11, [.cell 2 (some 195), .tmp 3],
  .seq (.ops [⟨.alloc 33 (.agg (gcells gz)), some 2, none⟩,
    ⟨.mov (.const (.int .i64 0)), some 3, none⟩])
  (.seq (.seq (.ops [⟨.mov (.tmp 0), some 4, none⟩,
    ⟨.call 76 [.tmp 4], some 5, none⟩,
    ⟨.un .not (.tmp 5), some 6, none⟩])
  (.cond (.tmp 6) (.seq (.ops [⟨.build [(0, 1), (1, 1), (2, 64), (66, 64), (130, 64), (194, 1)] (gcells gz) [], some 7, none⟩,
    ⟨.store 195 (.tmp 2) (.tmp 7), none, none⟩,
    ⟨.mov (.const (.int .i64 4)), some 3, none⟩])
  (.ret)) (.skip)))
  (.seq (.ops [⟨.mov (.tmp 0), some 8, none⟩,
    ⟨.nilc (.tmp 8), some 9, none⟩,
    ⟨.load (some 195) (.tmp 9), some 10, none⟩,
    ⟨.store 195 (.tmp 2) (.tmp 10), none, none⟩,
    ⟨.mov (.const (.int .i64 0)), some 3, none⟩])
  (.ret)))⟩
theorem ok_spec_l01Made : cmpF Try.prog Try.f89 = some c_spec_l01Made := by kernel_rfl

/- impl.changed -/
def c_impl_changed : FV := ⟨22, [.cell 6 (some 195), .tmp 7],
  .seq (.ops [⟨.box 33 (.tmp 0), some 3, none⟩,
    ⟨.alloc 33 (.agg (gcells gz)), some 6, none⟩,
    ⟨.mov (.const (.int .i64 0)), some 7, none⟩])
  (.seq (.seq (.ops [⟨.mov (.tmp 1), some 9, none⟩,
    ⟨.call 108 [.tmp 3, .tmp 9], some 10, none⟩,
    ⟨.mov (.tmp 10), some 8, none⟩])
  (.seq (.ops [⟨.mov (.tmp 8), some 11, none⟩,
    ⟨.bin .neq (.tmp 11) (.const (.int .i64 0)), some 12, none⟩])
  (.cond (.tmp 12) (.seq (.ops [⟨.build [(0, 1), (1, 1), (2, 64), (66, 64), (130, 64), (194, 1)] (gcells gz) [], some 13, none⟩,
    ⟨.mov (.tmp 8), some 14, none⟩,
    ⟨.store 195 (.tmp 6) (.tmp 13), none, none⟩,
    ⟨.mov (.tmp 14), some 7, none⟩])
  (.ret)) (.skip))))
  (.seq (.ops [⟨.mov (.tmp 2), some 15, none⟩,
    ⟨.callv (.tmp 15) [.tmp 3], some 16, none⟩])
  (.seq (.seq (.ops [⟨.load (some 195) (.tmp 3), some 17, none⟩,
    ⟨.call 78 [.tmp 17], some 18, none⟩,
    ⟨.un .not (.tmp 18), some 19, none⟩])
  (.cond (.tmp 19) (.seq (.ops [⟨.build [(0, 1), (1, 1), (2, 64), (66, 64), (130, 64), (194, 1)] (gcells gz) [], some 20, none⟩,
    ⟨.store 195 (.tmp 6) (.tmp 20), none, none⟩,
    ⟨.mov (.const (.int .i64 4)), some 7, none⟩])
  (.ret)) (.skip)))
  (.seq (.ops [⟨.load (some 195) (.tmp 3), some 21, none⟩,
    ⟨.store 195 (.tmp 6) (.tmp 21), none, none⟩,
    ⟨.mov (.const (.int .i64 0)), some 7, none⟩])
  (.ret)))))⟩
theorem ok_impl_changed : cmpF Try.prog Try.f90 = some c_impl_changed := by kernel_rfl

/- impl.WithConduct$1 -/
def c_impl_WithConduct_1 : FV := ⟨10, [],
  .ops [⟨.mov (.tmp 0), some 4, none⟩,
    ⟨.load none (.tmp 2), some 5, none⟩,
    ⟨.load none (.tmp 1), some 6, none⟩,
    ⟨.nilc (.tmp 4), some 7, none⟩,
    ⟨.addr (.tmp 7) 2, some 8, none⟩,
    ⟨.idxA 64 1 (.tmp 8) (.tmp 5), some 9, none⟩,
    ⟨.store 1 (.tmp 9) (.tmp 6), none, none⟩]⟩
theorem ok_impl_WithConduct_1 : cmpF Try.prog Try.f91 = some c_impl_WithConduct_1 := by kernel_rfl

/- impl.WithGain$1 -/
def c_impl_WithGain_1 : FV := ⟨10, [],
  .ops [⟨.mov (.tmp 0), some 4, none⟩,
    ⟨.load none (.tmp 2), some 5, none⟩,
    ⟨.load none (.tmp 1), some 6, none⟩,
    ⟨.nilc (.tmp 4), some 7, none⟩,
    ⟨.addr (.tmp 7) 66, some 8, none⟩,
    ⟨.idxA 64 1 (.tmp 8) (.tmp 5), some 9, none⟩,
    ⟨.store 1 (.tmp 9) (.tmp 6), none, none⟩]⟩
theorem ok_impl_WithGain_1 : cmpF Try.prog Try.f92 = some c_impl_WithGain_1 := by kernel_rfl

/- impl.WithHead$1 -/
def c_impl_WithHead_1 : FV := ⟨10, [],
  .ops [⟨.mov (.tmp 0), some 4, none⟩,
    ⟨.load none (.tmp 2), some 5, none⟩,
    ⟨.load none (.tmp 1), some 6, none⟩,
    ⟨.nilc (.tmp 4), some 7, none⟩,
    ⟨.addr (.tmp 7) 130, some 8, none⟩,
    ⟨.idxA 64 1 (.tmp 8) (.tmp 5), some 9, none⟩,
    ⟨.store 1 (.tmp 9) (.tmp 6), none, none⟩]⟩
theorem ok_impl_WithHead_1 : cmpF Try.prog Try.f93 = some c_impl_WithHead_1 := by kernel_rfl

/- spec.l01Size -/
def c_spec_l01Size : FV := ⟨8, [.tmp 2],
  .seq (.ops [⟨.mov (.const (.float .f32 0)), some 2, none⟩])
  (.seq (.seq (.ops [⟨.mov (.tmp 0), some 3, none⟩,
    ⟨.fbin .leq (.tmp 3) (.const (.float .f32 0)), some 4, none⟩])
  (.cond (.tmp 4) (.seq (.ops [⟨.mov (.tmp 0), some 5, none⟩,
    ⟨.fbin .sub (.const (.float .f32 0)) (.tmp 5), some 6, none⟩,
    ⟨.mov (.tmp 6), some 2, none⟩])
  (.ret)) (.skip)))
  (.seq (.ops [⟨.mov (.tmp 0), some 7, none⟩,
    ⟨.mov (.tmp 7), some 2, none⟩])
  (.ret)))⟩
theorem ok_spec_l01Size : cmpF Try.prog Try.f94 = some c_spec_l01Size := by kernel_rfl

/- impl.greatest -/
def c_impl_greatest : FV := ⟨34, [.tmp 4],
  .seq (.ops [⟨.mov (.const (.int .i64 0)), some 4, none⟩])
  (.seq (.ops [⟨.mov (.const (.int .i64 (-1))), some 5, none⟩])
  (.seq (.seq (.ops [⟨.mov (.tmp 0), some 8, none⟩,
    ⟨.lenL (.tmp 8), some 9, none⟩,
    ⟨.mov (.const (.int .i64 0)), some 10, none⟩])
  (.block 0 (.loop (.seq (.ops [⟨.bin .lss (.tmp 10) (.tmp 9), some 11, none⟩])
  (.seq (.cond (.tmp 11) (.skip) (.exit 0))
  (.seq (.block 1 (.seq (.ops [⟨.idxS 1 (.tmp 8) (.tmp 10), some 12, none⟩,
    ⟨.load none (.tmp 12), some 13, none⟩,
    ⟨.mov (.tmp 13), some 7, none⟩])
  (.seq (.bops [⟨.mov (.tmp 5), some 14, none⟩,
    ⟨.bin .lss (.tmp 14) (.const (.int .i64 0)), some 15, none⟩,
    ⟨.mov (.tmp 15), some 16, none⟩,
    ⟨.mov (.tmp 1), some 17, some (16, false)⟩,
    ⟨.mov (.tmp 7), some 18, some (16, false)⟩,
    ⟨.nilc (.tmp 17), some 19, some (16, false)⟩,
    ⟨.idxA 64 1 (.tmp 19) (.tmp 18), some 20, some (16, false)⟩,
    ⟨.load none (.tmp 20), some 21, some (16, false)⟩,
    ⟨.call 118 [.tmp 21], some 22, some (16, false)⟩,
    ⟨.mov (.tmp 1), some 23, some (16, false)⟩,
    ⟨.mov (.tmp 5), some 24, some (16, false)⟩,
    ⟨.nilc (.tmp 23), some 25, some (16, false)⟩,
    ⟨.idxA 64 1 (.tmp 25) (.tmp 24), some 26, some (16, false)⟩,
    ⟨.load none (.tmp 26), some 27, some (16, false)⟩,
    ⟨.call 118 [.tmp 27], some 28, some (16, false)⟩,
    ⟨.fbin .gtr (.tmp 22) (.tmp 28), some 29, some (16, false)⟩,
    ⟨.pick (.tmp 16) (.const (.bool true)) (.tmp 29), some 30, none⟩])
  (.cond (.tmp 30) (.ops [⟨.mov (.tmp 7), some 31, none⟩,
    ⟨.mov (.tmp 31), some 5, none⟩]) (.skip)))))
  (.ops [⟨.bin .add (.tmp 10) (.const (.int .i64 1)), some 32, none⟩,
    ⟨.mov (.tmp 32), some 10, none⟩])))))))
  (.seq (.ops [⟨.mov (.tmp 5), some 33, none⟩,
    ⟨.mov (.tmp 33), some 4, none⟩])
  (.ret))))⟩
theorem ok_impl_greatest : cmpF Try.prog Try.f95 = some c_impl_greatest := by kernel_rfl

/- impl.WithFixed$1 -/
def c_impl_WithFixed_1 : FV := ⟨23, [],
  .seq (.ops [⟨.mov (.tmp 0), some 4, none⟩,
    ⟨.nilc (.tmp 4), some 5, none⟩,
    ⟨.addr (.tmp 5) 194, some 6, none⟩,
    ⟨.load none (.tmp 6), some 7, none⟩,
    ⟨.load none (.tmp 1), some 8, none⟩,
    ⟨.bin .shl (.const (.int .u64 1)) (.tmp 8), some 9, none⟩,
    ⟨.bin .andNot (.tmp 7) (.tmp 9), some 10, none⟩,
    ⟨.nilc (.tmp 4), some 11, none⟩,
    ⟨.addr (.tmp 11) 194, some 12, none⟩,
    ⟨.store 1 (.tmp 12) (.tmp 10), none, none⟩])
  (.seq (.ops [⟨.load none (.tmp 2), some 13, none⟩])
  (.cond (.tmp 13) (.ops [⟨.mov (.tmp 0), some 14, none⟩,
    ⟨.nilc (.tmp 14), some 15, none⟩,
    ⟨.addr (.tmp 15) 194, some 16, none⟩,
    ⟨.load none (.tmp 16), some 17, none⟩,
    ⟨.load none (.tmp 1), some 18, none⟩,
    ⟨.bin .shl (.const (.int .u64 1)) (.tmp 18), some 19, none⟩,
    ⟨.bin .or (.tmp 17) (.tmp 19), some 20, none⟩,
    ⟨.nilc (.tmp 14), some 21, none⟩,
    ⟨.addr (.tmp 21) 194, some 22, none⟩,
    ⟨.store 1 (.tmp 22) (.tmp 20), none, none⟩]) (.skip)))⟩
theorem ok_impl_WithFixed_1 : cmpF Try.prog Try.f96 = some c_impl_WithFixed_1 := by kernel_rfl

/- spec.l01Fed -/
def c_spec_l01Fed : FV := ⟨55, [.tmp 2],
  .seq (.ops [⟨.mov (.const (.int .u64 0)), some 2, none⟩])
  (.seq (.ops [⟨.mov (.tmp 0), some 9, none⟩,
    ⟨.nilc (.tmp 9), some 10, none⟩,
    ⟨.addr (.tmp 10) 194, some 11, none⟩,
    ⟨.load none (.tmp 11), some 12, none⟩,
    ⟨.mov (.tmp 12), some 3, none⟩])
  (.seq (.seq (.ops [⟨.mov (.const (.bool true)), some 4, none⟩])
  (.block 0 (.loop (.seq (.seq (.ops [⟨.mov (.tmp 4), some 13, none⟩])
  (.cond (.tmp 13) (.skip) (.exit 0)))
  (.block 1 (.seq (.ops [⟨.mov (.const (.bool false)), some 4, none⟩])
  (.seq (.ops [⟨.mov (.const (.int .i64 0)), some 5, none⟩])
  (.block 2 (.loop (.seq (.seq (.ops [⟨.mov (.tmp 5), some 14, none⟩,
    ⟨.bin .lss (.tmp 14) (.const (.int .i64 64)), some 15, none⟩])
  (.cond (.tmp 15) (.skip) (.exit 2)))
  (.seq (.block 3 (.seq (.seq (.ops [⟨.mov (.tmp 3), some 18, none⟩,
    ⟨.mov (.tmp 5), some 19, none⟩,
    ⟨.convI .u64 (.tmp 19), some 20, none⟩,
    ⟨.bin .shr (.tmp 18) (.tmp 20), some 21, none⟩,
    ⟨.bin .rem (.tmp 21) (.const (.int .u64 2)), some 22, none⟩,
    ⟨.bin .eql (.tmp 22) (.const (.int .u64 0)), some 23, none⟩])
  (.cond (.tmp 23) (.exit 3) (.skip)))
  (.seq (.ops [⟨.mov (.const (.int .i64 0)), some 6, none⟩])
  (.block 4 (.loop (.seq (.seq (.ops [⟨.mov (.tmp 6), some 24, none⟩,
    ⟨.bin .lss (.tmp 24) (.const (.int .i64 4)), some 25, none⟩])
  (.cond (.tmp 25) (.skip) (.exit 4)))
  (.seq (.block 5 (.seq (.ops [⟨.mov (.tmp 0), some 29, none⟩,
    ⟨.mov (.tmp 5), some 30, none⟩,
    ⟨.mov (.tmp 6), some 31, none⟩,
    ⟨.call 119 [.tmp 29, .tmp 30, .tmp 31], some 32, none⟩,
    ⟨.mov (.tmp 32), some 28, none⟩,
    ⟨.ext (.tmp 28) 0, some 33, none⟩,
    ⟨.ext (.tmp 28) 1, some 34, none⟩,
    ⟨.mov (.tmp 33), some 7, none⟩,
    ⟨.mov (.tmp 34), some 8, none⟩])
  (.seq (.ops [⟨.mov (.tmp 8), some 35, none⟩,
    ⟨.bin .geq (.tmp 35) (.const (.int .i64 0)), some 36, none⟩,
    ⟨.mov (.tmp 36), some 37, none⟩,
    ⟨.mov (.tmp 7), some 38, some (37, true)⟩,
    ⟨.fbin .gtr (.tmp 38) (.const (.float .f32 0)), some 39, some (37, true)⟩,
    ⟨.pick (.tmp 37) (.tmp 39) (.const (.bool false)), some 40, none⟩,
    ⟨.mov (.tmp 40), some 41, none⟩,
    ⟨.mov (.tmp 3), some 42, some (41, true)⟩,
    ⟨.mov (.tmp 8), some 43, some (41, true)⟩,
    ⟨.convI .u64 (.tmp 43), some 44, some (41, true)⟩,
    ⟨.bin .shr (.tmp 42) (.tmp 44), some 45, some (41, true)⟩,
    ⟨.bin .rem (.tmp 45) (.const (.int .u64 2)), some 46, some (41, true)⟩,
    ⟨.bin .eql (.tmp 46) (.const (.int .u64 0)), some 47, some (41, true)⟩,
    ⟨.pick (.tmp 41) (.tmp 47) (.const (.bool false)), some 48, none⟩])
  (.cond (.tmp 48) (.seq (.ops [⟨.mov (.tmp 3), some 49, none⟩,
    ⟨.mov (.tmp 8), some 50, none⟩,
    ⟨.convI .u64 (.tmp 50), some 51, none⟩,
    ⟨.bin .shl (.const (.int .u64 1)) (.tmp 51), some 52, none⟩,
    ⟨.bin .or (.tmp 49) (.tmp 52), some 53, none⟩,
    ⟨.mov (.tmp 53), some 3, none⟩])
  (.ops [⟨.mov (.const (.bool true)), some 4, none⟩])) (.skip)))))
  (.ops [⟨.mov (.tmp 6), some 26, none⟩,
    ⟨.bin .add (.tmp 26) (.const (.int .i64 1)), some 27, none⟩,
    ⟨.mov (.tmp 27), some 6, none⟩]))))))))
  (.ops [⟨.mov (.tmp 5), some 16, none⟩,
    ⟨.bin .add (.tmp 16) (.const (.int .i64 1)), some 17, none⟩,
    ⟨.mov (.tmp 17), some 5, none⟩]))))))))))))
  (.seq (.ops [⟨.mov (.tmp 3), some 54, none⟩,
    ⟨.mov (.tmp 54), some 2, none⟩])
  (.ret))))⟩
theorem ok_spec_l01Fed : cmpF Try.prog Try.f97 = some c_spec_l01Fed := by kernel_rfl

/- impl.Ground.beside -/
def c_impl_Ground_beside : FV := ⟨56, [.tmp 6],
  .seq (.ops [⟨.mov (.const (.int .i64 0)), some 6, none⟩])
  (.seq (.ops [⟨.mov (.tmp 1), some 9, none⟩,
    ⟨.bin .rem (.tmp 9) (.const (.int .i64 8)), some 10, none⟩,
    ⟨.mov (.tmp 1), some 11, none⟩,
    ⟨.bin .quo (.tmp 11) (.const (.int .i64 8)), some 12, none⟩,
    ⟨.mov (.tmp 10), some 7, none⟩,
    ⟨.mov (.tmp 12), some 8, none⟩])
  (.seq (.seq (.ops [⟨.mov (.tmp 2), some 13, none⟩])
  (.block 0 (.seq (.ops [⟨.bin .eql (.tmp 13) (.const (.int .i64 0)), some 17, none⟩,
    ⟨.mov (.tmp 17), some 16, none⟩])
  (.cond (.tmp 16) (.ops [⟨.mov (.tmp 8), some 18, none⟩,
    ⟨.bin .sub (.tmp 18) (.const (.int .i64 1)), some 19, none⟩,
    ⟨.mov (.tmp 19), some 8, none⟩]) (.seq (.ops [⟨.bin .eql (.tmp 13) (.const (.int .i64 1)), some 21, none⟩,
    ⟨.mov (.tmp 21), some 20, none⟩])
  (.cond (.tmp 20) (.ops [⟨.mov (.tmp 7), some 22, none⟩,
    ⟨.bin .add (.tmp 22) (.const (.int .i64 1)), some 23, none⟩,
    ⟨.mov (.tmp 23), some 7, none⟩]) (.seq (.ops [⟨.bin .eql (.tmp 13) (.const (.int .i64 2)), some 25, none⟩,
    ⟨.mov (.tmp 25), some 24, none⟩])
  (.cond (.tmp 24) (.ops [⟨.mov (.tmp 8), some 26, none⟩,
    ⟨.bin .add (.tmp 26) (.const (.int .i64 1)), some 27, none⟩,
    ⟨.mov (.tmp 27), some 8, none⟩]) (.ops [⟨.mov (.tmp 7), some 14, none⟩,
    ⟨.bin .sub (.tmp 14) (.const (.int .i64 1)), some 15, none⟩,
    ⟨.mov (.tmp 15), some 7, none⟩])))))))))
  (.seq (.seq (.ops [⟨.mov (.tmp 7), some 28, none⟩,
    ⟨.bin .lss (.tmp 28) (.const (.int .i64 0)), some 29, none⟩,
    ⟨.mov (.tmp 29), some 30, none⟩,
    ⟨.mov (.tmp 8), some 31, some (30, false)⟩,
    ⟨.bin .lss (.tmp 31) (.const (.int .i64 0)), some 32, some (30, false)⟩,
    ⟨.pick (.tmp 30) (.const (.bool true)) (.tmp 32), some 33, none⟩,
    ⟨.mov (.tmp 33), some 34, none⟩,
    ⟨.mov (.tmp 7), some 35, some (34, false)⟩,
    ⟨.mov (.tmp 0), some 36, some (34, false)⟩,
    ⟨.nilc (.tmp 36), some 37, some (34, false)⟩,
    ⟨.addr (.tmp 37) 0, some 38, some (34, false)⟩,
    ⟨.load none (.tmp 38), some 39, some (34, false)⟩,
    ⟨.convI .i64 (.tmp 39), some 40, some (34, false)⟩,
    ⟨.bin .geq (.tmp 35) (.tmp 40), some 41, some (34, false)⟩,
    ⟨.pick (.tmp 34) (.const (.bool true)) (.tmp 41), some 42, none⟩,
    ⟨.mov (.tmp 42), some 43, none⟩,
    ⟨.mov (.tmp 8), some 44, some (43, false)⟩,
    ⟨.mov (.tmp 0), some 45, some (43, false)⟩,
    ⟨.nilc (.tmp 45), some 46, some (43, false)⟩,
    ⟨.addr (.tmp 46) 1, some 47, some (43, false)⟩,
    ⟨.load none (.tmp 47), some 48, some (43, false)⟩,
    ⟨.convI .i64 (.tmp 48), some 49, some (43, false)⟩,
    ⟨.bin .geq (.tmp 44) (.tmp 49), some 50, some (43, false)⟩,
    ⟨.pick (.tmp 43) (.const (.bool true)) (.tmp 50), some 51, none⟩])
  (.cond (.tmp 51) (.seq (.ops [⟨.mov (.const (.int .i64 (-1))), some 6, none⟩])
  (.ret)) (.skip)))
  (.seq (.ops [⟨.mov (.tmp 7), some 52, none⟩,
    ⟨.mov (.tmp 8), some 53, none⟩,
    ⟨.bin .mul (.const (.int .i64 8)) (.tmp 53), some 54, none⟩,
    ⟨.bin .add (.tmp 52) (.tmp 54), some 55, none⟩,
    ⟨.mov (.tmp 55), some 6, none⟩])
  (.ret)))))⟩
theorem ok_impl_Ground_beside : cmpF Try.prog Try.f98 = some c_impl_Ground_beside := by kernel_rfl

/- impl.JointOf -/
def c_impl_JointOf : FV := ⟨21, [.tmp 4],
  .seq (.ops [⟨.mov (.const (.float .f32 0)), some 4, none⟩])
  (.seq (.seq (.ops [⟨.mov (.tmp 0), some 5, none⟩,
    ⟨.fbin .gtr (.tmp 5) (.const (.float .f32 0)), some 6, none⟩,
    ⟨.un .not (.tmp 6), some 7, none⟩,
    ⟨.mov (.tmp 7), some 8, none⟩,
    ⟨.mov (.tmp 1), some 9, some (8, false)⟩,
    ⟨.fbin .gtr (.tmp 9) (.const (.float .f32 0)), some 10, some (8, false)⟩,
    ⟨.un .not (.tmp 10), some 11, some (8, false)⟩,
    ⟨.pick (.tmp 8) (.const (.bool true)) (.tmp 11), some 12, none⟩])
  (.cond (.tmp 12) (.seq (.ops [⟨.mov (.const (.float .f32 0)), some 4, none⟩])
  (.ret)) (.skip)))
  (.seq (.ops [⟨.mov (.tmp 0), some 13, none⟩,
    ⟨.mov (.tmp 1), some 14, none⟩,
    ⟨.fbin .mul (.tmp 13) (.tmp 14), some 15, none⟩,
    ⟨.fbin .mul (.const (.float .f32 1073741824)) (.tmp 15), some 16, none⟩,
    ⟨.mov (.tmp 0), some 17, none⟩,
    ⟨.mov (.tmp 1), some 18, none⟩,
    ⟨.fbin .add (.tmp 17) (.tmp 18), some 19, none⟩,
    ⟨.fbin .quo (.tmp 16) (.tmp 19), some 20, none⟩,
    ⟨.mov (.tmp 20), some 4, none⟩])
  (.ret)))⟩
theorem ok_impl_JointOf : cmpF Try.prog Try.f99 = some c_impl_JointOf := by kernel_rfl

/- spec.l05Ok -/
def c_spec_l05Ok : FV := ⟨68, [.tmp 2],
  .seq (.ops [⟨.mov (.const (.bool false)), some 2, none⟩])
  (.seq (.seq (.ops [⟨.mov (.tmp 0), some 5, none⟩,
    ⟨.nilc (.tmp 5), some 6, none⟩,
    ⟨.addr (.tmp 6) 0, some 7, none⟩,
    ⟨.call 76 [.tmp 7], some 8, none⟩,
    ⟨.un .not (.tmp 8), some 9, none⟩,
    ⟨.mov (.tmp 9), some 10, none⟩,
    ⟨.mov (.tmp 0), some 11, some (10, false)⟩,
    ⟨.nilc (.tmp 11), some 12, some (10, false)⟩,
    ⟨.addr (.tmp 12) 0, some 13, some (10, false)⟩,
    ⟨.mov (.tmp 0), some 14, some (10, false)⟩,
    ⟨.nilc (.tmp 14), some 15, some (10, false)⟩,
    ⟨.addr (.tmp 15) 195, some 16, some (10, false)⟩,
    ⟨.call 120 [.tmp 13, .tmp 16], some 17, some (10, false)⟩,
    ⟨.un .not (.tmp 17), some 18, some (10, false)⟩,
    ⟨.pick (.tmp 10) (.const (.bool true)) (.tmp 18), some 19, none⟩,
    ⟨.mov (.tmp 19), some 20, none⟩,
    ⟨.mov (.tmp 0), some 21, some (20, false)⟩,
    ⟨.nilc (.tmp 21), some 22, some (20, false)⟩,
    ⟨.addr (.tmp 22) 0, some 23, some (20, false)⟩,
    ⟨.mov (.tmp 0), some 24, some (20, false)⟩,
    ⟨.nilc (.tmp 24), some 25, some (20, false)⟩,
    ⟨.addr (.tmp 25) 259, some 26, some (20, false)⟩,
    ⟨.call 120 [.tmp 23, .tmp 26], some 27, some (20, false)⟩,
    ⟨.un .not (.tmp 27), some 28, some (20, false)⟩,
    ⟨.pick (.tmp 20) (.const (.bool true)) (.tmp 28), some 29, none⟩,
    ⟨.mov (.tmp 29), some 30, none⟩,
    ⟨.mov (.tmp 0), some 31, some (30, false)⟩,
    ⟨.nilc (.tmp 31), some 32, some (30, false)⟩,
    ⟨.addr (.tmp 32) 323, some 33, some (30, false)⟩,
    ⟨.load none (.tmp 33), some 34, some (30, false)⟩,
    ⟨.call 69 [.tmp 34], some 35, some (30, false)⟩,
    ⟨.un .not (.tmp 35), some 36, some (30, false)⟩,
    ⟨.pick (.tmp 30) (.const (.bool true)) (.tmp 36), some 37, none⟩,
    ⟨.mov (.tmp 37), some 38, none⟩,
    ⟨.mov (.tmp 0), some 39, some (38, false)⟩,
    ⟨.nilc (.tmp 39), some 40, some (38, false)⟩,
    ⟨.addr (.tmp 40) 323, some 41, some (38, false)⟩,
    ⟨.load none (.tmp 41), some 42, some (38, false)⟩,
    ⟨.fbin .lss (.tmp 42) (.const (.float .f32 981467136)), some 43, some (38, false)⟩,
    ⟨.pick (.tmp 38) (.const (.bool true)) (.tmp 43), some 44, none⟩])
  (.cond (.tmp 44) (.seq (.ops [⟨.mov (.const (.bool false)), some 2, none⟩])
  (.ret)) (.skip)))
  (.seq (.seq (.ops [⟨.mov (.const (.int .i64 0)), some 3, none⟩])
  (.block 0 (.loop (.seq (.seq (.ops [⟨.mov (.tmp 3), some 45, none⟩,
    ⟨.bin .lss (.tmp 45) (.const (.int .i64 64)), some 46, none⟩])
  (.cond (.tmp 46) (.skip) (.exit 0)))
  (.seq (.block 1 (.seq (.ops [⟨.mov (.const (.int .i64 0)), some 4, none⟩])
  (.block 2 (.loop (.seq (.seq (.ops [⟨.mov (.tmp 4), some 49, none⟩,
    ⟨.bin .lss (.tmp 49) (.const (.int .i64 4)), some 50, none⟩,
    ⟨.mov (.tmp 50), some 51, none⟩,
    ⟨.mov (.tmp 0), some 52, some (51, true)⟩,
    ⟨.nilc (.tmp 52), some 53, some (51, true)⟩,
    ⟨.addr (.tmp 53) 0, some 54, some (51, true)⟩,
    ⟨.mov (.tmp 3), some 55, some (51, true)⟩,
    ⟨.call 71 [.tmp 54, .tmp 55], some 56, some (51, true)⟩,
    ⟨.pick (.tmp 51) (.tmp 56) (.const (.bool false)), some 57, none⟩])
  (.cond (.tmp 57) (.skip) (.exit 2)))
  (.seq (.block 3 (.seq (.ops [⟨.mov (.tmp 0), some 60, none⟩,
    ⟨.nilc (.tmp 60), some 61, none⟩,
    ⟨.addr (.tmp 61) 0, some 62, none⟩,
    ⟨.mov (.tmp 3), some 63, none⟩,
    ⟨.mov (.tmp 4), some 64, none⟩,
    ⟨.call 104 [.tmp 62, .tmp 63, .tmp 64], some 65, none⟩,
    ⟨.call 83 [.tmp 65], some 66, none⟩,
    ⟨.un .not (.tmp 66), some 67, none⟩])
  (.cond (.tmp 67) (.seq (.ops [⟨.mov (.const (.bool false)), some 2, none⟩])
  (.ret)) (.skip))))
  (.ops [⟨.mov (.tmp 4), some 58, none⟩,
    ⟨.bin .add (.tmp 58) (.const (.int .i64 1)), some 59, none⟩,
    ⟨.mov (.tmp 59), some 4, none⟩])))))))
  (.ops [⟨.mov (.tmp 3), some 47, none⟩,
    ⟨.bin .add (.tmp 47) (.const (.int .i64 1)), some 48, none⟩,
    ⟨.mov (.tmp 48), some 3, none⟩]))))))
  (.seq (.ops [⟨.mov (.const (.bool true)), some 2, none⟩])
  (.ret))))⟩
theorem ok_spec_l05Ok : cmpF Try.prog Try.f100 = some c_spec_l05Ok := by kernel_rfl

/- impl.Ground.fieldOk -/
def c_impl_Ground_fieldOk : FV := ⟨36, [.tmp 6],
  .seq (.ops [⟨.mov (.const (.bool false)), some 6, none⟩])
  (.seq (.seq (.ops [⟨.mov (.tmp 1), some 9, none⟩,
    ⟨.mov (.const (.int .i64 0)), some 10, none⟩])
  (.block 0 (.loop (.seq (.ops [⟨.bin .lss (.tmp 10) (.const (.int .i64 64)), some 11, none⟩])
  (.seq (.cond (.tmp 11) (.skip) (.exit 0))
  (.seq (.block 1 (.seq (.ops [⟨.mov (.tmp 10), some 12, none⟩,
    ⟨.nilc (.tmp 9), some 13, none⟩,
    ⟨.idxA 64 1 (.tmp 13) (.tmp 10), some 14, none⟩,
    ⟨.load none (.tmp 14), some 15, none⟩,
    ⟨.mov (.tmp 12), some 7, none⟩,
    ⟨.mov (.tmp 15), some 8, none⟩])
  (.seq (.ops [⟨.mov (.tmp 0), some 16, none⟩,
    ⟨.mov (.tmp 7), some 17, none⟩,
    ⟨.call 114 [.tmp 16, .tmp 17], some 18, none⟩,
    ⟨.mov (.tmp 18), some 19, none⟩,
    ⟨.mov (.tmp 2), some 20, some (19, true)⟩,
    ⟨.mov (.tmp 8), some 21, some (19, true)⟩,
    ⟨.callv (.tmp 20) [.tmp 21], some 22, some (19, true)⟩,
    ⟨.un .not (.tmp 22), some 23, some (19, true)⟩,
    ⟨.pick (.tmp 19) (.tmp 23) (.const (.bool false)), some 24, none⟩,
    ⟨.mov (.tmp 24), some 25, none⟩,
    ⟨.mov (.tmp 0), some 26, some (25, false)⟩,
    ⟨.mov (.tmp 7), some 27, some (25, false)⟩,
    ⟨.call 114 [.tmp 26, .tmp 27], some 28, some (25, false)⟩,
    ⟨.un .not (.tmp 28), some 29, some (25, false)⟩,
    ⟨.mov (.tmp 29), some 30, some (25, false)⟩,
    ⟨.mov (.tmp 8), some 31, some (30, true)⟩,
    ⟨.fbin .neq (.tmp 31) (.const (.float .f32 0)), some 32, some (30, true)⟩,
    ⟨.pick (.tmp 30) (.tmp 32) (.const (.bool false)), some 33, some (25, false)⟩,
    ⟨.pick (.tmp 25) (.const (.bool true)) (.tmp 33), some 34, none⟩])
  (.cond (.tmp 34) (.seq (.ops [⟨.mov (.const (.bool false)), some 6, none⟩])
  (.ret)) (.skip)))))
  (.ops [⟨.bin .add (.tmp 10) (.const (.int .i64 1)), some 35, none⟩,
    ⟨.mov (.tmp 35), some 10, none⟩])))))))
  (.seq (.ops [⟨.mov (.const (.bool true)), some 6, none⟩])
  (.ret)))⟩
theorem ok_impl_Ground_fieldOk : cmpF Try.prog Try.f101 = some c_impl_Ground_fieldOk := by kernel_rfl

/- impl.Ground.flowsOk -/
def c_impl_Ground_flowsOk : FV := ⟨24, [.tmp 2],
  .seq (.ops [⟨.mov (.const (.bool false)), some 2, none⟩])
  (.seq (.seq (.ops [⟨.mov (.tmp 0), some 6, none⟩,
    ⟨.call 75 [.tmp 6], some 7, none⟩,
    ⟨.lenL (.tmp 7), some 8, none⟩,
    ⟨.mov (.const (.int .i64 0)), some 9, none⟩])
  (.block 0 (.loop (.seq (.ops [⟨.bin .lss (.tmp 9) (.tmp 8), some 10, none⟩])
  (.seq (.cond (.tmp 10) (.skip) (.exit 0))
  (.seq (.block 1 (.seq (.ops [⟨.idxS 1 (.tmp 7) (.tmp 9), some 11, none⟩,
    ⟨.load none (.tmp 11), some 12, none⟩,
    ⟨.mov (.tmp 12), some 4, none⟩])
  (.seq (.ops [⟨.mov (.const (.int .i64 0)), some 13, none⟩])
  (.block 2 (.loop (.seq (.ops [⟨.bin .lss (.tmp 13) (.const (.int .i64 4)), some 14, none⟩])
  (.seq (.cond (.tmp 14) (.skip) (.exit 2))
  (.seq (.block 3 (.seq (.ops [⟨.mov (.tmp 13), some 15, none⟩,
    ⟨.mov (.tmp 15), some 5, none⟩])
  (.seq (.ops [⟨.mov (.tmp 0), some 16, none⟩,
    ⟨.mov (.tmp 4), some 17, none⟩,
    ⟨.mov (.tmp 5), some 18, none⟩,
    ⟨.call 106 [.tmp 16, .tmp 17, .tmp 18], some 19, none⟩,
    ⟨.call 81 [.tmp 19], some 20, none⟩,
    ⟨.un .not (.tmp 20), some 21, none⟩])
  (.cond (.tmp 21) (.seq (.ops [⟨.mov (.const (.bool false)), some 2, none⟩])
  (.ret)) (.skip)))))
  (.ops [⟨.bin .add (.tmp 13) (.const (.int .i64 1)), some 22, none⟩,
    ⟨.mov (.tmp 22), some 13, none⟩])))))))))
  (.ops [⟨.bin .add (.tmp 9) (.const (.int .i64 1)), some 23, none⟩,
    ⟨.mov (.tmp 23), some 9, none⟩])))))))
  (.seq (.ops [⟨.mov (.const (.bool true)), some 2, none⟩])
  (.ret)))⟩
theorem ok_impl_Ground_flowsOk : cmpF Try.prog Try.f102 = some c_impl_Ground_flowsOk := by kernel_rfl

/- spec.l01Sided -/
def c_spec_l01Sided : FV := ⟨19, [.tmp 6],
  .seq (.ops [⟨.mov (.const (.int .i64 0)), some 6, none⟩])
  (.seq (.ops [⟨.mov (.tmp 0), some 8, none⟩,
    ⟨.mov (.tmp 1), some 9, none⟩,
    ⟨.call 88 [.tmp 8, .tmp 9], some 10, none⟩,
    ⟨.mov (.tmp 10), some 7, none⟩])
  (.seq (.seq (.ops [⟨.mov (.tmp 7), some 11, none⟩,
    ⟨.bin .eql (.tmp 11) (.const (.int .i64 0)), some 12, none⟩,
    ⟨.mov (.tmp 12), some 13, none⟩,
    ⟨.mov (.tmp 2), some 14, some (13, true)⟩,
    ⟨.call 70 [.tmp 14, .const (.int .i64 0), .const (.int .i64 3)], some 15, some (13, true)⟩,
    ⟨.un .not (.tmp 15), some 16, some (13, true)⟩,
    ⟨.pick (.tmp 13) (.tmp 16) (.const (.bool false)), some 17, none⟩])
  (.cond (.tmp 17) (.ops [⟨.mov (.const (.int .i64 2)), some 7, none⟩]) (.skip)))
  (.seq (.ops [⟨.mov (.tmp 7), some 18, none⟩,
    ⟨.mov (.tmp 18), some 6, none⟩])
  (.ret))))⟩
theorem ok_spec_l01Sided : cmpF Try.prog Try.f103 = some c_spec_l01Sided := by kernel_rfl

/- spec.l01Flow -/
def c_spec_l01Flow : FV := ⟨33, [.tmp 6],
  .seq (.ops [⟨.mov (.const (.float .f32 0)), some 6, none⟩])
  (.seq (.ops [⟨.mov (.tmp 0), some 10, none⟩,
    ⟨.mov (.tmp 1), some 11, none⟩,
    ⟨.mov (.tmp 2), some 12, none⟩,
    ⟨.call 119 [.tmp 10, .tmp 11, .tmp 12], some 13, none⟩,
    ⟨.mov (.tmp 13), some 9, none⟩,
    ⟨.ext (.tmp 9) 0, some 14, none⟩,
    ⟨.ext (.tmp 9) 1, some 15, none⟩,
    ⟨.mov (.tmp 14), some 7, none⟩,
    ⟨.mov (.tmp 15), some 8, none⟩])
  (.seq (.seq (.ops [⟨.mov (.tmp 8), some 16, none⟩,
    ⟨.bin .lss (.tmp 16) (.const (.int .i64 0)), some 17, none⟩])
  (.cond (.tmp 17) (.seq (.ops [⟨.mov (.const (.float .f32 0)), some 6, none⟩])
  (.ret)) (.skip)))
  (.seq (.ops [⟨.mov (.tmp 7), some 18, none⟩,
    ⟨.mov (.tmp 0), some 19, none⟩,
    ⟨.mov (.tmp 1), some 20, none⟩,
    ⟨.nilc (.tmp 19), some 21, none⟩,
    ⟨.addr (.tmp 21) 130, some 22, none⟩,
    ⟨.idxA 64 1 (.tmp 22) (.tmp 20), some 23, none⟩,
    ⟨.load none (.tmp 23), some 24, none⟩,
    ⟨.mov (.tmp 0), some 25, none⟩,
    ⟨.mov (.tmp 8), some 26, none⟩,
    ⟨.nilc (.tmp 25), some 27, none⟩,
    ⟨.addr (.tmp 27) 130, some 28, none⟩,
    ⟨.idxA 64 1 (.tmp 28) (.tmp 26), some 29, none⟩,
    ⟨.load none (.tmp 29), some 30, none⟩,
    ⟨.fbin .sub (.tmp 24) (.tmp 30), some 31, none⟩,
    ⟨.fbin .mul (.tmp 18) (.tmp 31), some 32, none⟩,
    ⟨.mov (.tmp 32), some 6, none⟩])
  (.ret))))⟩
theorem ok_spec_l01Flow : cmpF Try.prog Try.f104 = some c_spec_l01Flow := by kernel_rfl

/- impl.sideFault -/
def c_impl_sideFault : FV := ⟨17, [.tmp 6],
  .seq (.ops [⟨.mov (.const (.int .i64 0)), some 6, none⟩])
  (.seq (.seq (.ops [⟨.mov (.tmp 0), some 8, none⟩,
    ⟨.mov (.tmp 1), some 9, none⟩,
    ⟨.call 108 [.tmp 8, .tmp 9], some 10, none⟩,
    ⟨.mov (.tmp 10), some 7, none⟩])
  (.seq (.ops [⟨.mov (.tmp 7), some 11, none⟩,
    ⟨.bin .neq (.tmp 11) (.const (.int .i64 0)), some 12, none⟩])
  (.cond (.tmp 12) (.seq (.ops [⟨.mov (.tmp 7), some 13, none⟩,
    ⟨.mov (.tmp 13), some 6, none⟩])
  (.ret)) (.skip))))
  (.seq (.seq (.ops [⟨.mov (.tmp 2), some 14, none⟩,
    ⟨.call 74 [.tmp 14, .const (.int .i64 0), .const (.int .i64 3)], some 15, none⟩,
    ⟨.un .not (.tmp 15), some 16, none⟩])
  (.cond (.tmp 16) (.seq (.ops [⟨.mov (.const (.int .i64 2)), some 6, none⟩])
  (.ret)) (.skip)))
  (.seq (.ops [⟨.mov (.const (.int .i64 0)), some 6, none⟩])
  (.ret))))⟩
theorem ok_impl_sideFault : cmpF Try.prog Try.f105 = some c_impl_sideFault := by kernel_rfl

/- impl.Ground.flow -/
def c_impl_Ground_flow : FV := ⟨41, [.tmp 6],
  .seq (.ops [⟨.mov (.const (.float .f32 0)), some 6, none⟩])
  (.seq (.ops [⟨.mov (.tmp 0), some 8, none⟩,
    ⟨.mov (.tmp 1), some 9, none⟩,
    ⟨.mov (.tmp 2), some 10, none⟩,
    ⟨.call 98 [.tmp 8, .tmp 9, .tmp 10], some 11, none⟩,
    ⟨.mov (.tmp 11), some 7, none⟩])
  (.seq (.seq (.ops [⟨.mov (.tmp 7), some 12, none⟩,
    ⟨.bin .lss (.tmp 12) (.const (.int .i64 0)), some 13, none⟩])
  (.cond (.tmp 13) (.seq (.ops [⟨.mov (.const (.float .f32 0)), some 6, none⟩])
  (.ret)) (.skip)))
  (.seq (.dops [⟨.mov (.tmp 0), some 14, none⟩,
    ⟨.mov (.tmp 1), some 15, none⟩,
    ⟨.nilc (.tmp 14), some 16, none⟩,
    ⟨.addr (.tmp 16) 2, some 17, none⟩,
    ⟨.idxA 64 1 (.tmp 17) (.tmp 15), some 18, none⟩,
    ⟨.load none (.tmp 18), some 19, none⟩,
    ⟨.mov (.tmp 0), some 20, none⟩,
    ⟨.mov (.tmp 7), some 21, none⟩,
    ⟨.nilc (.tmp 20), some 22, none⟩,
    ⟨.addr (.tmp 22) 2, some 23, none⟩,
    ⟨.idxA 64 1 (.tmp 23) (.tmp 21), some 24, none⟩,
    ⟨.load none (.tmp 24), some 25, none⟩,
    ⟨.call 99 [.tmp 19, .tmp 25], some 26, none⟩,
    ⟨.mov (.tmp 0), some 27, none⟩,
    ⟨.mov (.tmp 1), some 28, none⟩,
    ⟨.nilc (.tmp 27), some 29, none⟩,
    ⟨.addr (.tmp 29) 130, some 30, none⟩,
    ⟨.idxA 64 1 (.tmp 30) (.tmp 28), some 31, none⟩,
    ⟨.load none (.tmp 31), some 32, none⟩,
    ⟨.mov (.tmp 0), some 33, none⟩,
    ⟨.mov (.tmp 7), some 34, none⟩,
    ⟨.nilc (.tmp 33), some 35, none⟩,
    ⟨.addr (.tmp 35) 130, some 36, none⟩,
    ⟨.idxA 64 1 (.tmp 36) (.tmp 34), some 37, none⟩,
    ⟨.load none (.tmp 37), some 38, none⟩,
    ⟨.fbin .sub (.tmp 32) (.tmp 38), some 39, none⟩,
    ⟨.fbin .mul (.tmp 26) (.tmp 39), some 40, none⟩,
    ⟨.mov (.tmp 40), some 6, none⟩])
  (.ret))))⟩
theorem ok_impl_Ground_flow : cmpF Try.prog Try.f106 = some c_impl_Ground_flow := by kernel_rfl

/- spec.l01Balance -/
def c_spec_l01Balance : FV := ⟨29, [.tmp 4],
  .seq (.ops [⟨.mov (.const (.float .f32 0)), some 4, none⟩])
  (.seq (.ops [⟨.mov (.tmp 0), some 7, none⟩,
    ⟨.mov (.tmp 1), some 8, none⟩,
    ⟨.nilc (.tmp 7), some 9, none⟩,
    ⟨.addr (.tmp 9) 66, some 10, none⟩,
    ⟨.idxA 64 1 (.tmp 10) (.tmp 8), some 11, none⟩,
    ⟨.load none (.tmp 11), some 12, none⟩,
    ⟨.mov (.tmp 12), some 5, none⟩])
  (.seq (.seq (.ops [⟨.mov (.const (.int .i64 0)), some 6, none⟩])
  (.block 0 (.loop (.seq (.seq (.ops [⟨.mov (.tmp 6), some 13, none⟩,
    ⟨.bin .lss (.tmp 13) (.const (.int .i64 4)), some 14, none⟩])
  (.cond (.tmp 14) (.skip) (.exit 0)))
  (.seq (.block 1 (.seq (.ops [⟨.mov (.tmp 0), some 17, none⟩,
    ⟨.mov (.tmp 1), some 18, none⟩,
    ⟨.mov (.tmp 6), some 19, none⟩,
    ⟨.call 121 [.tmp 17, .tmp 18, .tmp 19], some 20, none⟩,
    ⟨.bin .geq (.tmp 20) (.const (.int .i64 0)), some 21, none⟩])
  (.cond (.tmp 21) (.ops [⟨.mov (.tmp 5), some 22, none⟩,
    ⟨.mov (.tmp 0), some 23, none⟩,
    ⟨.mov (.tmp 1), some 24, none⟩,
    ⟨.mov (.tmp 6), some 25, none⟩,
    ⟨.call 104 [.tmp 23, .tmp 24, .tmp 25], some 26, none⟩,
    ⟨.fbin .sub (.tmp 22) (.tmp 26), some 27, none⟩,
    ⟨.mov (.tmp 27), some 5, none⟩]) (.skip))))
  (.ops [⟨.mov (.tmp 6), some 15, none⟩,
    ⟨.bin .add (.tmp 15) (.const (.int .i64 1)), some 16, none⟩,
    ⟨.mov (.tmp 16), some 6, none⟩]))))))
  (.seq (.ops [⟨.mov (.tmp 5), some 28, none⟩,
    ⟨.mov (.tmp 28), some 4, none⟩])
  (.ret))))⟩
theorem ok_spec_l01Balance : cmpF Try.prog Try.f107 = some c_spec_l01Balance := by kernel_rfl

/- impl.cellFault -/
def c_impl_cellFault : FV := ⟨21, [.tmp 4],
  .seq (.ops [⟨.mov (.const (.int .i64 0)), some 4, none⟩])
  (.seq (.block 0 (.seq (.ops [⟨.mov (.tmp 0), some 6, none⟩,
    ⟨.nilc (.tmp 6), some 7, none⟩,
    ⟨.load (some 195) (.tmp 7), some 8, none⟩,
    ⟨.call 78 [.tmp 8], some 9, none⟩,
    ⟨.un .not (.tmp 9), some 10, none⟩,
    ⟨.mov (.tmp 10), some 5, none⟩])
  (.cond (.tmp 5) (.seq (.ops [⟨.mov (.const (.int .i64 1)), some 4, none⟩])
  (.ret)) (.seq (.ops [⟨.mov (.tmp 1), some 12, none⟩,
    ⟨.call 74 [.tmp 12, .const (.int .i64 0), .const (.int .i64 63)], some 13, none⟩,
    ⟨.un .not (.tmp 13), some 14, none⟩,
    ⟨.mov (.tmp 14), some 15, none⟩,
    ⟨.mov (.tmp 0), some 16, some (15, false)⟩,
    ⟨.mov (.tmp 1), some 17, some (15, false)⟩,
    ⟨.call 114 [.tmp 16, .tmp 17], some 18, some (15, false)⟩,
    ⟨.un .not (.tmp 18), some 19, some (15, false)⟩,
    ⟨.pick (.tmp 15) (.const (.bool true)) (.tmp 19), some 20, none⟩,
    ⟨.mov (.tmp 20), some 11, none⟩])
  (.cond (.tmp 11) (.seq (.ops [⟨.mov (.const (.int .i64 2)), some 4, none⟩])
  (.ret)) (.skip))))))
  (.seq (.ops [⟨.mov (.const (.int .i64 0)), some 4, none⟩])
  (.ret)))⟩
theorem ok_impl_cellFault : cmpF Try.prog Try.f108 = some c_impl_cellFault := by kernel_rfl

/- impl.Ground.balance -/
def c_impl_Ground_balance : FV := ⟨29, [.tmp 4],
  .seq (.ops [⟨.mov (.const (.float .f32 0)), some 4, none⟩])
  (.seq (.ops [⟨.mov (.tmp 0), some 7, none⟩,
    ⟨.mov (.tmp 1), some 8, none⟩,
    ⟨.nilc (.tmp 7), some 9, none⟩,
    ⟨.addr (.tmp 9) 66, some 10, none⟩,
    ⟨.idxA 64 1 (.tmp 10) (.tmp 8), some 11, none⟩,
    ⟨.load none (.tmp 11), some 12, none⟩,
    ⟨.mov (.tmp 12), some 5, none⟩])
  (.seq (.seq (.ops [⟨.mov (.const (.int .i64 0)), some 13, none⟩])
  (.block 0 (.loop (.seq (.ops [⟨.bin .lss (.tmp 13) (.const (.int .i64 4)), some 14, none⟩])
  (.seq (.cond (.tmp 14) (.skip) (.exit 0))
  (.seq (.block 1 (.seq (.ops [⟨.mov (.tmp 13), some 15, none⟩,
    ⟨.mov (.tmp 15), some 6, none⟩])
  (.seq (.ops [⟨.mov (.tmp 0), some 16, none⟩,
    ⟨.mov (.tmp 1), some 17, none⟩,
    ⟨.mov (.tmp 6), some 18, none⟩,
    ⟨.call 98 [.tmp 16, .tmp 17, .tmp 18], some 19, none⟩,
    ⟨.bin .geq (.tmp 19) (.const (.int .i64 0)), some 20, none⟩])
  (.cond (.tmp 20) (.ops [⟨.mov (.tmp 5), some 21, none⟩,
    ⟨.mov (.tmp 0), some 22, none⟩,
    ⟨.mov (.tmp 1), some 23, none⟩,
    ⟨.mov (.tmp 6), some 24, none⟩,
    ⟨.call 106 [.tmp 22, .tmp 23, .tmp 24], some 25, none⟩,
    ⟨.fbin .sub (.tmp 21) (.tmp 25), some 26, none⟩,
    ⟨.mov (.tmp 26), some 5, none⟩]) (.skip)))))
  (.ops [⟨.bin .add (.tmp 13) (.const (.int .i64 1)), some 27, none⟩,
    ⟨.mov (.tmp 27), some 13, none⟩])))))))
  (.seq (.ops [⟨.mov (.tmp 5), some 28, none⟩,
    ⟨.mov (.tmp 28), some 4, none⟩])
  (.ret))))⟩
theorem ok_impl_Ground_balance : cmpF Try.prog Try.f109 = some c_impl_Ground_balance := by kernel_rfl

/- spec.l02Head -/
def c_spec_l02Head : FV := ⟨62, [.tmp 4],
  .seq (.ops [⟨.mov (.const (.float .f32 0)), some 4, none⟩])
  (.seq (.seq (.ops [⟨.mov (.tmp 0), some 10, none⟩,
    ⟨.mov (.tmp 1), some 11, none⟩,
    ⟨.call 86 [.tmp 10, .tmp 11], some 12, none⟩])
  (.cond (.tmp 12) (.seq (.ops [⟨.mov (.tmp 0), some 13, none⟩,
    ⟨.mov (.tmp 1), some 14, none⟩,
    ⟨.nilc (.tmp 13), some 15, none⟩,
    ⟨.addr (.tmp 15) 130, some 16, none⟩,
    ⟨.idxA 64 1 (.tmp 16) (.tmp 14), some 17, none⟩,
    ⟨.load none (.tmp 17), some 18, none⟩,
    ⟨.mov (.tmp 18), some 4, none⟩])
  (.ret)) (.skip)))
  (.seq (.ops [⟨.mov (.tmp 0), some 19, none⟩,
    ⟨.mov (.tmp 1), some 20, none⟩,
    ⟨.nilc (.tmp 19), some 21, none⟩,
    ⟨.addr (.tmp 21) 66, some 22, none⟩,
    ⟨.idxA 64 1 (.tmp 22) (.tmp 20), some 23, none⟩,
    ⟨.load none (.tmp 23), some 24, none⟩,
    ⟨.mov (.tmp 24), some 5, none⟩])
  (.seq (.ops [⟨.mov (.const (.float .f32 0)), some 6, none⟩])
  (.seq (.seq (.ops [⟨.mov (.const (.int .i64 0)), some 7, none⟩])
  (.block 0 (.loop (.seq (.seq (.ops [⟨.mov (.tmp 7), some 25, none⟩,
    ⟨.bin .lss (.tmp 25) (.const (.int .i64 4)), some 26, none⟩])
  (.cond (.tmp 26) (.skip) (.exit 0)))
  (.seq (.block 1 (.seq (.ops [⟨.mov (.tmp 0), some 30, none⟩,
    ⟨.mov (.tmp 1), some 31, none⟩,
    ⟨.mov (.tmp 7), some 32, none⟩,
    ⟨.call 119 [.tmp 30, .tmp 31, .tmp 32], some 33, none⟩,
    ⟨.mov (.tmp 33), some 29, none⟩,
    ⟨.ext (.tmp 29) 0, some 34, none⟩,
    ⟨.ext (.tmp 29) 1, some 35, none⟩,
    ⟨.mov (.tmp 34), some 8, none⟩,
    ⟨.mov (.tmp 35), some 9, none⟩])
  (.seq (.seq (.ops [⟨.mov (.tmp 9), some 36, none⟩,
    ⟨.bin .lss (.tmp 36) (.const (.int .i64 0)), some 37, none⟩])
  (.cond (.tmp 37) (.exit 1) (.skip)))
  (.seq (.ops [⟨.mov (.tmp 5), some 38, none⟩,
    ⟨.mov (.tmp 8), some 39, none⟩,
    ⟨.mov (.tmp 0), some 40, none⟩,
    ⟨.mov (.tmp 9), some 41, none⟩,
    ⟨.nilc (.tmp 40), some 42, none⟩,
    ⟨.addr (.tmp 42) 130, some 43, none⟩,
    ⟨.idxA 64 1 (.tmp 43) (.tmp 41), some 44, none⟩,
    ⟨.load none (.tmp 44), some 45, none⟩,
    ⟨.fbin .mul (.tmp 39) (.tmp 45), some 46, none⟩,
    ⟨.fbin .add (.tmp 38) (.tmp 46), some 47, none⟩,
    ⟨.mov (.tmp 47), some 5, none⟩])
  (.ops [⟨.mov (.tmp 6), some 48, none⟩,
    ⟨.mov (.tmp 8), some 49, none⟩,
    ⟨.fbin .add (.tmp 48) (.tmp 49), some 50, none⟩,
    ⟨.mov (.tmp 50), some 6, none⟩])))))
  (.ops [⟨.mov (.tmp 7), some 27, none⟩,
    ⟨.bin .add (.tmp 27) (.const (.int .i64 1)), some 28, none⟩,
    ⟨.mov (.tmp 28), some 7, none⟩]))))))
  (.seq (.seq (.ops [⟨.mov (.tmp 6), some 51, none⟩,
    ⟨.fbin .eql (.tmp 51) (.const (.float .f32 0)), some 52, none⟩])
  (.cond (.tmp 52) (.seq (.ops [⟨.mov (.tmp 0), some 53, none⟩,
    ⟨.mov (.tmp 1), some 54, none⟩,
    ⟨.nilc (.tmp 53), some 55, none⟩,
    ⟨.addr (.tmp 55) 130, some 56, none⟩,
    ⟨.idxA 64 1 (.tmp 56) (.tmp 54), some 57, none⟩,
    ⟨.load none (.tmp 57), some 58, none⟩,
    ⟨.mov (.tmp 58), some 4, none⟩])
  (.ret)) (.skip)))
  (.seq (.ops [⟨.mov (.tmp 5), some 59, none⟩,
    ⟨.mov (.tmp 6), some 60, none⟩,
    ⟨.fbin .quo (.tmp 59) (.tmp 60), some 61, none⟩,
    ⟨.mov (.tmp 61), some 4, none⟩])
  (.ret)))))))⟩
theorem ok_spec_l02Head : cmpF Try.prog Try.f110 = some c_spec_l02Head := by kernel_rfl

end Go.Proofs.Ytbhipkiiondgnaa

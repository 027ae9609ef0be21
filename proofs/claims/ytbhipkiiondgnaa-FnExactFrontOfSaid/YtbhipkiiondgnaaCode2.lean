/- The code of the Go functions in the generator's own form, printed by a program of mine (gen.py) out of the loaded program; each with the check that it is so. -/
import Derived.Test.YtbhipkiiondgnaaVcFn
import Derived.Test.YtbhipkiiondgnaaGeo
import Derived.Test.YtbhipkiiondgnaaRows
import Derived.KernelRfl
namespace Go.Proofs.Ytbhipkiiondgnaa
open Go Go.Fl Go.Vc
set_option linter.all false
set_option maxRecDepth 100000

/- impl.MirrorGround -/
def c_impl_MirrorGround : FV := ⟨64, [.cell 2 (some 195), .tmp 3],
  .seq (.ops [⟨.box 33 (.tmp 0), some 1, none⟩,
    ⟨.alloc 33 (.agg (gcells gz)), some 2, none⟩,
    ⟨.mov (.const (.int .i64 0)), some 3, none⟩])
  (.seq (.seq (.ops [⟨.load (some 195) (.tmp 1), some 8, none⟩,
    ⟨.call 78 [.tmp 8], some 9, none⟩,
    ⟨.un .not (.tmp 9), some 10, none⟩])
  (.cond (.tmp 10) (.seq (.ops [⟨.build [(0, 1), (1, 1), (2, 64), (66, 64), (130, 64), (194, 1)] (gcells gz) [], some 11, none⟩,
    ⟨.store 195 (.tmp 2) (.tmp 11), none, none⟩,
    ⟨.mov (.const (.int .i64 1)), some 3, none⟩])
  (.ret)) (.skip)))
  (.seq (.ops [⟨.load (some 195) (.tmp 1), some 12, none⟩,
    ⟨.alloc 33 (.agg (gcells gz)), some 4, none⟩,
    ⟨.store 195 (.tmp 4) (.tmp 12), none, none⟩])
  (.seq (.ops [⟨.addr (.tmp 4) 194, some 13, none⟩,
    ⟨.store 1 (.tmp 13) (.const (.int .u64 0)), none, none⟩])
  (.seq (.seq (.ops [⟨.call 75 [.tmp 1], some 14, none⟩,
    ⟨.lenL (.tmp 14), some 15, none⟩,
    ⟨.mov (.const (.int .i64 0)), some 16, none⟩])
  (.block 0 (.loop (.seq (.ops [⟨.bin .lss (.tmp 16) (.tmp 15), some 17, none⟩])
  (.seq (.cond (.tmp 17) (.skip) (.exit 0))
  (.seq (.block 1 (.seq (.ops [⟨.idxS 1 (.tmp 14) (.tmp 16), some 18, none⟩,
    ⟨.load none (.tmp 18), some 19, none⟩,
    ⟨.mov (.tmp 19), some 6, none⟩])
  (.seq (.ops [⟨.mov (.tmp 6), some 20, none⟩,
    ⟨.mov (.tmp 6), some 21, none⟩,
    ⟨.bin .rem (.tmp 21) (.const (.int .i64 8)), some 22, none⟩,
    ⟨.bin .mul (.const (.int .i64 2)) (.tmp 22), some 23, none⟩,
    ⟨.bin .sub (.tmp 20) (.tmp 23), some 24, none⟩,
    ⟨.addr (.tmp 1) 0, some 25, none⟩,
    ⟨.load none (.tmp 25), some 26, none⟩,
    ⟨.convI .i64 (.tmp 26), some 27, none⟩,
    ⟨.bin .add (.tmp 24) (.tmp 27), some 28, none⟩,
    ⟨.bin .sub (.tmp 28) (.const (.int .i64 1)), some 29, none⟩,
    ⟨.mov (.tmp 29), some 7, none⟩])
  (.seq (.bops [⟨.mov (.tmp 7), some 30, none⟩,
    ⟨.mov (.tmp 7), some 31, none⟩,
    ⟨.mov (.tmp 7), some 32, none⟩,
    ⟨.mov (.tmp 6), some 33, none⟩,
    ⟨.addr (.tmp 1) 2, some 34, none⟩,
    ⟨.idxA 64 1 (.tmp 34) (.tmp 33), some 35, none⟩,
    ⟨.load none (.tmp 35), some 36, none⟩,
    ⟨.mov (.tmp 6), some 37, none⟩,
    ⟨.addr (.tmp 1) 66, some 38, none⟩,
    ⟨.idxA 64 1 (.tmp 38) (.tmp 37), some 39, none⟩,
    ⟨.load none (.tmp 39), some 40, none⟩,
    ⟨.mov (.tmp 6), some 41, none⟩,
    ⟨.addr (.tmp 1) 130, some 42, none⟩,
    ⟨.idxA 64 1 (.tmp 42) (.tmp 41), some 43, none⟩,
    ⟨.load none (.tmp 43), some 44, none⟩,
    ⟨.addr (.tmp 4) 2, some 45, none⟩,
    ⟨.idxA 64 1 (.tmp 45) (.tmp 30), some 46, none⟩,
    ⟨.store 1 (.tmp 46) (.tmp 36), none, none⟩,
    ⟨.addr (.tmp 4) 66, some 47, none⟩,
    ⟨.idxA 64 1 (.tmp 47) (.tmp 31), some 48, none⟩,
    ⟨.store 1 (.tmp 48) (.tmp 40), none, none⟩,
    ⟨.addr (.tmp 4) 130, some 49, none⟩,
    ⟨.idxA 64 1 (.tmp 49) (.tmp 32), some 50, none⟩,
    ⟨.store 1 (.tmp 50) (.tmp 44), none, none⟩])
  (.ops [⟨.addr (.tmp 4) 194, some 51, none⟩,
    ⟨.load none (.tmp 51), some 52, none⟩,
    ⟨.addr (.tmp 1) 194, some 53, none⟩,
    ⟨.load none (.tmp 53), some 54, none⟩,
    ⟨.mov (.tmp 6), some 55, none⟩,
    ⟨.bin .shr (.tmp 54) (.tmp 55), some 56, none⟩,
    ⟨.bin .and (.tmp 56) (.const (.int .u64 1)), some 57, none⟩,
    ⟨.mov (.tmp 7), some 58, none⟩,
    ⟨.bin .shl (.tmp 57) (.tmp 58), some 59, none⟩,
    ⟨.bin .or (.tmp 52) (.tmp 59), some 60, none⟩,
    ⟨.addr (.tmp 4) 194, some 61, none⟩,
    ⟨.store 1 (.tmp 61) (.tmp 60), none, none⟩])))))
  (.ops [⟨.bin .add (.tmp 16) (.const (.int .i64 1)), some 62, none⟩,
    ⟨.mov (.tmp 62), some 16, none⟩])))))))
  (.seq (.ops [⟨.load (some 195) (.tmp 4), some 63, none⟩,
    ⟨.store 195 (.tmp 2) (.tmp 63), none, none⟩,
    ⟨.mov (.const (.int .i64 0)), some 3, none⟩])
  (.ret))))))⟩
theorem ok_impl_MirrorGround : cmpF Try.prog Try.f40 = some c_impl_MirrorGround := by kernel_rfl

/- spec.WithConduct -/
def c_spec_WithConduct : FV := ⟨22, [.cell 6 (some 195), .tmp 7],
  .seq (.ops [⟨.box 33 (.tmp 0), some 3, none⟩,
    ⟨.alloc 33 (.agg (gcells gz)), some 6, none⟩,
    ⟨.mov (.const (.int .i64 0)), some 7, none⟩])
  (.seq (.seq (.ops [⟨.mov (.tmp 1), some 9, none⟩,
    ⟨.call 88 [.tmp 3, .tmp 9], some 10, none⟩,
    ⟨.mov (.tmp 10), some 8, none⟩])
  (.seq (.ops [⟨.mov (.tmp 8), some 11, none⟩,
    ⟨.bin .neq (.tmp 11) (.const (.int .i64 0)), some 12, none⟩])
  (.cond (.tmp 12) (.seq (.ops [⟨.build [(0, 1), (1, 1), (2, 64), (66, 64), (130, 64), (194, 1)] (gcells gz) [], some 13, none⟩,
    ⟨.mov (.tmp 8), some 14, none⟩,
    ⟨.store 195 (.tmp 6) (.tmp 13), none, none⟩,
    ⟨.mov (.tmp 14), some 7, none⟩])
  (.ret)) (.skip))))
  (.seq (.ops [⟨.mov (.tmp 1), some 15, none⟩,
    ⟨.mov (.tmp 2), some 16, none⟩,
    ⟨.addr (.tmp 3) 2, some 17, none⟩,
    ⟨.idxA 64 1 (.tmp 17) (.tmp 15), some 18, none⟩,
    ⟨.store 1 (.tmp 18) (.tmp 16), none, none⟩])
  (.seq (.ops [⟨.call 89 [.tmp 3], some 19, none⟩,
    ⟨.ext (.tmp 19) 0, some 20, none⟩,
    ⟨.ext (.tmp 19) 1, some 21, none⟩,
    ⟨.store 195 (.tmp 6) (.tmp 20), none, none⟩,
    ⟨.mov (.tmp 21), some 7, none⟩])
  (.ret))))⟩
theorem ok_spec_WithConduct : cmpF Try.prog Try.f41 = some c_spec_WithConduct := by kernel_rfl

/- impl.WithConduct -/
def c_impl_WithConduct : FV := ⟨14, [.cell 6 (some 195), .tmp 7],
  .seq (.ops [⟨.box 33 (.tmp 0), some 3, none⟩,
    ⟨.box 2 (.tmp 1), some 4, none⟩,
    ⟨.box 23 (.tmp 2), some 5, none⟩,
    ⟨.alloc 33 (.agg (gcells gz)), some 6, none⟩,
    ⟨.mov (.const (.int .i64 0)), some 7, none⟩])
  (.seq (.ops [⟨.load (some 195) (.tmp 3), some 8, none⟩,
    ⟨.load none (.tmp 4), some 9, none⟩,
    ⟨.mkfn 91 [] [.tmp 5, .tmp 4], some 10, none⟩,
    ⟨.call 90 [.tmp 8, .tmp 9, .tmp 10], some 11, none⟩,
    ⟨.ext (.tmp 11) 0, some 12, none⟩,
    ⟨.ext (.tmp 11) 1, some 13, none⟩,
    ⟨.store 195 (.tmp 6) (.tmp 12), none, none⟩,
    ⟨.mov (.tmp 13), some 7, none⟩])
  (.ret))⟩
theorem ok_impl_WithConduct : cmpF Try.prog Try.f42 = some c_impl_WithConduct := by kernel_rfl

/- spec.WithGain -/
def c_spec_WithGain : FV := ⟨22, [.cell 6 (some 195), .tmp 7],
  .seq (.ops [⟨.box 33 (.tmp 0), some 3, none⟩,
    ⟨.alloc 33 (.agg (gcells gz)), some 6, none⟩,
    ⟨.mov (.const (.int .i64 0)), some 7, none⟩])
  (.seq (.seq (.ops [⟨.mov (.tmp 1), some 9, none⟩,
    ⟨.call 88 [.tmp 3, .tmp 9], some 10, none⟩,
    ⟨.mov (.tmp 10), some 8, none⟩])
  (.seq (.ops [⟨.mov (.tmp 8), some 11, none⟩,
    ⟨.bin .neq (.tmp 11) (.const (.int .i64 0)), some 12, none⟩])
  (.cond (.tmp 12) (.seq (.ops [⟨.build [(0, 1), (1, 1), (2, 64), (66, 64), (130, 64), (194, 1)] (gcells gz) [], some 13, none⟩,
    ⟨.mov (.tmp 8), some 14, none⟩,
    ⟨.store 195 (.tmp 6) (.tmp 13), none, none⟩,
    ⟨.mov (.tmp 14), some 7, none⟩])
  (.ret)) (.skip))))
  (.seq (.ops [⟨.mov (.tmp 1), some 15, none⟩,
    ⟨.mov (.tmp 2), some 16, none⟩,
    ⟨.addr (.tmp 3) 66, some 17, none⟩,
    ⟨.idxA 64 1 (.tmp 17) (.tmp 15), some 18, none⟩,
    ⟨.store 1 (.tmp 18) (.tmp 16), none, none⟩])
  (.seq (.ops [⟨.call 89 [.tmp 3], some 19, none⟩,
    ⟨.ext (.tmp 19) 0, some 20, none⟩,
    ⟨.ext (.tmp 19) 1, some 21, none⟩,
    ⟨.store 195 (.tmp 6) (.tmp 20), none, none⟩,
    ⟨.mov (.tmp 21), some 7, none⟩])
  (.ret))))⟩
theorem ok_spec_WithGain : cmpF Try.prog Try.f43 = some c_spec_WithGain := by kernel_rfl

/- impl.WithGain -/
def c_impl_WithGain : FV := ⟨14, [.cell 6 (some 195), .tmp 7],
  .seq (.ops [⟨.box 33 (.tmp 0), some 3, none⟩,
    ⟨.box 2 (.tmp 1), some 4, none⟩,
    ⟨.box 23 (.tmp 2), some 5, none⟩,
    ⟨.alloc 33 (.agg (gcells gz)), some 6, none⟩,
    ⟨.mov (.const (.int .i64 0)), some 7, none⟩])
  (.seq (.ops [⟨.load (some 195) (.tmp 3), some 8, none⟩,
    ⟨.load none (.tmp 4), some 9, none⟩,
    ⟨.mkfn 92 [] [.tmp 5, .tmp 4], some 10, none⟩,
    ⟨.call 90 [.tmp 8, .tmp 9, .tmp 10], some 11, none⟩,
    ⟨.ext (.tmp 11) 0, some 12, none⟩,
    ⟨.ext (.tmp 11) 1, some 13, none⟩,
    ⟨.store 195 (.tmp 6) (.tmp 12), none, none⟩,
    ⟨.mov (.tmp 13), some 7, none⟩])
  (.ret))⟩
theorem ok_impl_WithGain : cmpF Try.prog Try.f44 = some c_impl_WithGain := by kernel_rfl

/- spec.WithHead -/
def c_spec_WithHead : FV := ⟨22, [.cell 6 (some 195), .tmp 7],
  .seq (.ops [⟨.box 33 (.tmp 0), some 3, none⟩,
    ⟨.alloc 33 (.agg (gcells gz)), some 6, none⟩,
    ⟨.mov (.const (.int .i64 0)), some 7, none⟩])
  (.seq (.seq (.ops [⟨.mov (.tmp 1), some 9, none⟩,
    ⟨.call 88 [.tmp 3, .tmp 9], some 10, none⟩,
    ⟨.mov (.tmp 10), some 8, none⟩])
  (.seq (.ops [⟨.mov (.tmp 8), some 11, none⟩,
    ⟨.bin .neq (.tmp 11) (.const (.int .i64 0)), some 12, none⟩])
  (.cond (.tmp 12) (.seq (.ops [⟨.build [(0, 1), (1, 1), (2, 64), (66, 64), (130, 64), (194, 1)] (gcells gz) [], some 13, none⟩,
    ⟨.mov (.tmp 8), some 14, none⟩,
    ⟨.store 195 (.tmp 6) (.tmp 13), none, none⟩,
    ⟨.mov (.tmp 14), some 7, none⟩])
  (.ret)) (.skip))))
  (.seq (.ops [⟨.mov (.tmp 1), some 15, none⟩,
    ⟨.mov (.tmp 2), some 16, none⟩,
    ⟨.addr (.tmp 3) 130, some 17, none⟩,
    ⟨.idxA 64 1 (.tmp 17) (.tmp 15), some 18, none⟩,
    ⟨.store 1 (.tmp 18) (.tmp 16), none, none⟩])
  (.seq (.ops [⟨.call 89 [.tmp 3], some 19, none⟩,
    ⟨.ext (.tmp 19) 0, some 20, none⟩,
    ⟨.ext (.tmp 19) 1, some 21, none⟩,
    ⟨.store 195 (.tmp 6) (.tmp 20), none, none⟩,
    ⟨.mov (.tmp 21), some 7, none⟩])
  (.ret))))⟩
theorem ok_spec_WithHead : cmpF Try.prog Try.f45 = some c_spec_WithHead := by kernel_rfl

/- impl.WithHead -/
def c_impl_WithHead : FV := ⟨14, [.cell 6 (some 195), .tmp 7],
  .seq (.ops [⟨.box 33 (.tmp 0), some 3, none⟩,
    ⟨.box 2 (.tmp 1), some 4, none⟩,
    ⟨.box 23 (.tmp 2), some 5, none⟩,
    ⟨.alloc 33 (.agg (gcells gz)), some 6, none⟩,
    ⟨.mov (.const (.int .i64 0)), some 7, none⟩])
  (.seq (.ops [⟨.load (some 195) (.tmp 3), some 8, none⟩,
    ⟨.load none (.tmp 4), some 9, none⟩,
    ⟨.mkfn 93 [] [.tmp 5, .tmp 4], some 10, none⟩,
    ⟨.call 90 [.tmp 8, .tmp 9, .tmp 10], some 11, none⟩,
    ⟨.ext (.tmp 11) 0, some 12, none⟩,
    ⟨.ext (.tmp 11) 1, some 13, none⟩,
    ⟨.store 195 (.tmp 6) (.tmp 12), none, none⟩,
    ⟨.mov (.tmp 13), some 7, none⟩])
  (.ret))⟩
theorem ok_impl_WithHead : cmpF Try.prog Try.f46 = some c_impl_WithHead := by kernel_rfl

/- spec.GreatestChange -/
def c_spec_GreatestChange : FV := ⟨42, [.tmp 4, .tmp 5, .tmp 6],
  .seq (.ops [⟨.box 33 (.tmp 0), some 2, none⟩,
    ⟨.box 33 (.tmp 1), some 3, none⟩,
    ⟨.mov (.const (.int .i64 0)), some 4, none⟩,
    ⟨.mov (.const (.float .f32 0)), some 5, none⟩,
    ⟨.mov (.const (.int .i64 0)), some 6, none⟩])
  (.seq (.ops [⟨.load (some 195) (.tmp 2), some 12, none⟩,
    ⟨.load (some 195) (.tmp 3), some 13, none⟩,
    ⟨.call 31 [.tmp 12, .tmp 13], some 14, none⟩,
    ⟨.mov (.tmp 14), some 11, none⟩,
    ⟨.ext (.tmp 11) 0, some 15, none⟩,
    ⟨.ext (.tmp 11) 1, some 16, none⟩,
    ⟨.alloc 31 (.agg (fcells fz)), some 7, none⟩,
    ⟨.store 64 (.tmp 7) (.tmp 15), none, none⟩,
    ⟨.mov (.tmp 16), some 8, none⟩])
  (.seq (.seq (.ops [⟨.mov (.tmp 8), some 17, none⟩,
    ⟨.bin .neq (.tmp 17) (.const (.int .i64 0)), some 18, none⟩])
  (.cond (.tmp 18) (.seq (.ops [⟨.mov (.tmp 8), some 19, none⟩,
    ⟨.mov (.const (.int .i64 0)), some 4, none⟩,
    ⟨.mov (.const (.float .f32 0)), some 5, none⟩,
    ⟨.mov (.tmp 19), some 6, none⟩])
  (.ret)) (.skip)))
  (.seq (.ops [⟨.mov (.const (.int .i64 0)), some 9, none⟩])
  (.seq (.seq (.ops [⟨.mov (.const (.int .i64 1)), some 10, none⟩])
  (.block 0 (.loop (.seq (.seq (.ops [⟨.mov (.tmp 10), some 20, none⟩,
    ⟨.bin .lss (.tmp 20) (.const (.int .i64 64)), some 21, none⟩])
  (.cond (.tmp 21) (.skip) (.exit 0)))
  (.seq (.block 1 (.seq (.bops [⟨.mov (.tmp 10), some 24, none⟩,
    ⟨.call 71 [.tmp 2, .tmp 24], some 25, none⟩,
    ⟨.mov (.tmp 25), some 26, none⟩,
    ⟨.mov (.tmp 10), some 27, some (26, true)⟩,
    ⟨.idxA 64 1 (.tmp 7) (.tmp 27), some 28, some (26, true)⟩,
    ⟨.load none (.tmp 28), some 29, some (26, true)⟩,
    ⟨.call 94 [.tmp 29], some 30, some (26, true)⟩,
    ⟨.mov (.tmp 9), some 31, some (26, true)⟩,
    ⟨.idxA 64 1 (.tmp 7) (.tmp 31), some 32, some (26, true)⟩,
    ⟨.load none (.tmp 32), some 33, some (26, true)⟩,
    ⟨.call 94 [.tmp 33], some 34, some (26, true)⟩,
    ⟨.fbin .gtr (.tmp 30) (.tmp 34), some 35, some (26, true)⟩,
    ⟨.pick (.tmp 26) (.tmp 35) (.const (.bool false)), some 36, none⟩])
  (.cond (.tmp 36) (.ops [⟨.mov (.tmp 10), some 37, none⟩,
    ⟨.mov (.tmp 37), some 9, none⟩]) (.skip))))
  (.ops [⟨.mov (.tmp 10), some 22, none⟩,
    ⟨.bin .add (.tmp 22) (.const (.int .i64 1)), some 23, none⟩,
    ⟨.mov (.tmp 23), some 10, none⟩]))))))
  (.seq (.ops [⟨.mov (.tmp 9), some 38, none⟩,
    ⟨.mov (.tmp 9), some 39, none⟩,
    ⟨.idxA 64 1 (.tmp 7) (.tmp 39), some 40, none⟩,
    ⟨.load none (.tmp 40), some 41, none⟩,
    ⟨.mov (.tmp 38), some 4, none⟩,
    ⟨.mov (.tmp 41), some 5, none⟩,
    ⟨.mov (.const (.int .i64 0)), some 6, none⟩])
  (.ret))))))⟩
theorem ok_spec_GreatestChange : cmpF Try.prog Try.f47 = some c_spec_GreatestChange := by kernel_rfl

/- impl.GreatestChange -/
def c_impl_GreatestChange : FV := ⟨25, [.tmp 4, .tmp 5, .tmp 6],
  .seq (.ops [⟨.box 33 (.tmp 0), some 2, none⟩,
    ⟨.box 33 (.tmp 1), some 3, none⟩,
    ⟨.mov (.const (.int .i64 0)), some 4, none⟩,
    ⟨.mov (.const (.float .f32 0)), some 5, none⟩,
    ⟨.mov (.const (.int .i64 0)), some 6, none⟩])
  (.seq (.ops [⟨.load (some 195) (.tmp 2), some 11, none⟩,
    ⟨.load (some 195) (.tmp 3), some 12, none⟩,
    ⟨.call 32 [.tmp 11, .tmp 12], some 13, none⟩,
    ⟨.mov (.tmp 13), some 10, none⟩,
    ⟨.ext (.tmp 10) 0, some 14, none⟩,
    ⟨.ext (.tmp 10) 1, some 15, none⟩,
    ⟨.alloc 31 (.agg (fcells fz)), some 7, none⟩,
    ⟨.store 64 (.tmp 7) (.tmp 14), none, none⟩,
    ⟨.mov (.tmp 15), some 8, none⟩])
  (.seq (.seq (.ops [⟨.mov (.tmp 8), some 16, none⟩,
    ⟨.bin .neq (.tmp 16) (.const (.int .i64 0)), some 17, none⟩])
  (.cond (.tmp 17) (.seq (.ops [⟨.mov (.tmp 8), some 18, none⟩,
    ⟨.mov (.const (.int .i64 0)), some 4, none⟩,
    ⟨.mov (.const (.float .f32 0)), some 5, none⟩,
    ⟨.mov (.tmp 18), some 6, none⟩])
  (.ret)) (.skip)))
  (.seq (.ops [⟨.call 75 [.tmp 2], some 19, none⟩,
    ⟨.call 95 [.tmp 19, .tmp 7], some 20, none⟩,
    ⟨.mov (.tmp 20), some 9, none⟩])
  (.seq (.ops [⟨.mov (.tmp 9), some 21, none⟩,
    ⟨.mov (.tmp 9), some 22, none⟩,
    ⟨.idxA 64 1 (.tmp 7) (.tmp 22), some 23, none⟩,
    ⟨.load none (.tmp 23), some 24, none⟩,
    ⟨.mov (.tmp 21), some 4, none⟩,
    ⟨.mov (.tmp 24), some 5, none⟩,
    ⟨.mov (.const (.int .i64 0)), some 6, none⟩])
  (.ret)))))⟩
theorem ok_impl_GreatestChange : cmpF Try.prog Try.f48 = some c_impl_GreatestChange := by kernel_rfl

/- spec.WithFixed -/
def c_spec_WithFixed : FV := ⟨33, [.cell 6 (some 195), .tmp 7],
  .seq (.ops [⟨.box 33 (.tmp 0), some 3, none⟩,
    ⟨.alloc 33 (.agg (gcells gz)), some 6, none⟩,
    ⟨.mov (.const (.int .i64 0)), some 7, none⟩])
  (.seq (.seq (.ops [⟨.mov (.tmp 1), some 10, none⟩,
    ⟨.call 88 [.tmp 3, .tmp 10], some 11, none⟩,
    ⟨.mov (.tmp 11), some 8, none⟩])
  (.seq (.ops [⟨.mov (.tmp 8), some 12, none⟩,
    ⟨.bin .neq (.tmp 12) (.const (.int .i64 0)), some 13, none⟩])
  (.cond (.tmp 13) (.seq (.ops [⟨.build [(0, 1), (1, 1), (2, 64), (66, 64), (130, 64), (194, 1)] (gcells gz) [], some 14, none⟩,
    ⟨.mov (.tmp 8), some 15, none⟩,
    ⟨.store 195 (.tmp 6) (.tmp 14), none, none⟩,
    ⟨.mov (.tmp 15), some 7, none⟩])
  (.ret)) (.skip))))
  (.seq (.ops [⟨.mov (.tmp 1), some 16, none⟩,
    ⟨.convI .u64 (.tmp 16), some 17, none⟩,
    ⟨.bin .shl (.const (.int .u64 1)) (.tmp 17), some 18, none⟩,
    ⟨.mov (.tmp 18), some 9, none⟩])
  (.seq (.ops [⟨.addr (.tmp 3) 194, some 19, none⟩,
    ⟨.load none (.tmp 19), some 20, none⟩,
    ⟨.mov (.tmp 9), some 21, none⟩,
    ⟨.bin .andNot (.tmp 20) (.tmp 21), some 22, none⟩,
    ⟨.addr (.tmp 3) 194, some 23, none⟩,
    ⟨.store 1 (.tmp 23) (.tmp 22), none, none⟩])
  (.seq (.seq (.ops [⟨.mov (.tmp 2), some 24, none⟩])
  (.cond (.tmp 24) (.ops [⟨.addr (.tmp 3) 194, some 25, none⟩,
    ⟨.load none (.tmp 25), some 26, none⟩,
    ⟨.mov (.tmp 9), some 27, none⟩,
    ⟨.bin .or (.tmp 26) (.tmp 27), some 28, none⟩,
    ⟨.addr (.tmp 3) 194, some 29, none⟩,
    ⟨.store 1 (.tmp 29) (.tmp 28), none, none⟩]) (.skip)))
  (.seq (.ops [⟨.call 89 [.tmp 3], some 30, none⟩,
    ⟨.ext (.tmp 30) 0, some 31, none⟩,
    ⟨.ext (.tmp 30) 1, some 32, none⟩,
    ⟨.store 195 (.tmp 6) (.tmp 31), none, none⟩,
    ⟨.mov (.tmp 32), some 7, none⟩])
  (.ret))))))⟩
theorem ok_spec_WithFixed : cmpF Try.prog Try.f49 = some c_spec_WithFixed := by kernel_rfl

/- impl.WithFixed -/
def c_impl_WithFixed : FV := ⟨14, [.cell 6 (some 195), .tmp 7],
  .seq (.ops [⟨.box 33 (.tmp 0), some 3, none⟩,
    ⟨.box 2 (.tmp 1), some 4, none⟩,
    ⟨.box 4 (.tmp 2), some 5, none⟩,
    ⟨.alloc 33 (.agg (gcells gz)), some 6, none⟩,
    ⟨.mov (.const (.int .i64 0)), some 7, none⟩])
  (.seq (.ops [⟨.load (some 195) (.tmp 3), some 8, none⟩,
    ⟨.load none (.tmp 4), some 9, none⟩,
    ⟨.mkfn 96 [] [.tmp 4, .tmp 5], some 10, none⟩,
    ⟨.call 90 [.tmp 8, .tmp 9, .tmp 10], some 11, none⟩,
    ⟨.ext (.tmp 11) 0, some 12, none⟩,
    ⟨.ext (.tmp 11) 1, some 13, none⟩,
    ⟨.store 195 (.tmp 6) (.tmp 12), none, none⟩,
    ⟨.mov (.tmp 13), some 7, none⟩])
  (.ret))⟩
theorem ok_impl_WithFixed : cmpF Try.prog Try.f50 = some c_impl_WithFixed := by kernel_rfl

/- spec.FedCells -/
def c_spec_FedCells : FV := ⟨7, [.tmp 2, .tmp 3],
  .seq (.ops [⟨.box 33 (.tmp 0), some 1, none⟩,
    ⟨.mov (.const (.int .u64 0)), some 2, none⟩,
    ⟨.mov (.const (.int .i64 0)), some 3, none⟩])
  (.seq (.seq (.ops [⟨.call 76 [.tmp 1], some 4, none⟩,
    ⟨.un .not (.tmp 4), some 5, none⟩])
  (.cond (.tmp 5) (.seq (.ops [⟨.mov (.const (.int .u64 0)), some 2, none⟩,
    ⟨.mov (.const (.int .i64 1)), some 3, none⟩])
  (.ret)) (.skip)))
  (.seq (.ops [⟨.call 97 [.tmp 1], some 6, none⟩,
    ⟨.mov (.tmp 6), some 2, none⟩,
    ⟨.mov (.const (.int .i64 0)), some 3, none⟩])
  (.ret)))⟩
theorem ok_spec_FedCells : cmpF Try.prog Try.f51 = some c_spec_FedCells := by kernel_rfl

/- impl.FedCells -/
def c_impl_FedCells : FV := ⟨57, [.tmp 2, .tmp 3],
  .seq (.ops [⟨.box 33 (.tmp 0), some 1, none⟩,
    ⟨.mov (.const (.int .u64 0)), some 2, none⟩,
    ⟨.mov (.const (.int .i64 0)), some 3, none⟩])
  (.seq (.seq (.ops [⟨.load (some 195) (.tmp 1), some 9, none⟩,
    ⟨.call 78 [.tmp 9], some 10, none⟩,
    ⟨.un .not (.tmp 10), some 11, none⟩])
  (.cond (.tmp 11) (.seq (.ops [⟨.mov (.const (.int .u64 0)), some 2, none⟩,
    ⟨.mov (.const (.int .i64 1)), some 3, none⟩])
  (.ret)) (.skip)))
  (.seq (.ops [⟨.addr (.tmp 1) 194, some 12, none⟩,
    ⟨.load none (.tmp 12), some 13, none⟩,
    ⟨.mov (.tmp 13), some 4, none⟩])
  (.seq (.seq (.ops [⟨.mov (.const (.int .i64 0)), some 14, none⟩])
  (.block 0 (.loop (.seq (.ops [⟨.bin .lss (.tmp 14) (.const (.int .i64 64)), some 15, none⟩])
  (.seq (.cond (.tmp 15) (.skip) (.exit 0))
  (.seq (.block 1 (.seq (.ops [⟨.call 75 [.tmp 1], some 16, none⟩,
    ⟨.lenL (.tmp 16), some 17, none⟩,
    ⟨.mov (.const (.int .i64 0)), some 18, none⟩])
  (.block 2 (.loop (.seq (.ops [⟨.bin .lss (.tmp 18) (.tmp 17), some 19, none⟩])
  (.seq (.cond (.tmp 19) (.skip) (.exit 2))
  (.seq (.block 3 (.seq (.ops [⟨.idxS 1 (.tmp 16) (.tmp 18), some 20, none⟩,
    ⟨.load none (.tmp 20), some 21, none⟩,
    ⟨.mov (.tmp 21), some 6, none⟩])
  (.seq (.ops [⟨.mov (.const (.int .i64 0)), some 22, none⟩])
  (.block 4 (.loop (.seq (.ops [⟨.bin .lss (.tmp 22) (.const (.int .i64 4)), some 23, none⟩])
  (.seq (.cond (.tmp 23) (.skip) (.exit 4))
  (.seq (.block 5 (.seq (.ops [⟨.mov (.tmp 22), some 24, none⟩,
    ⟨.mov (.tmp 24), some 7, none⟩])
  (.seq (.ops [⟨.mov (.tmp 6), some 25, none⟩,
    ⟨.mov (.tmp 7), some 26, none⟩,
    ⟨.call 98 [.tmp 1, .tmp 25, .tmp 26], some 27, none⟩,
    ⟨.mov (.tmp 27), some 8, none⟩])
  (.seq (.ops [⟨.mov (.tmp 4), some 28, none⟩,
    ⟨.mov (.tmp 6), some 29, none⟩,
    ⟨.bin .shr (.tmp 28) (.tmp 29), some 30, none⟩,
    ⟨.bin .and (.tmp 30) (.const (.int .u64 1)), some 31, none⟩,
    ⟨.bin .eql (.tmp 31) (.const (.int .u64 1)), some 32, none⟩,
    ⟨.mov (.tmp 32), some 33, none⟩,
    ⟨.mov (.tmp 8), some 34, some (33, true)⟩,
    ⟨.bin .geq (.tmp 34) (.const (.int .i64 0)), some 35, some (33, true)⟩,
    ⟨.pick (.tmp 33) (.tmp 35) (.const (.bool false)), some 36, none⟩,
    ⟨.mov (.tmp 36), some 37, none⟩,
    ⟨.mov (.tmp 6), some 38, some (37, true)⟩,
    ⟨.addr (.tmp 1) 2, some 39, some (37, true)⟩,
    ⟨.idxA 64 1 (.tmp 39) (.tmp 38), some 40, some (37, true)⟩,
    ⟨.load none (.tmp 40), some 41, some (37, true)⟩,
    ⟨.mov (.tmp 8), some 42, some (37, true)⟩,
    ⟨.addr (.tmp 1) 2, some 43, some (37, true)⟩,
    ⟨.idxA 64 1 (.tmp 43) (.tmp 42), some 44, some (37, true)⟩,
    ⟨.load none (.tmp 44), some 45, some (37, true)⟩,
    ⟨.call 99 [.tmp 41, .tmp 45], some 46, some (37, true)⟩,
    ⟨.fbin .gtr (.tmp 46) (.const (.float .f32 0)), some 47, some (37, true)⟩,
    ⟨.pick (.tmp 37) (.tmp 47) (.const (.bool false)), some 48, none⟩])
  (.cond (.tmp 48) (.ops [⟨.mov (.tmp 4), some 49, none⟩,
    ⟨.mov (.tmp 8), some 50, none⟩,
    ⟨.bin .shl (.const (.int .u64 1)) (.tmp 50), some 51, none⟩,
    ⟨.bin .or (.tmp 49) (.tmp 51), some 52, none⟩,
    ⟨.mov (.tmp 52), some 4, none⟩]) (.skip))))))
  (.ops [⟨.bin .add (.tmp 22) (.const (.int .i64 1)), some 53, none⟩,
    ⟨.mov (.tmp 53), some 22, none⟩])))))))))
  (.ops [⟨.bin .add (.tmp 18) (.const (.int .i64 1)), some 54, none⟩,
    ⟨.mov (.tmp 54), some 18, none⟩]))))))))
  (.ops [⟨.bin .add (.tmp 14) (.const (.int .i64 1)), some 55, none⟩,
    ⟨.mov (.tmp 55), some 14, none⟩])))))))
  (.seq (.ops [⟨.mov (.tmp 4), some 56, none⟩,
    ⟨.mov (.tmp 56), some 2, none⟩,
    ⟨.mov (.const (.int .i64 0)), some 3, none⟩])
  (.ret)))))⟩
theorem ok_impl_FedCells : cmpF Try.prog Try.f52 = some c_impl_FedCells := by kernel_rfl

/- spec.ValidBrine -/
def c_spec_ValidBrine : FV := ⟨4, [.tmp 2],
  .seq (.ops [⟨.box 35 (.tmp 0), some 1, none⟩,
    ⟨.mov (.const (.bool false)), some 2, none⟩])
  (.seq (.ops [⟨.call 100 [.tmp 1], some 3, none⟩,
    ⟨.mov (.tmp 3), some 2, none⟩])
  (.ret))⟩
theorem ok_spec_ValidBrine : cmpF Try.prog Try.f53 = some c_spec_ValidBrine := by kernel_rfl

/- impl.ValidBrine -/
def c_impl_ValidBrine : FV := ⟨33, [.tmp 2],
  .seq (.ops [⟨.box 35 (.tmp 0), some 1, none⟩,
    ⟨.mov (.const (.bool false)), some 2, none⟩])
  (.seq (.ops [⟨.addr (.tmp 1) 0, some 4, none⟩,
    ⟨.mov (.tmp 4), some 3, none⟩])
  (.seq (.seq (.ops [⟨.addr (.tmp 1) 0, some 5, none⟩,
    ⟨.load (some 195) (.tmp 5), some 6, none⟩,
    ⟨.call 78 [.tmp 6], some 7, none⟩,
    ⟨.un .not (.tmp 7), some 8, none⟩,
    ⟨.mov (.tmp 8), some 9, none⟩,
    ⟨.mov (.tmp 3), some 10, some (9, false)⟩,
    ⟨.addr (.tmp 1) 195, some 11, some (9, false)⟩,
    ⟨.call 101 [.tmp 10, .tmp 11, .func 72], some 12, some (9, false)⟩,
    ⟨.un .not (.tmp 12), some 13, some (9, false)⟩,
    ⟨.pick (.tmp 9) (.const (.bool true)) (.tmp 13), some 14, none⟩,
    ⟨.mov (.tmp 14), some 15, none⟩,
    ⟨.mov (.tmp 3), some 16, some (15, false)⟩,
    ⟨.addr (.tmp 1) 259, some 17, some (15, false)⟩,
    ⟨.call 101 [.tmp 16, .tmp 17, .func 72], some 18, some (15, false)⟩,
    ⟨.un .not (.tmp 18), some 19, some (15, false)⟩,
    ⟨.pick (.tmp 15) (.const (.bool true)) (.tmp 19), some 20, none⟩])
  (.cond (.tmp 20) (.seq (.ops [⟨.mov (.const (.bool false)), some 2, none⟩])
  (.ret)) (.skip)))
  (.seq (.ops [⟨.addr (.tmp 1) 323, some 21, none⟩,
    ⟨.load none (.tmp 21), some 22, none⟩,
    ⟨.call 73 [.tmp 22], some 23, none⟩,
    ⟨.mov (.tmp 23), some 24, none⟩,
    ⟨.addr (.tmp 1) 323, some 25, some (24, true)⟩,
    ⟨.load none (.tmp 25), some 26, some (24, true)⟩,
    ⟨.fbin .geq (.tmp 26) (.const (.float .f32 981467136)), some 27, some (24, true)⟩,
    ⟨.pick (.tmp 24) (.tmp 27) (.const (.bool false)), some 28, none⟩,
    ⟨.mov (.tmp 28), some 29, none⟩,
    ⟨.mov (.tmp 3), some 30, some (29, true)⟩,
    ⟨.call 102 [.tmp 30], some 31, some (29, true)⟩,
    ⟨.pick (.tmp 29) (.tmp 31) (.const (.bool false)), some 32, none⟩,
    ⟨.mov (.tmp 32), some 2, none⟩])
  (.ret))))⟩
theorem ok_impl_ValidBrine : cmpF Try.prog Try.f54 = some c_impl_ValidBrine := by kernel_rfl

/- spec.FlowFrom -/
def c_spec_FlowFrom : FV := ⟨23, [.tmp 6, .tmp 7],
  .seq (.ops [⟨.box 33 (.tmp 0), some 3, none⟩,
    ⟨.mov (.const (.float .f32 0)), some 6, none⟩,
    ⟨.mov (.const (.int .i64 0)), some 7, none⟩])
  (.seq (.seq (.ops [⟨.mov (.tmp 1), some 10, none⟩,
    ⟨.mov (.tmp 2), some 11, none⟩,
    ⟨.call 103 [.tmp 3, .tmp 10, .tmp 11], some 12, none⟩,
    ⟨.mov (.tmp 12), some 8, none⟩])
  (.seq (.ops [⟨.mov (.tmp 8), some 13, none⟩,
    ⟨.bin .neq (.tmp 13) (.const (.int .i64 0)), some 14, none⟩])
  (.cond (.tmp 14) (.seq (.ops [⟨.mov (.tmp 8), some 15, none⟩,
    ⟨.mov (.const (.float .f32 0)), some 6, none⟩,
    ⟨.mov (.tmp 15), some 7, none⟩])
  (.ret)) (.skip))))
  (.seq (.ops [⟨.mov (.tmp 1), some 16, none⟩,
    ⟨.mov (.tmp 2), some 17, none⟩,
    ⟨.call 104 [.tmp 3, .tmp 16, .tmp 17], some 18, none⟩,
    ⟨.mov (.tmp 18), some 9, none⟩])
  (.seq (.seq (.ops [⟨.mov (.tmp 9), some 19, none⟩,
    ⟨.call 83 [.tmp 19], some 20, none⟩,
    ⟨.un .not (.tmp 20), some 21, none⟩])
  (.cond (.tmp 21) (.seq (.ops [⟨.mov (.const (.float .f32 0)), some 6, none⟩,
    ⟨.mov (.const (.int .i64 4)), some 7, none⟩])
  (.ret)) (.skip)))
  (.seq (.ops [⟨.mov (.tmp 9), some 22, none⟩,
    ⟨.mov (.tmp 22), some 6, none⟩,
    ⟨.mov (.const (.int .i64 0)), some 7, none⟩])
  (.ret)))))⟩
theorem ok_spec_FlowFrom : cmpF Try.prog Try.f55 = some c_spec_FlowFrom := by kernel_rfl

/- impl.FlowFrom -/
def c_impl_FlowFrom : FV := ⟨21, [.tmp 6, .tmp 7],
  .seq (.ops [⟨.box 33 (.tmp 0), some 3, none⟩,
    ⟨.mov (.const (.float .f32 0)), some 6, none⟩,
    ⟨.mov (.const (.int .i64 0)), some 7, none⟩])
  (.seq (.seq (.ops [⟨.mov (.tmp 1), some 9, none⟩,
    ⟨.mov (.tmp 2), some 10, none⟩,
    ⟨.call 105 [.tmp 3, .tmp 9, .tmp 10], some 11, none⟩,
    ⟨.mov (.tmp 11), some 8, none⟩])
  (.seq (.ops [⟨.mov (.tmp 8), some 12, none⟩,
    ⟨.bin .neq (.tmp 12) (.const (.int .i64 0)), some 13, none⟩])
  (.cond (.tmp 13) (.seq (.ops [⟨.mov (.tmp 8), some 14, none⟩,
    ⟨.mov (.const (.float .f32 0)), some 6, none⟩,
    ⟨.mov (.tmp 14), some 7, none⟩])
  (.ret)) (.skip))))
  (.seq (.ops [⟨.mov (.tmp 1), some 15, none⟩,
    ⟨.mov (.tmp 2), some 16, none⟩,
    ⟨.call 106 [.tmp 3, .tmp 15, .tmp 16], some 17, none⟩,
    ⟨.call 84 [.tmp 17], some 18, none⟩,
    ⟨.ext (.tmp 18) 0, some 19, none⟩,
    ⟨.ext (.tmp 18) 1, some 20, none⟩,
    ⟨.mov (.tmp 19), some 6, none⟩,
    ⟨.mov (.tmp 20), some 7, none⟩])
  (.ret)))⟩
theorem ok_impl_FlowFrom : cmpF Try.prog Try.f56 = some c_impl_FlowFrom := by kernel_rfl

/- spec.BalanceAt -/
def c_spec_BalanceAt : FV := ⟨19, [.tmp 4, .tmp 5],
  .seq (.ops [⟨.box 33 (.tmp 0), some 2, none⟩,
    ⟨.mov (.const (.float .f32 0)), some 4, none⟩,
    ⟨.mov (.const (.int .i64 0)), some 5, none⟩])
  (.seq (.seq (.ops [⟨.mov (.tmp 1), some 8, none⟩,
    ⟨.call 88 [.tmp 2, .tmp 8], some 9, none⟩,
    ⟨.mov (.tmp 9), some 6, none⟩])
  (.seq (.ops [⟨.mov (.tmp 6), some 10, none⟩,
    ⟨.bin .neq (.tmp 10) (.const (.int .i64 0)), some 11, none⟩])
  (.cond (.tmp 11) (.seq (.ops [⟨.mov (.tmp 6), some 12, none⟩,
    ⟨.mov (.const (.float .f32 0)), some 4, none⟩,
    ⟨.mov (.tmp 12), some 5, none⟩])
  (.ret)) (.skip))))
  (.seq (.ops [⟨.mov (.tmp 1), some 13, none⟩,
    ⟨.call 107 [.tmp 2, .tmp 13], some 14, none⟩,
    ⟨.mov (.tmp 14), some 7, none⟩])
  (.seq (.seq (.ops [⟨.mov (.tmp 7), some 15, none⟩,
    ⟨.call 83 [.tmp 15], some 16, none⟩,
    ⟨.un .not (.tmp 16), some 17, none⟩])
  (.cond (.tmp 17) (.seq (.ops [⟨.mov (.const (.float .f32 0)), some 4, none⟩,
    ⟨.mov (.const (.int .i64 4)), some 5, none⟩])
  (.ret)) (.skip)))
  (.seq (.ops [⟨.mov (.tmp 7), some 18, none⟩,
    ⟨.mov (.tmp 18), some 4, none⟩,
    ⟨.mov (.const (.int .i64 0)), some 5, none⟩])
  (.ret)))))⟩
theorem ok_spec_BalanceAt : cmpF Try.prog Try.f57 = some c_spec_BalanceAt := by kernel_rfl

/- impl.BalanceAt -/
def c_impl_BalanceAt : FV := ⟨17, [.tmp 4, .tmp 5],
  .seq (.ops [⟨.box 33 (.tmp 0), some 2, none⟩,
    ⟨.mov (.const (.float .f32 0)), some 4, none⟩,
    ⟨.mov (.const (.int .i64 0)), some 5, none⟩])
  (.seq (.seq (.ops [⟨.mov (.tmp 1), some 7, none⟩,
    ⟨.call 108 [.tmp 2, .tmp 7], some 8, none⟩,
    ⟨.mov (.tmp 8), some 6, none⟩])
  (.seq (.ops [⟨.mov (.tmp 6), some 9, none⟩,
    ⟨.bin .neq (.tmp 9) (.const (.int .i64 0)), some 10, none⟩])
  (.cond (.tmp 10) (.seq (.ops [⟨.mov (.tmp 6), some 11, none⟩,
    ⟨.mov (.const (.float .f32 0)), some 4, none⟩,
    ⟨.mov (.tmp 11), some 5, none⟩])
  (.ret)) (.skip))))
  (.seq (.ops [⟨.mov (.tmp 1), some 12, none⟩,
    ⟨.call 109 [.tmp 2, .tmp 12], some 13, none⟩,
    ⟨.call 84 [.tmp 13], some 14, none⟩,
    ⟨.ext (.tmp 14) 0, some 15, none⟩,
    ⟨.ext (.tmp 14) 1, some 16, none⟩,
    ⟨.mov (.tmp 15), some 4, none⟩,
    ⟨.mov (.tmp 16), some 5, none⟩])
  (.ret)))⟩
theorem ok_impl_BalanceAt : cmpF Try.prog Try.f58 = some c_impl_BalanceAt := by kernel_rfl

/- spec.FrontOf -/
def c_spec_FrontOf : FV := ⟨31, [.tmp 4, .tmp 5],
  .seq (.ops [⟨.box 35 (.tmp 0), some 2, none⟩,
    ⟨.mov (.const (.int .u64 0)), some 4, none⟩,
    ⟨.mov (.const (.int .i64 0)), some 5, none⟩])
  (.seq (.seq (.ops [⟨.call 100 [.tmp 2], some 8, none⟩,
    ⟨.un .not (.tmp 8), some 9, none⟩])
  (.cond (.tmp 9) (.seq (.ops [⟨.mov (.const (.int .u64 0)), some 4, none⟩,
    ⟨.mov (.const (.int .i64 1)), some 5, none⟩])
  (.ret)) (.skip)))
  (.seq (.ops [⟨.mov (.const (.int .u64 0)), some 6, none⟩])
  (.seq (.seq (.ops [⟨.mov (.const (.int .i64 0)), some 7, none⟩])
  (.block 0 (.loop (.seq (.seq (.ops [⟨.mov (.tmp 7), some 10, none⟩,
    ⟨.bin .lss (.tmp 10) (.const (.int .i64 64)), some 11, none⟩])
  (.cond (.tmp 11) (.skip) (.exit 0)))
  (.seq (.block 1 (.seq (.ops [⟨.addr (.tmp 2) 0, some 14, none⟩,
    ⟨.mov (.tmp 7), some 15, none⟩,
    ⟨.call 71 [.tmp 14, .tmp 15], some 16, none⟩,
    ⟨.mov (.tmp 16), some 17, none⟩,
    ⟨.mov (.tmp 7), some 18, some (17, true)⟩,
    ⟨.addr (.tmp 2) 195, some 19, some (17, true)⟩,
    ⟨.idxA 64 1 (.tmp 19) (.tmp 18), some 20, some (17, true)⟩,
    ⟨.load none (.tmp 20), some 21, some (17, true)⟩,
    ⟨.mov (.tmp 1), some 22, some (17, true)⟩,
    ⟨.fbin .geq (.tmp 21) (.tmp 22), some 23, some (17, true)⟩,
    ⟨.pick (.tmp 17) (.tmp 23) (.const (.bool false)), some 24, none⟩])
  (.cond (.tmp 24) (.ops [⟨.mov (.tmp 6), some 25, none⟩,
    ⟨.mov (.tmp 7), some 26, none⟩,
    ⟨.convI .u64 (.tmp 26), some 27, none⟩,
    ⟨.bin .shl (.const (.int .u64 1)) (.tmp 27), some 28, none⟩,
    ⟨.bin .or (.tmp 25) (.tmp 28), some 29, none⟩,
    ⟨.mov (.tmp 29), some 6, none⟩]) (.skip))))
  (.ops [⟨.mov (.tmp 7), some 12, none⟩,
    ⟨.bin .add (.tmp 12) (.const (.int .i64 1)), some 13, none⟩,
    ⟨.mov (.tmp 13), some 7, none⟩]))))))
  (.seq (.ops [⟨.mov (.tmp 6), some 30, none⟩,
    ⟨.mov (.tmp 30), some 4, none⟩,
    ⟨.mov (.const (.int .i64 0)), some 5, none⟩])
  (.ret)))))⟩
theorem ok_spec_FrontOf : cmpF Try.prog Try.f59 = some c_spec_FrontOf := by kernel_rfl

/- impl.FrontOf -/
def c_impl_FrontOf : FV := ⟨31, [.tmp 4, .tmp 5],
  .seq (.ops [⟨.box 35 (.tmp 0), some 2, none⟩,
    ⟨.mov (.const (.int .u64 0)), some 4, none⟩,
    ⟨.mov (.const (.int .i64 0)), some 5, none⟩])
  (.seq (.seq (.ops [⟨.load (some 324) (.tmp 2), some 9, none⟩,
    ⟨.call 54 [.tmp 9], some 10, none⟩,
    ⟨.un .not (.tmp 10), some 11, none⟩])
  (.cond (.tmp 11) (.seq (.ops [⟨.mov (.const (.int .u64 0)), some 4, none⟩,
    ⟨.mov (.const (.int .i64 1)), some 5, none⟩])
  (.ret)) (.skip)))
  (.seq (.ops [⟨.mov (.const (.int .u64 0)), some 6, none⟩])
  (.seq (.seq (.ops [⟨.addr (.tmp 2) 0, some 12, none⟩,
    ⟨.call 75 [.tmp 12], some 13, none⟩,
    ⟨.lenL (.tmp 13), some 14, none⟩,
    ⟨.mov (.const (.int .i64 0)), some 15, none⟩])
  (.block 0 (.loop (.seq (.ops [⟨.bin .lss (.tmp 15) (.tmp 14), some 16, none⟩])
  (.seq (.cond (.tmp 16) (.skip) (.exit 0))
  (.seq (.block 1 (.seq (.ops [⟨.idxS 1 (.tmp 13) (.tmp 15), some 17, none⟩,
    ⟨.load none (.tmp 17), some 18, none⟩,
    ⟨.mov (.tmp 18), some 8, none⟩])
  (.seq (.ops [⟨.mov (.tmp 8), some 19, none⟩,
    ⟨.addr (.tmp 2) 195, some 20, none⟩,
    ⟨.idxA 64 1 (.tmp 20) (.tmp 19), some 21, none⟩,
    ⟨.load none (.tmp 21), some 22, none⟩,
    ⟨.mov (.tmp 1), some 23, none⟩,
    ⟨.fbin .geq (.tmp 22) (.tmp 23), some 24, none⟩])
  (.cond (.tmp 24) (.ops [⟨.mov (.tmp 6), some 25, none⟩,
    ⟨.mov (.tmp 8), some 26, none⟩,
    ⟨.bin .shl (.const (.int .u64 1)) (.tmp 26), some 27, none⟩,
    ⟨.bin .or (.tmp 25) (.tmp 27), some 28, none⟩,
    ⟨.mov (.tmp 28), some 6, none⟩]) (.skip)))))
  (.ops [⟨.bin .add (.tmp 15) (.const (.int .i64 1)), some 29, none⟩,
    ⟨.mov (.tmp 29), some 15, none⟩])))))))
  (.seq (.ops [⟨.mov (.tmp 6), some 30, none⟩,
    ⟨.mov (.tmp 30), some 4, none⟩,
    ⟨.mov (.const (.int .i64 0)), some 5, none⟩])
  (.ret)))))⟩
theorem ok_impl_FrontOf : cmpF Try.prog Try.f60 = some c_impl_FrontOf := by kernel_rfl

/- spec.SettledHead -/
def c_spec_SettledHead : FV := ⟨19, [.tmp 4, .tmp 5],
  .seq (.ops [⟨.box 33 (.tmp 0), some 2, none⟩,
    ⟨.mov (.const (.float .f32 0)), some 4, none⟩,
    ⟨.mov (.const (.int .i64 0)), some 5, none⟩])
  (.seq (.seq (.ops [⟨.mov (.tmp 1), some 8, none⟩,
    ⟨.call 88 [.tmp 2, .tmp 8], some 9, none⟩,
    ⟨.mov (.tmp 9), some 6, none⟩])
  (.seq (.ops [⟨.mov (.tmp 6), some 10, none⟩,
    ⟨.bin .neq (.tmp 10) (.const (.int .i64 0)), some 11, none⟩])
  (.cond (.tmp 11) (.seq (.ops [⟨.mov (.tmp 6), some 12, none⟩,
    ⟨.mov (.const (.float .f32 0)), some 4, none⟩,
    ⟨.mov (.tmp 12), some 5, none⟩])
  (.ret)) (.skip))))
  (.seq (.ops [⟨.mov (.tmp 1), some 13, none⟩,
    ⟨.call 110 [.tmp 2, .tmp 13], some 14, none⟩,
    ⟨.mov (.tmp 14), some 7, none⟩])
  (.seq (.seq (.ops [⟨.mov (.tmp 7), some 15, none⟩,
    ⟨.call 83 [.tmp 15], some 16, none⟩,
    ⟨.un .not (.tmp 16), some 17, none⟩])
  (.cond (.tmp 17) (.seq (.ops [⟨.mov (.const (.float .f32 0)), some 4, none⟩,
    ⟨.mov (.const (.int .i64 4)), some 5, none⟩])
  (.ret)) (.skip)))
  (.seq (.ops [⟨.mov (.tmp 7), some 18, none⟩,
    ⟨.mov (.tmp 18), some 4, none⟩,
    ⟨.mov (.const (.int .i64 0)), some 5, none⟩])
  (.ret)))))⟩
theorem ok_spec_SettledHead : cmpF Try.prog Try.f61 = some c_spec_SettledHead := by kernel_rfl

/- impl.SettledHead -/
def c_impl_SettledHead : FV := ⟨17, [.tmp 4, .tmp 5],
  .seq (.ops [⟨.box 33 (.tmp 0), some 2, none⟩,
    ⟨.mov (.const (.float .f32 0)), some 4, none⟩,
    ⟨.mov (.const (.int .i64 0)), some 5, none⟩])
  (.seq (.seq (.ops [⟨.mov (.tmp 1), some 7, none⟩,
    ⟨.call 108 [.tmp 2, .tmp 7], some 8, none⟩,
    ⟨.mov (.tmp 8), some 6, none⟩])
  (.seq (.ops [⟨.mov (.tmp 6), some 9, none⟩,
    ⟨.bin .neq (.tmp 9) (.const (.int .i64 0)), some 10, none⟩])
  (.cond (.tmp 10) (.seq (.ops [⟨.mov (.tmp 6), some 11, none⟩,
    ⟨.mov (.const (.float .f32 0)), some 4, none⟩,
    ⟨.mov (.tmp 11), some 5, none⟩])
  (.ret)) (.skip))))
  (.seq (.ops [⟨.mov (.tmp 1), some 12, none⟩,
    ⟨.call 111 [.tmp 2, .tmp 12], some 13, none⟩,
    ⟨.call 84 [.tmp 13], some 14, none⟩,
    ⟨.ext (.tmp 14) 0, some 15, none⟩,
    ⟨.ext (.tmp 14) 1, some 16, none⟩,
    ⟨.mov (.tmp 15), some 4, none⟩,
    ⟨.mov (.tmp 16), some 5, none⟩])
  (.ret)))⟩
theorem ok_impl_SettledHead : cmpF Try.prog Try.f62 = some c_impl_SettledHead := by kernel_rfl

end Go.Proofs.Ytbhipkiiondgnaa

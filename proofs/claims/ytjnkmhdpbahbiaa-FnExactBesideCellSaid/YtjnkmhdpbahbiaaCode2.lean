/- The code of the Go functions in the generator's own form, printed by a program of mine (gen.py) out of the loaded program; each with the check that it is so. -/
import Derived.Test.YtjnkmhdpbahbiaaVcFn
import Derived.Test.YtjnkmhdpbahbiaaGeo
import Derived.Test.YtjnkmhdpbahbiaaRows
import Derived.KernelRfl
namespace Go.Proofs.Ytjnkmhdpbahbiaa
open Go Go.Fl Go.Vc
set_option linter.all false
set_option maxRecDepth 100000

/- spec.ChangesBetween -/
def c_spec_ChangesBetween : FV := ⟨23, [.cell 4 (some 64), .tmp 5],
  .seq (.ops [⟨.box 34 (.tmp 0), some 2, none⟩,
    ⟨.box 34 (.tmp 1), some 3, none⟩,
    ⟨.alloc 25 (.agg (fcells fz)), some 4, none⟩,
    ⟨.mov (.const (.int .i64 0)), some 5, none⟩])
  (.seq (.seq (.ops [⟨.call 92 [.tmp 2], some 8, none⟩,
    ⟨.un .not (.tmp 8), some 9, none⟩,
    ⟨.mov (.tmp 9), some 10, none⟩,
    ⟨.call 92 [.tmp 3], some 11, some (10, false)⟩,
    ⟨.un .not (.tmp 11), some 12, some (10, false)⟩,
    ⟨.pick (.tmp 10) (.const (.bool true)) (.tmp 12), some 13, none⟩])
  (.cond (.tmp 13) (.seq (.ops [⟨.buildA 1 (fcells fz) [], some 14, none⟩,
    ⟨.store 64 (.tmp 4) (.tmp 14), none, none⟩,
    ⟨.mov (.const (.int .i64 1)), some 5, none⟩])
  (.ret)) (.skip)))
  (.seq (.ops [⟨.call 98 [.tmp 2, .tmp 3], some 16, none⟩,
    ⟨.mov (.tmp 16), some 15, none⟩,
    ⟨.ext (.tmp 15) 0, some 17, none⟩,
    ⟨.ext (.tmp 15) 1, some 18, none⟩,
    ⟨.alloc 25 (.agg (fcells fz)), some 6, none⟩,
    ⟨.store 64 (.tmp 6) (.tmp 17), none, none⟩,
    ⟨.mov (.tmp 18), some 7, none⟩])
  (.seq (.seq (.ops [⟨.mov (.tmp 7), some 19, none⟩,
    ⟨.un .not (.tmp 19), some 20, none⟩])
  (.cond (.tmp 20) (.seq (.ops [⟨.buildA 1 (fcells fz) [], some 21, none⟩,
    ⟨.store 64 (.tmp 4) (.tmp 21), none, none⟩,
    ⟨.mov (.const (.int .i64 4)), some 5, none⟩])
  (.ret)) (.skip)))
  (.seq (.ops [⟨.load (some 64) (.tmp 6), some 22, none⟩,
    ⟨.store 64 (.tmp 4) (.tmp 22), none, none⟩,
    ⟨.mov (.const (.int .i64 0)), some 5, none⟩])
  (.ret)))))⟩
theorem ok_spec_ChangesBetween : cmpF Try.prog Try.f48 = some c_spec_ChangesBetween := by kernel_rfl

/- impl.ChangesBetween -/
def c_impl_ChangesBetween : FV := ⟨59, [.cell 4 (some 64), .tmp 5],
  .seq (.ops [⟨.box 34 (.tmp 0), some 2, none⟩,
    ⟨.box 34 (.tmp 1), some 3, none⟩,
    ⟨.alloc 25 (.agg (fcells fz)), some 4, none⟩,
    ⟨.mov (.const (.int .i64 0)), some 5, none⟩])
  (.seq (.block 0 (.seq (.ops [⟨.load (some 195) (.tmp 2), some 10, none⟩,
    ⟨.call 40 [.tmp 10], some 11, none⟩,
    ⟨.un .not (.tmp 11), some 12, none⟩,
    ⟨.mov (.tmp 12), some 13, none⟩,
    ⟨.load (some 195) (.tmp 3), some 14, some (13, false)⟩,
    ⟨.call 40 [.tmp 14], some 15, some (13, false)⟩,
    ⟨.un .not (.tmp 15), some 16, some (13, false)⟩,
    ⟨.pick (.tmp 13) (.const (.bool true)) (.tmp 16), some 17, none⟩,
    ⟨.mov (.tmp 17), some 9, none⟩])
  (.cond (.tmp 9) (.seq (.ops [⟨.buildA 1 (fcells fz) [], some 18, none⟩,
    ⟨.store 64 (.tmp 4) (.tmp 18), none, none⟩,
    ⟨.mov (.const (.int .i64 1)), some 5, none⟩])
  (.ret)) (.seq (.ops [⟨.addr (.tmp 2) 0, some 20, none⟩,
    ⟨.load none (.tmp 20), some 21, none⟩,
    ⟨.addr (.tmp 3) 0, some 22, none⟩,
    ⟨.load none (.tmp 22), some 23, none⟩,
    ⟨.bin .neq (.tmp 21) (.tmp 23), some 24, none⟩,
    ⟨.mov (.tmp 24), some 25, none⟩,
    ⟨.addr (.tmp 2) 1, some 26, some (25, false)⟩,
    ⟨.load none (.tmp 26), some 27, some (25, false)⟩,
    ⟨.addr (.tmp 3) 1, some 28, some (25, false)⟩,
    ⟨.load none (.tmp 28), some 29, some (25, false)⟩,
    ⟨.bin .neq (.tmp 27) (.tmp 29), some 30, some (25, false)⟩,
    ⟨.pick (.tmp 25) (.const (.bool true)) (.tmp 30), some 31, none⟩,
    ⟨.mov (.tmp 31), some 19, none⟩])
  (.cond (.tmp 19) (.seq (.ops [⟨.buildA 1 (fcells fz) [], some 32, none⟩,
    ⟨.store 64 (.tmp 4) (.tmp 32), none, none⟩,
    ⟨.mov (.const (.int .i64 4)), some 5, none⟩])
  (.ret)) (.skip))))))
  (.seq (.ops [⟨.buildA 1 (fcells fz) [], some 33, none⟩,
    ⟨.alloc 25 (.agg (fcells fz)), some 6, none⟩,
    ⟨.store 64 (.tmp 6) (.tmp 33), none, none⟩])
  (.seq (.seq (.ops [⟨.call 91 [.tmp 2], some 34, none⟩,
    ⟨.lenL (.tmp 34), some 35, none⟩,
    ⟨.mov (.const (.int .i64 0)), some 36, none⟩])
  (.block 1 (.loop (.seq (.ops [⟨.bin .lss (.tmp 36) (.tmp 35), some 37, none⟩])
  (.seq (.cond (.tmp 37) (.skip) (.exit 1))
  (.seq (.block 2 (.seq (.ops [⟨.idxS 1 (.tmp 34) (.tmp 36), some 38, none⟩,
    ⟨.load none (.tmp 38), some 39, none⟩,
    ⟨.mov (.tmp 39), some 8, none⟩])
  (.seq (.bops [⟨.mov (.tmp 8), some 40, none⟩,
    ⟨.mov (.tmp 8), some 41, none⟩,
    ⟨.addr (.tmp 3) 130, some 42, none⟩,
    ⟨.idxA 64 1 (.tmp 42) (.tmp 41), some 43, none⟩,
    ⟨.load none (.tmp 43), some 44, none⟩,
    ⟨.mov (.tmp 8), some 45, none⟩,
    ⟨.addr (.tmp 2) 130, some 46, none⟩,
    ⟨.idxA 64 1 (.tmp 46) (.tmp 45), some 47, none⟩,
    ⟨.load none (.tmp 47), some 48, none⟩,
    ⟨.fbin .sub (.tmp 44) (.tmp 48), some 49, none⟩,
    ⟨.idxA 64 1 (.tmp 6) (.tmp 40), some 50, none⟩,
    ⟨.store 1 (.tmp 50) (.tmp 49), none, none⟩])
  (.seq (.ops [⟨.mov (.tmp 8), some 51, none⟩,
    ⟨.idxA 64 1 (.tmp 6) (.tmp 51), some 52, none⟩,
    ⟨.load none (.tmp 52), some 53, none⟩,
    ⟨.call 99 [.tmp 53], some 54, none⟩,
    ⟨.un .not (.tmp 54), some 55, none⟩])
  (.cond (.tmp 55) (.seq (.ops [⟨.buildA 1 (fcells fz) [], some 56, none⟩,
    ⟨.store 64 (.tmp 4) (.tmp 56), none, none⟩,
    ⟨.mov (.const (.int .i64 4)), some 5, none⟩])
  (.ret)) (.skip))))))
  (.ops [⟨.bin .add (.tmp 36) (.const (.int .i64 1)), some 57, none⟩,
    ⟨.mov (.tmp 57), some 36, none⟩])))))))
  (.seq (.ops [⟨.load (some 64) (.tmp 6), some 58, none⟩,
    ⟨.store 64 (.tmp 4) (.tmp 58), none, none⟩,
    ⟨.mov (.const (.int .i64 0)), some 5, none⟩])
  (.ret)))))⟩
theorem ok_impl_ChangesBetween : cmpF Try.prog Try.f49 = some c_impl_ChangesBetween := by kernel_rfl

/- laws.eqField -/
def c_laws_eqField : FV := ⟨20, [.tmp 4],
  .seq (.ops [⟨.box 25 (.tmp 0), some 2, none⟩,
    ⟨.box 25 (.tmp 1), some 3, none⟩,
    ⟨.mov (.const (.bool false)), some 4, none⟩])
  (.seq (.seq (.ops [⟨.mov (.const (.int .i64 0)), some 5, none⟩])
  (.block 0 (.loop (.seq (.seq (.ops [⟨.mov (.tmp 5), some 6, none⟩,
    ⟨.bin .lss (.tmp 6) (.const (.int .i64 64)), some 7, none⟩])
  (.cond (.tmp 7) (.skip) (.exit 0)))
  (.seq (.block 1 (.seq (.dops [⟨.mov (.tmp 5), some 10, none⟩,
    ⟨.idxA 64 1 (.tmp 2) (.tmp 10), some 11, none⟩,
    ⟨.load none (.tmp 11), some 12, none⟩,
    ⟨.convF .f64 (.tmp 12), some 13, none⟩,
    ⟨.mov (.tmp 5), some 14, none⟩,
    ⟨.idxA 64 1 (.tmp 3) (.tmp 14), some 15, none⟩,
    ⟨.load none (.tmp 15), some 16, none⟩,
    ⟨.convF .f64 (.tmp 16), some 17, none⟩,
    ⟨.call 47 [.tmp 13, .tmp 17], some 18, none⟩,
    ⟨.un .not (.tmp 18), some 19, none⟩])
  (.cond (.tmp 19) (.seq (.ops [⟨.mov (.const (.bool false)), some 4, none⟩])
  (.ret)) (.skip))))
  (.ops [⟨.mov (.tmp 5), some 8, none⟩,
    ⟨.bin .add (.tmp 8) (.const (.int .i64 1)), some 9, none⟩,
    ⟨.mov (.tmp 9), some 5, none⟩]))))))
  (.seq (.ops [⟨.mov (.const (.bool true)), some 4, none⟩])
  (.ret)))⟩
theorem ok_laws_eqField : cmpF Try.prog Try.f50 = some c_laws_eqField := by kernel_rfl

/- spec.SumOver -/
def c_spec_SumOver : FV := ⟨14, [.tmp 4, .tmp 5],
  .seq (.ops [⟨.box 34 (.tmp 0), some 2, none⟩,
    ⟨.box 25 (.tmp 1), some 3, none⟩,
    ⟨.mov (.const (.float .f32 0)), some 4, none⟩,
    ⟨.mov (.const (.int .i64 0)), some 5, none⟩])
  (.seq (.seq (.ops [⟨.call 92 [.tmp 2], some 7, none⟩,
    ⟨.un .not (.tmp 7), some 8, none⟩])
  (.cond (.tmp 8) (.seq (.ops [⟨.mov (.const (.float .f32 0)), some 4, none⟩,
    ⟨.mov (.const (.int .i64 1)), some 5, none⟩])
  (.ret)) (.skip)))
  (.seq (.ops [⟨.call 100 [.tmp 2, .tmp 3], some 9, none⟩,
    ⟨.mov (.tmp 9), some 6, none⟩])
  (.seq (.seq (.ops [⟨.mov (.tmp 6), some 10, none⟩,
    ⟨.call 101 [.tmp 10], some 11, none⟩,
    ⟨.un .not (.tmp 11), some 12, none⟩])
  (.cond (.tmp 12) (.seq (.ops [⟨.mov (.const (.float .f32 0)), some 4, none⟩,
    ⟨.mov (.const (.int .i64 4)), some 5, none⟩])
  (.ret)) (.skip)))
  (.seq (.ops [⟨.mov (.tmp 6), some 13, none⟩,
    ⟨.mov (.tmp 13), some 4, none⟩,
    ⟨.mov (.const (.int .i64 0)), some 5, none⟩])
  (.ret)))))⟩
theorem ok_spec_SumOver : cmpF Try.prog Try.f51 = some c_spec_SumOver := by kernel_rfl

/- impl.SumOver -/
def c_impl_SumOver : FV := ⟨15, [.tmp 4, .tmp 5],
  .seq (.ops [⟨.box 34 (.tmp 0), some 2, none⟩,
    ⟨.box 25 (.tmp 1), some 3, none⟩,
    ⟨.mov (.const (.float .f32 0)), some 4, none⟩,
    ⟨.mov (.const (.int .i64 0)), some 5, none⟩])
  (.seq (.seq (.ops [⟨.load (some 195) (.tmp 2), some 6, none⟩,
    ⟨.call 40 [.tmp 6], some 7, none⟩,
    ⟨.un .not (.tmp 7), some 8, none⟩])
  (.cond (.tmp 8) (.seq (.ops [⟨.mov (.const (.float .f32 0)), some 4, none⟩,
    ⟨.mov (.const (.int .i64 1)), some 5, none⟩])
  (.ret)) (.skip)))
  (.seq (.ops [⟨.call 91 [.tmp 2], some 9, none⟩,
    ⟨.call 97 [.tmp 9, .tmp 3], some 10, none⟩,
    ⟨.call 103 [.tmp 10], some 11, none⟩,
    ⟨.call 102 [.tmp 11], some 12, none⟩,
    ⟨.ext (.tmp 12) 0, some 13, none⟩,
    ⟨.ext (.tmp 12) 1, some 14, none⟩,
    ⟨.mov (.tmp 13), some 4, none⟩,
    ⟨.mov (.tmp 14), some 5, none⟩])
  (.ret)))⟩
theorem ok_impl_SumOver : cmpF Try.prog Try.f52 = some c_impl_SumOver := by kernel_rfl

/- spec.WarmUp -/
def c_spec_WarmUp : FV := ⟨30, [.cell 4 (some 195), .tmp 5],
  .seq (.ops [⟨.box 34 (.tmp 0), some 2, none⟩,
    ⟨.alloc 34 (.agg (gcells gz)), some 4, none⟩,
    ⟨.mov (.const (.int .i64 0)), some 5, none⟩])
  (.seq (.seq (.ops [⟨.call 92 [.tmp 2], some 7, none⟩,
    ⟨.un .not (.tmp 7), some 8, none⟩])
  (.cond (.tmp 8) (.seq (.ops [⟨.build [(0, 1), (1, 1), (2, 64), (66, 64), (130, 64), (194, 1)] (gcells gz) [], some 9, none⟩,
    ⟨.store 195 (.tmp 4) (.tmp 9), none, none⟩,
    ⟨.mov (.const (.int .i64 1)), some 5, none⟩])
  (.ret)) (.skip)))
  (.seq (.seq (.ops [⟨.mov (.tmp 1), some 10, none⟩,
    ⟨.call 85 [.tmp 10], some 11, none⟩,
    ⟨.un .not (.tmp 11), some 12, none⟩])
  (.cond (.tmp 12) (.seq (.ops [⟨.build [(0, 1), (1, 1), (2, 64), (66, 64), (130, 64), (194, 1)] (gcells gz) [], some 13, none⟩,
    ⟨.store 195 (.tmp 4) (.tmp 13), none, none⟩,
    ⟨.mov (.const (.int .i64 2)), some 5, none⟩])
  (.ret)) (.skip)))
  (.seq (.seq (.ops [⟨.mov (.const (.int .i64 0)), some 6, none⟩])
  (.block 0 (.loop (.seq (.seq (.ops [⟨.mov (.tmp 6), some 14, none⟩,
    ⟨.bin .lss (.tmp 14) (.const (.int .i64 64)), some 15, none⟩])
  (.cond (.tmp 15) (.skip) (.exit 0)))
  (.seq (.block 1 (.seq (.ops [⟨.mov (.tmp 6), some 18, none⟩,
    ⟨.call 87 [.tmp 2, .tmp 18], some 19, none⟩,
    ⟨.mov (.tmp 19), some 20, none⟩,
    ⟨.mov (.tmp 6), some 21, some (20, true)⟩,
    ⟨.call 104 [.tmp 2, .tmp 21], some 22, some (20, true)⟩,
    ⟨.un .not (.tmp 22), some 23, some (20, true)⟩,
    ⟨.pick (.tmp 20) (.tmp 23) (.const (.bool false)), some 24, none⟩])
  (.cond (.tmp 24) (.ops [⟨.mov (.tmp 6), some 25, none⟩,
    ⟨.mov (.tmp 1), some 26, none⟩,
    ⟨.addr (.tmp 2) 130, some 27, none⟩,
    ⟨.idxA 64 1 (.tmp 27) (.tmp 25), some 28, none⟩,
    ⟨.store 1 (.tmp 28) (.tmp 26), none, none⟩]) (.skip))))
  (.ops [⟨.mov (.tmp 6), some 16, none⟩,
    ⟨.bin .add (.tmp 16) (.const (.int .i64 1)), some 17, none⟩,
    ⟨.mov (.tmp 17), some 6, none⟩]))))))
  (.seq (.ops [⟨.load (some 195) (.tmp 2), some 29, none⟩,
    ⟨.store 195 (.tmp 4) (.tmp 29), none, none⟩,
    ⟨.mov (.const (.int .i64 0)), some 5, none⟩])
  (.ret)))))⟩
theorem ok_spec_WarmUp : cmpF Try.prog Try.f53 = some c_spec_WarmUp := by kernel_rfl

/- impl.WarmUp -/
def c_impl_WarmUp : FV := ⟨33, [.cell 4 (some 195), .tmp 5],
  .seq (.ops [⟨.box 34 (.tmp 0), some 2, none⟩,
    ⟨.alloc 34 (.agg (gcells gz)), some 4, none⟩,
    ⟨.mov (.const (.int .i64 0)), some 5, none⟩])
  (.seq (.block 0 (.seq (.ops [⟨.load (some 195) (.tmp 2), some 9, none⟩,
    ⟨.call 40 [.tmp 9], some 10, none⟩,
    ⟨.un .not (.tmp 10), some 11, none⟩,
    ⟨.mov (.tmp 11), some 8, none⟩])
  (.cond (.tmp 8) (.seq (.ops [⟨.build [(0, 1), (1, 1), (2, 64), (66, 64), (130, 64), (194, 1)] (gcells gz) [], some 12, none⟩,
    ⟨.store 195 (.tmp 4) (.tmp 12), none, none⟩,
    ⟨.mov (.const (.int .i64 1)), some 5, none⟩])
  (.ret)) (.seq (.ops [⟨.mov (.tmp 1), some 14, none⟩,
    ⟨.call 89 [.tmp 14], some 15, none⟩,
    ⟨.un .not (.tmp 15), some 16, none⟩,
    ⟨.mov (.tmp 16), some 13, none⟩])
  (.cond (.tmp 13) (.seq (.ops [⟨.build [(0, 1), (1, 1), (2, 64), (66, 64), (130, 64), (194, 1)] (gcells gz) [], some 17, none⟩,
    ⟨.store 195 (.tmp 4) (.tmp 17), none, none⟩,
    ⟨.mov (.const (.int .i64 2)), some 5, none⟩])
  (.ret)) (.skip))))))
  (.seq (.seq (.ops [⟨.call 91 [.tmp 2], some 18, none⟩,
    ⟨.lenL (.tmp 18), some 19, none⟩,
    ⟨.mov (.const (.int .i64 0)), some 20, none⟩])
  (.block 1 (.loop (.seq (.ops [⟨.bin .lss (.tmp 20) (.tmp 19), some 21, none⟩])
  (.seq (.cond (.tmp 21) (.skip) (.exit 1))
  (.seq (.block 2 (.seq (.ops [⟨.idxS 1 (.tmp 18) (.tmp 20), some 22, none⟩,
    ⟨.load none (.tmp 22), some 23, none⟩,
    ⟨.mov (.tmp 23), some 7, none⟩])
  (.seq (.ops [⟨.mov (.tmp 7), some 24, none⟩,
    ⟨.call 105 [.tmp 2, .tmp 24], some 25, none⟩,
    ⟨.un .not (.tmp 25), some 26, none⟩])
  (.cond (.tmp 26) (.ops [⟨.mov (.tmp 7), some 27, none⟩,
    ⟨.mov (.tmp 1), some 28, none⟩,
    ⟨.addr (.tmp 2) 130, some 29, none⟩,
    ⟨.idxA 64 1 (.tmp 29) (.tmp 27), some 30, none⟩,
    ⟨.store 1 (.tmp 30) (.tmp 28), none, none⟩]) (.skip)))))
  (.ops [⟨.bin .add (.tmp 20) (.const (.int .i64 1)), some 31, none⟩,
    ⟨.mov (.tmp 31), some 20, none⟩])))))))
  (.seq (.ops [⟨.load (some 195) (.tmp 2), some 32, none⟩,
    ⟨.store 195 (.tmp 4) (.tmp 32), none, none⟩,
    ⟨.mov (.const (.int .i64 0)), some 5, none⟩])
  (.ret))))⟩
theorem ok_impl_WarmUp : cmpF Try.prog Try.f54 = some c_impl_WarmUp := by kernel_rfl

/- spec.MirrorGround -/
def c_spec_MirrorGround : FV := ⟨66, [.cell 2 (some 195), .tmp 3],
  .seq (.ops [⟨.box 34 (.tmp 0), some 1, none⟩,
    ⟨.alloc 34 (.agg (gcells gz)), some 2, none⟩,
    ⟨.mov (.const (.int .i64 0)), some 3, none⟩])
  (.seq (.seq (.ops [⟨.call 92 [.tmp 1], some 7, none⟩,
    ⟨.un .not (.tmp 7), some 8, none⟩])
  (.cond (.tmp 8) (.seq (.ops [⟨.build [(0, 1), (1, 1), (2, 64), (66, 64), (130, 64), (194, 1)] (gcells gz) [], some 9, none⟩,
    ⟨.store 195 (.tmp 2) (.tmp 9), none, none⟩,
    ⟨.mov (.const (.int .i64 1)), some 3, none⟩])
  (.ret)) (.skip)))
  (.seq (.ops [⟨.load (some 195) (.tmp 1), some 10, none⟩,
    ⟨.alloc 34 (.agg (gcells gz)), some 4, none⟩,
    ⟨.store 195 (.tmp 4) (.tmp 10), none, none⟩])
  (.seq (.ops [⟨.addr (.tmp 4) 194, some 11, none⟩,
    ⟨.store 1 (.tmp 11) (.const (.int .u64 0)), none, none⟩])
  (.seq (.seq (.ops [⟨.mov (.const (.int .i64 0)), some 5, none⟩])
  (.block 0 (.loop (.seq (.seq (.ops [⟨.mov (.tmp 5), some 12, none⟩,
    ⟨.bin .lss (.tmp 12) (.const (.int .i64 64)), some 13, none⟩])
  (.cond (.tmp 13) (.skip) (.exit 0)))
  (.seq (.block 1 (.seq (.seq (.ops [⟨.mov (.tmp 5), some 16, none⟩,
    ⟨.call 87 [.tmp 1, .tmp 16], some 17, none⟩,
    ⟨.un .not (.tmp 17), some 18, none⟩])
  (.cond (.tmp 18) (.exit 1) (.skip)))
  (.seq (.ops [⟨.mov (.tmp 5), some 19, none⟩,
    ⟨.mov (.tmp 5), some 20, none⟩,
    ⟨.bin .rem (.tmp 20) (.const (.int .i64 8)), some 21, none⟩,
    ⟨.bin .sub (.tmp 19) (.tmp 21), some 22, none⟩,
    ⟨.addr (.tmp 1) 0, some 23, none⟩,
    ⟨.load none (.tmp 23), some 24, none⟩,
    ⟨.convI .i64 (.tmp 24), some 25, none⟩,
    ⟨.bin .add (.tmp 22) (.tmp 25), some 26, none⟩,
    ⟨.bin .sub (.tmp 26) (.const (.int .i64 1)), some 27, none⟩,
    ⟨.mov (.tmp 5), some 28, none⟩,
    ⟨.bin .rem (.tmp 28) (.const (.int .i64 8)), some 29, none⟩,
    ⟨.bin .sub (.tmp 27) (.tmp 29), some 30, none⟩,
    ⟨.mov (.tmp 30), some 6, none⟩])
  (.seq (.ops [⟨.mov (.tmp 6), some 31, none⟩,
    ⟨.mov (.tmp 5), some 32, none⟩,
    ⟨.addr (.tmp 1) 2, some 33, none⟩,
    ⟨.idxA 64 1 (.tmp 33) (.tmp 32), some 34, none⟩,
    ⟨.load none (.tmp 34), some 35, none⟩,
    ⟨.addr (.tmp 4) 2, some 36, none⟩,
    ⟨.idxA 64 1 (.tmp 36) (.tmp 31), some 37, none⟩,
    ⟨.store 1 (.tmp 37) (.tmp 35), none, none⟩])
  (.seq (.ops [⟨.mov (.tmp 6), some 38, none⟩,
    ⟨.mov (.tmp 5), some 39, none⟩,
    ⟨.addr (.tmp 1) 66, some 40, none⟩,
    ⟨.idxA 64 1 (.tmp 40) (.tmp 39), some 41, none⟩,
    ⟨.load none (.tmp 41), some 42, none⟩,
    ⟨.addr (.tmp 4) 66, some 43, none⟩,
    ⟨.idxA 64 1 (.tmp 43) (.tmp 38), some 44, none⟩,
    ⟨.store 1 (.tmp 44) (.tmp 42), none, none⟩])
  (.seq (.ops [⟨.mov (.tmp 6), some 45, none⟩,
    ⟨.mov (.tmp 5), some 46, none⟩,
    ⟨.addr (.tmp 1) 130, some 47, none⟩,
    ⟨.idxA 64 1 (.tmp 47) (.tmp 46), some 48, none⟩,
    ⟨.load none (.tmp 48), some 49, none⟩,
    ⟨.addr (.tmp 4) 130, some 50, none⟩,
    ⟨.idxA 64 1 (.tmp 50) (.tmp 45), some 51, none⟩,
    ⟨.store 1 (.tmp 51) (.tmp 49), none, none⟩])
  (.ops [⟨.addr (.tmp 4) 194, some 52, none⟩,
    ⟨.load none (.tmp 52), some 53, none⟩,
    ⟨.addr (.tmp 1) 194, some 54, none⟩,
    ⟨.load none (.tmp 54), some 55, none⟩,
    ⟨.mov (.tmp 5), some 56, none⟩,
    ⟨.convI .u64 (.tmp 56), some 57, none⟩,
    ⟨.bin .shr (.tmp 55) (.tmp 57), some 58, none⟩,
    ⟨.bin .rem (.tmp 58) (.const (.int .u64 2)), some 59, none⟩,
    ⟨.mov (.tmp 6), some 60, none⟩,
    ⟨.convI .u64 (.tmp 60), some 61, none⟩,
    ⟨.bin .shl (.tmp 59) (.tmp 61), some 62, none⟩,
    ⟨.bin .or (.tmp 53) (.tmp 62), some 63, none⟩,
    ⟨.addr (.tmp 4) 194, some 64, none⟩,
    ⟨.store 1 (.tmp 64) (.tmp 63), none, none⟩])))))))
  (.ops [⟨.mov (.tmp 5), some 14, none⟩,
    ⟨.bin .add (.tmp 14) (.const (.int .i64 1)), some 15, none⟩,
    ⟨.mov (.tmp 15), some 5, none⟩]))))))
  (.seq (.ops [⟨.load (some 195) (.tmp 4), some 65, none⟩,
    ⟨.store 195 (.tmp 2) (.tmp 65), none, none⟩,
    ⟨.mov (.const (.int .i64 0)), some 3, none⟩])
  (.ret))))))⟩
theorem ok_spec_MirrorGround : cmpF Try.prog Try.f55 = some c_spec_MirrorGround := by kernel_rfl

/- impl.MirrorGround -/
def c_impl_MirrorGround : FV := ⟨64, [.cell 2 (some 195), .tmp 3],
  .seq (.ops [⟨.box 34 (.tmp 0), some 1, none⟩,
    ⟨.alloc 34 (.agg (gcells gz)), some 2, none⟩,
    ⟨.mov (.const (.int .i64 0)), some 3, none⟩])
  (.seq (.seq (.ops [⟨.load (some 195) (.tmp 1), some 8, none⟩,
    ⟨.call 40 [.tmp 8], some 9, none⟩,
    ⟨.un .not (.tmp 9), some 10, none⟩])
  (.cond (.tmp 10) (.seq (.ops [⟨.build [(0, 1), (1, 1), (2, 64), (66, 64), (130, 64), (194, 1)] (gcells gz) [], some 11, none⟩,
    ⟨.store 195 (.tmp 2) (.tmp 11), none, none⟩,
    ⟨.mov (.const (.int .i64 1)), some 3, none⟩])
  (.ret)) (.skip)))
  (.seq (.ops [⟨.load (some 195) (.tmp 1), some 12, none⟩,
    ⟨.alloc 34 (.agg (gcells gz)), some 4, none⟩,
    ⟨.store 195 (.tmp 4) (.tmp 12), none, none⟩])
  (.seq (.ops [⟨.addr (.tmp 4) 194, some 13, none⟩,
    ⟨.store 1 (.tmp 13) (.const (.int .u64 0)), none, none⟩])
  (.seq (.seq (.ops [⟨.call 91 [.tmp 1], some 14, none⟩,
    ⟨.lenL (.tmp 14), some 15, none⟩,
    ⟨.mov (.const (.int .i64 0)), some 16, none⟩])
  (.block 0 (.loop (.seq (.ops [⟨.bin .lss (.tmp 16) (.tmp 15), some 17, none⟩])
  (.seq (.cond (.tmp 17) (.skip) (.exit 0))
  (.seq (.block 1 (.seq (.ops [⟨.idxS 1 (.tmp 14) (.tmp 16), some 18, none⟩,
    ⟨.load none (.tmp 18), some 19, none⟩,
    ⟨.mov (.tmp 19), some 6, none⟩])
  (.seq (.ops [⟨.mov (.tmp 6), some 20, none⟩,
    ⟨.mov (.tmp 6), some 21, none⟩,
    ⟨.bin .rem (.tmp 21) (.const (.int .i64 8)), some 22, none⟩,
    ⟨.bin .mul (.const (.int .i64 2)) (.tmp 22), some 23, none⟩,
    ⟨.bin .sub (.tmp 20) (.tmp 23), some 24, none⟩,
    ⟨.addr (.tmp 1) 0, some 25, none⟩,
    ⟨.load none (.tmp 25), some 26, none⟩,
    ⟨.convI .i64 (.tmp 26), some 27, none⟩,
    ⟨.bin .add (.tmp 24) (.tmp 27), some 28, none⟩,
    ⟨.bin .sub (.tmp 28) (.const (.int .i64 1)), some 29, none⟩,
    ⟨.mov (.tmp 29), some 7, none⟩])
  (.seq (.bops [⟨.mov (.tmp 7), some 30, none⟩,
    ⟨.mov (.tmp 7), some 31, none⟩,
    ⟨.mov (.tmp 7), some 32, none⟩,
    ⟨.mov (.tmp 6), some 33, none⟩,
    ⟨.addr (.tmp 1) 2, some 34, none⟩,
    ⟨.idxA 64 1 (.tmp 34) (.tmp 33), some 35, none⟩,
    ⟨.load none (.tmp 35), some 36, none⟩,
    ⟨.mov (.tmp 6), some 37, none⟩,
    ⟨.addr (.tmp 1) 66, some 38, none⟩,
    ⟨.idxA 64 1 (.tmp 38) (.tmp 37), some 39, none⟩,
    ⟨.load none (.tmp 39), some 40, none⟩,
    ⟨.mov (.tmp 6), some 41, none⟩,
    ⟨.addr (.tmp 1) 130, some 42, none⟩,
    ⟨.idxA 64 1 (.tmp 42) (.tmp 41), some 43, none⟩,
    ⟨.load none (.tmp 43), some 44, none⟩,
    ⟨.addr (.tmp 4) 2, some 45, none⟩,
    ⟨.idxA 64 1 (.tmp 45) (.tmp 30), some 46, none⟩,
    ⟨.store 1 (.tmp 46) (.tmp 36), none, none⟩,
    ⟨.addr (.tmp 4) 66, some 47, none⟩,
    ⟨.idxA 64 1 (.tmp 47) (.tmp 31), some 48, none⟩,
    ⟨.store 1 (.tmp 48) (.tmp 40), none, none⟩,
    ⟨.addr (.tmp 4) 130, some 49, none⟩,
    ⟨.idxA 64 1 (.tmp 49) (.tmp 32), some 50, none⟩,
    ⟨.store 1 (.tmp 50) (.tmp 44), none, none⟩])
  (.bops [⟨.addr (.tmp 4) 194, some 51, none⟩,
    ⟨.load none (.tmp 51), some 52, none⟩,
    ⟨.addr (.tmp 1) 194, some 53, none⟩,
    ⟨.load none (.tmp 53), some 54, none⟩,
    ⟨.mov (.tmp 6), some 55, none⟩,
    ⟨.bin .shr (.tmp 54) (.tmp 55), some 56, none⟩,
    ⟨.bin .and (.tmp 56) (.const (.int .u64 1)), some 57, none⟩,
    ⟨.mov (.tmp 7), some 58, none⟩,
    ⟨.bin .shl (.tmp 57) (.tmp 58), some 59, none⟩,
    ⟨.bin .or (.tmp 52) (.tmp 59), some 60, none⟩,
    ⟨.addr (.tmp 4) 194, some 61, none⟩,
    ⟨.store 1 (.tmp 61) (.tmp 60), none, none⟩])))))
  (.ops [⟨.bin .add (.tmp 16) (.const (.int .i64 1)), some 62, none⟩,
    ⟨.mov (.tmp 62), some 16, none⟩])))))))
  (.seq (.ops [⟨.load (some 195) (.tmp 4), some 63, none⟩,
    ⟨.store 195 (.tmp 2) (.tmp 63), none, none⟩,
    ⟨.mov (.const (.int .i64 0)), some 3, none⟩])
  (.ret))))))⟩
theorem ok_impl_MirrorGround : cmpF Try.prog Try.f56 = some c_impl_MirrorGround := by kernel_rfl

/- spec.WithConduct -/
def c_spec_WithConduct : FV := ⟨22, [.cell 6 (some 195), .tmp 7],
  .seq (.ops [⟨.box 34 (.tmp 0), some 3, none⟩,
    ⟨.alloc 34 (.agg (gcells gz)), some 6, none⟩,
    ⟨.mov (.const (.int .i64 0)), some 7, none⟩])
  (.seq (.seq (.ops [⟨.mov (.tmp 1), some 9, none⟩,
    ⟨.call 106 [.tmp 3, .tmp 9], some 10, none⟩,
    ⟨.mov (.tmp 10), some 8, none⟩])
  (.seq (.ops [⟨.mov (.tmp 8), some 11, none⟩,
    ⟨.bin .neq (.tmp 11) (.const (.int .i64 0)), some 12, none⟩])
  (.cond (.tmp 12) (.seq (.ops [⟨.build [(0, 1), (1, 1), (2, 64), (66, 64), (130, 64), (194, 1)] (gcells gz) [], some 13, none⟩,
    ⟨.mov (.tmp 8), some 14, none⟩,
    ⟨.store 195 (.tmp 6) (.tmp 13), none, none⟩,
    ⟨.mov (.tmp 14), some 7, none⟩])
  (.ret)) (.skip))))
  (.seq (.ops [⟨.mov (.tmp 1), some 15, none⟩,
    ⟨.mov (.tmp 2), some 16, none⟩,
    ⟨.addr (.tmp 3) 2, some 17, none⟩,
    ⟨.idxA 64 1 (.tmp 17) (.tmp 15), some 18, none⟩,
    ⟨.store 1 (.tmp 18) (.tmp 16), none, none⟩])
  (.seq (.ops [⟨.call 107 [.tmp 3], some 19, none⟩,
    ⟨.ext (.tmp 19) 0, some 20, none⟩,
    ⟨.ext (.tmp 19) 1, some 21, none⟩,
    ⟨.store 195 (.tmp 6) (.tmp 20), none, none⟩,
    ⟨.mov (.tmp 21), some 7, none⟩])
  (.ret))))⟩
theorem ok_spec_WithConduct : cmpF Try.prog Try.f57 = some c_spec_WithConduct := by kernel_rfl

/- impl.WithConduct -/
def c_impl_WithConduct : FV := ⟨14, [.cell 6 (some 195), .tmp 7],
  .seq (.ops [⟨.box 34 (.tmp 0), some 3, none⟩,
    ⟨.box 2 (.tmp 1), some 4, none⟩,
    ⟨.box 22 (.tmp 2), some 5, none⟩,
    ⟨.alloc 34 (.agg (gcells gz)), some 6, none⟩,
    ⟨.mov (.const (.int .i64 0)), some 7, none⟩])
  (.seq (.ops [⟨.load (some 195) (.tmp 3), some 8, none⟩,
    ⟨.load none (.tmp 4), some 9, none⟩,
    ⟨.mkfn 109 [] [.tmp 5, .tmp 4], some 10, none⟩,
    ⟨.call 108 [.tmp 8, .tmp 9, .tmp 10], some 11, none⟩,
    ⟨.ext (.tmp 11) 0, some 12, none⟩,
    ⟨.ext (.tmp 11) 1, some 13, none⟩,
    ⟨.store 195 (.tmp 6) (.tmp 12), none, none⟩,
    ⟨.mov (.tmp 13), some 7, none⟩])
  (.ret))⟩
theorem ok_impl_WithConduct : cmpF Try.prog Try.f58 = some c_impl_WithConduct := by kernel_rfl

/- spec.WithGain -/
def c_spec_WithGain : FV := ⟨22, [.cell 6 (some 195), .tmp 7],
  .seq (.ops [⟨.box 34 (.tmp 0), some 3, none⟩,
    ⟨.alloc 34 (.agg (gcells gz)), some 6, none⟩,
    ⟨.mov (.const (.int .i64 0)), some 7, none⟩])
  (.seq (.seq (.ops [⟨.mov (.tmp 1), some 9, none⟩,
    ⟨.call 106 [.tmp 3, .tmp 9], some 10, none⟩,
    ⟨.mov (.tmp 10), some 8, none⟩])
  (.seq (.ops [⟨.mov (.tmp 8), some 11, none⟩,
    ⟨.bin .neq (.tmp 11) (.const (.int .i64 0)), some 12, none⟩])
  (.cond (.tmp 12) (.seq (.ops [⟨.build [(0, 1), (1, 1), (2, 64), (66, 64), (130, 64), (194, 1)] (gcells gz) [], some 13, none⟩,
    ⟨.mov (.tmp 8), some 14, none⟩,
    ⟨.store 195 (.tmp 6) (.tmp 13), none, none⟩,
    ⟨.mov (.tmp 14), some 7, none⟩])
  (.ret)) (.skip))))
  (.seq (.ops [⟨.mov (.tmp 1), some 15, none⟩,
    ⟨.mov (.tmp 2), some 16, none⟩,
    ⟨.addr (.tmp 3) 66, some 17, none⟩,
    ⟨.idxA 64 1 (.tmp 17) (.tmp 15), some 18, none⟩,
    ⟨.store 1 (.tmp 18) (.tmp 16), none, none⟩])
  (.seq (.ops [⟨.call 107 [.tmp 3], some 19, none⟩,
    ⟨.ext (.tmp 19) 0, some 20, none⟩,
    ⟨.ext (.tmp 19) 1, some 21, none⟩,
    ⟨.store 195 (.tmp 6) (.tmp 20), none, none⟩,
    ⟨.mov (.tmp 21), some 7, none⟩])
  (.ret))))⟩
theorem ok_spec_WithGain : cmpF Try.prog Try.f59 = some c_spec_WithGain := by kernel_rfl

/- impl.WithGain -/
def c_impl_WithGain : FV := ⟨14, [.cell 6 (some 195), .tmp 7],
  .seq (.ops [⟨.box 34 (.tmp 0), some 3, none⟩,
    ⟨.box 2 (.tmp 1), some 4, none⟩,
    ⟨.box 22 (.tmp 2), some 5, none⟩,
    ⟨.alloc 34 (.agg (gcells gz)), some 6, none⟩,
    ⟨.mov (.const (.int .i64 0)), some 7, none⟩])
  (.seq (.ops [⟨.load (some 195) (.tmp 3), some 8, none⟩,
    ⟨.load none (.tmp 4), some 9, none⟩,
    ⟨.mkfn 110 [] [.tmp 5, .tmp 4], some 10, none⟩,
    ⟨.call 108 [.tmp 8, .tmp 9, .tmp 10], some 11, none⟩,
    ⟨.ext (.tmp 11) 0, some 12, none⟩,
    ⟨.ext (.tmp 11) 1, some 13, none⟩,
    ⟨.store 195 (.tmp 6) (.tmp 12), none, none⟩,
    ⟨.mov (.tmp 13), some 7, none⟩])
  (.ret))⟩
theorem ok_impl_WithGain : cmpF Try.prog Try.f60 = some c_impl_WithGain := by kernel_rfl

/- spec.WithHead -/
def c_spec_WithHead : FV := ⟨22, [.cell 6 (some 195), .tmp 7],
  .seq (.ops [⟨.box 34 (.tmp 0), some 3, none⟩,
    ⟨.alloc 34 (.agg (gcells gz)), some 6, none⟩,
    ⟨.mov (.const (.int .i64 0)), some 7, none⟩])
  (.seq (.seq (.ops [⟨.mov (.tmp 1), some 9, none⟩,
    ⟨.call 106 [.tmp 3, .tmp 9], some 10, none⟩,
    ⟨.mov (.tmp 10), some 8, none⟩])
  (.seq (.ops [⟨.mov (.tmp 8), some 11, none⟩,
    ⟨.bin .neq (.tmp 11) (.const (.int .i64 0)), some 12, none⟩])
  (.cond (.tmp 12) (.seq (.ops [⟨.build [(0, 1), (1, 1), (2, 64), (66, 64), (130, 64), (194, 1)] (gcells gz) [], some 13, none⟩,
    ⟨.mov (.tmp 8), some 14, none⟩,
    ⟨.store 195 (.tmp 6) (.tmp 13), none, none⟩,
    ⟨.mov (.tmp 14), some 7, none⟩])
  (.ret)) (.skip))))
  (.seq (.ops [⟨.mov (.tmp 1), some 15, none⟩,
    ⟨.mov (.tmp 2), some 16, none⟩,
    ⟨.addr (.tmp 3) 130, some 17, none⟩,
    ⟨.idxA 64 1 (.tmp 17) (.tmp 15), some 18, none⟩,
    ⟨.store 1 (.tmp 18) (.tmp 16), none, none⟩])
  (.seq (.ops [⟨.call 107 [.tmp 3], some 19, none⟩,
    ⟨.ext (.tmp 19) 0, some 20, none⟩,
    ⟨.ext (.tmp 19) 1, some 21, none⟩,
    ⟨.store 195 (.tmp 6) (.tmp 20), none, none⟩,
    ⟨.mov (.tmp 21), some 7, none⟩])
  (.ret))))⟩
theorem ok_spec_WithHead : cmpF Try.prog Try.f61 = some c_spec_WithHead := by kernel_rfl

/- impl.WithHead -/
def c_impl_WithHead : FV := ⟨14, [.cell 6 (some 195), .tmp 7],
  .seq (.ops [⟨.box 34 (.tmp 0), some 3, none⟩,
    ⟨.box 2 (.tmp 1), some 4, none⟩,
    ⟨.box 22 (.tmp 2), some 5, none⟩,
    ⟨.alloc 34 (.agg (gcells gz)), some 6, none⟩,
    ⟨.mov (.const (.int .i64 0)), some 7, none⟩])
  (.seq (.ops [⟨.load (some 195) (.tmp 3), some 8, none⟩,
    ⟨.load none (.tmp 4), some 9, none⟩,
    ⟨.mkfn 111 [] [.tmp 5, .tmp 4], some 10, none⟩,
    ⟨.call 108 [.tmp 8, .tmp 9, .tmp 10], some 11, none⟩,
    ⟨.ext (.tmp 11) 0, some 12, none⟩,
    ⟨.ext (.tmp 11) 1, some 13, none⟩,
    ⟨.store 195 (.tmp 6) (.tmp 12), none, none⟩,
    ⟨.mov (.tmp 13), some 7, none⟩])
  (.ret))⟩
theorem ok_impl_WithHead : cmpF Try.prog Try.f62 = some c_impl_WithHead := by kernel_rfl

/- spec.BesideCell -/
def c_spec_BesideCell : FV := ⟨22, [.tmp 6, .tmp 7],
  .seq (.ops [⟨.box 34 (.tmp 0), some 3, none⟩,
    ⟨.mov (.const (.int .i64 0)), some 6, none⟩,
    ⟨.mov (.const (.int .i64 0)), some 7, none⟩])
  (.seq (.seq (.ops [⟨.mov (.tmp 1), some 10, none⟩,
    ⟨.mov (.tmp 2), some 11, none⟩,
    ⟨.call 112 [.tmp 3, .tmp 10, .tmp 11], some 12, none⟩,
    ⟨.mov (.tmp 12), some 8, none⟩])
  (.seq (.ops [⟨.mov (.tmp 8), some 13, none⟩,
    ⟨.bin .neq (.tmp 13) (.const (.int .i64 0)), some 14, none⟩])
  (.cond (.tmp 14) (.seq (.ops [⟨.mov (.tmp 8), some 15, none⟩,
    ⟨.mov (.const (.int .i64 0)), some 6, none⟩,
    ⟨.mov (.tmp 15), some 7, none⟩])
  (.ret)) (.skip))))
  (.seq (.ops [⟨.mov (.tmp 1), some 16, none⟩,
    ⟨.mov (.tmp 2), some 17, none⟩,
    ⟨.call 113 [.tmp 3, .tmp 16, .tmp 17], some 18, none⟩,
    ⟨.mov (.tmp 18), some 9, none⟩])
  (.seq (.seq (.ops [⟨.mov (.tmp 9), some 19, none⟩,
    ⟨.bin .lss (.tmp 19) (.const (.int .i64 0)), some 20, none⟩])
  (.cond (.tmp 20) (.seq (.ops [⟨.mov (.const (.int .i64 0)), some 6, none⟩,
    ⟨.mov (.const (.int .i64 6)), some 7, none⟩])
  (.ret)) (.skip)))
  (.seq (.ops [⟨.mov (.tmp 9), some 21, none⟩,
    ⟨.mov (.tmp 21), some 6, none⟩,
    ⟨.mov (.const (.int .i64 0)), some 7, none⟩])
  (.ret)))))⟩
theorem ok_spec_BesideCell : cmpF Try.prog Try.f63 = some c_spec_BesideCell := by kernel_rfl

/- impl.BesideCell -/
def c_impl_BesideCell : FV := ⟨22, [.tmp 6, .tmp 7],
  .seq (.ops [⟨.box 34 (.tmp 0), some 3, none⟩,
    ⟨.mov (.const (.int .i64 0)), some 6, none⟩,
    ⟨.mov (.const (.int .i64 0)), some 7, none⟩])
  (.seq (.seq (.ops [⟨.mov (.tmp 1), some 10, none⟩,
    ⟨.mov (.tmp 2), some 11, none⟩,
    ⟨.call 114 [.tmp 3, .tmp 10, .tmp 11], some 12, none⟩,
    ⟨.mov (.tmp 12), some 8, none⟩])
  (.seq (.ops [⟨.mov (.tmp 8), some 13, none⟩,
    ⟨.bin .neq (.tmp 13) (.const (.int .i64 0)), some 14, none⟩])
  (.cond (.tmp 14) (.seq (.ops [⟨.mov (.tmp 8), some 15, none⟩,
    ⟨.mov (.const (.int .i64 0)), some 6, none⟩,
    ⟨.mov (.tmp 15), some 7, none⟩])
  (.ret)) (.skip))))
  (.seq (.ops [⟨.mov (.tmp 1), some 16, none⟩,
    ⟨.mov (.tmp 2), some 17, none⟩,
    ⟨.call 115 [.tmp 3, .tmp 16, .tmp 17], some 18, none⟩,
    ⟨.mov (.tmp 18), some 9, none⟩])
  (.seq (.seq (.ops [⟨.mov (.tmp 9), some 19, none⟩,
    ⟨.bin .lss (.tmp 19) (.const (.int .i64 0)), some 20, none⟩])
  (.cond (.tmp 20) (.seq (.ops [⟨.mov (.const (.int .i64 0)), some 6, none⟩,
    ⟨.mov (.const (.int .i64 6)), some 7, none⟩])
  (.ret)) (.skip)))
  (.seq (.ops [⟨.mov (.tmp 9), some 21, none⟩,
    ⟨.mov (.tmp 21), some 6, none⟩,
    ⟨.mov (.const (.int .i64 0)), some 7, none⟩])
  (.ret)))))⟩
theorem ok_impl_BesideCell : cmpF Try.prog Try.f64 = some c_impl_BesideCell := by kernel_rfl

/- spec.GreatestChange -/
def c_spec_GreatestChange : FV := ⟨42, [.tmp 4, .tmp 5, .tmp 6],
  .seq (.ops [⟨.box 34 (.tmp 0), some 2, none⟩,
    ⟨.box 34 (.tmp 1), some 3, none⟩,
    ⟨.mov (.const (.int .i64 0)), some 4, none⟩,
    ⟨.mov (.const (.float .f32 0)), some 5, none⟩,
    ⟨.mov (.const (.int .i64 0)), some 6, none⟩])
  (.seq (.ops [⟨.load (some 195) (.tmp 2), some 12, none⟩,
    ⟨.load (some 195) (.tmp 3), some 13, none⟩,
    ⟨.call 48 [.tmp 12, .tmp 13], some 14, none⟩,
    ⟨.mov (.tmp 14), some 11, none⟩,
    ⟨.ext (.tmp 11) 0, some 15, none⟩,
    ⟨.ext (.tmp 11) 1, some 16, none⟩,
    ⟨.alloc 25 (.agg (fcells fz)), some 7, none⟩,
    ⟨.store 64 (.tmp 7) (.tmp 15), none, none⟩,
    ⟨.mov (.tmp 16), some 8, none⟩])
  (.seq (.seq (.ops [⟨.mov (.tmp 8), some 17, none⟩,
    ⟨.bin .neq (.tmp 17) (.const (.int .i64 0)), some 18, none⟩])
  (.cond (.tmp 18) (.seq (.ops [⟨.mov (.tmp 8), some 19, none⟩,
    ⟨.mov (.const (.int .i64 0)), some 4, none⟩,
    ⟨.mov (.const (.float .f32 0)), some 5, none⟩,
    ⟨.mov (.tmp 19), some 6, none⟩])
  (.ret)) (.skip)))
  (.seq (.ops [⟨.mov (.const (.int .i64 0)), some 9, none⟩])
  (.seq (.seq (.ops [⟨.mov (.const (.int .i64 1)), some 10, none⟩])
  (.block 0 (.loop (.seq (.seq (.ops [⟨.mov (.tmp 10), some 20, none⟩,
    ⟨.bin .lss (.tmp 20) (.const (.int .i64 64)), some 21, none⟩])
  (.cond (.tmp 21) (.skip) (.exit 0)))
  (.seq (.block 1 (.seq (.dops [⟨.mov (.tmp 10), some 24, none⟩,
    ⟨.call 87 [.tmp 2, .tmp 24], some 25, none⟩,
    ⟨.mov (.tmp 25), some 26, none⟩,
    ⟨.mov (.tmp 10), some 27, some (26, true)⟩,
    ⟨.idxA 64 1 (.tmp 7) (.tmp 27), some 28, some (26, true)⟩,
    ⟨.load none (.tmp 28), some 29, some (26, true)⟩,
    ⟨.call 116 [.tmp 29], some 30, some (26, true)⟩,
    ⟨.mov (.tmp 9), some 31, some (26, true)⟩,
    ⟨.idxA 64 1 (.tmp 7) (.tmp 31), some 32, some (26, true)⟩,
    ⟨.load none (.tmp 32), some 33, some (26, true)⟩,
    ⟨.call 116 [.tmp 33], some 34, some (26, true)⟩,
    ⟨.fbin .gtr (.tmp 30) (.tmp 34), some 35, some (26, true)⟩,
    ⟨.pick (.tmp 26) (.tmp 35) (.const (.bool false)), some 36, none⟩])
  (.cond (.tmp 36) (.ops [⟨.mov (.tmp 10), some 37, none⟩,
    ⟨.mov (.tmp 37), some 9, none⟩]) (.skip))))
  (.ops [⟨.mov (.tmp 10), some 22, none⟩,
    ⟨.bin .add (.tmp 22) (.const (.int .i64 1)), some 23, none⟩,
    ⟨.mov (.tmp 23), some 10, none⟩]))))))
  (.seq (.bops [⟨.mov (.tmp 9), some 38, none⟩,
    ⟨.mov (.tmp 9), some 39, none⟩,
    ⟨.idxA 64 1 (.tmp 7) (.tmp 39), some 40, none⟩,
    ⟨.load none (.tmp 40), some 41, none⟩,
    ⟨.mov (.tmp 38), some 4, none⟩,
    ⟨.mov (.tmp 41), some 5, none⟩,
    ⟨.mov (.const (.int .i64 0)), some 6, none⟩])
  (.ret))))))⟩
theorem ok_spec_GreatestChange : cmpF Try.prog Try.f65 = some c_spec_GreatestChange := by kernel_rfl

/- impl.GreatestChange -/
def c_impl_GreatestChange : FV := ⟨25, [.tmp 4, .tmp 5, .tmp 6],
  .seq (.ops [⟨.box 34 (.tmp 0), some 2, none⟩,
    ⟨.box 34 (.tmp 1), some 3, none⟩,
    ⟨.mov (.const (.int .i64 0)), some 4, none⟩,
    ⟨.mov (.const (.float .f32 0)), some 5, none⟩,
    ⟨.mov (.const (.int .i64 0)), some 6, none⟩])
  (.seq (.ops [⟨.load (some 195) (.tmp 2), some 11, none⟩,
    ⟨.load (some 195) (.tmp 3), some 12, none⟩,
    ⟨.call 49 [.tmp 11, .tmp 12], some 13, none⟩,
    ⟨.mov (.tmp 13), some 10, none⟩,
    ⟨.ext (.tmp 10) 0, some 14, none⟩,
    ⟨.ext (.tmp 10) 1, some 15, none⟩,
    ⟨.alloc 25 (.agg (fcells fz)), some 7, none⟩,
    ⟨.store 64 (.tmp 7) (.tmp 14), none, none⟩,
    ⟨.mov (.tmp 15), some 8, none⟩])
  (.seq (.seq (.ops [⟨.mov (.tmp 8), some 16, none⟩,
    ⟨.bin .neq (.tmp 16) (.const (.int .i64 0)), some 17, none⟩])
  (.cond (.tmp 17) (.seq (.ops [⟨.mov (.tmp 8), some 18, none⟩,
    ⟨.mov (.const (.int .i64 0)), some 4, none⟩,
    ⟨.mov (.const (.float .f32 0)), some 5, none⟩,
    ⟨.mov (.tmp 18), some 6, none⟩])
  (.ret)) (.skip)))
  (.seq (.ops [⟨.call 91 [.tmp 2], some 19, none⟩,
    ⟨.call 117 [.tmp 19, .tmp 7], some 20, none⟩,
    ⟨.mov (.tmp 20), some 9, none⟩])
  (.seq (.bops [⟨.mov (.tmp 9), some 21, none⟩,
    ⟨.mov (.tmp 9), some 22, none⟩,
    ⟨.idxA 64 1 (.tmp 7) (.tmp 22), some 23, none⟩,
    ⟨.load none (.tmp 23), some 24, none⟩,
    ⟨.mov (.tmp 21), some 4, none⟩,
    ⟨.mov (.tmp 24), some 5, none⟩,
    ⟨.mov (.const (.int .i64 0)), some 6, none⟩])
  (.ret)))))⟩
theorem ok_impl_GreatestChange : cmpF Try.prog Try.f66 = some c_impl_GreatestChange := by kernel_rfl

/- spec.WithFixed -/
def c_spec_WithFixed : FV := ⟨33, [.cell 6 (some 195), .tmp 7],
  .seq (.ops [⟨.box 34 (.tmp 0), some 3, none⟩,
    ⟨.alloc 34 (.agg (gcells gz)), some 6, none⟩,
    ⟨.mov (.const (.int .i64 0)), some 7, none⟩])
  (.seq (.seq (.ops [⟨.mov (.tmp 1), some 10, none⟩,
    ⟨.call 106 [.tmp 3, .tmp 10], some 11, none⟩,
    ⟨.mov (.tmp 11), some 8, none⟩])
  (.seq (.ops [⟨.mov (.tmp 8), some 12, none⟩,
    ⟨.bin .neq (.tmp 12) (.const (.int .i64 0)), some 13, none⟩])
  (.cond (.tmp 13) (.seq (.ops [⟨.build [(0, 1), (1, 1), (2, 64), (66, 64), (130, 64), (194, 1)] (gcells gz) [], some 14, none⟩,
    ⟨.mov (.tmp 8), some 15, none⟩,
    ⟨.store 195 (.tmp 6) (.tmp 14), none, none⟩,
    ⟨.mov (.tmp 15), some 7, none⟩])
  (.ret)) (.skip))))
  (.seq (.ops [⟨.mov (.tmp 1), some 16, none⟩,
    ⟨.convI .u64 (.tmp 16), some 17, none⟩,
    ⟨.bin .shl (.const (.int .u64 1)) (.tmp 17), some 18, none⟩,
    ⟨.mov (.tmp 18), some 9, none⟩])
  (.seq (.ops [⟨.addr (.tmp 3) 194, some 19, none⟩,
    ⟨.load none (.tmp 19), some 20, none⟩,
    ⟨.mov (.tmp 9), some 21, none⟩,
    ⟨.bin .andNot (.tmp 20) (.tmp 21), some 22, none⟩,
    ⟨.addr (.tmp 3) 194, some 23, none⟩,
    ⟨.store 1 (.tmp 23) (.tmp 22), none, none⟩])
  (.seq (.seq (.ops [⟨.mov (.tmp 2), some 24, none⟩])
  (.cond (.tmp 24) (.ops [⟨.addr (.tmp 3) 194, some 25, none⟩,
    ⟨.load none (.tmp 25), some 26, none⟩,
    ⟨.mov (.tmp 9), some 27, none⟩,
    ⟨.bin .or (.tmp 26) (.tmp 27), some 28, none⟩,
    ⟨.addr (.tmp 3) 194, some 29, none⟩,
    ⟨.store 1 (.tmp 29) (.tmp 28), none, none⟩]) (.skip)))
  (.seq (.ops [⟨.call 107 [.tmp 3], some 30, none⟩,
    ⟨.ext (.tmp 30) 0, some 31, none⟩,
    ⟨.ext (.tmp 30) 1, some 32, none⟩,
    ⟨.store 195 (.tmp 6) (.tmp 31), none, none⟩,
    ⟨.mov (.tmp 32), some 7, none⟩])
  (.ret))))))⟩
theorem ok_spec_WithFixed : cmpF Try.prog Try.f67 = some c_spec_WithFixed := by kernel_rfl

/- impl.WithFixed -/
def c_impl_WithFixed : FV := ⟨14, [.cell 6 (some 195), .tmp 7],
  .seq (.ops [⟨.box 34 (.tmp 0), some 3, none⟩,
    ⟨.box 2 (.tmp 1), some 4, none⟩,
    ⟨.box 4 (.tmp 2), some 5, none⟩,
    ⟨.alloc 34 (.agg (gcells gz)), some 6, none⟩,
    ⟨.mov (.const (.int .i64 0)), some 7, none⟩])
  (.seq (.ops [⟨.load (some 195) (.tmp 3), some 8, none⟩,
    ⟨.load none (.tmp 4), some 9, none⟩,
    ⟨.mkfn 118 [] [.tmp 4, .tmp 5], some 10, none⟩,
    ⟨.call 108 [.tmp 8, .tmp 9, .tmp 10], some 11, none⟩,
    ⟨.ext (.tmp 11) 0, some 12, none⟩,
    ⟨.ext (.tmp 11) 1, some 13, none⟩,
    ⟨.store 195 (.tmp 6) (.tmp 12), none, none⟩,
    ⟨.mov (.tmp 13), some 7, none⟩])
  (.ret))⟩
theorem ok_impl_WithFixed : cmpF Try.prog Try.f68 = some c_impl_WithFixed := by kernel_rfl

end Go.Proofs.Ytjnkmhdpbahbiaa

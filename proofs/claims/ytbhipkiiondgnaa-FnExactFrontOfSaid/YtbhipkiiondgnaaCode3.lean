/- The code of the Go functions in the generator's own form, printed by a program of mine (gen.py) out of the loaded program; each with the check that it is so. -/
import Derived.Test.YtbhipkiiondgnaaVcFn
import Derived.Test.YtbhipkiiondgnaaGeo
import Derived.Test.YtbhipkiiondgnaaRows
import Derived.KernelRfl
namespace Go.Proofs.Ytbhipkiiondgnaa
open Go Go.Fl Go.Vc
set_option linter.all false
set_option maxRecDepth 100000

/- spec.l01SameGround -/
def c_spec_l01SameGround : FV := ⟨63, [.tmp 4],
  .seq (.ops [⟨.mov (.const (.bool false)), some 4, none⟩])
  (.seq (.ops [⟨.mov (.tmp 0), some 5, none⟩,
    ⟨.nilc (.tmp 5), some 6, none⟩,
    ⟨.addr (.tmp 6) 0, some 7, none⟩,
    ⟨.load none (.tmp 7), some 8, none⟩,
    ⟨.mov (.tmp 1), some 9, none⟩,
    ⟨.nilc (.tmp 9), some 10, none⟩,
    ⟨.addr (.tmp 10) 0, some 11, none⟩,
    ⟨.load none (.tmp 11), some 12, none⟩,
    ⟨.bin .eql (.tmp 8) (.tmp 12), some 13, none⟩,
    ⟨.mov (.tmp 13), some 14, none⟩,
    ⟨.mov (.tmp 0), some 15, some (14, true)⟩,
    ⟨.nilc (.tmp 15), some 16, some (14, true)⟩,
    ⟨.addr (.tmp 16) 1, some 17, some (14, true)⟩,
    ⟨.load none (.tmp 17), some 18, some (14, true)⟩,
    ⟨.mov (.tmp 1), some 19, some (14, true)⟩,
    ⟨.nilc (.tmp 19), some 20, some (14, true)⟩,
    ⟨.addr (.tmp 20) 1, some 21, some (14, true)⟩,
    ⟨.load none (.tmp 21), some 22, some (14, true)⟩,
    ⟨.bin .eql (.tmp 18) (.tmp 22), some 23, some (14, true)⟩,
    ⟨.pick (.tmp 14) (.tmp 23) (.const (.bool false)), some 24, none⟩,
    ⟨.mov (.tmp 24), some 25, none⟩,
    ⟨.mov (.tmp 0), some 26, some (25, true)⟩,
    ⟨.nilc (.tmp 26), some 27, some (25, true)⟩,
    ⟨.addr (.tmp 27) 194, some 28, some (25, true)⟩,
    ⟨.load none (.tmp 28), some 29, some (25, true)⟩,
    ⟨.mov (.tmp 1), some 30, some (25, true)⟩,
    ⟨.nilc (.tmp 30), some 31, some (25, true)⟩,
    ⟨.addr (.tmp 31) 194, some 32, some (25, true)⟩,
    ⟨.load none (.tmp 32), some 33, some (25, true)⟩,
    ⟨.bin .eql (.tmp 29) (.tmp 33), some 34, some (25, true)⟩,
    ⟨.pick (.tmp 25) (.tmp 34) (.const (.bool false)), some 35, none⟩,
    ⟨.mov (.tmp 35), some 36, none⟩,
    ⟨.mov (.tmp 0), some 37, some (36, true)⟩,
    ⟨.nilc (.tmp 37), some 38, some (36, true)⟩,
    ⟨.addr (.tmp 38) 2, some 39, some (36, true)⟩,
    ⟨.mov (.tmp 1), some 40, some (36, true)⟩,
    ⟨.nilc (.tmp 40), some 41, some (36, true)⟩,
    ⟨.addr (.tmp 41) 2, some 42, some (36, true)⟩,
    ⟨.call 64 [.tmp 39, .tmp 42], some 43, some (36, true)⟩,
    ⟨.pick (.tmp 36) (.tmp 43) (.const (.bool false)), some 44, none⟩,
    ⟨.mov (.tmp 44), some 45, none⟩,
    ⟨.mov (.tmp 0), some 46, some (45, true)⟩,
    ⟨.nilc (.tmp 46), some 47, some (45, true)⟩,
    ⟨.addr (.tmp 47) 66, some 48, some (45, true)⟩,
    ⟨.mov (.tmp 1), some 49, some (45, true)⟩,
    ⟨.nilc (.tmp 49), some 50, some (45, true)⟩,
    ⟨.addr (.tmp 50) 66, some 51, some (45, true)⟩,
    ⟨.call 64 [.tmp 48, .tmp 51], some 52, some (45, true)⟩,
    ⟨.pick (.tmp 45) (.tmp 52) (.const (.bool false)), some 53, none⟩,
    ⟨.mov (.tmp 53), some 54, none⟩,
    ⟨.mov (.tmp 0), some 55, some (54, true)⟩,
    ⟨.nilc (.tmp 55), some 56, some (54, true)⟩,
    ⟨.addr (.tmp 56) 130, some 57, some (54, true)⟩,
    ⟨.mov (.tmp 1), some 58, some (54, true)⟩,
    ⟨.nilc (.tmp 58), some 59, some (54, true)⟩,
    ⟨.addr (.tmp 59) 130, some 60, some (54, true)⟩,
    ⟨.call 64 [.tmp 57, .tmp 60], some 61, some (54, true)⟩,
    ⟨.pick (.tmp 54) (.tmp 61) (.const (.bool false)), some 62, none⟩,
    ⟨.mov (.tmp 62), some 4, none⟩])
  (.ret))⟩
theorem ok_spec_l01SameGround : cmpF Try.prog Try.f63 = some c_spec_l01SameGround := by kernel_rfl

/- spec.l01SameField -/
def c_spec_l01SameField : FV := ⟨22, [.tmp 4],
  .seq (.ops [⟨.mov (.const (.bool false)), some 4, none⟩])
  (.seq (.seq (.ops [⟨.mov (.const (.int .i64 0)), some 5, none⟩])
  (.block 0 (.loop (.seq (.seq (.ops [⟨.mov (.tmp 5), some 6, none⟩,
    ⟨.bin .lss (.tmp 6) (.const (.int .i64 64)), some 7, none⟩])
  (.cond (.tmp 7) (.skip) (.exit 0)))
  (.seq (.block 1 (.seq (.ops [⟨.mov (.tmp 0), some 10, none⟩,
    ⟨.mov (.tmp 5), some 11, none⟩,
    ⟨.nilc (.tmp 10), some 12, none⟩,
    ⟨.idxA 64 1 (.tmp 12) (.tmp 11), some 13, none⟩,
    ⟨.load none (.tmp 13), some 14, none⟩,
    ⟨.mov (.tmp 1), some 15, none⟩,
    ⟨.mov (.tmp 5), some 16, none⟩,
    ⟨.nilc (.tmp 15), some 17, none⟩,
    ⟨.idxA 64 1 (.tmp 17) (.tmp 16), some 18, none⟩,
    ⟨.load none (.tmp 18), some 19, none⟩,
    ⟨.call 65 [.tmp 14, .tmp 19], some 20, none⟩,
    ⟨.un .not (.tmp 20), some 21, none⟩])
  (.cond (.tmp 21) (.seq (.ops [⟨.mov (.const (.bool false)), some 4, none⟩])
  (.ret)) (.skip))))
  (.ops [⟨.mov (.tmp 5), some 8, none⟩,
    ⟨.bin .add (.tmp 8) (.const (.int .i64 1)), some 9, none⟩,
    ⟨.mov (.tmp 9), some 5, none⟩]))))))
  (.seq (.ops [⟨.mov (.const (.bool true)), some 4, none⟩])
  (.ret)))⟩
theorem ok_spec_l01SameField : cmpF Try.prog Try.f64 = some c_spec_l01SameField := by kernel_rfl

/- spec.l01Same -/
def c_spec_l01Same : FV := ⟨26, [.tmp 4],
  .seq (.ops [⟨.mov (.const (.bool false)), some 4, none⟩])
  (.seq (.seq (.ops [⟨.mov (.tmp 0), some 5, none⟩,
    ⟨.mov (.tmp 0), some 6, none⟩,
    ⟨.fbin .neq (.tmp 5) (.tmp 6), some 7, none⟩,
    ⟨.mov (.tmp 7), some 8, none⟩,
    ⟨.mov (.tmp 1), some 9, some (8, false)⟩,
    ⟨.mov (.tmp 1), some 10, some (8, false)⟩,
    ⟨.fbin .neq (.tmp 9) (.tmp 10), some 11, some (8, false)⟩,
    ⟨.pick (.tmp 8) (.const (.bool true)) (.tmp 11), some 12, none⟩])
  (.cond (.tmp 12) (.seq (.ops [⟨.mov (.tmp 0), some 13, none⟩,
    ⟨.mov (.tmp 0), some 14, none⟩,
    ⟨.fbin .neq (.tmp 13) (.tmp 14), some 15, none⟩,
    ⟨.mov (.tmp 15), some 16, none⟩,
    ⟨.mov (.tmp 1), some 17, some (16, true)⟩,
    ⟨.mov (.tmp 1), some 18, some (16, true)⟩,
    ⟨.fbin .neq (.tmp 17) (.tmp 18), some 19, some (16, true)⟩,
    ⟨.pick (.tmp 16) (.tmp 19) (.const (.bool false)), some 20, none⟩,
    ⟨.mov (.tmp 20), some 4, none⟩])
  (.ret)) (.skip)))
  (.seq (.ops [⟨.mov (.tmp 0), some 21, none⟩,
    ⟨.f32bits (.tmp 21), some 22, none⟩,
    ⟨.mov (.tmp 1), some 23, none⟩,
    ⟨.f32bits (.tmp 23), some 24, none⟩,
    ⟨.bin .eql (.tmp 22) (.tmp 24), some 25, none⟩,
    ⟨.mov (.tmp 25), some 4, none⟩])
  (.ret)))⟩
theorem ok_spec_l01Same : cmpF Try.prog Try.f65 = some c_spec_l01Same := by kernel_rfl

/- impl.SameGround -/
def c_impl_SameGround : FV := ⟨47, [.tmp 4],
  .seq (.ops [⟨.box 33 (.tmp 0), some 2, none⟩,
    ⟨.box 33 (.tmp 1), some 3, none⟩,
    ⟨.mov (.const (.bool false)), some 4, none⟩])
  (.seq (.ops [⟨.addr (.tmp 2) 2, some 6, none⟩,
    ⟨.load (some 64) (.tmp 6), some 7, none⟩,
    ⟨.addr (.tmp 3) 2, some 8, none⟩,
    ⟨.load (some 64) (.tmp 8), some 9, none⟩,
    ⟨.call 67 [.tmp 7, .tmp 9], some 10, none⟩,
    ⟨.mov (.tmp 10), some 11, none⟩,
    ⟨.addr (.tmp 2) 66, some 12, some (11, true)⟩,
    ⟨.load (some 64) (.tmp 12), some 13, some (11, true)⟩,
    ⟨.addr (.tmp 3) 66, some 14, some (11, true)⟩,
    ⟨.load (some 64) (.tmp 14), some 15, some (11, true)⟩,
    ⟨.call 67 [.tmp 13, .tmp 15], some 16, some (11, true)⟩,
    ⟨.pick (.tmp 11) (.tmp 16) (.const (.bool false)), some 17, none⟩,
    ⟨.mov (.tmp 17), some 18, none⟩,
    ⟨.addr (.tmp 2) 130, some 19, some (18, true)⟩,
    ⟨.load (some 64) (.tmp 19), some 20, some (18, true)⟩,
    ⟨.addr (.tmp 3) 130, some 21, some (18, true)⟩,
    ⟨.load (some 64) (.tmp 21), some 22, some (18, true)⟩,
    ⟨.call 67 [.tmp 20, .tmp 22], some 23, some (18, true)⟩,
    ⟨.pick (.tmp 18) (.tmp 23) (.const (.bool false)), some 24, none⟩,
    ⟨.mov (.tmp 24), some 5, none⟩])
  (.seq (.ops [⟨.addr (.tmp 2) 0, some 25, none⟩,
    ⟨.load none (.tmp 25), some 26, none⟩,
    ⟨.addr (.tmp 3) 0, some 27, none⟩,
    ⟨.load none (.tmp 27), some 28, none⟩,
    ⟨.bin .eql (.tmp 26) (.tmp 28), some 29, none⟩,
    ⟨.mov (.tmp 29), some 30, none⟩,
    ⟨.addr (.tmp 2) 1, some 31, some (30, true)⟩,
    ⟨.load none (.tmp 31), some 32, some (30, true)⟩,
    ⟨.addr (.tmp 3) 1, some 33, some (30, true)⟩,
    ⟨.load none (.tmp 33), some 34, some (30, true)⟩,
    ⟨.bin .eql (.tmp 32) (.tmp 34), some 35, some (30, true)⟩,
    ⟨.pick (.tmp 30) (.tmp 35) (.const (.bool false)), some 36, none⟩,
    ⟨.mov (.tmp 36), some 37, none⟩,
    ⟨.mov (.tmp 5), some 38, some (37, true)⟩,
    ⟨.pick (.tmp 37) (.tmp 38) (.const (.bool false)), some 39, none⟩,
    ⟨.mov (.tmp 39), some 40, none⟩,
    ⟨.addr (.tmp 2) 194, some 41, some (40, true)⟩,
    ⟨.load none (.tmp 41), some 42, some (40, true)⟩,
    ⟨.addr (.tmp 3) 194, some 43, some (40, true)⟩,
    ⟨.load none (.tmp 43), some 44, some (40, true)⟩,
    ⟨.bin .eql (.tmp 42) (.tmp 44), some 45, some (40, true)⟩,
    ⟨.pick (.tmp 40) (.tmp 45) (.const (.bool false)), some 46, none⟩,
    ⟨.mov (.tmp 46), some 4, none⟩])
  (.ret)))⟩
theorem ok_impl_SameGround : cmpF Try.prog Try.f66 = some c_impl_SameGround := by kernel_rfl

/- impl.SameField -/
def c_impl_SameField : FV := ⟨19, [.tmp 4],
  .seq (.ops [⟨.box 31 (.tmp 0), some 2, none⟩,
    ⟨.box 31 (.tmp 1), some 3, none⟩,
    ⟨.mov (.const (.bool false)), some 4, none⟩])
  (.seq (.seq (.ops [⟨.load (some 64) (.tmp 2), some 7, none⟩,
    ⟨.mov (.const (.int .i64 0)), some 8, none⟩])
  (.block 0 (.loop (.seq (.ops [⟨.bin .lss (.tmp 8) (.const (.int .i64 64)), some 9, none⟩])
  (.seq (.cond (.tmp 9) (.skip) (.exit 0))
  (.seq (.block 1 (.seq (.ops [⟨.mov (.tmp 8), some 10, none⟩,
    ⟨.ixA 64 1 none (.tmp 7) (.tmp 8), some 11, none⟩,
    ⟨.mov (.tmp 10), some 5, none⟩,
    ⟨.mov (.tmp 11), some 6, none⟩])
  (.seq (.ops [⟨.mov (.tmp 6), some 12, none⟩,
    ⟨.mov (.tmp 5), some 13, none⟩,
    ⟨.idxA 64 1 (.tmp 3) (.tmp 13), some 14, none⟩,
    ⟨.load none (.tmp 14), some 15, none⟩,
    ⟨.call 68 [.tmp 12, .tmp 15], some 16, none⟩,
    ⟨.un .not (.tmp 16), some 17, none⟩])
  (.cond (.tmp 17) (.seq (.ops [⟨.mov (.const (.bool false)), some 4, none⟩])
  (.ret)) (.skip)))))
  (.ops [⟨.bin .add (.tmp 8) (.const (.int .i64 1)), some 18, none⟩,
    ⟨.mov (.tmp 18), some 8, none⟩])))))))
  (.seq (.ops [⟨.mov (.const (.bool true)), some 4, none⟩])
  (.ret)))⟩
theorem ok_impl_SameField : cmpF Try.prog Try.f67 = some c_impl_SameField := by kernel_rfl

/- impl.SameNumber -/
def c_impl_SameNumber : FV := ⟨22, [.tmp 4],
  .seq (.ops [⟨.mov (.const (.bool false)), some 4, none⟩])
  (.seq (.seq (.ops [⟨.mov (.tmp 0), some 5, none⟩,
    ⟨.call 113 [.tmp 5], some 6, none⟩,
    ⟨.mov (.tmp 6), some 7, none⟩,
    ⟨.mov (.tmp 1), some 8, some (7, false)⟩,
    ⟨.call 113 [.tmp 8], some 9, some (7, false)⟩,
    ⟨.pick (.tmp 7) (.const (.bool true)) (.tmp 9), some 10, none⟩])
  (.cond (.tmp 10) (.seq (.ops [⟨.mov (.tmp 0), some 11, none⟩,
    ⟨.call 113 [.tmp 11], some 12, none⟩,
    ⟨.mov (.tmp 12), some 13, none⟩,
    ⟨.mov (.tmp 1), some 14, some (13, true)⟩,
    ⟨.call 113 [.tmp 14], some 15, some (13, true)⟩,
    ⟨.pick (.tmp 13) (.tmp 15) (.const (.bool false)), some 16, none⟩,
    ⟨.mov (.tmp 16), some 4, none⟩])
  (.ret)) (.skip)))
  (.seq (.ops [⟨.mov (.tmp 0), some 17, none⟩,
    ⟨.f32bits (.tmp 17), some 18, none⟩,
    ⟨.mov (.tmp 1), some 19, none⟩,
    ⟨.f32bits (.tmp 19), some 20, none⟩,
    ⟨.bin .eql (.tmp 18) (.tmp 20), some 21, none⟩,
    ⟨.mov (.tmp 21), some 4, none⟩])
  (.ret)))⟩
theorem ok_impl_SameNumber : cmpF Try.prog Try.f68 = some c_impl_SameNumber := by kernel_rfl

/- spec.l01Plain -/
def c_spec_l01Plain : FV := ⟨9, [.tmp 2],
  .seq (.ops [⟨.mov (.const (.bool false)), some 2, none⟩])
  (.seq (.ops [⟨.mov (.tmp 0), some 3, none⟩,
    ⟨.fbin .geq (.tmp 3) (.const (.float .f32 3380609024)), some 4, none⟩,
    ⟨.mov (.tmp 4), some 5, none⟩,
    ⟨.mov (.tmp 0), some 6, some (5, true)⟩,
    ⟨.fbin .leq (.tmp 6) (.const (.float .f32 1233125376)), some 7, some (5, true)⟩,
    ⟨.pick (.tmp 5) (.tmp 7) (.const (.bool false)), some 8, none⟩,
    ⟨.mov (.tmp 8), some 2, none⟩])
  (.ret))⟩
theorem ok_spec_l01Plain : cmpF Try.prog Try.f69 = some c_spec_l01Plain := by kernel_rfl

/- spec.l00In -/
def c_spec_l00In : FV := ⟨15, [.tmp 6],
  .seq (.ops [⟨.mov (.const (.bool false)), some 6, none⟩])
  (.seq (.ops [⟨.mov (.tmp 0), some 7, none⟩,
    ⟨.mov (.tmp 1), some 8, none⟩,
    ⟨.bin .geq (.tmp 7) (.tmp 8), some 9, none⟩,
    ⟨.mov (.tmp 9), some 10, none⟩,
    ⟨.mov (.tmp 0), some 11, some (10, true)⟩,
    ⟨.mov (.tmp 2), some 12, some (10, true)⟩,
    ⟨.bin .leq (.tmp 11) (.tmp 12), some 13, some (10, true)⟩,
    ⟨.pick (.tmp 10) (.tmp 13) (.const (.bool false)), some 14, none⟩,
    ⟨.mov (.tmp 14), some 6, none⟩])
  (.ret))⟩
theorem ok_spec_l00In : cmpF Try.prog Try.f70 = some c_spec_l00In := by kernel_rfl

/- spec.l01Is -/
def c_spec_l01Is : FV := ⟨27, [.tmp 4],
  .seq (.ops [⟨.mov (.const (.bool false)), some 4, none⟩])
  (.seq (.ops [⟨.mov (.tmp 1), some 5, none⟩,
    ⟨.call 70 [.tmp 5, .const (.int .i64 0), .const (.int .i64 63)], some 6, none⟩,
    ⟨.mov (.tmp 6), some 7, none⟩,
    ⟨.mov (.tmp 1), some 8, some (7, true)⟩,
    ⟨.bin .rem (.tmp 8) (.const (.int .i64 8)), some 9, some (7, true)⟩,
    ⟨.mov (.tmp 0), some 10, some (7, true)⟩,
    ⟨.nilc (.tmp 10), some 11, some (7, true)⟩,
    ⟨.addr (.tmp 11) 0, some 12, some (7, true)⟩,
    ⟨.load none (.tmp 12), some 13, some (7, true)⟩,
    ⟨.convI .i64 (.tmp 13), some 14, some (7, true)⟩,
    ⟨.bin .lss (.tmp 9) (.tmp 14), some 15, some (7, true)⟩,
    ⟨.pick (.tmp 7) (.tmp 15) (.const (.bool false)), some 16, none⟩,
    ⟨.mov (.tmp 16), some 17, none⟩,
    ⟨.mov (.tmp 1), some 18, some (17, true)⟩,
    ⟨.bin .quo (.tmp 18) (.const (.int .i64 8)), some 19, some (17, true)⟩,
    ⟨.mov (.tmp 0), some 20, some (17, true)⟩,
    ⟨.nilc (.tmp 20), some 21, some (17, true)⟩,
    ⟨.addr (.tmp 21) 1, some 22, some (17, true)⟩,
    ⟨.load none (.tmp 22), some 23, some (17, true)⟩,
    ⟨.convI .i64 (.tmp 23), some 24, some (17, true)⟩,
    ⟨.bin .lss (.tmp 19) (.tmp 24), some 25, some (17, true)⟩,
    ⟨.pick (.tmp 17) (.tmp 25) (.const (.bool false)), some 26, none⟩,
    ⟨.mov (.tmp 26), some 4, none⟩])
  (.ret))⟩
theorem ok_spec_l01Is : cmpF Try.prog Try.f71 = some c_spec_l01Is := by kernel_rfl

/- impl.isAmount -/
def c_impl_isAmount : FV := ⟨9, [.tmp 2],
  .seq (.ops [⟨.mov (.const (.bool false)), some 2, none⟩])
  (.seq (.ops [⟨.mov (.tmp 0), some 3, none⟩,
    ⟨.call 73 [.tmp 3], some 4, none⟩,
    ⟨.mov (.tmp 4), some 5, none⟩,
    ⟨.mov (.tmp 0), some 6, some (5, true)⟩,
    ⟨.fbin .geq (.tmp 6) (.const (.float .f32 0)), some 7, some (5, true)⟩,
    ⟨.pick (.tmp 5) (.tmp 7) (.const (.bool false)), some 8, none⟩,
    ⟨.mov (.tmp 8), some 2, none⟩])
  (.ret))⟩
theorem ok_impl_isAmount : cmpF Try.prog Try.f72 = some c_impl_isAmount := by kernel_rfl

/- impl.IsPlain -/
def c_impl_IsPlain : FV := ⟨9, [.tmp 2],
  .seq (.ops [⟨.mov (.const (.bool false)), some 2, none⟩])
  (.seq (.ops [⟨.mov (.tmp 0), some 3, none⟩,
    ⟨.fbin .geq (.tmp 3) (.const (.float .f32 3380609024)), some 4, none⟩,
    ⟨.mov (.tmp 4), some 5, none⟩,
    ⟨.mov (.tmp 0), some 6, some (5, true)⟩,
    ⟨.fbin .leq (.tmp 6) (.const (.float .f32 1233125376)), some 7, some (5, true)⟩,
    ⟨.pick (.tmp 5) (.tmp 7) (.const (.bool false)), some 8, none⟩,
    ⟨.mov (.tmp 8), some 2, none⟩])
  (.ret))⟩
theorem ok_impl_IsPlain : cmpF Try.prog Try.f73 = some c_impl_IsPlain := by kernel_rfl

/- impl.in -/
def c_impl_in : FV := ⟨15, [.tmp 6],
  .seq (.ops [⟨.mov (.const (.bool false)), some 6, none⟩])
  (.seq (.ops [⟨.mov (.tmp 0), some 7, none⟩,
    ⟨.mov (.tmp 1), some 8, none⟩,
    ⟨.bin .geq (.tmp 7) (.tmp 8), some 9, none⟩,
    ⟨.mov (.tmp 9), some 10, none⟩,
    ⟨.mov (.tmp 0), some 11, some (10, true)⟩,
    ⟨.mov (.tmp 2), some 12, some (10, true)⟩,
    ⟨.bin .leq (.tmp 11) (.tmp 12), some 13, some (10, true)⟩,
    ⟨.pick (.tmp 10) (.tmp 13) (.const (.bool false)), some 14, none⟩,
    ⟨.mov (.tmp 14), some 6, none⟩])
  (.ret))⟩
theorem ok_impl_in : cmpF Try.prog Try.f74 = some c_impl_in := by kernel_rfl

/- impl.Ground.cells -/
def c_impl_Ground_cells : FV := ⟨18, [.tmp 2],
  .seq (.ops [⟨.mov (.const (.slice none 0 0)), some 2, none⟩])
  (.seq (.ops [⟨.bslice 3 1 0 (#[.int .i64 0]) [], some 5, none⟩,
    ⟨.mov (.tmp 5), some 3, none⟩])
  (.seq (.seq (.ops [⟨.mov (.const (.int .i64 0)), some 6, none⟩])
  (.block 0 (.loop (.seq (.ops [⟨.bin .lss (.tmp 6) (.const (.int .i64 64)), some 7, none⟩])
  (.seq (.cond (.tmp 7) (.skip) (.exit 0))
  (.seq (.block 1 (.seq (.ops [⟨.mov (.tmp 6), some 8, none⟩,
    ⟨.mov (.tmp 8), some 4, none⟩])
  (.seq (.ops [⟨.mov (.tmp 0), some 9, none⟩,
    ⟨.mov (.tmp 4), some 10, none⟩,
    ⟨.call 114 [.tmp 9, .tmp 10], some 11, none⟩])
  (.cond (.tmp 11) (.ops [⟨.mov (.tmp 3), some 12, none⟩,
    ⟨.mov (.tmp 4), some 13, none⟩,
    ⟨.bslice 3 1 1 (#[.int .i64 0]) [(0, .tmp 13)], some 14, none⟩,
    ⟨.app 3 1 (.tmp 12) (.tmp 14), some 15, none⟩,
    ⟨.mov (.tmp 15), some 3, none⟩]) (.skip)))))
  (.ops [⟨.bin .add (.tmp 6) (.const (.int .i64 1)), some 16, none⟩,
    ⟨.mov (.tmp 16), some 6, none⟩])))))))
  (.seq (.ops [⟨.mov (.tmp 3), some 17, none⟩,
    ⟨.mov (.tmp 17), some 2, none⟩])
  (.ret))))⟩
theorem ok_impl_Ground_cells : cmpF Try.prog Try.f75 = some c_impl_Ground_cells := by kernel_rfl

/- spec.l01Ok -/
def c_spec_l01Ok : FV := ⟨68, [.tmp 2],
  .seq (.ops [⟨.mov (.const (.bool false)), some 2, none⟩])
  (.seq (.seq (.ops [⟨.mov (.tmp 0), some 4, none⟩,
    ⟨.nilc (.tmp 4), some 5, none⟩,
    ⟨.addr (.tmp 5) 0, some 6, none⟩,
    ⟨.load none (.tmp 6), some 7, none⟩,
    ⟨.convI .i64 (.tmp 7), some 8, none⟩,
    ⟨.call 70 [.tmp 8, .const (.int .i64 2), .const (.int .i64 8)], some 9, none⟩,
    ⟨.un .not (.tmp 9), some 10, none⟩,
    ⟨.mov (.tmp 10), some 11, none⟩,
    ⟨.mov (.tmp 0), some 12, some (11, false)⟩,
    ⟨.nilc (.tmp 12), some 13, some (11, false)⟩,
    ⟨.addr (.tmp 13) 1, some 14, some (11, false)⟩,
    ⟨.load none (.tmp 14), some 15, some (11, false)⟩,
    ⟨.convI .i64 (.tmp 15), some 16, some (11, false)⟩,
    ⟨.call 70 [.tmp 16, .const (.int .i64 2), .const (.int .i64 8)], some 17, some (11, false)⟩,
    ⟨.un .not (.tmp 17), some 18, some (11, false)⟩,
    ⟨.pick (.tmp 11) (.const (.bool true)) (.tmp 18), some 19, none⟩])
  (.cond (.tmp 19) (.seq (.ops [⟨.mov (.const (.bool false)), some 2, none⟩])
  (.ret)) (.skip)))
  (.seq (.seq (.ops [⟨.mov (.tmp 0), some 20, none⟩,
    ⟨.mov (.tmp 0), some 21, none⟩,
    ⟨.nilc (.tmp 21), some 22, none⟩,
    ⟨.addr (.tmp 22) 2, some 23, none⟩,
    ⟨.call 115 [.tmp 20, .tmp 23], some 24, none⟩,
    ⟨.un .not (.tmp 24), some 25, none⟩,
    ⟨.mov (.tmp 25), some 26, none⟩,
    ⟨.mov (.tmp 0), some 27, some (26, false)⟩,
    ⟨.mov (.tmp 0), some 28, some (26, false)⟩,
    ⟨.nilc (.tmp 28), some 29, some (26, false)⟩,
    ⟨.addr (.tmp 29) 66, some 30, some (26, false)⟩,
    ⟨.call 115 [.tmp 27, .tmp 30], some 31, some (26, false)⟩,
    ⟨.un .not (.tmp 31), some 32, some (26, false)⟩,
    ⟨.pick (.tmp 26) (.const (.bool true)) (.tmp 32), some 33, none⟩,
    ⟨.mov (.tmp 33), some 34, none⟩,
    ⟨.mov (.tmp 0), some 35, some (34, false)⟩,
    ⟨.mov (.tmp 0), some 36, some (34, false)⟩,
    ⟨.nilc (.tmp 36), some 37, some (34, false)⟩,
    ⟨.addr (.tmp 37) 130, some 38, some (34, false)⟩,
    ⟨.call 115 [.tmp 35, .tmp 38], some 39, some (34, false)⟩,
    ⟨.un .not (.tmp 39), some 40, some (34, false)⟩,
    ⟨.pick (.tmp 34) (.const (.bool true)) (.tmp 40), some 41, none⟩])
  (.cond (.tmp 41) (.seq (.ops [⟨.mov (.const (.bool false)), some 2, none⟩])
  (.ret)) (.skip)))
  (.seq (.seq (.ops [⟨.mov (.const (.int .i64 0)), some 3, none⟩])
  (.block 0 (.loop (.seq (.seq (.ops [⟨.mov (.tmp 3), some 42, none⟩,
    ⟨.bin .lss (.tmp 42) (.const (.int .i64 64)), some 43, none⟩])
  (.cond (.tmp 43) (.skip) (.exit 0)))
  (.seq (.block 1 (.seq (.ops [⟨.mov (.tmp 0), some 46, none⟩,
    ⟨.mov (.tmp 3), some 47, none⟩,
    ⟨.nilc (.tmp 46), some 48, none⟩,
    ⟨.addr (.tmp 48) 2, some 49, none⟩,
    ⟨.idxA 64 1 (.tmp 49) (.tmp 47), some 50, none⟩,
    ⟨.load none (.tmp 50), some 51, none⟩,
    ⟨.fbin .lss (.tmp 51) (.const (.float .f32 0)), some 52, none⟩])
  (.cond (.tmp 52) (.seq (.ops [⟨.mov (.const (.bool false)), some 2, none⟩])
  (.ret)) (.skip))))
  (.ops [⟨.mov (.tmp 3), some 44, none⟩,
    ⟨.bin .add (.tmp 44) (.const (.int .i64 1)), some 45, none⟩,
    ⟨.mov (.tmp 45), some 3, none⟩]))))))
  (.seq (.bops [⟨.mov (.tmp 0), some 53, none⟩,
    ⟨.nilc (.tmp 53), some 54, none⟩,
    ⟨.addr (.tmp 54) 194, some 55, none⟩,
    ⟨.load none (.tmp 55), some 56, none⟩,
    ⟨.bin .neq (.tmp 56) (.const (.int .u64 0)), some 57, none⟩,
    ⟨.mov (.tmp 57), some 58, none⟩,
    ⟨.mov (.tmp 0), some 59, some (58, true)⟩,
    ⟨.nilc (.tmp 59), some 60, some (58, true)⟩,
    ⟨.addr (.tmp 60) 194, some 61, some (58, true)⟩,
    ⟨.load none (.tmp 61), some 62, some (58, true)⟩,
    ⟨.mov (.tmp 0), some 63, some (58, true)⟩,
    ⟨.call 116 [.tmp 63], some 64, some (58, true)⟩,
    ⟨.bin .andNot (.tmp 62) (.tmp 64), some 65, some (58, true)⟩,
    ⟨.bin .eql (.tmp 65) (.const (.int .u64 0)), some 66, some (58, true)⟩,
    ⟨.pick (.tmp 58) (.tmp 66) (.const (.bool false)), some 67, none⟩,
    ⟨.mov (.tmp 67), some 2, none⟩])
  (.ret)))))⟩
theorem ok_spec_l01Ok : cmpF Try.prog Try.f76 = some c_spec_l01Ok := by kernel_rfl

/- spec.l01Range -/
def c_spec_l01Range : FV := ⟨55, [.tmp 2, .tmp 3],
  .seq (.ops [⟨.mov (.const (.float .f32 0)), some 2, none⟩,
    ⟨.mov (.const (.float .f32 0)), some 3, none⟩])
  (.seq (.ops [⟨.mov (.tmp 0), some 7, none⟩,
    ⟨.nilc (.tmp 7), some 8, none⟩,
    ⟨.addr (.tmp 8) 130, some 9, none⟩,
    ⟨.idxA 64 1 (.tmp 9) (.const (.int .i64 0)), some 10, none⟩,
    ⟨.load none (.tmp 10), some 11, none⟩,
    ⟨.mov (.tmp 11), some 4, none⟩])
  (.seq (.ops [⟨.mov (.tmp 0), some 12, none⟩,
    ⟨.nilc (.tmp 12), some 13, none⟩,
    ⟨.addr (.tmp 13) 130, some 14, none⟩,
    ⟨.idxA 64 1 (.tmp 14) (.const (.int .i64 0)), some 15, none⟩,
    ⟨.load none (.tmp 15), some 16, none⟩,
    ⟨.mov (.tmp 16), some 5, none⟩])
  (.seq (.seq (.ops [⟨.mov (.const (.int .i64 1)), some 6, none⟩])
  (.block 0 (.loop (.seq (.seq (.ops [⟨.mov (.tmp 6), some 17, none⟩,
    ⟨.bin .lss (.tmp 17) (.const (.int .i64 64)), some 18, none⟩])
  (.cond (.tmp 18) (.skip) (.exit 0)))
  (.seq (.block 1 (.seq (.seq (.ops [⟨.mov (.tmp 0), some 21, none⟩,
    ⟨.mov (.tmp 6), some 22, none⟩,
    ⟨.call 71 [.tmp 21, .tmp 22], some 23, none⟩,
    ⟨.un .not (.tmp 23), some 24, none⟩])
  (.cond (.tmp 24) (.exit 1) (.skip)))
  (.seq (.seq (.ops [⟨.mov (.tmp 0), some 25, none⟩,
    ⟨.mov (.tmp 6), some 26, none⟩,
    ⟨.nilc (.tmp 25), some 27, none⟩,
    ⟨.addr (.tmp 27) 130, some 28, none⟩,
    ⟨.idxA 64 1 (.tmp 28) (.tmp 26), some 29, none⟩,
    ⟨.load none (.tmp 29), some 30, none⟩,
    ⟨.mov (.tmp 4), some 31, none⟩,
    ⟨.fbin .lss (.tmp 30) (.tmp 31), some 32, none⟩])
  (.cond (.tmp 32) (.ops [⟨.mov (.tmp 0), some 33, none⟩,
    ⟨.mov (.tmp 6), some 34, none⟩,
    ⟨.nilc (.tmp 33), some 35, none⟩,
    ⟨.addr (.tmp 35) 130, some 36, none⟩,
    ⟨.idxA 64 1 (.tmp 36) (.tmp 34), some 37, none⟩,
    ⟨.load none (.tmp 37), some 38, none⟩,
    ⟨.mov (.tmp 38), some 4, none⟩]) (.skip)))
  (.seq (.ops [⟨.mov (.tmp 0), some 39, none⟩,
    ⟨.mov (.tmp 6), some 40, none⟩,
    ⟨.nilc (.tmp 39), some 41, none⟩,
    ⟨.addr (.tmp 41) 130, some 42, none⟩,
    ⟨.idxA 64 1 (.tmp 42) (.tmp 40), some 43, none⟩,
    ⟨.load none (.tmp 43), some 44, none⟩,
    ⟨.mov (.tmp 5), some 45, none⟩,
    ⟨.fbin .gtr (.tmp 44) (.tmp 45), some 46, none⟩])
  (.cond (.tmp 46) (.ops [⟨.mov (.tmp 0), some 47, none⟩,
    ⟨.mov (.tmp 6), some 48, none⟩,
    ⟨.nilc (.tmp 47), some 49, none⟩,
    ⟨.addr (.tmp 49) 130, some 50, none⟩,
    ⟨.idxA 64 1 (.tmp 50) (.tmp 48), some 51, none⟩,
    ⟨.load none (.tmp 51), some 52, none⟩,
    ⟨.mov (.tmp 52), some 5, none⟩]) (.skip))))))
  (.ops [⟨.mov (.tmp 6), some 19, none⟩,
    ⟨.bin .add (.tmp 19) (.const (.int .i64 1)), some 20, none⟩,
    ⟨.mov (.tmp 20), some 6, none⟩]))))))
  (.seq (.ops [⟨.mov (.tmp 4), some 53, none⟩,
    ⟨.mov (.tmp 5), some 54, none⟩,
    ⟨.mov (.tmp 53), some 2, none⟩,
    ⟨.mov (.tmp 54), some 3, none⟩])
  (.ret)))))⟩
theorem ok_spec_l01Range : cmpF Try.prog Try.f77 = some c_spec_l01Range := by kernel_rfl

/- impl.ValidGround -/
def c_impl_ValidGround : FV := ⟨39, [.tmp 2],
  .seq (.ops [⟨.box 33 (.tmp 0), some 1, none⟩,
    ⟨.mov (.const (.bool false)), some 2, none⟩])
  (.seq (.seq (.ops [⟨.addr (.tmp 1) 0, some 4, none⟩,
    ⟨.load none (.tmp 4), some 5, none⟩,
    ⟨.convI .i64 (.tmp 5), some 6, none⟩,
    ⟨.call 74 [.tmp 6, .const (.int .i64 2), .const (.int .i64 8)], some 7, none⟩,
    ⟨.un .not (.tmp 7), some 8, none⟩,
    ⟨.mov (.tmp 8), some 9, none⟩,
    ⟨.addr (.tmp 1) 1, some 10, some (9, false)⟩,
    ⟨.load none (.tmp 10), some 11, some (9, false)⟩,
    ⟨.convI .i64 (.tmp 11), some 12, some (9, false)⟩,
    ⟨.call 74 [.tmp 12, .const (.int .i64 2), .const (.int .i64 8)], some 13, some (9, false)⟩,
    ⟨.un .not (.tmp 13), some 14, some (9, false)⟩,
    ⟨.pick (.tmp 9) (.const (.bool true)) (.tmp 14), some 15, none⟩])
  (.cond (.tmp 15) (.seq (.ops [⟨.mov (.const (.bool false)), some 2, none⟩])
  (.ret)) (.skip)))
  (.seq (.ops [⟨.addr (.tmp 1) 2, some 16, none⟩,
    ⟨.call 101 [.tmp 1, .tmp 16, .func 72], some 17, none⟩,
    ⟨.mov (.tmp 17), some 18, none⟩,
    ⟨.addr (.tmp 1) 66, some 19, some (18, true)⟩,
    ⟨.call 101 [.tmp 1, .tmp 19, .func 73], some 20, some (18, true)⟩,
    ⟨.pick (.tmp 18) (.tmp 20) (.const (.bool false)), some 21, none⟩,
    ⟨.mov (.tmp 21), some 22, none⟩,
    ⟨.addr (.tmp 1) 130, some 23, some (22, true)⟩,
    ⟨.call 101 [.tmp 1, .tmp 23, .func 73], some 24, some (22, true)⟩,
    ⟨.pick (.tmp 22) (.tmp 24) (.const (.bool false)), some 25, none⟩,
    ⟨.mov (.tmp 25), some 3, none⟩])
  (.seq (.bops [⟨.mov (.tmp 3), some 26, none⟩,
    ⟨.mov (.tmp 26), some 27, none⟩,
    ⟨.addr (.tmp 1) 194, some 28, some (27, true)⟩,
    ⟨.load none (.tmp 28), some 29, some (27, true)⟩,
    ⟨.bin .neq (.tmp 29) (.const (.int .u64 0)), some 30, some (27, true)⟩,
    ⟨.pick (.tmp 27) (.tmp 30) (.const (.bool false)), some 31, none⟩,
    ⟨.mov (.tmp 31), some 32, none⟩,
    ⟨.addr (.tmp 1) 194, some 33, some (32, true)⟩,
    ⟨.load none (.tmp 33), some 34, some (32, true)⟩,
    ⟨.call 117 [.tmp 1], some 35, some (32, true)⟩,
    ⟨.bin .andNot (.tmp 34) (.tmp 35), some 36, some (32, true)⟩,
    ⟨.bin .eql (.tmp 36) (.const (.int .u64 0)), some 37, some (32, true)⟩,
    ⟨.pick (.tmp 32) (.tmp 37) (.const (.bool false)), some 38, none⟩,
    ⟨.mov (.tmp 38), some 2, none⟩])
  (.ret))))⟩
theorem ok_impl_ValidGround : cmpF Try.prog Try.f78 = some c_impl_ValidGround := by kernel_rfl

/- impl.at -/
def c_impl_at : FV := ⟨25, [.tmp 4],
  .seq (.ops [⟨.mov (.const (.slice none 0 0)), some 4, none⟩])
  (.seq (.ops [⟨.bslice 23 1 0 (#[.float .f32 0]) [], some 8, none⟩,
    ⟨.mov (.tmp 8), some 5, none⟩])
  (.seq (.seq (.ops [⟨.mov (.tmp 0), some 9, none⟩,
    ⟨.lenL (.tmp 9), some 10, none⟩,
    ⟨.mov (.const (.int .i64 0)), some 11, none⟩])
  (.block 0 (.loop (.seq (.ops [⟨.bin .lss (.tmp 11) (.tmp 10), some 12, none⟩])
  (.seq (.cond (.tmp 12) (.skip) (.exit 0))
  (.seq (.block 1 (.seq (.ops [⟨.idxS 1 (.tmp 9) (.tmp 11), some 13, none⟩,
    ⟨.load none (.tmp 13), some 14, none⟩,
    ⟨.mov (.tmp 14), some 7, none⟩])
  (.ops [⟨.mov (.tmp 5), some 15, none⟩,
    ⟨.mov (.tmp 1), some 16, none⟩,
    ⟨.mov (.tmp 7), some 17, none⟩,
    ⟨.nilc (.tmp 16), some 18, none⟩,
    ⟨.idxA 64 1 (.tmp 18) (.tmp 17), some 19, none⟩,
    ⟨.load none (.tmp 19), some 20, none⟩,
    ⟨.bslice 23 1 1 (#[.float .f32 0]) [(0, .tmp 20)], some 21, none⟩,
    ⟨.app 23 1 (.tmp 15) (.tmp 21), some 22, none⟩,
    ⟨.mov (.tmp 22), some 5, none⟩])))
  (.ops [⟨.bin .add (.tmp 11) (.const (.int .i64 1)), some 23, none⟩,
    ⟨.mov (.tmp 23), some 11, none⟩])))))))
  (.seq (.ops [⟨.mov (.tmp 5), some 24, none⟩,
    ⟨.mov (.tmp 24), some 4, none⟩])
  (.ret))))⟩
theorem ok_impl_at : cmpF Try.prog Try.f79 = some c_impl_at := by kernel_rfl

/- spec.l02Changes -/
def c_spec_l02Changes : FV := ⟨53, [.cell 4 (some 64), .tmp 5],
  .seq (.ops [⟨.alloc 31 (.agg (fcells fz)), some 4, none⟩,
    ⟨.mov (.const (.bool false)), some 5, none⟩])
  (.seq (.ops [⟨.buildA 1 (fcells fz) [], some 8, none⟩,
    ⟨.alloc 31 (.agg (fcells fz)), some 6, none⟩,
    ⟨.store 64 (.tmp 6) (.tmp 8), none, none⟩])
  (.seq (.seq (.ops [⟨.mov (.tmp 0), some 9, none⟩,
    ⟨.nilc (.tmp 9), some 10, none⟩,
    ⟨.addr (.tmp 10) 0, some 11, none⟩,
    ⟨.load none (.tmp 11), some 12, none⟩,
    ⟨.mov (.tmp 1), some 13, none⟩,
    ⟨.nilc (.tmp 13), some 14, none⟩,
    ⟨.addr (.tmp 14) 0, some 15, none⟩,
    ⟨.load none (.tmp 15), some 16, none⟩,
    ⟨.bin .neq (.tmp 12) (.tmp 16), some 17, none⟩,
    ⟨.mov (.tmp 17), some 18, none⟩,
    ⟨.mov (.tmp 0), some 19, some (18, false)⟩,
    ⟨.nilc (.tmp 19), some 20, some (18, false)⟩,
    ⟨.addr (.tmp 20) 1, some 21, some (18, false)⟩,
    ⟨.load none (.tmp 21), some 22, some (18, false)⟩,
    ⟨.mov (.tmp 1), some 23, some (18, false)⟩,
    ⟨.nilc (.tmp 23), some 24, some (18, false)⟩,
    ⟨.addr (.tmp 24) 1, some 25, some (18, false)⟩,
    ⟨.load none (.tmp 25), some 26, some (18, false)⟩,
    ⟨.bin .neq (.tmp 22) (.tmp 26), some 27, some (18, false)⟩,
    ⟨.pick (.tmp 18) (.const (.bool true)) (.tmp 27), some 28, none⟩])
  (.cond (.tmp 28) (.seq (.ops [⟨.load (some 64) (.tmp 6), some 29, none⟩,
    ⟨.store 64 (.tmp 4) (.tmp 29), none, none⟩,
    ⟨.mov (.const (.bool false)), some 5, none⟩])
  (.ret)) (.skip)))
  (.seq (.seq (.ops [⟨.mov (.const (.int .i64 0)), some 7, none⟩])
  (.block 0 (.loop (.seq (.seq (.ops [⟨.mov (.tmp 7), some 30, none⟩,
    ⟨.bin .lss (.tmp 30) (.const (.int .i64 64)), some 31, none⟩])
  (.cond (.tmp 31) (.skip) (.exit 0)))
  (.seq (.block 1 (.seq (.ops [⟨.mov (.tmp 0), some 34, none⟩,
    ⟨.mov (.tmp 7), some 35, none⟩,
    ⟨.call 71 [.tmp 34, .tmp 35], some 36, none⟩])
  (.cond (.tmp 36) (.ops [⟨.mov (.tmp 7), some 37, none⟩,
    ⟨.mov (.tmp 1), some 38, none⟩,
    ⟨.mov (.tmp 7), some 39, none⟩,
    ⟨.nilc (.tmp 38), some 40, none⟩,
    ⟨.addr (.tmp 40) 130, some 41, none⟩,
    ⟨.idxA 64 1 (.tmp 41) (.tmp 39), some 42, none⟩,
    ⟨.load none (.tmp 42), some 43, none⟩,
    ⟨.mov (.tmp 0), some 44, none⟩,
    ⟨.mov (.tmp 7), some 45, none⟩,
    ⟨.nilc (.tmp 44), some 46, none⟩,
    ⟨.addr (.tmp 46) 130, some 47, none⟩,
    ⟨.idxA 64 1 (.tmp 47) (.tmp 45), some 48, none⟩,
    ⟨.load none (.tmp 48), some 49, none⟩,
    ⟨.fbin .sub (.tmp 43) (.tmp 49), some 50, none⟩,
    ⟨.idxA 64 1 (.tmp 6) (.tmp 37), some 51, none⟩,
    ⟨.store 1 (.tmp 51) (.tmp 50), none, none⟩]) (.skip))))
  (.ops [⟨.mov (.tmp 7), some 32, none⟩,
    ⟨.bin .add (.tmp 32) (.const (.int .i64 1)), some 33, none⟩,
    ⟨.mov (.tmp 33), some 7, none⟩]))))))
  (.seq (.ops [⟨.load (some 64) (.tmp 6), some 52, none⟩,
    ⟨.store 64 (.tmp 4) (.tmp 52), none, none⟩,
    ⟨.mov (.const (.bool true)), some 5, none⟩])
  (.ret)))))⟩
theorem ok_spec_l02Changes : cmpF Try.prog Try.f80 = some c_spec_l02Changes := by kernel_rfl

/- impl.finite -/
def c_impl_finite : FV := ⟨7, [.tmp 2],
  .seq (.ops [⟨.mov (.const (.bool false)), some 2, none⟩])
  (.seq (.ops [⟨.mov (.tmp 0), some 3, none⟩,
    ⟨.mov (.tmp 0), some 4, none⟩,
    ⟨.fbin .sub (.tmp 3) (.tmp 4), some 5, none⟩,
    ⟨.fbin .eql (.tmp 5) (.const (.float .f32 0)), some 6, none⟩,
    ⟨.mov (.tmp 6), some 2, none⟩])
  (.ret))⟩
theorem ok_impl_finite : cmpF Try.prog Try.f81 = some c_impl_finite := by kernel_rfl

/- spec.l01Sum -/
def c_spec_l01Sum : FV := ⟨26, [.tmp 4],
  .seq (.ops [⟨.mov (.const (.float .f32 0)), some 4, none⟩])
  (.seq (.ops [⟨.mov (.tmp 1), some 7, none⟩,
    ⟨.nilc (.tmp 7), some 8, none⟩,
    ⟨.idxA 64 1 (.tmp 8) (.const (.int .i64 0)), some 9, none⟩,
    ⟨.load none (.tmp 9), some 10, none⟩,
    ⟨.mov (.tmp 10), some 5, none⟩])
  (.seq (.seq (.ops [⟨.mov (.const (.int .i64 1)), some 6, none⟩])
  (.block 0 (.loop (.seq (.seq (.ops [⟨.mov (.tmp 6), some 11, none⟩,
    ⟨.bin .lss (.tmp 11) (.const (.int .i64 64)), some 12, none⟩])
  (.cond (.tmp 12) (.skip) (.exit 0)))
  (.seq (.block 1 (.seq (.ops [⟨.mov (.tmp 0), some 15, none⟩,
    ⟨.mov (.tmp 6), some 16, none⟩,
    ⟨.call 71 [.tmp 15, .tmp 16], some 17, none⟩])
  (.cond (.tmp 17) (.ops [⟨.mov (.tmp 5), some 18, none⟩,
    ⟨.mov (.tmp 1), some 19, none⟩,
    ⟨.mov (.tmp 6), some 20, none⟩,
    ⟨.nilc (.tmp 19), some 21, none⟩,
    ⟨.idxA 64 1 (.tmp 21) (.tmp 20), some 22, none⟩,
    ⟨.load none (.tmp 22), some 23, none⟩,
    ⟨.fbin .add (.tmp 18) (.tmp 23), some 24, none⟩,
    ⟨.mov (.tmp 24), some 5, none⟩]) (.skip))))
  (.ops [⟨.mov (.tmp 6), some 13, none⟩,
    ⟨.bin .add (.tmp 13) (.const (.int .i64 1)), some 14, none⟩,
    ⟨.mov (.tmp 14), some 6, none⟩]))))))
  (.seq (.ops [⟨.mov (.tmp 5), some 25, none⟩,
    ⟨.mov (.tmp 25), some 4, none⟩])
  (.ret))))⟩
theorem ok_spec_l01Sum : cmpF Try.prog Try.f82 = some c_spec_l01Sum := by kernel_rfl

/- spec.l01Finite -/
def c_spec_l01Finite : FV := ⟨7, [.tmp 2],
  .seq (.ops [⟨.mov (.const (.bool false)), some 2, none⟩])
  (.seq (.ops [⟨.mov (.tmp 0), some 3, none⟩,
    ⟨.mov (.tmp 0), some 4, none⟩,
    ⟨.fbin .sub (.tmp 3) (.tmp 4), some 5, none⟩,
    ⟨.fbin .eql (.tmp 5) (.const (.float .f32 0)), some 6, none⟩,
    ⟨.mov (.tmp 6), some 2, none⟩])
  (.ret))⟩
theorem ok_spec_l01Finite : cmpF Try.prog Try.f83 = some c_spec_l01Finite := by kernel_rfl

/- impl.told -/
def c_impl_told : FV := ⟨8, [.tmp 2, .tmp 3],
  .seq (.ops [⟨.mov (.const (.float .f32 0)), some 2, none⟩,
    ⟨.mov (.const (.int .i64 0)), some 3, none⟩])
  (.seq (.seq (.ops [⟨.mov (.tmp 0), some 4, none⟩,
    ⟨.call 81 [.tmp 4], some 5, none⟩,
    ⟨.un .not (.tmp 5), some 6, none⟩])
  (.cond (.tmp 6) (.seq (.ops [⟨.mov (.const (.float .f32 0)), some 2, none⟩,
    ⟨.mov (.const (.int .i64 4)), some 3, none⟩])
  (.ret)) (.skip)))
  (.seq (.ops [⟨.mov (.tmp 0), some 7, none⟩,
    ⟨.mov (.tmp 7), some 2, none⟩,
    ⟨.mov (.const (.int .i64 0)), some 3, none⟩])
  (.ret)))⟩
theorem ok_impl_told : cmpF Try.prog Try.f84 = some c_impl_told := by kernel_rfl

/- impl.sum -/
def c_impl_sum : FV := ⟨24, [.tmp 2],
  .seq (.ops [⟨.mov (.const (.float .f32 0)), some 2, none⟩])
  (.seq (.seq (.ops [⟨.mov (.tmp 0), some 6, none⟩,
    ⟨.lenL (.tmp 6), some 7, none⟩,
    ⟨.bin .eql (.tmp 7) (.const (.int .i64 0)), some 8, none⟩])
  (.cond (.tmp 8) (.seq (.ops [⟨.mov (.const (.float .f32 0)), some 2, none⟩])
  (.ret)) (.skip)))
  (.seq (.ops [⟨.mov (.tmp 0), some 9, none⟩,
    ⟨.idxS 1 (.tmp 9) (.const (.int .i64 0)), some 10, none⟩,
    ⟨.load none (.tmp 10), some 11, none⟩,
    ⟨.mov (.tmp 11), some 3, none⟩])
  (.seq (.seq (.ops [⟨.mov (.tmp 0), some 12, none⟩,
    ⟨.slcL 1 (.tmp 12) (some (.const (.int .i64 1))) none, some 13, none⟩,
    ⟨.lenL (.tmp 13), some 14, none⟩,
    ⟨.mov (.const (.int .i64 0)), some 15, none⟩])
  (.block 0 (.loop (.seq (.ops [⟨.bin .lss (.tmp 15) (.tmp 14), some 16, none⟩])
  (.seq (.cond (.tmp 16) (.skip) (.exit 0))
  (.seq (.block 1 (.seq (.ops [⟨.idxS 1 (.tmp 13) (.tmp 15), some 17, none⟩,
    ⟨.load none (.tmp 17), some 18, none⟩,
    ⟨.mov (.tmp 18), some 5, none⟩])
  (.ops [⟨.mov (.tmp 3), some 19, none⟩,
    ⟨.mov (.tmp 5), some 20, none⟩,
    ⟨.fbin .add (.tmp 19) (.tmp 20), some 21, none⟩,
    ⟨.mov (.tmp 21), some 3, none⟩])))
  (.ops [⟨.bin .add (.tmp 15) (.const (.int .i64 1)), some 22, none⟩,
    ⟨.mov (.tmp 22), some 15, none⟩])))))))
  (.seq (.ops [⟨.mov (.tmp 3), some 23, none⟩,
    ⟨.mov (.tmp 23), some 2, none⟩])
  (.ret)))))⟩
theorem ok_impl_sum : cmpF Try.prog Try.f85 = some c_impl_sum := by kernel_rfl

/- spec.l01Fixed -/
def c_spec_l01Fixed : FV := ⟨14, [.tmp 4],
  .seq (.ops [⟨.mov (.const (.bool false)), some 4, none⟩])
  (.seq (.ops [⟨.mov (.tmp 0), some 5, none⟩,
    ⟨.nilc (.tmp 5), some 6, none⟩,
    ⟨.addr (.tmp 6) 194, some 7, none⟩,
    ⟨.load none (.tmp 7), some 8, none⟩,
    ⟨.mov (.tmp 1), some 9, none⟩,
    ⟨.convI .u64 (.tmp 9), some 10, none⟩,
    ⟨.bin .shr (.tmp 8) (.tmp 10), some 11, none⟩,
    ⟨.bin .rem (.tmp 11) (.const (.int .u64 2)), some 12, none⟩,
    ⟨.bin .eql (.tmp 12) (.const (.int .u64 1)), some 13, none⟩,
    ⟨.mov (.tmp 13), some 4, none⟩])
  (.ret))⟩
theorem ok_spec_l01Fixed : cmpF Try.prog Try.f86 = some c_spec_l01Fixed := by kernel_rfl

/- impl.Ground.fixed -/
def c_impl_Ground_fixed : FV := ⟨13, [.tmp 4],
  .seq (.ops [⟨.mov (.const (.bool false)), some 4, none⟩])
  (.seq (.ops [⟨.mov (.tmp 0), some 5, none⟩,
    ⟨.nilc (.tmp 5), some 6, none⟩,
    ⟨.addr (.tmp 6) 194, some 7, none⟩,
    ⟨.load none (.tmp 7), some 8, none⟩,
    ⟨.mov (.tmp 1), some 9, none⟩,
    ⟨.bin .shr (.tmp 8) (.tmp 9), some 10, none⟩,
    ⟨.bin .and (.tmp 10) (.const (.int .u64 1)), some 11, none⟩,
    ⟨.bin .eql (.tmp 11) (.const (.int .u64 1)), some 12, none⟩,
    ⟨.mov (.tmp 12), some 4, none⟩])
  (.ret))⟩
theorem ok_impl_Ground_fixed : cmpF Try.prog Try.f87 = some c_impl_Ground_fixed := by kernel_rfl

/- spec.l01Asked -/
def c_spec_l01Asked : FV := ⟨12, [.tmp 4],
  .seq (.ops [⟨.mov (.const (.int .i64 0)), some 4, none⟩])
  (.seq (.seq (.ops [⟨.mov (.tmp 0), some 5, none⟩,
    ⟨.call 76 [.tmp 5], some 6, none⟩,
    ⟨.un .not (.tmp 6), some 7, none⟩])
  (.cond (.tmp 7) (.seq (.ops [⟨.mov (.const (.int .i64 1)), some 4, none⟩])
  (.ret)) (.skip)))
  (.seq (.seq (.ops [⟨.mov (.tmp 0), some 8, none⟩,
    ⟨.mov (.tmp 1), some 9, none⟩,
    ⟨.call 71 [.tmp 8, .tmp 9], some 10, none⟩,
    ⟨.un .not (.tmp 10), some 11, none⟩])
  (.cond (.tmp 11) (.seq (.ops [⟨.mov (.const (.int .i64 2)), some 4, none⟩])
  (.ret)) (.skip)))
  (.seq (.ops [⟨.mov (.const (.int .i64 0)), some 4, none⟩])
  (.ret))))⟩
theorem ok_spec_l01Asked : cmpF Try.prog Try.f88 = some c_spec_l01Asked := by kernel_rfl

end Go.Proofs.Ytbhipkiiondgnaa

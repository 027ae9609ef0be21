/- The code of the Go functions in the generator's own form, printed by a program of mine (gen.py) out of the loaded program; each with the check that it is so. -/
import Derived.Test.YtjnkmhdpbahbiaaVcFn
import Derived.Test.YtjnkmhdpbahbiaaGeo
import Derived.Test.YtjnkmhdpbahbiaaRows
import Derived.KernelRfl
namespace Go.Proofs.Ytjnkmhdpbahbiaa
open Go Go.Fl Go.Vc
set_option linter.all false
set_option maxRecDepth 100000

/- laws.FnExactSettledHead -/
def c_laws_FnExactSettledHead : FV := ⟨34, [.tmp 4],
  .seq (.ops [⟨.box 31 (.tmp 0), some 2, none⟩,
    ⟨.mov (.const (.bool false)), some 4, none⟩])
  (.seq (.ops [⟨.load (some 195) (.tmp 2), some 10, none⟩,
    ⟨.call 31 [.tmp 10], some 11, none⟩,
    ⟨.mov (.tmp 1), some 12, none⟩,
    ⟨.call 79 [.tmp 11, .tmp 12], some 13, none⟩,
    ⟨.mov (.tmp 13), some 9, none⟩,
    ⟨.ext (.tmp 9) 0, some 14, none⟩,
    ⟨.ext (.tmp 9) 1, some 15, none⟩,
    ⟨.mov (.tmp 14), some 5, none⟩,
    ⟨.mov (.tmp 15), some 6, none⟩])
  (.seq (.ops [⟨.load (some 195) (.tmp 2), some 17, none⟩,
    ⟨.call 31 [.tmp 17], some 18, none⟩,
    ⟨.mov (.tmp 1), some 19, none⟩,
    ⟨.call 80 [.tmp 18, .tmp 19], some 20, none⟩,
    ⟨.mov (.tmp 20), some 16, none⟩,
    ⟨.ext (.tmp 16) 0, some 21, none⟩,
    ⟨.ext (.tmp 16) 1, some 22, none⟩,
    ⟨.mov (.tmp 21), some 7, none⟩,
    ⟨.mov (.tmp 22), some 8, none⟩])
  (.seq (.seq (.ops [⟨.mov (.tmp 7), some 23, none⟩,
    ⟨.convF .f64 (.tmp 23), some 24, none⟩,
    ⟨.mov (.tmp 5), some 25, none⟩,
    ⟨.convF .f64 (.tmp 25), some 26, none⟩,
    ⟨.call 47 [.tmp 24, .tmp 26], some 27, none⟩,
    ⟨.un .not (.tmp 27), some 28, none⟩,
    ⟨.mov (.tmp 28), some 29, none⟩,
    ⟨.mov (.tmp 8), some 30, some (29, false)⟩,
    ⟨.mov (.tmp 6), some 31, some (29, false)⟩,
    ⟨.bin .neq (.tmp 30) (.tmp 31), some 32, some (29, false)⟩,
    ⟨.pick (.tmp 29) (.const (.bool true)) (.tmp 32), some 33, none⟩])
  (.cond (.tmp 33) (.seq (.ops [⟨.mov (.const (.bool false)), some 4, none⟩])
  (.ret)) (.skip)))
  (.seq (.ops [⟨.mov (.const (.bool true)), some 4, none⟩])
  (.ret)))))⟩
theorem ok_laws_FnExactSettledHead : cmpF Try.prog Try.f26 = some c_laws_FnExactSettledHead := by kernel_rfl

/- spec.SameField -/
def c_spec_SameField : FV := ⟨6, [.tmp 4],
  .seq (.ops [⟨.box 25 (.tmp 0), some 2, none⟩,
    ⟨.box 25 (.tmp 1), some 3, none⟩,
    ⟨.mov (.const (.bool false)), some 4, none⟩])
  (.seq (.ops [⟨.call 81 [.tmp 2, .tmp 3], some 5, none⟩,
    ⟨.mov (.tmp 5), some 4, none⟩])
  (.ret))⟩
theorem ok_spec_SameField : cmpF Try.prog Try.f27 = some c_spec_SameField := by kernel_rfl

/- laws.toField -/
def c_laws_toField : FV := ⟨15, [.cell 2 (some 64)],
  .seq (.ops [⟨.box 23 (.tmp 0), some 1, none⟩,
    ⟨.alloc 25 (.agg (fcells fz)), some 2, none⟩])
  (.seq (.ops [⟨.alloc 25 (.agg (fcells fz)), some 3, none⟩])
  (.seq (.seq (.ops [⟨.mov (.const (.int .i64 0)), some 4, none⟩])
  (.block 0 (.loop (.seq (.seq (.ops [⟨.mov (.tmp 4), some 5, none⟩,
    ⟨.bin .lss (.tmp 5) (.const (.int .i64 64)), some 6, none⟩])
  (.cond (.tmp 6) (.skip) (.exit 0)))
  (.seq (.block 1 (.ops [⟨.mov (.tmp 4), some 9, none⟩,
    ⟨.mov (.tmp 4), some 10, none⟩,
    ⟨.idxA 64 1 (.tmp 1) (.tmp 10), some 11, none⟩,
    ⟨.load none (.tmp 11), some 12, none⟩,
    ⟨.idxA 64 1 (.tmp 3) (.tmp 9), some 13, none⟩,
    ⟨.store 1 (.tmp 13) (.tmp 12), none, none⟩]))
  (.ops [⟨.mov (.tmp 4), some 7, none⟩,
    ⟨.bin .add (.tmp 7) (.const (.int .i64 1)), some 8, none⟩,
    ⟨.mov (.tmp 8), some 4, none⟩]))))))
  (.seq (.ops [⟨.load (some 64) (.tmp 3), some 14, none⟩,
    ⟨.store 64 (.tmp 2) (.tmp 14), none, none⟩])
  (.ret))))⟩
theorem ok_laws_toField : cmpF Try.prog Try.f28 = some c_laws_toField := by kernel_rfl

/- impl.SameField -/
def c_impl_SameField : FV := ⟨19, [.tmp 4],
  .seq (.ops [⟨.box 25 (.tmp 0), some 2, none⟩,
    ⟨.box 25 (.tmp 1), some 3, none⟩,
    ⟨.mov (.const (.bool false)), some 4, none⟩])
  (.seq (.seq (.ops [⟨.load (some 64) (.tmp 2), some 7, none⟩,
    ⟨.mov (.const (.int .i64 0)), some 8, none⟩])
  (.block 0 (.loop (.seq (.ops [⟨.bin .lss (.tmp 8) (.const (.int .i64 64)), some 9, none⟩])
  (.seq (.cond (.tmp 9) (.skip) (.exit 0))
  (.seq (.block 1 (.seq (.ops [⟨.mov (.tmp 8), some 10, none⟩,
    ⟨.ixA 64 1 none (.tmp 7) (.tmp 8), some 11, none⟩,
    ⟨.mov (.tmp 10), some 5, none⟩,
    ⟨.mov (.tmp 11), some 6, none⟩])
  (.seq (.ops [⟨.mov (.tmp 6), some 12, none⟩,
    ⟨.mov (.tmp 5), some 13, none⟩,
    ⟨.idxA 64 1 (.tmp 3) (.tmp 13), some 14, none⟩,
    ⟨.load none (.tmp 14), some 15, none⟩,
    ⟨.call 82 [.tmp 12, .tmp 15], some 16, none⟩,
    ⟨.un .not (.tmp 16), some 17, none⟩])
  (.cond (.tmp 17) (.seq (.ops [⟨.mov (.const (.bool false)), some 4, none⟩])
  (.ret)) (.skip)))))
  (.ops [⟨.bin .add (.tmp 8) (.const (.int .i64 1)), some 18, none⟩,
    ⟨.mov (.tmp 18), some 8, none⟩])))))))
  (.seq (.ops [⟨.mov (.const (.bool true)), some 4, none⟩])
  (.ret)))⟩
theorem ok_impl_SameField : cmpF Try.prog Try.f29 = some c_impl_SameField := by kernel_rfl

/- spec.SameGround -/
def c_spec_SameGround : FV := ⟨6, [.tmp 4],
  .seq (.ops [⟨.box 34 (.tmp 0), some 2, none⟩,
    ⟨.box 34 (.tmp 1), some 3, none⟩,
    ⟨.mov (.const (.bool false)), some 4, none⟩])
  (.seq (.ops [⟨.call 83 [.tmp 2, .tmp 3], some 5, none⟩,
    ⟨.mov (.tmp 5), some 4, none⟩])
  (.ret))⟩
theorem ok_spec_SameGround : cmpF Try.prog Try.f30 = some c_spec_SameGround := by kernel_rfl

/- laws.toGround -/
def c_laws_toGround : FV := ⟨26, [.cell 2 (some 195)],
  .seq (.ops [⟨.box 31 (.tmp 0), some 1, none⟩,
    ⟨.alloc 34 (.agg (gcells gz)), some 2, none⟩])
  (.seq (.ops [⟨.alloc 34 (.agg (gcells gz)), some 3, none⟩])
  (.seq (.ops [⟨.addr (.tmp 1) 0, some 4, none⟩,
    ⟨.load none (.tmp 4), some 5, none⟩,
    ⟨.addr (.tmp 3) 0, some 6, none⟩,
    ⟨.store 1 (.tmp 6) (.tmp 5), none, none⟩])
  (.seq (.ops [⟨.addr (.tmp 1) 1, some 7, none⟩,
    ⟨.load none (.tmp 7), some 8, none⟩,
    ⟨.addr (.tmp 3) 1, some 9, none⟩,
    ⟨.store 1 (.tmp 9) (.tmp 8), none, none⟩])
  (.seq (.ops [⟨.addr (.tmp 1) 2, some 10, none⟩,
    ⟨.load (some 64) (.tmp 10), some 11, none⟩,
    ⟨.call 28 [.tmp 11], some 12, none⟩,
    ⟨.addr (.tmp 3) 2, some 13, none⟩,
    ⟨.store 64 (.tmp 13) (.tmp 12), none, none⟩])
  (.seq (.ops [⟨.addr (.tmp 1) 66, some 14, none⟩,
    ⟨.load (some 64) (.tmp 14), some 15, none⟩,
    ⟨.call 28 [.tmp 15], some 16, none⟩,
    ⟨.addr (.tmp 3) 66, some 17, none⟩,
    ⟨.store 64 (.tmp 17) (.tmp 16), none, none⟩])
  (.seq (.ops [⟨.addr (.tmp 1) 130, some 18, none⟩,
    ⟨.load (some 64) (.tmp 18), some 19, none⟩,
    ⟨.call 28 [.tmp 19], some 20, none⟩,
    ⟨.addr (.tmp 3) 130, some 21, none⟩,
    ⟨.store 64 (.tmp 21) (.tmp 20), none, none⟩])
  (.seq (.ops [⟨.addr (.tmp 1) 194, some 22, none⟩,
    ⟨.load none (.tmp 22), some 23, none⟩,
    ⟨.addr (.tmp 3) 194, some 24, none⟩,
    ⟨.store 1 (.tmp 24) (.tmp 23), none, none⟩])
  (.seq (.ops [⟨.load (some 195) (.tmp 3), some 25, none⟩,
    ⟨.store 195 (.tmp 2) (.tmp 25), none, none⟩])
  (.ret)))))))))⟩
theorem ok_laws_toGround : cmpF Try.prog Try.f31 = some c_laws_toGround := by kernel_rfl

/- impl.SameGround -/
def c_impl_SameGround : FV := ⟨47, [.tmp 4],
  .seq (.ops [⟨.box 34 (.tmp 0), some 2, none⟩,
    ⟨.box 34 (.tmp 1), some 3, none⟩,
    ⟨.mov (.const (.bool false)), some 4, none⟩])
  (.seq (.ops [⟨.addr (.tmp 2) 2, some 6, none⟩,
    ⟨.load (some 64) (.tmp 6), some 7, none⟩,
    ⟨.addr (.tmp 3) 2, some 8, none⟩,
    ⟨.load (some 64) (.tmp 8), some 9, none⟩,
    ⟨.call 29 [.tmp 7, .tmp 9], some 10, none⟩,
    ⟨.mov (.tmp 10), some 11, none⟩,
    ⟨.addr (.tmp 2) 66, some 12, some (11, true)⟩,
    ⟨.load (some 64) (.tmp 12), some 13, some (11, true)⟩,
    ⟨.addr (.tmp 3) 66, some 14, some (11, true)⟩,
    ⟨.load (some 64) (.tmp 14), some 15, some (11, true)⟩,
    ⟨.call 29 [.tmp 13, .tmp 15], some 16, some (11, true)⟩,
    ⟨.pick (.tmp 11) (.tmp 16) (.const (.bool false)), some 17, none⟩,
    ⟨.mov (.tmp 17), some 18, none⟩,
    ⟨.addr (.tmp 2) 130, some 19, some (18, true)⟩,
    ⟨.load (some 64) (.tmp 19), some 20, some (18, true)⟩,
    ⟨.addr (.tmp 3) 130, some 21, some (18, true)⟩,
    ⟨.load (some 64) (.tmp 21), some 22, some (18, true)⟩,
    ⟨.call 29 [.tmp 20, .tmp 22], some 23, some (18, true)⟩,
    ⟨.pick (.tmp 18) (.tmp 23) (.const (.bool false)), some 24, none⟩,
    ⟨.mov (.tmp 24), some 5, none⟩])
  (.seq (.ops [⟨.addr (.tmp 2) 0, some 25, none⟩,
    ⟨.load none (.tmp 25), some 26, none⟩,
    ⟨.addr (.tmp 3) 0, some 27, none⟩,
    ⟨.load none (.tmp 27), some 28, none⟩,
    ⟨.bin .eql (.tmp 26) (.tmp 28), some 29, none⟩,
    ⟨.mov (.tmp 29), some 30, none⟩,
    ⟨.addr (.tmp 2) 1, some 31, some (30, true)⟩,
    ⟨.load none (.tmp 31), some 32, some (30, true)⟩,
    ⟨.addr (.tmp 3) 1, some 33, some (30, true)⟩,
    ⟨.load none (.tmp 33), some 34, some (30, true)⟩,
    ⟨.bin .eql (.tmp 32) (.tmp 34), some 35, some (30, true)⟩,
    ⟨.pick (.tmp 30) (.tmp 35) (.const (.bool false)), some 36, none⟩,
    ⟨.mov (.tmp 36), some 37, none⟩,
    ⟨.mov (.tmp 5), some 38, some (37, true)⟩,
    ⟨.pick (.tmp 37) (.tmp 38) (.const (.bool false)), some 39, none⟩,
    ⟨.mov (.tmp 39), some 40, none⟩,
    ⟨.addr (.tmp 2) 194, some 41, some (40, true)⟩,
    ⟨.load none (.tmp 41), some 42, some (40, true)⟩,
    ⟨.addr (.tmp 3) 194, some 43, some (40, true)⟩,
    ⟨.load none (.tmp 43), some 44, some (40, true)⟩,
    ⟨.bin .eql (.tmp 42) (.tmp 44), some 45, some (40, true)⟩,
    ⟨.pick (.tmp 40) (.tmp 45) (.const (.bool false)), some 46, none⟩,
    ⟨.mov (.tmp 46), some 4, none⟩])
  (.ret)))⟩
theorem ok_impl_SameGround : cmpF Try.prog Try.f32 = some c_impl_SameGround := by kernel_rfl

/- spec.SameBrine -/
def c_spec_SameBrine : FV := ⟨25, [.tmp 4],
  .seq (.ops [⟨.box 41 (.tmp 0), some 2, none⟩,
    ⟨.box 41 (.tmp 1), some 3, none⟩,
    ⟨.mov (.const (.bool false)), some 4, none⟩])
  (.seq (.ops [⟨.addr (.tmp 2) 0, some 5, none⟩,
    ⟨.addr (.tmp 3) 0, some 6, none⟩,
    ⟨.call 83 [.tmp 5, .tmp 6], some 7, none⟩,
    ⟨.mov (.tmp 7), some 8, none⟩,
    ⟨.addr (.tmp 2) 195, some 9, some (8, true)⟩,
    ⟨.addr (.tmp 3) 195, some 10, some (8, true)⟩,
    ⟨.call 81 [.tmp 9, .tmp 10], some 11, some (8, true)⟩,
    ⟨.pick (.tmp 8) (.tmp 11) (.const (.bool false)), some 12, none⟩,
    ⟨.mov (.tmp 12), some 13, none⟩,
    ⟨.addr (.tmp 2) 259, some 14, some (13, true)⟩,
    ⟨.addr (.tmp 3) 259, some 15, some (13, true)⟩,
    ⟨.call 81 [.tmp 14, .tmp 15], some 16, some (13, true)⟩,
    ⟨.pick (.tmp 13) (.tmp 16) (.const (.bool false)), some 17, none⟩,
    ⟨.mov (.tmp 17), some 18, none⟩,
    ⟨.addr (.tmp 2) 323, some 19, some (18, true)⟩,
    ⟨.load none (.tmp 19), some 20, some (18, true)⟩,
    ⟨.addr (.tmp 3) 323, some 21, some (18, true)⟩,
    ⟨.load none (.tmp 21), some 22, some (18, true)⟩,
    ⟨.call 84 [.tmp 20, .tmp 22], some 23, some (18, true)⟩,
    ⟨.pick (.tmp 18) (.tmp 23) (.const (.bool false)), some 24, none⟩,
    ⟨.mov (.tmp 24), some 4, none⟩])
  (.ret))⟩
theorem ok_spec_SameBrine : cmpF Try.prog Try.f33 = some c_spec_SameBrine := by kernel_rfl

/- laws.toBrine -/
def c_laws_toBrine : FV := ⟨20, [.cell 2 (some 324)],
  .seq (.ops [⟨.box 38 (.tmp 0), some 1, none⟩,
    ⟨.alloc 41 (.agg (brcells brz)), some 2, none⟩])
  (.seq (.ops [⟨.alloc 41 (.agg (brcells brz)), some 3, none⟩])
  (.seq (.ops [⟨.addr (.tmp 1) 0, some 4, none⟩,
    ⟨.load (some 195) (.tmp 4), some 5, none⟩,
    ⟨.call 31 [.tmp 5], some 6, none⟩,
    ⟨.addr (.tmp 3) 0, some 7, none⟩,
    ⟨.store 195 (.tmp 7) (.tmp 6), none, none⟩])
  (.seq (.ops [⟨.addr (.tmp 1) 195, some 8, none⟩,
    ⟨.load (some 64) (.tmp 8), some 9, none⟩,
    ⟨.call 28 [.tmp 9], some 10, none⟩,
    ⟨.addr (.tmp 3) 195, some 11, none⟩,
    ⟨.store 64 (.tmp 11) (.tmp 10), none, none⟩])
  (.seq (.ops [⟨.addr (.tmp 1) 259, some 12, none⟩,
    ⟨.load (some 64) (.tmp 12), some 13, none⟩,
    ⟨.call 28 [.tmp 13], some 14, none⟩,
    ⟨.addr (.tmp 3) 259, some 15, none⟩,
    ⟨.store 64 (.tmp 15) (.tmp 14), none, none⟩])
  (.seq (.ops [⟨.addr (.tmp 1) 323, some 16, none⟩,
    ⟨.load none (.tmp 16), some 17, none⟩,
    ⟨.addr (.tmp 3) 323, some 18, none⟩,
    ⟨.store 1 (.tmp 18) (.tmp 17), none, none⟩])
  (.seq (.ops [⟨.load (some 324) (.tmp 3), some 19, none⟩,
    ⟨.store 324 (.tmp 2) (.tmp 19), none, none⟩])
  (.ret)))))))⟩
theorem ok_laws_toBrine : cmpF Try.prog Try.f34 = some c_laws_toBrine := by kernel_rfl

/- impl.SameBrine -/
def c_impl_SameBrine : FV := ⟨31, [.tmp 4],
  .seq (.ops [⟨.box 41 (.tmp 0), some 2, none⟩,
    ⟨.box 41 (.tmp 1), some 3, none⟩,
    ⟨.mov (.const (.bool false)), some 4, none⟩])
  (.seq (.ops [⟨.addr (.tmp 2) 0, some 5, none⟩,
    ⟨.load (some 195) (.tmp 5), some 6, none⟩,
    ⟨.addr (.tmp 3) 0, some 7, none⟩,
    ⟨.load (some 195) (.tmp 7), some 8, none⟩,
    ⟨.call 32 [.tmp 6, .tmp 8], some 9, none⟩,
    ⟨.mov (.tmp 9), some 10, none⟩,
    ⟨.addr (.tmp 2) 195, some 11, some (10, true)⟩,
    ⟨.load (some 64) (.tmp 11), some 12, some (10, true)⟩,
    ⟨.addr (.tmp 3) 195, some 13, some (10, true)⟩,
    ⟨.load (some 64) (.tmp 13), some 14, some (10, true)⟩,
    ⟨.call 29 [.tmp 12, .tmp 14], some 15, some (10, true)⟩,
    ⟨.pick (.tmp 10) (.tmp 15) (.const (.bool false)), some 16, none⟩,
    ⟨.mov (.tmp 16), some 17, none⟩,
    ⟨.addr (.tmp 2) 259, some 18, some (17, true)⟩,
    ⟨.load (some 64) (.tmp 18), some 19, some (17, true)⟩,
    ⟨.addr (.tmp 3) 259, some 20, some (17, true)⟩,
    ⟨.load (some 64) (.tmp 20), some 21, some (17, true)⟩,
    ⟨.call 29 [.tmp 19, .tmp 21], some 22, some (17, true)⟩,
    ⟨.pick (.tmp 17) (.tmp 22) (.const (.bool false)), some 23, none⟩,
    ⟨.mov (.tmp 23), some 24, none⟩,
    ⟨.addr (.tmp 2) 323, some 25, some (24, true)⟩,
    ⟨.load none (.tmp 25), some 26, some (24, true)⟩,
    ⟨.addr (.tmp 3) 323, some 27, some (24, true)⟩,
    ⟨.load none (.tmp 27), some 28, some (24, true)⟩,
    ⟨.call 82 [.tmp 26, .tmp 28], some 29, some (24, true)⟩,
    ⟨.pick (.tmp 24) (.tmp 29) (.const (.bool false)), some 30, none⟩,
    ⟨.mov (.tmp 30), some 4, none⟩])
  (.ret))⟩
theorem ok_impl_SameBrine : cmpF Try.prog Try.f35 = some c_impl_SameBrine := by kernel_rfl

/- spec.EvenGround -/
def c_spec_EvenGround : FV := ⟨54, [.cell 8 (some 195), .tmp 9],
  .seq (.ops [⟨.alloc 34 (.agg (gcells gz)), some 8, none⟩,
    ⟨.mov (.const (.int .i64 0)), some 9, none⟩])
  (.seq (.seq (.ops [⟨.mov (.tmp 2), some 12, none⟩,
    ⟨.call 85 [.tmp 12], some 13, none⟩,
    ⟨.un .not (.tmp 13), some 14, none⟩,
    ⟨.mov (.tmp 14), some 15, none⟩,
    ⟨.mov (.tmp 2), some 16, some (15, false)⟩,
    ⟨.fbin .lss (.tmp 16) (.const (.float .f32 0)), some 17, some (15, false)⟩,
    ⟨.pick (.tmp 15) (.const (.bool true)) (.tmp 17), some 18, none⟩,
    ⟨.mov (.tmp 18), some 19, none⟩,
    ⟨.mov (.tmp 3), some 20, some (19, false)⟩,
    ⟨.call 85 [.tmp 20], some 21, some (19, false)⟩,
    ⟨.un .not (.tmp 21), some 22, some (19, false)⟩,
    ⟨.pick (.tmp 19) (.const (.bool true)) (.tmp 22), some 23, none⟩])
  (.cond (.tmp 23) (.seq (.ops [⟨.build [(0, 1), (1, 1), (2, 64), (66, 64), (130, 64), (194, 1)] (gcells gz) [], some 24, none⟩,
    ⟨.store 195 (.tmp 8) (.tmp 24), none, none⟩,
    ⟨.mov (.const (.int .i64 1)), some 9, none⟩])
  (.ret)) (.skip)))
  (.seq (.seq (.ops [⟨.mov (.tmp 0), some 25, none⟩,
    ⟨.call 86 [.tmp 25, .const (.int .i64 2), .const (.int .i64 8)], some 26, none⟩,
    ⟨.un .not (.tmp 26), some 27, none⟩,
    ⟨.mov (.tmp 27), some 28, none⟩,
    ⟨.mov (.tmp 1), some 29, some (28, false)⟩,
    ⟨.call 86 [.tmp 29, .const (.int .i64 2), .const (.int .i64 8)], some 30, some (28, false)⟩,
    ⟨.un .not (.tmp 30), some 31, some (28, false)⟩,
    ⟨.pick (.tmp 28) (.const (.bool true)) (.tmp 31), some 32, none⟩])
  (.cond (.tmp 32) (.seq (.ops [⟨.build [(0, 1), (1, 1), (2, 64), (66, 64), (130, 64), (194, 1)] (gcells gz) [], some 33, none⟩,
    ⟨.store 195 (.tmp 8) (.tmp 33), none, none⟩,
    ⟨.mov (.const (.int .i64 2)), some 9, none⟩])
  (.ret)) (.skip)))
  (.seq (.ops [⟨.mov (.tmp 0), some 34, none⟩,
    ⟨.convI .i8 (.tmp 34), some 35, none⟩,
    ⟨.mov (.tmp 1), some 36, none⟩,
    ⟨.convI .i8 (.tmp 36), some 37, none⟩,
    ⟨.build [(0, 1), (1, 1), (2, 64), (66, 64), (130, 64), (194, 1)] (gcells gz) [(0, .tmp 35), (1, .tmp 37), (5, .const (.int .u64 1))], some 38, none⟩,
    ⟨.alloc 34 (.agg (gcells gz)), some 10, none⟩,
    ⟨.store 195 (.tmp 10) (.tmp 38), none, none⟩])
  (.seq (.seq (.ops [⟨.mov (.const (.int .i64 0)), some 11, none⟩])
  (.block 0 (.loop (.seq (.seq (.ops [⟨.mov (.tmp 11), some 39, none⟩,
    ⟨.bin .lss (.tmp 39) (.const (.int .i64 64)), some 40, none⟩])
  (.cond (.tmp 40) (.skip) (.exit 0)))
  (.seq (.block 1 (.seq (.ops [⟨.mov (.tmp 11), some 43, none⟩,
    ⟨.call 87 [.tmp 10, .tmp 43], some 44, none⟩])
  (.cond (.tmp 44) (.seq (.ops [⟨.mov (.tmp 11), some 45, none⟩,
    ⟨.mov (.tmp 2), some 46, none⟩,
    ⟨.addr (.tmp 10) 2, some 47, none⟩,
    ⟨.idxA 64 1 (.tmp 47) (.tmp 45), some 48, none⟩,
    ⟨.store 1 (.tmp 48) (.tmp 46), none, none⟩])
  (.ops [⟨.mov (.tmp 11), some 49, none⟩,
    ⟨.mov (.tmp 3), some 50, none⟩,
    ⟨.addr (.tmp 10) 130, some 51, none⟩,
    ⟨.idxA 64 1 (.tmp 51) (.tmp 49), some 52, none⟩,
    ⟨.store 1 (.tmp 52) (.tmp 50), none, none⟩])) (.skip))))
  (.ops [⟨.mov (.tmp 11), some 41, none⟩,
    ⟨.bin .add (.tmp 41) (.const (.int .i64 1)), some 42, none⟩,
    ⟨.mov (.tmp 42), some 11, none⟩]))))))
  (.seq (.ops [⟨.load (some 195) (.tmp 10), some 53, none⟩,
    ⟨.store 195 (.tmp 8) (.tmp 53), none, none⟩,
    ⟨.mov (.const (.int .i64 0)), some 9, none⟩])
  (.ret))))))⟩
theorem ok_spec_EvenGround : cmpF Try.prog Try.f36 = some c_spec_EvenGround := by kernel_rfl

/- impl.EvenGround -/
def c_impl_EvenGround : FV := ⟨54, [.cell 8 (some 195), .tmp 9],
  .seq (.ops [⟨.alloc 34 (.agg (gcells gz)), some 8, none⟩,
    ⟨.mov (.const (.int .i64 0)), some 9, none⟩])
  (.seq (.block 0 (.seq (.ops [⟨.mov (.tmp 2), some 14, none⟩,
    ⟨.call 88 [.tmp 14], some 15, none⟩,
    ⟨.un .not (.tmp 15), some 16, none⟩,
    ⟨.mov (.tmp 16), some 17, none⟩,
    ⟨.mov (.tmp 3), some 18, some (17, false)⟩,
    ⟨.call 89 [.tmp 18], some 19, some (17, false)⟩,
    ⟨.un .not (.tmp 19), some 20, some (17, false)⟩,
    ⟨.pick (.tmp 17) (.const (.bool true)) (.tmp 20), some 21, none⟩,
    ⟨.mov (.tmp 21), some 13, none⟩])
  (.cond (.tmp 13) (.seq (.ops [⟨.build [(0, 1), (1, 1), (2, 64), (66, 64), (130, 64), (194, 1)] (gcells gz) [], some 22, none⟩,
    ⟨.store 195 (.tmp 8) (.tmp 22), none, none⟩,
    ⟨.mov (.const (.int .i64 1)), some 9, none⟩])
  (.ret)) (.seq (.ops [⟨.mov (.tmp 0), some 24, none⟩,
    ⟨.call 90 [.tmp 24, .const (.int .i64 2), .const (.int .i64 8)], some 25, none⟩,
    ⟨.un .not (.tmp 25), some 26, none⟩,
    ⟨.mov (.tmp 26), some 27, none⟩,
    ⟨.mov (.tmp 1), some 28, some (27, false)⟩,
    ⟨.call 90 [.tmp 28, .const (.int .i64 2), .const (.int .i64 8)], some 29, some (27, false)⟩,
    ⟨.un .not (.tmp 29), some 30, some (27, false)⟩,
    ⟨.pick (.tmp 27) (.const (.bool true)) (.tmp 30), some 31, none⟩,
    ⟨.mov (.tmp 31), some 23, none⟩])
  (.cond (.tmp 23) (.seq (.ops [⟨.build [(0, 1), (1, 1), (2, 64), (66, 64), (130, 64), (194, 1)] (gcells gz) [], some 32, none⟩,
    ⟨.store 195 (.tmp 8) (.tmp 32), none, none⟩,
    ⟨.mov (.const (.int .i64 2)), some 9, none⟩])
  (.ret)) (.skip))))))
  (.seq (.ops [⟨.mov (.tmp 0), some 33, none⟩,
    ⟨.convI .i8 (.tmp 33), some 34, none⟩,
    ⟨.mov (.tmp 1), some 35, none⟩,
    ⟨.convI .i8 (.tmp 35), some 36, none⟩,
    ⟨.build [(0, 1), (1, 1), (2, 64), (66, 64), (130, 64), (194, 1)] (gcells gz) [(0, .tmp 34), (1, .tmp 36), (5, .const (.int .u64 1))], some 37, none⟩,
    ⟨.alloc 34 (.agg (gcells gz)), some 10, none⟩,
    ⟨.store 195 (.tmp 10) (.tmp 37), none, none⟩])
  (.seq (.seq (.ops [⟨.call 91 [.tmp 10], some 38, none⟩,
    ⟨.lenL (.tmp 38), some 39, none⟩,
    ⟨.mov (.const (.int .i64 0)), some 40, none⟩])
  (.block 1 (.loop (.seq (.ops [⟨.bin .lss (.tmp 40) (.tmp 39), some 41, none⟩])
  (.seq (.cond (.tmp 41) (.skip) (.exit 1))
  (.seq (.block 2 (.seq (.ops [⟨.idxS 1 (.tmp 38) (.tmp 40), some 42, none⟩,
    ⟨.load none (.tmp 42), some 43, none⟩,
    ⟨.mov (.tmp 43), some 12, none⟩])
  (.ops [⟨.mov (.tmp 12), some 44, none⟩,
    ⟨.mov (.tmp 12), some 45, none⟩,
    ⟨.mov (.tmp 2), some 46, none⟩,
    ⟨.mov (.tmp 3), some 47, none⟩,
    ⟨.addr (.tmp 10) 2, some 48, none⟩,
    ⟨.idxA 64 1 (.tmp 48) (.tmp 44), some 49, none⟩,
    ⟨.store 1 (.tmp 49) (.tmp 46), none, none⟩,
    ⟨.addr (.tmp 10) 130, some 50, none⟩,
    ⟨.idxA 64 1 (.tmp 50) (.tmp 45), some 51, none⟩,
    ⟨.store 1 (.tmp 51) (.tmp 47), none, none⟩])))
  (.ops [⟨.bin .add (.tmp 40) (.const (.int .i64 1)), some 52, none⟩,
    ⟨.mov (.tmp 52), some 40, none⟩])))))))
  (.seq (.ops [⟨.load (some 195) (.tmp 10), some 53, none⟩,
    ⟨.store 195 (.tmp 8) (.tmp 53), none, none⟩,
    ⟨.mov (.const (.int .i64 0)), some 9, none⟩])
  (.ret)))))⟩
theorem ok_impl_EvenGround : cmpF Try.prog Try.f37 = some c_impl_EvenGround := by kernel_rfl

/- laws.eqGround -/
def c_laws_eqGround : FV := ⟨38, [.tmp 4],
  .seq (.ops [⟨.box 34 (.tmp 0), some 2, none⟩,
    ⟨.box 34 (.tmp 1), some 3, none⟩,
    ⟨.mov (.const (.bool false)), some 4, none⟩])
  (.seq (.seq (.ops [⟨.addr (.tmp 2) 0, some 5, none⟩,
    ⟨.load none (.tmp 5), some 6, none⟩,
    ⟨.addr (.tmp 3) 0, some 7, none⟩,
    ⟨.load none (.tmp 7), some 8, none⟩,
    ⟨.bin .neq (.tmp 6) (.tmp 8), some 9, none⟩])
  (.cond (.tmp 9) (.seq (.ops [⟨.mov (.const (.bool false)), some 4, none⟩])
  (.ret)) (.skip)))
  (.seq (.seq (.ops [⟨.addr (.tmp 2) 1, some 10, none⟩,
    ⟨.load none (.tmp 10), some 11, none⟩,
    ⟨.addr (.tmp 3) 1, some 12, none⟩,
    ⟨.load none (.tmp 12), some 13, none⟩,
    ⟨.bin .neq (.tmp 11) (.tmp 13), some 14, none⟩])
  (.cond (.tmp 14) (.seq (.ops [⟨.mov (.const (.bool false)), some 4, none⟩])
  (.ret)) (.skip)))
  (.seq (.seq (.ops [⟨.addr (.tmp 2) 2, some 15, none⟩,
    ⟨.load (some 64) (.tmp 15), some 16, none⟩,
    ⟨.addr (.tmp 3) 2, some 17, none⟩,
    ⟨.load (some 64) (.tmp 17), some 18, none⟩,
    ⟨.call 50 [.tmp 16, .tmp 18], some 19, none⟩,
    ⟨.un .not (.tmp 19), some 20, none⟩])
  (.cond (.tmp 20) (.seq (.ops [⟨.mov (.const (.bool false)), some 4, none⟩])
  (.ret)) (.skip)))
  (.seq (.seq (.ops [⟨.addr (.tmp 2) 66, some 21, none⟩,
    ⟨.load (some 64) (.tmp 21), some 22, none⟩,
    ⟨.addr (.tmp 3) 66, some 23, none⟩,
    ⟨.load (some 64) (.tmp 23), some 24, none⟩,
    ⟨.call 50 [.tmp 22, .tmp 24], some 25, none⟩,
    ⟨.un .not (.tmp 25), some 26, none⟩])
  (.cond (.tmp 26) (.seq (.ops [⟨.mov (.const (.bool false)), some 4, none⟩])
  (.ret)) (.skip)))
  (.seq (.seq (.ops [⟨.addr (.tmp 2) 130, some 27, none⟩,
    ⟨.load (some 64) (.tmp 27), some 28, none⟩,
    ⟨.addr (.tmp 3) 130, some 29, none⟩,
    ⟨.load (some 64) (.tmp 29), some 30, none⟩,
    ⟨.call 50 [.tmp 28, .tmp 30], some 31, none⟩,
    ⟨.un .not (.tmp 31), some 32, none⟩])
  (.cond (.tmp 32) (.seq (.ops [⟨.mov (.const (.bool false)), some 4, none⟩])
  (.ret)) (.skip)))
  (.seq (.seq (.ops [⟨.addr (.tmp 2) 194, some 33, none⟩,
    ⟨.load none (.tmp 33), some 34, none⟩,
    ⟨.addr (.tmp 3) 194, some 35, none⟩,
    ⟨.load none (.tmp 35), some 36, none⟩,
    ⟨.bin .neq (.tmp 34) (.tmp 36), some 37, none⟩])
  (.cond (.tmp 37) (.seq (.ops [⟨.mov (.const (.bool false)), some 4, none⟩])
  (.ret)) (.skip)))
  (.seq (.ops [⟨.mov (.const (.bool true)), some 4, none⟩])
  (.ret))))))))⟩
theorem ok_laws_eqGround : cmpF Try.prog Try.f38 = some c_laws_eqGround := by kernel_rfl

/- spec.ValidGround -/
def c_spec_ValidGround : FV := ⟨4, [.tmp 2],
  .seq (.ops [⟨.box 34 (.tmp 0), some 1, none⟩,
    ⟨.mov (.const (.bool false)), some 2, none⟩])
  (.seq (.ops [⟨.call 92 [.tmp 1], some 3, none⟩,
    ⟨.mov (.tmp 3), some 2, none⟩])
  (.ret))⟩
theorem ok_spec_ValidGround : cmpF Try.prog Try.f39 = some c_spec_ValidGround := by kernel_rfl

/- impl.ValidGround -/
def c_impl_ValidGround : FV := ⟨39, [.tmp 2],
  .seq (.ops [⟨.box 34 (.tmp 0), some 1, none⟩,
    ⟨.mov (.const (.bool false)), some 2, none⟩])
  (.seq (.seq (.ops [⟨.addr (.tmp 1) 0, some 4, none⟩,
    ⟨.load none (.tmp 4), some 5, none⟩,
    ⟨.convI .i64 (.tmp 5), some 6, none⟩,
    ⟨.call 90 [.tmp 6, .const (.int .i64 2), .const (.int .i64 8)], some 7, none⟩,
    ⟨.un .not (.tmp 7), some 8, none⟩,
    ⟨.mov (.tmp 8), some 9, none⟩,
    ⟨.addr (.tmp 1) 1, some 10, some (9, false)⟩,
    ⟨.load none (.tmp 10), some 11, some (9, false)⟩,
    ⟨.convI .i64 (.tmp 11), some 12, some (9, false)⟩,
    ⟨.call 90 [.tmp 12, .const (.int .i64 2), .const (.int .i64 8)], some 13, some (9, false)⟩,
    ⟨.un .not (.tmp 13), some 14, some (9, false)⟩,
    ⟨.pick (.tmp 9) (.const (.bool true)) (.tmp 14), some 15, none⟩])
  (.cond (.tmp 15) (.seq (.ops [⟨.mov (.const (.bool false)), some 2, none⟩])
  (.ret)) (.skip)))
  (.seq (.ops [⟨.addr (.tmp 1) 2, some 16, none⟩,
    ⟨.call 93 [.tmp 1, .tmp 16, .func 88], some 17, none⟩,
    ⟨.mov (.tmp 17), some 18, none⟩,
    ⟨.addr (.tmp 1) 66, some 19, some (18, true)⟩,
    ⟨.call 93 [.tmp 1, .tmp 19, .func 89], some 20, some (18, true)⟩,
    ⟨.pick (.tmp 18) (.tmp 20) (.const (.bool false)), some 21, none⟩,
    ⟨.mov (.tmp 21), some 22, none⟩,
    ⟨.addr (.tmp 1) 130, some 23, some (22, true)⟩,
    ⟨.call 93 [.tmp 1, .tmp 23, .func 89], some 24, some (22, true)⟩,
    ⟨.pick (.tmp 22) (.tmp 24) (.const (.bool false)), some 25, none⟩,
    ⟨.mov (.tmp 25), some 3, none⟩])
  (.seq (.bops [⟨.mov (.tmp 3), some 26, none⟩,
    ⟨.mov (.tmp 26), some 27, none⟩,
    ⟨.addr (.tmp 1) 194, some 28, some (27, true)⟩,
    ⟨.load none (.tmp 28), some 29, some (27, true)⟩,
    ⟨.bin .neq (.tmp 29) (.const (.int .u64 0)), some 30, some (27, true)⟩,
    ⟨.pick (.tmp 27) (.tmp 30) (.const (.bool false)), some 31, none⟩,
    ⟨.mov (.tmp 31), some 32, none⟩,
    ⟨.addr (.tmp 1) 194, some 33, some (32, true)⟩,
    ⟨.load none (.tmp 33), some 34, some (32, true)⟩,
    ⟨.call 94 [.tmp 1], some 35, some (32, true)⟩,
    ⟨.bin .andNot (.tmp 34) (.tmp 35), some 36, some (32, true)⟩,
    ⟨.bin .eql (.tmp 36) (.const (.int .u64 0)), some 37, some (32, true)⟩,
    ⟨.pick (.tmp 32) (.tmp 37) (.const (.bool false)), some 38, none⟩,
    ⟨.mov (.tmp 38), some 2, none⟩])
  (.ret))))⟩
theorem ok_impl_ValidGround : cmpF Try.prog Try.f40 = some c_impl_ValidGround := by kernel_rfl

/- spec.CellsOf -/
def c_spec_CellsOf : FV := ⟨7, [.tmp 2, .tmp 3],
  .seq (.ops [⟨.box 34 (.tmp 0), some 1, none⟩,
    ⟨.mov (.const (.int .u64 0)), some 2, none⟩,
    ⟨.mov (.const (.int .i64 0)), some 3, none⟩])
  (.seq (.seq (.ops [⟨.call 92 [.tmp 1], some 4, none⟩,
    ⟨.un .not (.tmp 4), some 5, none⟩])
  (.cond (.tmp 5) (.seq (.ops [⟨.mov (.const (.int .u64 0)), some 2, none⟩,
    ⟨.mov (.const (.int .i64 1)), some 3, none⟩])
  (.ret)) (.skip)))
  (.seq (.ops [⟨.call 95 [.tmp 1], some 6, none⟩,
    ⟨.mov (.tmp 6), some 2, none⟩,
    ⟨.mov (.const (.int .i64 0)), some 3, none⟩])
  (.ret)))⟩
theorem ok_spec_CellsOf : cmpF Try.prog Try.f41 = some c_spec_CellsOf := by kernel_rfl

/- impl.CellsOf -/
def c_impl_CellsOf : FV := ⟨8, [.tmp 2, .tmp 3],
  .seq (.ops [⟨.box 34 (.tmp 0), some 1, none⟩,
    ⟨.mov (.const (.int .u64 0)), some 2, none⟩,
    ⟨.mov (.const (.int .i64 0)), some 3, none⟩])
  (.seq (.seq (.ops [⟨.load (some 195) (.tmp 1), some 4, none⟩,
    ⟨.call 40 [.tmp 4], some 5, none⟩,
    ⟨.un .not (.tmp 5), some 6, none⟩])
  (.cond (.tmp 6) (.seq (.ops [⟨.mov (.const (.int .u64 0)), some 2, none⟩,
    ⟨.mov (.const (.int .i64 1)), some 3, none⟩])
  (.ret)) (.skip)))
  (.seq (.ops [⟨.call 94 [.tmp 1], some 7, none⟩,
    ⟨.mov (.tmp 7), some 2, none⟩,
    ⟨.mov (.const (.int .i64 0)), some 3, none⟩])
  (.ret)))⟩
theorem ok_impl_CellsOf : cmpF Try.prog Try.f42 = some c_impl_CellsOf := by kernel_rfl

/- spec.CellAt -/
def c_spec_CellAt : FV := ⟨30, [.tmp 6, .tmp 7],
  .seq (.ops [⟨.box 34 (.tmp 0), some 3, none⟩,
    ⟨.mov (.const (.int .i64 0)), some 6, none⟩,
    ⟨.mov (.const (.int .i64 0)), some 7, none⟩])
  (.seq (.seq (.ops [⟨.call 92 [.tmp 3], some 8, none⟩,
    ⟨.un .not (.tmp 8), some 9, none⟩])
  (.cond (.tmp 9) (.seq (.ops [⟨.mov (.const (.int .i64 0)), some 6, none⟩,
    ⟨.mov (.const (.int .i64 1)), some 7, none⟩])
  (.ret)) (.skip)))
  (.seq (.seq (.ops [⟨.mov (.tmp 1), some 10, none⟩,
    ⟨.addr (.tmp 3) 0, some 11, none⟩,
    ⟨.load none (.tmp 11), some 12, none⟩,
    ⟨.convI .i64 (.tmp 12), some 13, none⟩,
    ⟨.bin .sub (.tmp 13) (.const (.int .i64 1)), some 14, none⟩,
    ⟨.call 86 [.tmp 10, .const (.int .i64 0), .tmp 14], some 15, none⟩,
    ⟨.un .not (.tmp 15), some 16, none⟩,
    ⟨.mov (.tmp 16), some 17, none⟩,
    ⟨.mov (.tmp 2), some 18, some (17, false)⟩,
    ⟨.addr (.tmp 3) 1, some 19, some (17, false)⟩,
    ⟨.load none (.tmp 19), some 20, some (17, false)⟩,
    ⟨.convI .i64 (.tmp 20), some 21, some (17, false)⟩,
    ⟨.bin .sub (.tmp 21) (.const (.int .i64 1)), some 22, some (17, false)⟩,
    ⟨.call 86 [.tmp 18, .const (.int .i64 0), .tmp 22], some 23, some (17, false)⟩,
    ⟨.un .not (.tmp 23), some 24, some (17, false)⟩,
    ⟨.pick (.tmp 17) (.const (.bool true)) (.tmp 24), some 25, none⟩])
  (.cond (.tmp 25) (.seq (.ops [⟨.mov (.const (.int .i64 0)), some 6, none⟩,
    ⟨.mov (.const (.int .i64 2)), some 7, none⟩])
  (.ret)) (.skip)))
  (.seq (.ops [⟨.mov (.tmp 1), some 26, none⟩,
    ⟨.mov (.tmp 2), some 27, none⟩,
    ⟨.bin .mul (.const (.int .i64 8)) (.tmp 27), some 28, none⟩,
    ⟨.bin .add (.tmp 26) (.tmp 28), some 29, none⟩,
    ⟨.mov (.tmp 29), some 6, none⟩,
    ⟨.mov (.const (.int .i64 0)), some 7, none⟩])
  (.ret))))⟩
theorem ok_spec_CellAt : cmpF Try.prog Try.f43 = some c_spec_CellAt := by kernel_rfl

/- impl.CellAt -/
def c_impl_CellAt : FV := ⟨33, [.tmp 6, .tmp 7],
  .seq (.ops [⟨.box 34 (.tmp 0), some 3, none⟩,
    ⟨.mov (.const (.int .i64 0)), some 6, none⟩,
    ⟨.mov (.const (.int .i64 0)), some 7, none⟩])
  (.seq (.block 0 (.seq (.ops [⟨.load (some 195) (.tmp 3), some 9, none⟩,
    ⟨.call 40 [.tmp 9], some 10, none⟩,
    ⟨.un .not (.tmp 10), some 11, none⟩,
    ⟨.mov (.tmp 11), some 8, none⟩])
  (.cond (.tmp 8) (.seq (.ops [⟨.mov (.const (.int .i64 0)), some 6, none⟩,
    ⟨.mov (.const (.int .i64 1)), some 7, none⟩])
  (.ret)) (.seq (.ops [⟨.mov (.tmp 1), some 13, none⟩,
    ⟨.addr (.tmp 3) 0, some 14, none⟩,
    ⟨.load none (.tmp 14), some 15, none⟩,
    ⟨.convI .i64 (.tmp 15), some 16, none⟩,
    ⟨.bin .sub (.tmp 16) (.const (.int .i64 1)), some 17, none⟩,
    ⟨.call 90 [.tmp 13, .const (.int .i64 0), .tmp 17], some 18, none⟩,
    ⟨.un .not (.tmp 18), some 19, none⟩,
    ⟨.mov (.tmp 19), some 20, none⟩,
    ⟨.mov (.tmp 2), some 21, some (20, false)⟩,
    ⟨.addr (.tmp 3) 1, some 22, some (20, false)⟩,
    ⟨.load none (.tmp 22), some 23, some (20, false)⟩,
    ⟨.convI .i64 (.tmp 23), some 24, some (20, false)⟩,
    ⟨.bin .sub (.tmp 24) (.const (.int .i64 1)), some 25, some (20, false)⟩,
    ⟨.call 90 [.tmp 21, .const (.int .i64 0), .tmp 25], some 26, some (20, false)⟩,
    ⟨.un .not (.tmp 26), some 27, some (20, false)⟩,
    ⟨.pick (.tmp 20) (.const (.bool true)) (.tmp 27), some 28, none⟩,
    ⟨.mov (.tmp 28), some 12, none⟩])
  (.cond (.tmp 12) (.seq (.ops [⟨.mov (.const (.int .i64 0)), some 6, none⟩,
    ⟨.mov (.const (.int .i64 2)), some 7, none⟩])
  (.ret)) (.skip))))))
  (.seq (.ops [⟨.mov (.tmp 1), some 29, none⟩,
    ⟨.mov (.tmp 2), some 30, none⟩,
    ⟨.bin .mul (.const (.int .i64 8)) (.tmp 30), some 31, none⟩,
    ⟨.bin .add (.tmp 29) (.tmp 31), some 32, none⟩,
    ⟨.mov (.tmp 32), some 6, none⟩,
    ⟨.mov (.const (.int .i64 0)), some 7, none⟩])
  (.ret)))⟩
theorem ok_impl_CellAt : cmpF Try.prog Try.f44 = some c_impl_CellAt := by kernel_rfl

/- spec.HeadsBetween -/
def c_spec_HeadsBetween : FV := ⟨15, [.tmp 2, .tmp 3, .tmp 4],
  .seq (.ops [⟨.box 34 (.tmp 0), some 1, none⟩,
    ⟨.mov (.const (.float .f32 0)), some 2, none⟩,
    ⟨.mov (.const (.float .f32 0)), some 3, none⟩,
    ⟨.mov (.const (.int .i64 0)), some 4, none⟩])
  (.seq (.seq (.ops [⟨.call 92 [.tmp 1], some 7, none⟩,
    ⟨.un .not (.tmp 7), some 8, none⟩])
  (.cond (.tmp 8) (.seq (.ops [⟨.mov (.const (.float .f32 0)), some 2, none⟩,
    ⟨.mov (.const (.float .f32 0)), some 3, none⟩,
    ⟨.mov (.const (.int .i64 1)), some 4, none⟩])
  (.ret)) (.skip)))
  (.seq (.ops [⟨.call 96 [.tmp 1], some 10, none⟩,
    ⟨.mov (.tmp 10), some 9, none⟩,
    ⟨.ext (.tmp 9) 0, some 11, none⟩,
    ⟨.ext (.tmp 9) 1, some 12, none⟩,
    ⟨.mov (.tmp 11), some 5, none⟩,
    ⟨.mov (.tmp 12), some 6, none⟩])
  (.seq (.ops [⟨.mov (.tmp 5), some 13, none⟩,
    ⟨.mov (.tmp 6), some 14, none⟩,
    ⟨.mov (.tmp 13), some 2, none⟩,
    ⟨.mov (.tmp 14), some 3, none⟩,
    ⟨.mov (.const (.int .i64 0)), some 4, none⟩])
  (.ret))))⟩
theorem ok_spec_HeadsBetween : cmpF Try.prog Try.f45 = some c_spec_HeadsBetween := by kernel_rfl

/- impl.HeadsBetween -/
def c_impl_HeadsBetween : FV := ⟨37, [.tmp 2, .tmp 3, .tmp 4],
  .seq (.ops [⟨.box 34 (.tmp 0), some 1, none⟩,
    ⟨.mov (.const (.float .f32 0)), some 2, none⟩,
    ⟨.mov (.const (.float .f32 0)), some 3, none⟩,
    ⟨.mov (.const (.int .i64 0)), some 4, none⟩])
  (.seq (.seq (.ops [⟨.load (some 195) (.tmp 1), some 9, none⟩,
    ⟨.call 40 [.tmp 9], some 10, none⟩,
    ⟨.un .not (.tmp 10), some 11, none⟩])
  (.cond (.tmp 11) (.seq (.ops [⟨.mov (.const (.float .f32 0)), some 2, none⟩,
    ⟨.mov (.const (.float .f32 0)), some 3, none⟩,
    ⟨.mov (.const (.int .i64 1)), some 4, none⟩])
  (.ret)) (.skip)))
  (.seq (.bops [⟨.addr (.tmp 1) 130, some 12, none⟩,
    ⟨.idxA 64 1 (.tmp 12) (.const (.int .i64 0)), some 13, none⟩,
    ⟨.load none (.tmp 13), some 14, none⟩,
    ⟨.addr (.tmp 1) 130, some 15, none⟩,
    ⟨.idxA 64 1 (.tmp 15) (.const (.int .i64 0)), some 16, none⟩,
    ⟨.load none (.tmp 16), some 17, none⟩,
    ⟨.mov (.tmp 14), some 5, none⟩,
    ⟨.mov (.tmp 17), some 6, none⟩])
  (.seq (.seq (.ops [⟨.call 91 [.tmp 1], some 18, none⟩,
    ⟨.addr (.tmp 1) 130, some 19, none⟩,
    ⟨.call 97 [.tmp 18, .tmp 19], some 20, none⟩,
    ⟨.lenL (.tmp 20), some 21, none⟩,
    ⟨.mov (.const (.int .i64 0)), some 22, none⟩])
  (.block 0 (.loop (.seq (.ops [⟨.bin .lss (.tmp 22) (.tmp 21), some 23, none⟩])
  (.seq (.cond (.tmp 23) (.skip) (.exit 0))
  (.seq (.block 1 (.seq (.ops [⟨.idxS 1 (.tmp 20) (.tmp 22), some 24, none⟩,
    ⟨.load none (.tmp 24), some 25, none⟩,
    ⟨.mov (.tmp 25), some 8, none⟩])
  (.seq (.seq (.ops [⟨.mov (.tmp 8), some 26, none⟩,
    ⟨.mov (.tmp 5), some 27, none⟩,
    ⟨.fbin .lss (.tmp 26) (.tmp 27), some 28, none⟩])
  (.cond (.tmp 28) (.ops [⟨.mov (.tmp 8), some 29, none⟩,
    ⟨.mov (.tmp 29), some 5, none⟩]) (.skip)))
  (.seq (.ops [⟨.mov (.tmp 8), some 30, none⟩,
    ⟨.mov (.tmp 6), some 31, none⟩,
    ⟨.fbin .gtr (.tmp 30) (.tmp 31), some 32, none⟩])
  (.cond (.tmp 32) (.ops [⟨.mov (.tmp 8), some 33, none⟩,
    ⟨.mov (.tmp 33), some 6, none⟩]) (.skip))))))
  (.ops [⟨.bin .add (.tmp 22) (.const (.int .i64 1)), some 34, none⟩,
    ⟨.mov (.tmp 34), some 22, none⟩])))))))
  (.seq (.ops [⟨.mov (.tmp 5), some 35, none⟩,
    ⟨.mov (.tmp 6), some 36, none⟩,
    ⟨.mov (.tmp 35), some 2, none⟩,
    ⟨.mov (.tmp 36), some 3, none⟩,
    ⟨.mov (.const (.int .i64 0)), some 4, none⟩])
  (.ret)))))⟩
theorem ok_impl_HeadsBetween : cmpF Try.prog Try.f46 = some c_impl_HeadsBetween := by kernel_rfl

/- laws.sameFloat -/
def c_laws_sameFloat : FV := ⟨37, [.tmp 4],
  .seq (.ops [⟨.mov (.const (.bool false)), some 4, none⟩])
  (.seq (.seq (.ops [⟨.mov (.tmp 0), some 5, none⟩,
    ⟨.mov (.tmp 0), some 6, none⟩,
    ⟨.fbin .neq (.tmp 5) (.tmp 6), some 7, none⟩,
    ⟨.mov (.tmp 7), some 8, none⟩,
    ⟨.mov (.tmp 1), some 9, some (8, false)⟩,
    ⟨.mov (.tmp 1), some 10, some (8, false)⟩,
    ⟨.fbin .neq (.tmp 9) (.tmp 10), some 11, some (8, false)⟩,
    ⟨.pick (.tmp 8) (.const (.bool true)) (.tmp 11), some 12, none⟩])
  (.cond (.tmp 12) (.seq (.ops [⟨.mov (.tmp 0), some 13, none⟩,
    ⟨.mov (.tmp 0), some 14, none⟩,
    ⟨.fbin .neq (.tmp 13) (.tmp 14), some 15, none⟩,
    ⟨.mov (.tmp 15), some 16, none⟩,
    ⟨.mov (.tmp 1), some 17, some (16, true)⟩,
    ⟨.mov (.tmp 1), some 18, some (16, true)⟩,
    ⟨.fbin .neq (.tmp 17) (.tmp 18), some 19, some (16, true)⟩,
    ⟨.pick (.tmp 16) (.tmp 19) (.const (.bool false)), some 20, none⟩,
    ⟨.mov (.tmp 20), some 4, none⟩])
  (.ret)) (.skip)))
  (.seq (.seq (.ops [⟨.mov (.tmp 0), some 21, none⟩,
    ⟨.fbin .eql (.tmp 21) (.const (.float .f64 0)), some 22, none⟩,
    ⟨.mov (.tmp 22), some 23, none⟩,
    ⟨.mov (.tmp 1), some 24, some (23, true)⟩,
    ⟨.fbin .eql (.tmp 24) (.const (.float .f64 0)), some 25, some (23, true)⟩,
    ⟨.pick (.tmp 23) (.tmp 25) (.const (.bool false)), some 26, none⟩])
  (.cond (.tmp 26) (.seq (.ops [⟨.mov (.tmp 0), some 27, none⟩,
    ⟨.fbin .quo (.const (.float .f64 4607182418800017408)) (.tmp 27), some 28, none⟩,
    ⟨.fbin .gtr (.tmp 28) (.const (.float .f64 0)), some 29, none⟩,
    ⟨.mov (.tmp 1), some 30, none⟩,
    ⟨.fbin .quo (.const (.float .f64 4607182418800017408)) (.tmp 30), some 31, none⟩,
    ⟨.fbin .gtr (.tmp 31) (.const (.float .f64 0)), some 32, none⟩,
    ⟨.beq false (.tmp 29) (.tmp 32), some 33, none⟩,
    ⟨.mov (.tmp 33), some 4, none⟩])
  (.ret)) (.skip)))
  (.seq (.ops [⟨.mov (.tmp 0), some 34, none⟩,
    ⟨.mov (.tmp 1), some 35, none⟩,
    ⟨.fbin .eql (.tmp 34) (.tmp 35), some 36, none⟩,
    ⟨.mov (.tmp 36), some 4, none⟩])
  (.ret))))⟩
theorem ok_laws_sameFloat : cmpF Try.prog Try.f47 = some c_laws_sameFloat := by kernel_rfl

end Go.Proofs.Ytjnkmhdpbahbiaa

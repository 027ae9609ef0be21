/- The code of the Go functions in the generator's own form, printed by a program of mine (gen.py) out of the loaded program; each with the check that it is so. -/
import Derived.Test.YtbhipkiiondgnaaVcFn
import Derived.Test.YtbhipkiiondgnaaGeo
import Derived.Test.YtbhipkiiondgnaaRows
import Derived.KernelRfl
namespace Go.Proofs.Ytbhipkiiondgnaa
open Go Go.Fl Go.Vc
set_option linter.all false
set_option maxRecDepth 100000

/- spec.EvenGround -/
def c_spec_EvenGround : FV := ⟨54, [.cell 8 (some 195), .tmp 9],
  .seq (.ops [⟨.alloc 33 (.agg (gcells gz)), some 8, none⟩,
    ⟨.mov (.const (.int .i64 0)), some 9, none⟩])
  (.seq (.seq (.ops [⟨.mov (.tmp 2), some 12, none⟩,
    ⟨.call 69 [.tmp 12], some 13, none⟩,
    ⟨.un .not (.tmp 13), some 14, none⟩,
    ⟨.mov (.tmp 14), some 15, none⟩,
    ⟨.mov (.tmp 2), some 16, some (15, false)⟩,
    ⟨.fbin .lss (.tmp 16) (.const (.float .f32 0)), some 17, some (15, false)⟩,
    ⟨.pick (.tmp 15) (.const (.bool true)) (.tmp 17), some 18, none⟩,
    ⟨.mov (.tmp 18), some 19, none⟩,
    ⟨.mov (.tmp 3), some 20, some (19, false)⟩,
    ⟨.call 69 [.tmp 20], some 21, some (19, false)⟩,
    ⟨.un .not (.tmp 21), some 22, some (19, false)⟩,
    ⟨.pick (.tmp 19) (.const (.bool true)) (.tmp 22), some 23, none⟩])
  (.cond (.tmp 23) (.seq (.ops [⟨.build [(0, 1), (1, 1), (2, 64), (66, 64), (130, 64), (194, 1)] (gcells gz) [], some 24, none⟩,
    ⟨.store 195 (.tmp 8) (.tmp 24), none, none⟩,
    ⟨.mov (.const (.int .i64 1)), some 9, none⟩])
  (.ret)) (.skip)))
  (.seq (.seq (.ops [⟨.mov (.tmp 0), some 25, none⟩,
    ⟨.call 70 [.tmp 25, .const (.int .i64 2), .const (.int .i64 8)], some 26, none⟩,
    ⟨.un .not (.tmp 26), some 27, none⟩,
    ⟨.mov (.tmp 27), some 28, none⟩,
    ⟨.mov (.tmp 1), some 29, some (28, false)⟩,
    ⟨.call 70 [.tmp 29, .const (.int .i64 2), .const (.int .i64 8)], some 30, some (28, false)⟩,
    ⟨.un .not (.tmp 30), some 31, some (28, false)⟩,
    ⟨.pick (.tmp 28) (.const (.bool true)) (.tmp 31), some 32, none⟩])
  (.cond (.tmp 32) (.seq (.ops [⟨.build [(0, 1), (1, 1), (2, 64), (66, 64), (130, 64), (194, 1)] (gcells gz) [], some 33, none⟩,
    ⟨.store 195 (.tmp 8) (.tmp 33), none, none⟩,
    ⟨.mov (.const (.int .i64 2)), some 9, none⟩])
  (.ret)) (.skip)))
  (.seq (.ops [⟨.mov (.tmp 0), some 34, none⟩,
    ⟨.convI .i8 (.tmp 34), some 35, none⟩,
    ⟨.mov (.tmp 1), some 36, none⟩,
    ⟨.convI .i8 (.tmp 36), some 37, none⟩,
    ⟨.build [(0, 1), (1, 1), (2, 64), (66, 64), (130, 64), (194, 1)] (gcells gz) [(0, .tmp 35), (1, .tmp 37), (5, .const (.int .u64 1))], some 38, none⟩,
    ⟨.alloc 33 (.agg (gcells gz)), some 10, none⟩,
    ⟨.store 195 (.tmp 10) (.tmp 38), none, none⟩])
  (.seq (.seq (.ops [⟨.mov (.const (.int .i64 0)), some 11, none⟩])
  (.block 0 (.loop (.seq (.seq (.ops [⟨.mov (.tmp 11), some 39, none⟩,
    ⟨.bin .lss (.tmp 39) (.const (.int .i64 64)), some 40, none⟩])
  (.cond (.tmp 40) (.skip) (.exit 0)))
  (.seq (.block 1 (.seq (.ops [⟨.mov (.tmp 11), some 43, none⟩,
    ⟨.call 71 [.tmp 10, .tmp 43], some 44, none⟩])
  (.cond (.tmp 44) (.seq (.ops [⟨.mov (.tmp 11), some 45, none⟩,
    ⟨.mov (.tmp 2), some 46, none⟩,
    ⟨.addr (.tmp 10) 2, some 47, none⟩,
    ⟨.idxA 64 1 (.tmp 47) (.tmp 45), some 48, none⟩,
    ⟨.store 1 (.tmp 48) (.tmp 46), none, none⟩])
  (.ops [⟨.mov (.tmp 11), some 49, none⟩,
    ⟨.mov (.tmp 3), some 50, none⟩,
    ⟨.addr (.tmp 10) 130, some 51, none⟩,
    ⟨.idxA 64 1 (.tmp 51) (.tmp 49), some 52, none⟩,
    ⟨.store 1 (.tmp 52) (.tmp 50), none, none⟩])) (.skip))))
  (.ops [⟨.mov (.tmp 11), some 41, none⟩,
    ⟨.bin .add (.tmp 41) (.const (.int .i64 1)), some 42, none⟩,
    ⟨.mov (.tmp 42), some 11, none⟩]))))))
  (.seq (.ops [⟨.load (some 195) (.tmp 10), some 53, none⟩,
    ⟨.store 195 (.tmp 8) (.tmp 53), none, none⟩,
    ⟨.mov (.const (.int .i64 0)), some 9, none⟩])
  (.ret))))))⟩
theorem ok_spec_EvenGround : cmpF Try.prog Try.f24 = some c_spec_EvenGround := by kernel_rfl

/- impl.EvenGround -/
def c_impl_EvenGround : FV := ⟨54, [.cell 8 (some 195), .tmp 9],
  .seq (.ops [⟨.alloc 33 (.agg (gcells gz)), some 8, none⟩,
    ⟨.mov (.const (.int .i64 0)), some 9, none⟩])
  (.seq (.block 0 (.seq (.ops [⟨.mov (.tmp 2), some 14, none⟩,
    ⟨.call 72 [.tmp 14], some 15, none⟩,
    ⟨.un .not (.tmp 15), some 16, none⟩,
    ⟨.mov (.tmp 16), some 17, none⟩,
    ⟨.mov (.tmp 3), some 18, some (17, false)⟩,
    ⟨.call 73 [.tmp 18], some 19, some (17, false)⟩,
    ⟨.un .not (.tmp 19), some 20, some (17, false)⟩,
    ⟨.pick (.tmp 17) (.const (.bool true)) (.tmp 20), some 21, none⟩,
    ⟨.mov (.tmp 21), some 13, none⟩])
  (.cond (.tmp 13) (.seq (.ops [⟨.build [(0, 1), (1, 1), (2, 64), (66, 64), (130, 64), (194, 1)] (gcells gz) [], some 22, none⟩,
    ⟨.store 195 (.tmp 8) (.tmp 22), none, none⟩,
    ⟨.mov (.const (.int .i64 1)), some 9, none⟩])
  (.ret)) (.seq (.ops [⟨.mov (.tmp 0), some 24, none⟩,
    ⟨.call 74 [.tmp 24, .const (.int .i64 2), .const (.int .i64 8)], some 25, none⟩,
    ⟨.un .not (.tmp 25), some 26, none⟩,
    ⟨.mov (.tmp 26), some 27, none⟩,
    ⟨.mov (.tmp 1), some 28, some (27, false)⟩,
    ⟨.call 74 [.tmp 28, .const (.int .i64 2), .const (.int .i64 8)], some 29, some (27, false)⟩,
    ⟨.un .not (.tmp 29), some 30, some (27, false)⟩,
    ⟨.pick (.tmp 27) (.const (.bool true)) (.tmp 30), some 31, none⟩,
    ⟨.mov (.tmp 31), some 23, none⟩])
  (.cond (.tmp 23) (.seq (.ops [⟨.build [(0, 1), (1, 1), (2, 64), (66, 64), (130, 64), (194, 1)] (gcells gz) [], some 32, none⟩,
    ⟨.store 195 (.tmp 8) (.tmp 32), none, none⟩,
    ⟨.mov (.const (.int .i64 2)), some 9, none⟩])
  (.ret)) (.skip))))))
  (.seq (.ops [⟨.mov (.tmp 0), some 33, none⟩,
    ⟨.convI .i8 (.tmp 33), some 34, none⟩,
    ⟨.mov (.tmp 1), some 35, none⟩,
    ⟨.convI .i8 (.tmp 35), some 36, none⟩,
    ⟨.build [(0, 1), (1, 1), (2, 64), (66, 64), (130, 64), (194, 1)] (gcells gz) [(0, .tmp 34), (1, .tmp 36), (5, .const (.int .u64 1))], some 37, none⟩,
    ⟨.alloc 33 (.agg (gcells gz)), some 10, none⟩,
    ⟨.store 195 (.tmp 10) (.tmp 37), none, none⟩])
  (.seq (.seq (.ops [⟨.call 75 [.tmp 10], some 38, none⟩,
    ⟨.lenL (.tmp 38), some 39, none⟩,
    ⟨.mov (.const (.int .i64 0)), some 40, none⟩])
  (.block 1 (.loop (.seq (.ops [⟨.bin .lss (.tmp 40) (.tmp 39), some 41, none⟩])
  (.seq (.cond (.tmp 41) (.skip) (.exit 1))
  (.seq (.block 2 (.seq (.ops [⟨.idxS 1 (.tmp 38) (.tmp 40), some 42, none⟩,
    ⟨.load none (.tmp 42), some 43, none⟩,
    ⟨.mov (.tmp 43), some 12, none⟩])
  (.ops [⟨.mov (.tmp 12), some 44, none⟩,
    ⟨.mov (.tmp 12), some 45, none⟩,
    ⟨.mov (.tmp 2), some 46, none⟩,
    ⟨.mov (.tmp 3), some 47, none⟩,
    ⟨.addr (.tmp 10) 2, some 48, none⟩,
    ⟨.idxA 64 1 (.tmp 48) (.tmp 44), some 49, none⟩,
    ⟨.store 1 (.tmp 49) (.tmp 46), none, none⟩,
    ⟨.addr (.tmp 10) 130, some 50, none⟩,
    ⟨.idxA 64 1 (.tmp 50) (.tmp 45), some 51, none⟩,
    ⟨.store 1 (.tmp 51) (.tmp 47), none, none⟩])))
  (.ops [⟨.bin .add (.tmp 40) (.const (.int .i64 1)), some 52, none⟩,
    ⟨.mov (.tmp 52), some 40, none⟩])))))))
  (.seq (.ops [⟨.load (some 195) (.tmp 10), some 53, none⟩,
    ⟨.store 195 (.tmp 8) (.tmp 53), none, none⟩,
    ⟨.mov (.const (.int .i64 0)), some 9, none⟩])
  (.ret)))))⟩
theorem ok_impl_EvenGround : cmpF Try.prog Try.f25 = some c_impl_EvenGround := by kernel_rfl

/- laws.eqGround -/
def c_laws_eqGround : FV := ⟨38, [.tmp 4],
  .seq (.ops [⟨.box 33 (.tmp 0), some 2, none⟩,
    ⟨.box 33 (.tmp 1), some 3, none⟩,
    ⟨.mov (.const (.bool false)), some 4, none⟩])
  (.seq (.seq (.ops [⟨.addr (.tmp 2) 0, some 5, none⟩,
    ⟨.load none (.tmp 5), some 6, none⟩,
    ⟨.addr (.tmp 3) 0, some 7, none⟩,
    ⟨.load none (.tmp 7), some 8, none⟩,
    ⟨.bin .neq (.tmp 6) (.tmp 8), some 9, none⟩])
  (.cond (.tmp 9) (.seq (.ops [⟨.mov (.const (.bool false)), some 4, none⟩])
  (.ret)) (.skip)))
  (.seq (.seq (.ops [⟨.addr (.tmp 2) 1, some 10, none⟩,
    ⟨.load none (.tmp 10), some 11, none⟩,
    ⟨.addr (.tmp 3) 1, some 12, none⟩,
    ⟨.load none (.tmp 12), some 13, none⟩,
    ⟨.bin .neq (.tmp 11) (.tmp 13), some 14, none⟩])
  (.cond (.tmp 14) (.seq (.ops [⟨.mov (.const (.bool false)), some 4, none⟩])
  (.ret)) (.skip)))
  (.seq (.seq (.ops [⟨.addr (.tmp 2) 2, some 15, none⟩,
    ⟨.load (some 64) (.tmp 15), some 16, none⟩,
    ⟨.addr (.tmp 3) 2, some 17, none⟩,
    ⟨.load (some 64) (.tmp 17), some 18, none⟩,
    ⟨.call 33 [.tmp 16, .tmp 18], some 19, none⟩,
    ⟨.un .not (.tmp 19), some 20, none⟩])
  (.cond (.tmp 20) (.seq (.ops [⟨.mov (.const (.bool false)), some 4, none⟩])
  (.ret)) (.skip)))
  (.seq (.seq (.ops [⟨.addr (.tmp 2) 66, some 21, none⟩,
    ⟨.load (some 64) (.tmp 21), some 22, none⟩,
    ⟨.addr (.tmp 3) 66, some 23, none⟩,
    ⟨.load (some 64) (.tmp 23), some 24, none⟩,
    ⟨.call 33 [.tmp 22, .tmp 24], some 25, none⟩,
    ⟨.un .not (.tmp 25), some 26, none⟩])
  (.cond (.tmp 26) (.seq (.ops [⟨.mov (.const (.bool false)), some 4, none⟩])
  (.ret)) (.skip)))
  (.seq (.seq (.ops [⟨.addr (.tmp 2) 130, some 27, none⟩,
    ⟨.load (some 64) (.tmp 27), some 28, none⟩,
    ⟨.addr (.tmp 3) 130, some 29, none⟩,
    ⟨.load (some 64) (.tmp 29), some 30, none⟩,
    ⟨.call 33 [.tmp 28, .tmp 30], some 31, none⟩,
    ⟨.un .not (.tmp 31), some 32, none⟩])
  (.cond (.tmp 32) (.seq (.ops [⟨.mov (.const (.bool false)), some 4, none⟩])
  (.ret)) (.skip)))
  (.seq (.seq (.ops [⟨.addr (.tmp 2) 194, some 33, none⟩,
    ⟨.load none (.tmp 33), some 34, none⟩,
    ⟨.addr (.tmp 3) 194, some 35, none⟩,
    ⟨.load none (.tmp 35), some 36, none⟩,
    ⟨.bin .neq (.tmp 34) (.tmp 36), some 37, none⟩])
  (.cond (.tmp 37) (.seq (.ops [⟨.mov (.const (.bool false)), some 4, none⟩])
  (.ret)) (.skip)))
  (.seq (.ops [⟨.mov (.const (.bool true)), some 4, none⟩])
  (.ret))))))))⟩
theorem ok_laws_eqGround : cmpF Try.prog Try.f26 = some c_laws_eqGround := by kernel_rfl

/- spec.HeadsBetween -/
def c_spec_HeadsBetween : FV := ⟨15, [.tmp 2, .tmp 3, .tmp 4],
  .seq (.ops [⟨.box 33 (.tmp 0), some 1, none⟩,
    ⟨.mov (.const (.float .f32 0)), some 2, none⟩,
    ⟨.mov (.const (.float .f32 0)), some 3, none⟩,
    ⟨.mov (.const (.int .i64 0)), some 4, none⟩])
  (.seq (.seq (.ops [⟨.call 76 [.tmp 1], some 7, none⟩,
    ⟨.un .not (.tmp 7), some 8, none⟩])
  (.cond (.tmp 8) (.seq (.ops [⟨.mov (.const (.float .f32 0)), some 2, none⟩,
    ⟨.mov (.const (.float .f32 0)), some 3, none⟩,
    ⟨.mov (.const (.int .i64 1)), some 4, none⟩])
  (.ret)) (.skip)))
  (.seq (.ops [⟨.call 77 [.tmp 1], some 10, none⟩,
    ⟨.mov (.tmp 10), some 9, none⟩,
    ⟨.ext (.tmp 9) 0, some 11, none⟩,
    ⟨.ext (.tmp 9) 1, some 12, none⟩,
    ⟨.mov (.tmp 11), some 5, none⟩,
    ⟨.mov (.tmp 12), some 6, none⟩])
  (.seq (.ops [⟨.mov (.tmp 5), some 13, none⟩,
    ⟨.mov (.tmp 6), some 14, none⟩,
    ⟨.mov (.tmp 13), some 2, none⟩,
    ⟨.mov (.tmp 14), some 3, none⟩,
    ⟨.mov (.const (.int .i64 0)), some 4, none⟩])
  (.ret))))⟩
theorem ok_spec_HeadsBetween : cmpF Try.prog Try.f27 = some c_spec_HeadsBetween := by kernel_rfl

/- laws.toGround -/
def c_laws_toGround : FV := ⟨26, [.cell 2 (some 195)],
  .seq (.ops [⟨.box 27 (.tmp 0), some 1, none⟩,
    ⟨.alloc 33 (.agg (gcells gz)), some 2, none⟩])
  (.seq (.ops [⟨.alloc 33 (.agg (gcells gz)), some 3, none⟩])
  (.seq (.ops [⟨.addr (.tmp 1) 0, some 4, none⟩,
    ⟨.load none (.tmp 4), some 5, none⟩,
    ⟨.addr (.tmp 3) 0, some 6, none⟩,
    ⟨.store 1 (.tmp 6) (.tmp 5), none, none⟩])
  (.seq (.ops [⟨.addr (.tmp 1) 1, some 7, none⟩,
    ⟨.load none (.tmp 7), some 8, none⟩,
    ⟨.addr (.tmp 3) 1, some 9, none⟩,
    ⟨.store 1 (.tmp 9) (.tmp 8), none, none⟩])
  (.seq (.ops [⟨.addr (.tmp 1) 2, some 10, none⟩,
    ⟨.load (some 64) (.tmp 10), some 11, none⟩,
    ⟨.call 35 [.tmp 11], some 12, none⟩,
    ⟨.addr (.tmp 3) 2, some 13, none⟩,
    ⟨.store 64 (.tmp 13) (.tmp 12), none, none⟩])
  (.seq (.ops [⟨.addr (.tmp 1) 66, some 14, none⟩,
    ⟨.load (some 64) (.tmp 14), some 15, none⟩,
    ⟨.call 35 [.tmp 15], some 16, none⟩,
    ⟨.addr (.tmp 3) 66, some 17, none⟩,
    ⟨.store 64 (.tmp 17) (.tmp 16), none, none⟩])
  (.seq (.ops [⟨.addr (.tmp 1) 130, some 18, none⟩,
    ⟨.load (some 64) (.tmp 18), some 19, none⟩,
    ⟨.call 35 [.tmp 19], some 20, none⟩,
    ⟨.addr (.tmp 3) 130, some 21, none⟩,
    ⟨.store 64 (.tmp 21) (.tmp 20), none, none⟩])
  (.seq (.ops [⟨.addr (.tmp 1) 194, some 22, none⟩,
    ⟨.load none (.tmp 22), some 23, none⟩,
    ⟨.addr (.tmp 3) 194, some 24, none⟩,
    ⟨.store 1 (.tmp 24) (.tmp 23), none, none⟩])
  (.seq (.ops [⟨.load (some 195) (.tmp 3), some 25, none⟩,
    ⟨.store 195 (.tmp 2) (.tmp 25), none, none⟩])
  (.ret)))))))))⟩
theorem ok_laws_toGround : cmpF Try.prog Try.f28 = some c_laws_toGround := by kernel_rfl

/- impl.HeadsBetween -/
def c_impl_HeadsBetween : FV := ⟨37, [.tmp 2, .tmp 3, .tmp 4],
  .seq (.ops [⟨.box 33 (.tmp 0), some 1, none⟩,
    ⟨.mov (.const (.float .f32 0)), some 2, none⟩,
    ⟨.mov (.const (.float .f32 0)), some 3, none⟩,
    ⟨.mov (.const (.int .i64 0)), some 4, none⟩])
  (.seq (.seq (.ops [⟨.load (some 195) (.tmp 1), some 9, none⟩,
    ⟨.call 78 [.tmp 9], some 10, none⟩,
    ⟨.un .not (.tmp 10), some 11, none⟩])
  (.cond (.tmp 11) (.seq (.ops [⟨.mov (.const (.float .f32 0)), some 2, none⟩,
    ⟨.mov (.const (.float .f32 0)), some 3, none⟩,
    ⟨.mov (.const (.int .i64 1)), some 4, none⟩])
  (.ret)) (.skip)))
  (.seq (.ops [⟨.addr (.tmp 1) 130, some 12, none⟩,
    ⟨.idxA 64 1 (.tmp 12) (.const (.int .i64 0)), some 13, none⟩,
    ⟨.load none (.tmp 13), some 14, none⟩,
    ⟨.addr (.tmp 1) 130, some 15, none⟩,
    ⟨.idxA 64 1 (.tmp 15) (.const (.int .i64 0)), some 16, none⟩,
    ⟨.load none (.tmp 16), some 17, none⟩,
    ⟨.mov (.tmp 14), some 5, none⟩,
    ⟨.mov (.tmp 17), some 6, none⟩])
  (.seq (.seq (.ops [⟨.call 75 [.tmp 1], some 18, none⟩,
    ⟨.addr (.tmp 1) 130, some 19, none⟩,
    ⟨.call 79 [.tmp 18, .tmp 19], some 20, none⟩,
    ⟨.lenL (.tmp 20), some 21, none⟩,
    ⟨.mov (.const (.int .i64 0)), some 22, none⟩])
  (.block 0 (.loop (.seq (.ops [⟨.bin .lss (.tmp 22) (.tmp 21), some 23, none⟩])
  (.seq (.cond (.tmp 23) (.skip) (.exit 0))
  (.seq (.block 1 (.seq (.ops [⟨.idxS 1 (.tmp 20) (.tmp 22), some 24, none⟩,
    ⟨.load none (.tmp 24), some 25, none⟩,
    ⟨.mov (.tmp 25), some 8, none⟩])
  (.seq (.seq (.ops [⟨.mov (.tmp 8), some 26, none⟩,
    ⟨.mov (.tmp 5), some 27, none⟩,
    ⟨.fbin .lss (.tmp 26) (.tmp 27), some 28, none⟩])
  (.cond (.tmp 28) (.ops [⟨.mov (.tmp 8), some 29, none⟩,
    ⟨.mov (.tmp 29), some 5, none⟩]) (.skip)))
  (.seq (.ops [⟨.mov (.tmp 8), some 30, none⟩,
    ⟨.mov (.tmp 6), some 31, none⟩,
    ⟨.fbin .gtr (.tmp 30) (.tmp 31), some 32, none⟩])
  (.cond (.tmp 32) (.ops [⟨.mov (.tmp 8), some 33, none⟩,
    ⟨.mov (.tmp 33), some 6, none⟩]) (.skip))))))
  (.ops [⟨.bin .add (.tmp 22) (.const (.int .i64 1)), some 34, none⟩,
    ⟨.mov (.tmp 34), some 22, none⟩])))))))
  (.seq (.ops [⟨.mov (.tmp 5), some 35, none⟩,
    ⟨.mov (.tmp 6), some 36, none⟩,
    ⟨.mov (.tmp 35), some 2, none⟩,
    ⟨.mov (.tmp 36), some 3, none⟩,
    ⟨.mov (.const (.int .i64 0)), some 4, none⟩])
  (.ret)))))⟩
theorem ok_impl_HeadsBetween : cmpF Try.prog Try.f29 = some c_impl_HeadsBetween := by kernel_rfl

/- laws.sameFloat -/
def c_laws_sameFloat : FV := ⟨37, [.tmp 4],
  .seq (.ops [⟨.mov (.const (.bool false)), some 4, none⟩])
  (.seq (.seq (.ops [⟨.mov (.tmp 0), some 5, none⟩,
    ⟨.mov (.tmp 0), some 6, none⟩,
    ⟨.fbin .neq (.tmp 5) (.tmp 6), some 7, none⟩,
    ⟨.mov (.tmp 7), some 8, none⟩,
    ⟨.mov (.tmp 1), some 9, some (8, false)⟩,
    ⟨.mov (.tmp 1), some 10, some (8, false)⟩,
    ⟨.fbin .neq (.tmp 9) (.tmp 10), some 11, some (8, false)⟩,
    ⟨.pick (.tmp 8) (.const (.bool true)) (.tmp 11), some 12, none⟩])
  (.cond (.tmp 12) (.seq (.ops [⟨.mov (.tmp 0), some 13, none⟩,
    ⟨.mov (.tmp 0), some 14, none⟩,
    ⟨.fbin .neq (.tmp 13) (.tmp 14), some 15, none⟩,
    ⟨.mov (.tmp 15), some 16, none⟩,
    ⟨.mov (.tmp 1), some 17, some (16, true)⟩,
    ⟨.mov (.tmp 1), some 18, some (16, true)⟩,
    ⟨.fbin .neq (.tmp 17) (.tmp 18), some 19, some (16, true)⟩,
    ⟨.pick (.tmp 16) (.tmp 19) (.const (.bool false)), some 20, none⟩,
    ⟨.mov (.tmp 20), some 4, none⟩])
  (.ret)) (.skip)))
  (.seq (.seq (.ops [⟨.mov (.tmp 0), some 21, none⟩,
    ⟨.fbin .eql (.tmp 21) (.const (.float .f64 0)), some 22, none⟩,
    ⟨.mov (.tmp 22), some 23, none⟩,
    ⟨.mov (.tmp 1), some 24, some (23, true)⟩,
    ⟨.fbin .eql (.tmp 24) (.const (.float .f64 0)), some 25, some (23, true)⟩,
    ⟨.pick (.tmp 23) (.tmp 25) (.const (.bool false)), some 26, none⟩])
  (.cond (.tmp 26) (.seq (.ops [⟨.mov (.tmp 0), some 27, none⟩,
    ⟨.fbin .quo (.const (.float .f64 4607182418800017408)) (.tmp 27), some 28, none⟩,
    ⟨.fbin .gtr (.tmp 28) (.const (.float .f64 0)), some 29, none⟩,
    ⟨.mov (.tmp 1), some 30, none⟩,
    ⟨.fbin .quo (.const (.float .f64 4607182418800017408)) (.tmp 30), some 31, none⟩,
    ⟨.fbin .gtr (.tmp 31) (.const (.float .f64 0)), some 32, none⟩,
    ⟨.beq false (.tmp 29) (.tmp 32), some 33, none⟩,
    ⟨.mov (.tmp 33), some 4, none⟩])
  (.ret)) (.skip)))
  (.seq (.ops [⟨.mov (.tmp 0), some 34, none⟩,
    ⟨.mov (.tmp 1), some 35, none⟩,
    ⟨.fbin .eql (.tmp 34) (.tmp 35), some 36, none⟩,
    ⟨.mov (.tmp 36), some 4, none⟩])
  (.ret))))⟩
theorem ok_laws_sameFloat : cmpF Try.prog Try.f30 = some c_laws_sameFloat := by kernel_rfl

/- spec.ChangesBetween -/
def c_spec_ChangesBetween : FV := ⟨23, [.cell 4 (some 64), .tmp 5],
  .seq (.ops [⟨.box 33 (.tmp 0), some 2, none⟩,
    ⟨.box 33 (.tmp 1), some 3, none⟩,
    ⟨.alloc 31 (.agg (fcells fz)), some 4, none⟩,
    ⟨.mov (.const (.int .i64 0)), some 5, none⟩])
  (.seq (.seq (.ops [⟨.call 76 [.tmp 2], some 8, none⟩,
    ⟨.un .not (.tmp 8), some 9, none⟩,
    ⟨.mov (.tmp 9), some 10, none⟩,
    ⟨.call 76 [.tmp 3], some 11, some (10, false)⟩,
    ⟨.un .not (.tmp 11), some 12, some (10, false)⟩,
    ⟨.pick (.tmp 10) (.const (.bool true)) (.tmp 12), some 13, none⟩])
  (.cond (.tmp 13) (.seq (.ops [⟨.buildA 1 (fcells fz) [], some 14, none⟩,
    ⟨.store 64 (.tmp 4) (.tmp 14), none, none⟩,
    ⟨.mov (.const (.int .i64 1)), some 5, none⟩])
  (.ret)) (.skip)))
  (.seq (.ops [⟨.call 80 [.tmp 2, .tmp 3], some 16, none⟩,
    ⟨.mov (.tmp 16), some 15, none⟩,
    ⟨.ext (.tmp 15) 0, some 17, none⟩,
    ⟨.ext (.tmp 15) 1, some 18, none⟩,
    ⟨.alloc 31 (.agg (fcells fz)), some 6, none⟩,
    ⟨.store 64 (.tmp 6) (.tmp 17), none, none⟩,
    ⟨.mov (.tmp 18), some 7, none⟩])
  (.seq (.seq (.ops [⟨.mov (.tmp 7), some 19, none⟩,
    ⟨.un .not (.tmp 19), some 20, none⟩])
  (.cond (.tmp 20) (.seq (.ops [⟨.buildA 1 (fcells fz) [], some 21, none⟩,
    ⟨.store 64 (.tmp 4) (.tmp 21), none, none⟩,
    ⟨.mov (.const (.int .i64 4)), some 5, none⟩])
  (.ret)) (.skip)))
  (.seq (.ops [⟨.load (some 64) (.tmp 6), some 22, none⟩,
    ⟨.store 64 (.tmp 4) (.tmp 22), none, none⟩,
    ⟨.mov (.const (.int .i64 0)), some 5, none⟩])
  (.ret)))))⟩
theorem ok_spec_ChangesBetween : cmpF Try.prog Try.f31 = some c_spec_ChangesBetween := by kernel_rfl

/- impl.ChangesBetween -/
def c_impl_ChangesBetween : FV := ⟨59, [.cell 4 (some 64), .tmp 5],
  .seq (.ops [⟨.box 33 (.tmp 0), some 2, none⟩,
    ⟨.box 33 (.tmp 1), some 3, none⟩,
    ⟨.alloc 31 (.agg (fcells fz)), some 4, none⟩,
    ⟨.mov (.const (.int .i64 0)), some 5, none⟩])
  (.seq (.block 0 (.seq (.ops [⟨.load (some 195) (.tmp 2), some 10, none⟩,
    ⟨.call 78 [.tmp 10], some 11, none⟩,
    ⟨.un .not (.tmp 11), some 12, none⟩,
    ⟨.mov (.tmp 12), some 13, none⟩,
    ⟨.load (some 195) (.tmp 3), some 14, some (13, false)⟩,
    ⟨.call 78 [.tmp 14], some 15, some (13, false)⟩,
    ⟨.un .not (.tmp 15), some 16, some (13, false)⟩,
    ⟨.pick (.tmp 13) (.const (.bool true)) (.tmp 16), some 17, none⟩,
    ⟨.mov (.tmp 17), some 9, none⟩])
  (.cond (.tmp 9) (.seq (.ops [⟨.buildA 1 (fcells fz) [], some 18, none⟩,
    ⟨.store 64 (.tmp 4) (.tmp 18), none, none⟩,
    ⟨.mov (.const (.int .i64 1)), some 5, none⟩])
  (.ret)) (.seq (.ops [⟨.addr (.tmp 2) 0, some 20, none⟩,
    ⟨.load none (.tmp 20), some 21, none⟩,
    ⟨.addr (.tmp 3) 0, some 22, none⟩,
    ⟨.load none (.tmp 22), some 23, none⟩,
    ⟨.bin .neq (.tmp 21) (.tmp 23), some 24, none⟩,
    ⟨.mov (.tmp 24), some 25, none⟩,
    ⟨.addr (.tmp 2) 1, some 26, some (25, false)⟩,
    ⟨.load none (.tmp 26), some 27, some (25, false)⟩,
    ⟨.addr (.tmp 3) 1, some 28, some (25, false)⟩,
    ⟨.load none (.tmp 28), some 29, some (25, false)⟩,
    ⟨.bin .neq (.tmp 27) (.tmp 29), some 30, some (25, false)⟩,
    ⟨.pick (.tmp 25) (.const (.bool true)) (.tmp 30), some 31, none⟩,
    ⟨.mov (.tmp 31), some 19, none⟩])
  (.cond (.tmp 19) (.seq (.ops [⟨.buildA 1 (fcells fz) [], some 32, none⟩,
    ⟨.store 64 (.tmp 4) (.tmp 32), none, none⟩,
    ⟨.mov (.const (.int .i64 4)), some 5, none⟩])
  (.ret)) (.skip))))))
  (.seq (.ops [⟨.buildA 1 (fcells fz) [], some 33, none⟩,
    ⟨.alloc 31 (.agg (fcells fz)), some 6, none⟩,
    ⟨.store 64 (.tmp 6) (.tmp 33), none, none⟩])
  (.seq (.seq (.ops [⟨.call 75 [.tmp 2], some 34, none⟩,
    ⟨.lenL (.tmp 34), some 35, none⟩,
    ⟨.mov (.const (.int .i64 0)), some 36, none⟩])
  (.block 1 (.loop (.seq (.ops [⟨.bin .lss (.tmp 36) (.tmp 35), some 37, none⟩])
  (.seq (.cond (.tmp 37) (.skip) (.exit 1))
  (.seq (.block 2 (.seq (.ops [⟨.idxS 1 (.tmp 34) (.tmp 36), some 38, none⟩,
    ⟨.load none (.tmp 38), some 39, none⟩,
    ⟨.mov (.tmp 39), some 8, none⟩])
  (.seq (.ops [⟨.mov (.tmp 8), some 40, none⟩,
    ⟨.mov (.tmp 8), some 41, none⟩,
    ⟨.addr (.tmp 3) 130, some 42, none⟩,
    ⟨.idxA 64 1 (.tmp 42) (.tmp 41), some 43, none⟩,
    ⟨.load none (.tmp 43), some 44, none⟩,
    ⟨.mov (.tmp 8), some 45, none⟩,
    ⟨.addr (.tmp 2) 130, some 46, none⟩,
    ⟨.idxA 64 1 (.tmp 46) (.tmp 45), some 47, none⟩,
    ⟨.load none (.tmp 47), some 48, none⟩,
    ⟨.fbin .sub (.tmp 44) (.tmp 48), some 49, none⟩,
    ⟨.idxA 64 1 (.tmp 6) (.tmp 40), some 50, none⟩,
    ⟨.store 1 (.tmp 50) (.tmp 49), none, none⟩])
  (.seq (.ops [⟨.mov (.tmp 8), some 51, none⟩,
    ⟨.idxA 64 1 (.tmp 6) (.tmp 51), some 52, none⟩,
    ⟨.load none (.tmp 52), some 53, none⟩,
    ⟨.call 81 [.tmp 53], some 54, none⟩,
    ⟨.un .not (.tmp 54), some 55, none⟩])
  (.cond (.tmp 55) (.seq (.ops [⟨.buildA 1 (fcells fz) [], some 56, none⟩,
    ⟨.store 64 (.tmp 4) (.tmp 56), none, none⟩,
    ⟨.mov (.const (.int .i64 4)), some 5, none⟩])
  (.ret)) (.skip))))))
  (.ops [⟨.bin .add (.tmp 36) (.const (.int .i64 1)), some 57, none⟩,
    ⟨.mov (.tmp 57), some 36, none⟩])))))))
  (.seq (.ops [⟨.load (some 64) (.tmp 6), some 58, none⟩,
    ⟨.store 64 (.tmp 4) (.tmp 58), none, none⟩,
    ⟨.mov (.const (.int .i64 0)), some 5, none⟩])
  (.ret)))))⟩
theorem ok_impl_ChangesBetween : cmpF Try.prog Try.f32 = some c_impl_ChangesBetween := by kernel_rfl

/- laws.eqField -/
def c_laws_eqField : FV := ⟨20, [.tmp 4],
  .seq (.ops [⟨.box 31 (.tmp 0), some 2, none⟩,
    ⟨.box 31 (.tmp 1), some 3, none⟩,
    ⟨.mov (.const (.bool false)), some 4, none⟩])
  (.seq (.seq (.ops [⟨.mov (.const (.int .i64 0)), some 5, none⟩])
  (.block 0 (.loop (.seq (.seq (.ops [⟨.mov (.tmp 5), some 6, none⟩,
    ⟨.bin .lss (.tmp 6) (.const (.int .i64 64)), some 7, none⟩])
  (.cond (.tmp 7) (.skip) (.exit 0)))
  (.seq (.block 1 (.seq (.dops [⟨.mov (.tmp 5), some 10, none⟩,
    ⟨.idxA 64 1 (.tmp 2) (.tmp 10), some 11, none⟩,
    ⟨.load none (.tmp 11), some 12, none⟩,
    ⟨.convF .f64 (.tmp 12), some 13, none⟩,
    ⟨.mov (.tmp 5), some 14, none⟩,
    ⟨.idxA 64 1 (.tmp 3) (.tmp 14), some 15, none⟩,
    ⟨.load none (.tmp 15), some 16, none⟩,
    ⟨.convF .f64 (.tmp 16), some 17, none⟩,
    ⟨.call 30 [.tmp 13, .tmp 17], some 18, none⟩,
    ⟨.un .not (.tmp 18), some 19, none⟩])
  (.cond (.tmp 19) (.seq (.ops [⟨.mov (.const (.bool false)), some 4, none⟩])
  (.ret)) (.skip))))
  (.ops [⟨.mov (.tmp 5), some 8, none⟩,
    ⟨.bin .add (.tmp 8) (.const (.int .i64 1)), some 9, none⟩,
    ⟨.mov (.tmp 9), some 5, none⟩]))))))
  (.seq (.ops [⟨.mov (.const (.bool true)), some 4, none⟩])
  (.ret)))⟩
theorem ok_laws_eqField : cmpF Try.prog Try.f33 = some c_laws_eqField := by kernel_rfl

/- spec.SumOver -/
def c_spec_SumOver : FV := ⟨14, [.tmp 4, .tmp 5],
  .seq (.ops [⟨.box 33 (.tmp 0), some 2, none⟩,
    ⟨.box 31 (.tmp 1), some 3, none⟩,
    ⟨.mov (.const (.float .f32 0)), some 4, none⟩,
    ⟨.mov (.const (.int .i64 0)), some 5, none⟩])
  (.seq (.seq (.ops [⟨.call 76 [.tmp 2], some 7, none⟩,
    ⟨.un .not (.tmp 7), some 8, none⟩])
  (.cond (.tmp 8) (.seq (.ops [⟨.mov (.const (.float .f32 0)), some 4, none⟩,
    ⟨.mov (.const (.int .i64 1)), some 5, none⟩])
  (.ret)) (.skip)))
  (.seq (.ops [⟨.call 82 [.tmp 2, .tmp 3], some 9, none⟩,
    ⟨.mov (.tmp 9), some 6, none⟩])
  (.seq (.seq (.ops [⟨.mov (.tmp 6), some 10, none⟩,
    ⟨.call 83 [.tmp 10], some 11, none⟩,
    ⟨.un .not (.tmp 11), some 12, none⟩])
  (.cond (.tmp 12) (.seq (.ops [⟨.mov (.const (.float .f32 0)), some 4, none⟩,
    ⟨.mov (.const (.int .i64 4)), some 5, none⟩])
  (.ret)) (.skip)))
  (.seq (.ops [⟨.mov (.tmp 6), some 13, none⟩,
    ⟨.mov (.tmp 13), some 4, none⟩,
    ⟨.mov (.const (.int .i64 0)), some 5, none⟩])
  (.ret)))))⟩
theorem ok_spec_SumOver : cmpF Try.prog Try.f34 = some c_spec_SumOver := by kernel_rfl

/- laws.toField -/
def c_laws_toField : FV := ⟨15, [.cell 2 (some 64)],
  .seq (.ops [⟨.box 24 (.tmp 0), some 1, none⟩,
    ⟨.alloc 31 (.agg (fcells fz)), some 2, none⟩])
  (.seq (.ops [⟨.alloc 31 (.agg (fcells fz)), some 3, none⟩])
  (.seq (.seq (.ops [⟨.mov (.const (.int .i64 0)), some 4, none⟩])
  (.block 0 (.loop (.seq (.seq (.ops [⟨.mov (.tmp 4), some 5, none⟩,
    ⟨.bin .lss (.tmp 5) (.const (.int .i64 64)), some 6, none⟩])
  (.cond (.tmp 6) (.skip) (.exit 0)))
  (.seq (.block 1 (.ops [⟨.mov (.tmp 4), some 9, none⟩,
    ⟨.mov (.tmp 4), some 10, none⟩,
    ⟨.idxA 64 1 (.tmp 1) (.tmp 10), some 11, none⟩,
    ⟨.load none (.tmp 11), some 12, none⟩,
    ⟨.idxA 64 1 (.tmp 3) (.tmp 9), some 13, none⟩,
    ⟨.store 1 (.tmp 13) (.tmp 12), none, none⟩]))
  (.ops [⟨.mov (.tmp 4), some 7, none⟩,
    ⟨.bin .add (.tmp 7) (.const (.int .i64 1)), some 8, none⟩,
    ⟨.mov (.tmp 8), some 4, none⟩]))))))
  (.seq (.ops [⟨.load (some 64) (.tmp 3), some 14, none⟩,
    ⟨.store 64 (.tmp 2) (.tmp 14), none, none⟩])
  (.ret))))⟩
theorem ok_laws_toField : cmpF Try.prog Try.f35 = some c_laws_toField := by kernel_rfl

/- impl.SumOver -/
def c_impl_SumOver : FV := ⟨15, [.tmp 4, .tmp 5],
  .seq (.ops [⟨.box 33 (.tmp 0), some 2, none⟩,
    ⟨.box 31 (.tmp 1), some 3, none⟩,
    ⟨.mov (.const (.float .f32 0)), some 4, none⟩,
    ⟨.mov (.const (.int .i64 0)), some 5, none⟩])
  (.seq (.seq (.ops [⟨.load (some 195) (.tmp 2), some 6, none⟩,
    ⟨.call 78 [.tmp 6], some 7, none⟩,
    ⟨.un .not (.tmp 7), some 8, none⟩])
  (.cond (.tmp 8) (.seq (.ops [⟨.mov (.const (.float .f32 0)), some 4, none⟩,
    ⟨.mov (.const (.int .i64 1)), some 5, none⟩])
  (.ret)) (.skip)))
  (.seq (.ops [⟨.call 75 [.tmp 2], some 9, none⟩,
    ⟨.call 79 [.tmp 9, .tmp 3], some 10, none⟩,
    ⟨.call 85 [.tmp 10], some 11, none⟩,
    ⟨.call 84 [.tmp 11], some 12, none⟩,
    ⟨.ext (.tmp 12) 0, some 13, none⟩,
    ⟨.ext (.tmp 12) 1, some 14, none⟩,
    ⟨.mov (.tmp 13), some 4, none⟩,
    ⟨.mov (.tmp 14), some 5, none⟩])
  (.ret)))⟩
theorem ok_impl_SumOver : cmpF Try.prog Try.f36 = some c_impl_SumOver := by kernel_rfl

/- spec.WarmUp -/
def c_spec_WarmUp : FV := ⟨30, [.cell 4 (some 195), .tmp 5],
  .seq (.ops [⟨.box 33 (.tmp 0), some 2, none⟩,
    ⟨.alloc 33 (.agg (gcells gz)), some 4, none⟩,
    ⟨.mov (.const (.int .i64 0)), some 5, none⟩])
  (.seq (.seq (.ops [⟨.call 76 [.tmp 2], some 7, none⟩,
    ⟨.un .not (.tmp 7), some 8, none⟩])
  (.cond (.tmp 8) (.seq (.ops [⟨.build [(0, 1), (1, 1), (2, 64), (66, 64), (130, 64), (194, 1)] (gcells gz) [], some 9, none⟩,
    ⟨.store 195 (.tmp 4) (.tmp 9), none, none⟩,
    ⟨.mov (.const (.int .i64 1)), some 5, none⟩])
  (.ret)) (.skip)))
  (.seq (.seq (.ops [⟨.mov (.tmp 1), some 10, none⟩,
    ⟨.call 69 [.tmp 10], some 11, none⟩,
    ⟨.un .not (.tmp 11), some 12, none⟩])
  (.cond (.tmp 12) (.seq (.ops [⟨.build [(0, 1), (1, 1), (2, 64), (66, 64), (130, 64), (194, 1)] (gcells gz) [], some 13, none⟩,
    ⟨.store 195 (.tmp 4) (.tmp 13), none, none⟩,
    ⟨.mov (.const (.int .i64 2)), some 5, none⟩])
  (.ret)) (.skip)))
  (.seq (.seq (.ops [⟨.mov (.const (.int .i64 0)), some 6, none⟩])
  (.block 0 (.loop (.seq (.seq (.ops [⟨.mov (.tmp 6), some 14, none⟩,
    ⟨.bin .lss (.tmp 14) (.const (.int .i64 64)), some 15, none⟩])
  (.cond (.tmp 15) (.skip) (.exit 0)))
  (.seq (.block 1 (.seq (.ops [⟨.mov (.tmp 6), some 18, none⟩,
    ⟨.call 71 [.tmp 2, .tmp 18], some 19, none⟩,
    ⟨.mov (.tmp 19), some 20, none⟩,
    ⟨.mov (.tmp 6), some 21, some (20, true)⟩,
    ⟨.call 86 [.tmp 2, .tmp 21], some 22, some (20, true)⟩,
    ⟨.un .not (.tmp 22), some 23, some (20, true)⟩,
    ⟨.pick (.tmp 20) (.tmp 23) (.const (.bool false)), some 24, none⟩])
  (.cond (.tmp 24) (.ops [⟨.mov (.tmp 6), some 25, none⟩,
    ⟨.mov (.tmp 1), some 26, none⟩,
    ⟨.addr (.tmp 2) 130, some 27, none⟩,
    ⟨.idxA 64 1 (.tmp 27) (.tmp 25), some 28, none⟩,
    ⟨.store 1 (.tmp 28) (.tmp 26), none, none⟩]) (.skip))))
  (.ops [⟨.mov (.tmp 6), some 16, none⟩,
    ⟨.bin .add (.tmp 16) (.const (.int .i64 1)), some 17, none⟩,
    ⟨.mov (.tmp 17), some 6, none⟩]))))))
  (.seq (.ops [⟨.load (some 195) (.tmp 2), some 29, none⟩,
    ⟨.store 195 (.tmp 4) (.tmp 29), none, none⟩,
    ⟨.mov (.const (.int .i64 0)), some 5, none⟩])
  (.ret)))))⟩
theorem ok_spec_WarmUp : cmpF Try.prog Try.f37 = some c_spec_WarmUp := by kernel_rfl

/- impl.WarmUp -/
def c_impl_WarmUp : FV := ⟨33, [.cell 4 (some 195), .tmp 5],
  .seq (.ops [⟨.box 33 (.tmp 0), some 2, none⟩,
    ⟨.alloc 33 (.agg (gcells gz)), some 4, none⟩,
    ⟨.mov (.const (.int .i64 0)), some 5, none⟩])
  (.seq (.block 0 (.seq (.ops [⟨.load (some 195) (.tmp 2), some 9, none⟩,
    ⟨.call 78 [.tmp 9], some 10, none⟩,
    ⟨.un .not (.tmp 10), some 11, none⟩,
    ⟨.mov (.tmp 11), some 8, none⟩])
  (.cond (.tmp 8) (.seq (.ops [⟨.build [(0, 1), (1, 1), (2, 64), (66, 64), (130, 64), (194, 1)] (gcells gz) [], some 12, none⟩,
    ⟨.store 195 (.tmp 4) (.tmp 12), none, none⟩,
    ⟨.mov (.const (.int .i64 1)), some 5, none⟩])
  (.ret)) (.seq (.ops [⟨.mov (.tmp 1), some 14, none⟩,
    ⟨.call 73 [.tmp 14], some 15, none⟩,
    ⟨.un .not (.tmp 15), some 16, none⟩,
    ⟨.mov (.tmp 16), some 13, none⟩])
  (.cond (.tmp 13) (.seq (.ops [⟨.build [(0, 1), (1, 1), (2, 64), (66, 64), (130, 64), (194, 1)] (gcells gz) [], some 17, none⟩,
    ⟨.store 195 (.tmp 4) (.tmp 17), none, none⟩,
    ⟨.mov (.const (.int .i64 2)), some 5, none⟩])
  (.ret)) (.skip))))))
  (.seq (.seq (.ops [⟨.call 75 [.tmp 2], some 18, none⟩,
    ⟨.lenL (.tmp 18), some 19, none⟩,
    ⟨.mov (.const (.int .i64 0)), some 20, none⟩])
  (.block 1 (.loop (.seq (.ops [⟨.bin .lss (.tmp 20) (.tmp 19), some 21, none⟩])
  (.seq (.cond (.tmp 21) (.skip) (.exit 1))
  (.seq (.block 2 (.seq (.ops [⟨.idxS 1 (.tmp 18) (.tmp 20), some 22, none⟩,
    ⟨.load none (.tmp 22), some 23, none⟩,
    ⟨.mov (.tmp 23), some 7, none⟩])
  (.seq (.ops [⟨.mov (.tmp 7), some 24, none⟩,
    ⟨.call 87 [.tmp 2, .tmp 24], some 25, none⟩,
    ⟨.un .not (.tmp 25), some 26, none⟩])
  (.cond (.tmp 26) (.ops [⟨.mov (.tmp 7), some 27, none⟩,
    ⟨.mov (.tmp 1), some 28, none⟩,
    ⟨.addr (.tmp 2) 130, some 29, none⟩,
    ⟨.idxA 64 1 (.tmp 29) (.tmp 27), some 30, none⟩,
    ⟨.store 1 (.tmp 30) (.tmp 28), none, none⟩]) (.skip)))))
  (.ops [⟨.bin .add (.tmp 20) (.const (.int .i64 1)), some 31, none⟩,
    ⟨.mov (.tmp 31), some 20, none⟩])))))))
  (.seq (.ops [⟨.load (some 195) (.tmp 2), some 32, none⟩,
    ⟨.store 195 (.tmp 4) (.tmp 32), none, none⟩,
    ⟨.mov (.const (.int .i64 0)), some 5, none⟩])
  (.ret))))⟩
theorem ok_impl_WarmUp : cmpF Try.prog Try.f38 = some c_impl_WarmUp := by kernel_rfl

/- spec.MirrorGround -/
def c_spec_MirrorGround : FV := ⟨66, [.cell 2 (some 195), .tmp 3],
  .seq (.ops [⟨.box 33 (.tmp 0), some 1, none⟩,
    ⟨.alloc 33 (.agg (gcells gz)), some 2, none⟩,
    ⟨.mov (.const (.int .i64 0)), some 3, none⟩])
  (.seq (.seq (.ops [⟨.call 76 [.tmp 1], some 7, none⟩,
    ⟨.un .not (.tmp 7), some 8, none⟩])
  (.cond (.tmp 8) (.seq (.ops [⟨.build [(0, 1), (1, 1), (2, 64), (66, 64), (130, 64), (194, 1)] (gcells gz) [], some 9, none⟩,
    ⟨.store 195 (.tmp 2) (.tmp 9), none, none⟩,
    ⟨.mov (.const (.int .i64 1)), some 3, none⟩])
  (.ret)) (.skip)))
  (.seq (.ops [⟨.load (some 195) (.tmp 1), some 10, none⟩,
    ⟨.alloc 33 (.agg (gcells gz)), some 4, none⟩,
    ⟨.store 195 (.tmp 4) (.tmp 10), none, none⟩])
  (.seq (.ops [⟨.addr (.tmp 4) 194, some 11, none⟩,
    ⟨.store 1 (.tmp 11) (.const (.int .u64 0)), none, none⟩])
  (.seq (.seq (.ops [⟨.mov (.const (.int .i64 0)), some 5, none⟩])
  (.block 0 (.loop (.seq (.seq (.ops [⟨.mov (.tmp 5), some 12, none⟩,
    ⟨.bin .lss (.tmp 12) (.const (.int .i64 64)), some 13, none⟩])
  (.cond (.tmp 13) (.skip) (.exit 0)))
  (.seq (.block 1 (.seq (.seq (.ops [⟨.mov (.tmp 5), some 16, none⟩,
    ⟨.call 71 [.tmp 1, .tmp 16], some 17, none⟩,
    ⟨.un .not (.tmp 17), some 18, none⟩])
  (.cond (.tmp 18) (.exit 1) (.skip)))
  (.seq (.ops [⟨.mov (.tmp 5), some 19, none⟩,
    ⟨.mov (.tmp 5), some 20, none⟩,
    ⟨.bin .rem (.tmp 20) (.const (.int .i64 8)), some 21, none⟩,
    ⟨.bin .sub (.tmp 19) (.tmp 21), some 22, none⟩,
    ⟨.addr (.tmp 1) 0, some 23, none⟩,
    ⟨.load none (.tmp 23), some 24, none⟩,
    ⟨.convI .i64 (.tmp 24), some 25, none⟩,
    ⟨.bin .add (.tmp 22) (.tmp 25), some 26, none⟩,
    ⟨.bin .sub (.tmp 26) (.const (.int .i64 1)), some 27, none⟩,
    ⟨.mov (.tmp 5), some 28, none⟩,
    ⟨.bin .rem (.tmp 28) (.const (.int .i64 8)), some 29, none⟩,
    ⟨.bin .sub (.tmp 27) (.tmp 29), some 30, none⟩,
    ⟨.mov (.tmp 30), some 6, none⟩])
  (.seq (.ops [⟨.mov (.tmp 6), some 31, none⟩,
    ⟨.mov (.tmp 5), some 32, none⟩,
    ⟨.addr (.tmp 1) 2, some 33, none⟩,
    ⟨.idxA 64 1 (.tmp 33) (.tmp 32), some 34, none⟩,
    ⟨.load none (.tmp 34), some 35, none⟩,
    ⟨.addr (.tmp 4) 2, some 36, none⟩,
    ⟨.idxA 64 1 (.tmp 36) (.tmp 31), some 37, none⟩,
    ⟨.store 1 (.tmp 37) (.tmp 35), none, none⟩])
  (.seq (.ops [⟨.mov (.tmp 6), some 38, none⟩,
    ⟨.mov (.tmp 5), some 39, none⟩,
    ⟨.addr (.tmp 1) 66, some 40, none⟩,
    ⟨.idxA 64 1 (.tmp 40) (.tmp 39), some 41, none⟩,
    ⟨.load none (.tmp 41), some 42, none⟩,
    ⟨.addr (.tmp 4) 66, some 43, none⟩,
    ⟨.idxA 64 1 (.tmp 43) (.tmp 38), some 44, none⟩,
    ⟨.store 1 (.tmp 44) (.tmp 42), none, none⟩])
  (.seq (.ops [⟨.mov (.tmp 6), some 45, none⟩,
    ⟨.mov (.tmp 5), some 46, none⟩,
    ⟨.addr (.tmp 1) 130, some 47, none⟩,
    ⟨.idxA 64 1 (.tmp 47) (.tmp 46), some 48, none⟩,
    ⟨.load none (.tmp 48), some 49, none⟩,
    ⟨.addr (.tmp 4) 130, some 50, none⟩,
    ⟨.idxA 64 1 (.tmp 50) (.tmp 45), some 51, none⟩,
    ⟨.store 1 (.tmp 51) (.tmp 49), none, none⟩])
  (.ops [⟨.addr (.tmp 4) 194, some 52, none⟩,
    ⟨.load none (.tmp 52), some 53, none⟩,
    ⟨.addr (.tmp 1) 194, some 54, none⟩,
    ⟨.load none (.tmp 54), some 55, none⟩,
    ⟨.mov (.tmp 5), some 56, none⟩,
    ⟨.convI .u64 (.tmp 56), some 57, none⟩,
    ⟨.bin .shr (.tmp 55) (.tmp 57), some 58, none⟩,
    ⟨.bin .rem (.tmp 58) (.const (.int .u64 2)), some 59, none⟩,
    ⟨.mov (.tmp 6), some 60, none⟩,
    ⟨.convI .u64 (.tmp 60), some 61, none⟩,
    ⟨.bin .shl (.tmp 59) (.tmp 61), some 62, none⟩,
    ⟨.bin .or (.tmp 53) (.tmp 62), some 63, none⟩,
    ⟨.addr (.tmp 4) 194, some 64, none⟩,
    ⟨.store 1 (.tmp 64) (.tmp 63), none, none⟩])))))))
  (.ops [⟨.mov (.tmp 5), some 14, none⟩,
    ⟨.bin .add (.tmp 14) (.const (.int .i64 1)), some 15, none⟩,
    ⟨.mov (.tmp 15), some 5, none⟩]))))))
  (.seq (.ops [⟨.load (some 195) (.tmp 4), some 65, none⟩,
    ⟨.store 195 (.tmp 2) (.tmp 65), none, none⟩,
    ⟨.mov (.const (.int .i64 0)), some 3, none⟩])
  (.ret))))))⟩
theorem ok_spec_MirrorGround : cmpF Try.prog Try.f39 = some c_spec_MirrorGround := by kernel_rfl

end Go.Proofs.Ytbhipkiiondgnaa
